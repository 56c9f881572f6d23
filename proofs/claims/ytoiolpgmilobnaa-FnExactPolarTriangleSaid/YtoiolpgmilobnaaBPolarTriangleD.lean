/- What the last text of PolarTriangle needs, part 4: contracts of functions and plain mathematics. No conditions beyond those each theorem states. -/
import Derived.Deep.Slices
import Derived.Test.YtoiolpgmilobnaaProg
import Derived.Test.YtoiolpgmilobnaaBPolarTriangleC
namespace Go.Proofs.Ytoiolpgmilobnaa
theorem TI.of {P : Program} {t : Nat} {x : TI} (h1 : P.underlying t = some x.d) (h2 : (P.info? t).map (fun i => (i.size, i.bytes, i.zero)) = some (x.size, x.bytes, x.z.map (rv fun b => b))) (h3 : ∀ v, x.z = some v → v.ids = []) (h4 : x.g = true → P.eqGuardType P.depth t = false) : x.ok P t := by
  cases hi : P.info? t with
  | none => simp [hi] at h2
  | some i =>
    simp only [hi, Option.map_some, Option.some.injEq, Prod.mk.injEq] at h2
    exact ⟨h1, ⟨i, hi, h2.1, h2.2.1, fun v hv => ⟨by rw [h2.2.2, hv]; rfl, h3 v hv⟩⟩, h4⟩
theorem TI.of0 {P : Program} {t : Nat} {x : TI} (h1 : P.underlying t = some x.d) (h2 : (P.info? t).map (fun i => (i.size, i.bytes)) = some (x.size, x.bytes)) (h3 : x.z = none) (h4 : x.g = true → P.eqGuardType P.depth t = false) : x.ok P t := by
  cases hi : P.info? t with
  | none => simp [hi] at h2
  | some i =>
    simp only [hi, Option.map_some, Option.some.injEq, Prod.mk.injEq] at h2
    exact ⟨h1, ⟨i, hi, h2.1, h2.2, fun v hv => by rw [h3] at hv; cases hv⟩, h4⟩
def tab : TT := [(1, ⟨.func #[] #[] false, 1, 8, none, false⟩),
  (2, ⟨.int .i64, 1, 8, some (.int 0), false⟩),
  (3, ⟨.int .i64, 1, 8, some (.int 0), false⟩),
  (4, ⟨.bool, 1, 1, some (.bool false), false⟩),
  (22, ⟨.array 6 2, 6, 48, some (.arr [0, 0, 0, 0, 0, 0]), true⟩),
  (24, ⟨.func #[2, 25] #[2, 2] false, 1, 8, none, false⟩),
  (25, ⟨.array 6 2, 6, 48, some (.arr [0, 0, 0, 0, 0, 0]), true⟩),
  (26, ⟨.func #[22] #[25] false, 1, 8, none, false⟩),
  (27, ⟨.func #[2, 22] #[4] false, 1, 8, none, false⟩),
  (29, ⟨.func #[2, 25] #[25, 2] false, 1, 8, none, false⟩),
  (30, ⟨.func #[25, 25] #[4] false, 1, 8, none, false⟩),
  (31, ⟨.array 3 2, 3, 24, some (.arr [0, 0, 0]), true⟩),
  (32, ⟨.array 3 2, 3, 24, some (.arr [0, 0, 0]), true⟩),
  (34, ⟨.func #[2, 25, 35] #[32, 2] false, 1, 8, none, false⟩),
  (35, ⟨.array 3 2, 3, 24, some (.arr [0, 0, 0]), true⟩),
  (36, ⟨.func #[31] #[35] false, 1, 8, none, false⟩),
  (37, ⟨.func #[32, 32] #[4] false, 1, 8, none, false⟩),
  (38, ⟨.func #[2, 22, 31] #[4] false, 1, 8, none, false⟩),
  (39, ⟨.slice 32, 1, 24, some (.nilsl), false⟩),
  (41, ⟨.func #[2, 25, 32] #[39, 2] false, 1, 8, none, false⟩),
  (42, ⟨.func #[31] #[32] false, 1, 8, none, false⟩),
  (43, ⟨.func #[39, 39] #[4] false, 1, 8, none, false⟩),
  (44, ⟨.func #[39, 3] #[3] false, 1, 8, none, false⟩),
  (45, ⟨.slice 31, 1, 24, some (.nilsl), false⟩),
  (46, ⟨.func #[45, 3] #[3] false, 1, 8, none, false⟩),
  (48, ⟨.func #[2, 25, 39] #[35, 2] false, 1, 8, none, false⟩),
  (49, ⟨.func #[45, 4] #[39] false, 1, 8, none, false⟩),
  (50, ⟨.func #[35, 35] #[4] false, 1, 8, none, false⟩),
  (51, ⟨.func #[2, 22, 45] #[4] false, 1, 8, none, false⟩),
  (52, ⟨.func #[2, 25, 32, 32] #[2, 2] false, 1, 8, none, false⟩),
  (53, ⟨.func #[2, 22, 31, 31] #[4] false, 1, 8, none, false⟩),
  (54, ⟨.func #[2, 25, 39] #[32, 2] false, 1, 8, none, false⟩),
  (55, ⟨.func #[2, 39] #[39, 2] false, 1, 8, none, false⟩),
  (56, ⟨.func #[2, 45] #[4] false, 1, 8, none, false⟩),
  (57, ⟨.func #[2, 25, 39] #[2] true, 1, 8, none, false⟩),
  (58, ⟨.func #[2, 25] #[2] false, 1, 8, none, false⟩),
  (59, ⟨.func #[2, 4, 98] #[2] true, 1, 8, none, false⟩),
  (60, ⟨.func #[2] #[2] false, 1, 8, none, false⟩),
  (61, ⟨.func #[2, 25] #[25] false, 1, 8, none, false⟩),
  (62, ⟨.func #[2, 64] #[25] false, 1, 8, none, false⟩),
  (63, ⟨.array 3 31, 9, 72, some (.arr [0, 0, 0, 0, 0, 0, 0, 0, 0]), true⟩),
  (64, ⟨.array 3 31, 9, 72, some (.arr [0, 0, 0, 0, 0, 0, 0, 0, 0]), true⟩),
  (65, ⟨.func #[2] #[64] false, 1, 8, none, false⟩),
  (66, ⟨.func #[2, 25, 35] #[32] false, 1, 8, none, false⟩),
  (67, ⟨.func #[2, 110] #[4] true, 1, 8, none, false⟩),
  (68, ⟨.func #[2, 35] #[32] false, 1, 8, none, false⟩),
  (69, ⟨.func #[2, 25, 32] #[2] false, 1, 8, none, false⟩),
  (71, ⟨.func #[2, 25, 32] #[35, 4] false, 1, 8, none, false⟩),
  (72, ⟨.func #[2, 35] #[39] false, 1, 8, none, false⟩),
  (73, ⟨.func #[2, 32, 32] #[35, 4] false, 1, 8, none, false⟩),
  (74, ⟨.func #[2, 39] #[4] true, 1, 8, none, false⟩),
  (75, ⟨.func #[2, 32] #[2] false, 1, 8, none, false⟩),
  (76, ⟨.func #[2, 32] #[35, 4] false, 1, 8, none, false⟩),
  (77, ⟨.func #[2, 32, 32] #[35] false, 1, 8, none, false⟩),
  (78, ⟨.func #[2, 25, 39] #[2] false, 1, 8, none, false⟩),
  (80, ⟨.func #[2, 35, 35] #[32, 4] false, 1, 8, none, false⟩),
  (81, ⟨.func #[3] #[3] false, 1, 8, none, false⟩),
  (82, ⟨.func #[3] #[35] false, 1, 8, none, false⟩),
  (83, ⟨.func #[2, 35, 35] #[32] false, 1, 8, none, false⟩),
  (84, ⟨.func #[2, 32, 35] #[2] false, 1, 8, none, false⟩),
  (85, ⟨.func #[2, 32, 2] #[35] false, 1, 8, none, false⟩),
  (86, ⟨.func #[3] #[32] false, 1, 8, none, false⟩),
  (87, ⟨.func #[2, 39] #[2] false, 1, 8, none, false⟩),
  (88, ⟨.func #[2, 39] #[39] false, 1, 8, none, false⟩),
  (89, ⟨.func #[39, 32] #[39] false, 1, 8, none, false⟩),
  (90, ⟨.func #[39] #[39] false, 1, 8, none, false⟩),
  (92, ⟨.func #[2, 39] #[2] true, 1, 8, none, false⟩),
  (93, ⟨.func #[2, 25] #[4] false, 1, 8, none, false⟩),
  (94, ⟨.slice 103, 1, 24, some (.nilsl), false⟩),
  (95, ⟨.func #[2, 94] #[94] false, 1, 8, none, false⟩),
  (96, ⟨.func #[2, 25] #[94] false, 1, 8, none, false⟩),
  (97, ⟨.func #[2, 25] #[39] false, 1, 8, none, false⟩),
  (98, ⟨.slice 25, 1, 24, some (.nilsl), false⟩),
  (99, ⟨.func #[2, 102] #[2] false, 1, 8, none, false⟩),
  (100, ⟨.func #[98, 101] #[4] false, 1, 8, none, false⟩),
  (101, ⟨.func #[25] #[4] false, 1, 8, none, false⟩),
  (102, ⟨.func #[] #[4] false, 1, 8, none, false⟩),
  (103, ⟨.slice 2, 1, 24, some (.nilsl), false⟩),
  (104, ⟨.func #[2] #[39] false, 1, 8, none, false⟩),
  (105, ⟨.func #[2, 94] #[103] false, 1, 8, none, false⟩),
  (107, ⟨.func #[2, 103] #[25, 4] false, 1, 8, none, false⟩),
  (108, ⟨.func #[2, 103] #[4] false, 1, 8, none, false⟩),
  (109, ⟨.func #[2, 2] #[2] false, 1, 8, none, false⟩),
  (110, ⟨.slice 35, 1, 24, some (.nilsl), false⟩),
  (111, ⟨.func #[2, 35] #[4] false, 1, 8, none, false⟩),
  (112, ⟨.func #[2, 64, 32] #[32] false, 1, 8, none, false⟩),
  (113, ⟨.func #[2, 2, 2, 2] #[32, 4] false, 1, 8, none, false⟩),
  (114, ⟨.func #[2, 32, 35] #[4] false, 1, 8, none, false⟩),
  (115, ⟨.func #[2, 32, 32] #[32, 4] false, 1, 8, none, false⟩),
  (116, ⟨.func #[2, 32] #[4] false, 1, 8, none, false⟩),
  (117, ⟨.func #[32] #[22] false, 1, 8, none, false⟩),
  (118, ⟨.func #[2, 31, 31] #[2] false, 1, 8, none, false⟩),
  (119, ⟨.func #[2, 120] #[39] false, 1, 8, none, false⟩),
  (120, ⟨.func #[32] #[4] false, 1, 8, none, false⟩),
  (121, ⟨.func #[2, 31, 31] #[31] false, 1, 8, none, false⟩),
  (122, ⟨.func #[39, 32] #[4] false, 1, 8, none, false⟩),
  (124, ⟨.func #[2, 32] #[35, 35] false, 1, 8, none, false⟩),
  (125, ⟨.func #[2, 2, 32, 2, 32] #[32] false, 1, 8, none, false⟩),
  (126, ⟨.func #[39] #[4] false, 1, 8, none, false⟩),
  (127, ⟨.func #[39, 128] #[] false, 1, 8, none, false⟩),
  (128, ⟨.func #[32, 32] #[3] false, 1, 8, none, false⟩),
  (129, ⟨.func #[2] #[4] false, 1, 8, none, false⟩),
  (130, ⟨.func #[103] #[103] false, 1, 8, none, false⟩),
  (131, ⟨.func #[2, 103, 103, 2] #[103] false, 1, 8, none, false⟩),
  (132, ⟨.func #[103] #[3] false, 1, 8, none, false⟩),
  (134, ⟨.func #[2, 103] #[103, 4] false, 1, 8, none, false⟩),
  (135, ⟨.func #[98, 101] #[3] false, 1, 8, none, false⟩),
  (136, ⟨.func #[2, 2, 2, 2] #[32] false, 1, 8, none, false⟩),
  (137, ⟨.func #[39, 120] #[39] false, 1, 8, none, false⟩),
  (138, ⟨.func #[39, 32] #[3] false, 1, 8, none, false⟩),
  (140, ⟨.func #[2, 32] #[32, 32] false, 1, 8, none, false⟩),
  (141, ⟨.func #[2, 32, 32, 2, 2] #[32] false, 1, 8, none, false⟩),
  (142, ⟨.func #[2, 94, 3] #[94] false, 1, 8, none, false⟩),
  (143, ⟨.func #[39, 3, 3, 3, 128] #[] false, 1, 8, none, false⟩),
  (144, ⟨.func #[145] #[3] false, 1, 8, none, false⟩),
  (146, ⟨.func #[103, 103] #[3] false, 1, 8, none, false⟩),
  (147, ⟨.func #[32] #[103] false, 1, 8, none, false⟩),
  (148, ⟨.func #[2, 2, 2] #[4] false, 1, 8, none, false⟩),
  (149, ⟨.func #[2, 103] #[4] true, 1, 8, none, false⟩),
  (150, ⟨.func #[39, 120] #[3] false, 1, 8, none, false⟩),
  (151, ⟨.slice 3, 1, 24, some (.nilsl), false⟩),
  (152, ⟨.func #[103, 129] #[3] false, 1, 8, none, false⟩),
  (153, ⟨.func #[151, 3] #[4] false, 1, 8, none, false⟩),
  (154, ⟨.func #[39, 3, 3, 128] #[] false, 1, 8, none, false⟩),
  (155, ⟨.int .i64, 1, 8, some (.int 0), false⟩),
  (157, ⟨.func #[39, 3, 3, 128] #[3, 155] false, 1, 8, none, false⟩),
  (158, ⟨.func #[39, 3, 3, 128] #[4] false, 1, 8, none, false⟩),
  (159, ⟨.func #[39, 3, 3, 3, 128] #[3] false, 1, 8, none, false⟩),
  (161, ⟨.func #[39, 3, 3, 3, 128] #[3, 4] false, 1, 8, none, false⟩),
  (162, ⟨.func #[163] #[3] false, 1, 8, none, false⟩),
  (164, ⟨.func #[165] #[3] false, 1, 8, none, false⟩),
  (166, ⟨.func #[2, 2] #[3] false, 1, 8, none, false⟩),
  (167, ⟨.func #[151, 3] #[3] false, 1, 8, none, false⟩),
  (169, ⟨.func #[3] #[145] false, 1, 8, none, false⟩),
  (170, ⟨.func #[] #[165] false, 1, 8, none, false⟩),
  (171, ⟨.func #[39, 3, 172, 128] #[3] false, 1, 8, none, false⟩),
  (173, ⟨.func #[39, 3, 3, 3, 172, 128] #[3] false, 1, 8, none, false⟩),
  (176, ⟨.func #[39, 3, 3, 172, 128] #[3, 3] false, 1, 8, none, false⟩),
  (177, ⟨.func #[] #[9] false, 1, 8, none, false⟩),
  (180, ⟨.array 0 16, 0, 0, none, false⟩),
  (183, ⟨.func #[] #[3] false, 1, 8, none, false⟩),
  (186, ⟨.func #[192, 192] #[4] false, 1, 8, none, false⟩)]
theorem tab_ok : TOK Try.prog tab :=
  TOK.cons (TI.of0 (by kernel_rfl) (by kernel_rfl) rfl (fun h => by cases h)) <|
  TOK.cons (TI.of (by kernel_rfl) (by kernel_rfl) (fun v hv => by injection hv with hv; subst hv; rfl) (fun h => by cases h)) <|
  TOK.cons (TI.of (by kernel_rfl) (by kernel_rfl) (fun v hv => by injection hv with hv; subst hv; rfl) (fun h => by cases h)) <|
  TOK.cons (TI.of (by kernel_rfl) (by kernel_rfl) (fun v hv => by injection hv with hv; subst hv; rfl) (fun h => by cases h)) <|
  TOK.cons (TI.of (by kernel_rfl) (by kernel_rfl) (fun v hv => by injection hv with hv; subst hv; rfl) (fun _ => by kernel_rfl)) <|
  TOK.cons (TI.of0 (by kernel_rfl) (by kernel_rfl) rfl (fun h => by cases h)) <|
  TOK.cons (TI.of (by kernel_rfl) (by kernel_rfl) (fun v hv => by injection hv with hv; subst hv; rfl) (fun _ => by kernel_rfl)) <|
  TOK.cons (TI.of0 (by kernel_rfl) (by kernel_rfl) rfl (fun h => by cases h)) <|
  TOK.cons (TI.of0 (by kernel_rfl) (by kernel_rfl) rfl (fun h => by cases h)) <|
  TOK.cons (TI.of0 (by kernel_rfl) (by kernel_rfl) rfl (fun h => by cases h)) <|
  TOK.cons (TI.of0 (by kernel_rfl) (by kernel_rfl) rfl (fun h => by cases h)) <|
  TOK.cons (TI.of (by kernel_rfl) (by kernel_rfl) (fun v hv => by injection hv with hv; subst hv; rfl) (fun _ => by kernel_rfl)) <|
  TOK.cons (TI.of (by kernel_rfl) (by kernel_rfl) (fun v hv => by injection hv with hv; subst hv; rfl) (fun _ => by kernel_rfl)) <|
  TOK.cons (TI.of0 (by kernel_rfl) (by kernel_rfl) rfl (fun h => by cases h)) <|
  TOK.cons (TI.of (by kernel_rfl) (by kernel_rfl) (fun v hv => by injection hv with hv; subst hv; rfl) (fun _ => by kernel_rfl)) <|
  TOK.cons (TI.of0 (by kernel_rfl) (by kernel_rfl) rfl (fun h => by cases h)) <|
  TOK.cons (TI.of0 (by kernel_rfl) (by kernel_rfl) rfl (fun h => by cases h)) <|
  TOK.cons (TI.of0 (by kernel_rfl) (by kernel_rfl) rfl (fun h => by cases h)) <|
  TOK.cons (TI.of (by kernel_rfl) (by kernel_rfl) (fun v hv => by injection hv with hv; subst hv; rfl) (fun h => by cases h)) <|
  TOK.cons (TI.of0 (by kernel_rfl) (by kernel_rfl) rfl (fun h => by cases h)) <|
  TOK.cons (TI.of0 (by kernel_rfl) (by kernel_rfl) rfl (fun h => by cases h)) <|
  TOK.cons (TI.of0 (by kernel_rfl) (by kernel_rfl) rfl (fun h => by cases h)) <|
  TOK.cons (TI.of0 (by kernel_rfl) (by kernel_rfl) rfl (fun h => by cases h)) <|
  TOK.cons (TI.of (by kernel_rfl) (by kernel_rfl) (fun v hv => by injection hv with hv; subst hv; rfl) (fun h => by cases h)) <|
  TOK.cons (TI.of0 (by kernel_rfl) (by kernel_rfl) rfl (fun h => by cases h)) <|
  TOK.cons (TI.of0 (by kernel_rfl) (by kernel_rfl) rfl (fun h => by cases h)) <|
  TOK.cons (TI.of0 (by kernel_rfl) (by kernel_rfl) rfl (fun h => by cases h)) <|
  TOK.cons (TI.of0 (by kernel_rfl) (by kernel_rfl) rfl (fun h => by cases h)) <|
  TOK.cons (TI.of0 (by kernel_rfl) (by kernel_rfl) rfl (fun h => by cases h)) <|
  TOK.cons (TI.of0 (by kernel_rfl) (by kernel_rfl) rfl (fun h => by cases h)) <|
  TOK.cons (TI.of0 (by kernel_rfl) (by kernel_rfl) rfl (fun h => by cases h)) <|
  TOK.cons (TI.of0 (by kernel_rfl) (by kernel_rfl) rfl (fun h => by cases h)) <|
  TOK.cons (TI.of0 (by kernel_rfl) (by kernel_rfl) rfl (fun h => by cases h)) <|
  TOK.cons (TI.of0 (by kernel_rfl) (by kernel_rfl) rfl (fun h => by cases h)) <|
  TOK.cons (TI.of0 (by kernel_rfl) (by kernel_rfl) rfl (fun h => by cases h)) <|
  TOK.cons (TI.of0 (by kernel_rfl) (by kernel_rfl) rfl (fun h => by cases h)) <|
  TOK.cons (TI.of0 (by kernel_rfl) (by kernel_rfl) rfl (fun h => by cases h)) <|
  TOK.cons (TI.of0 (by kernel_rfl) (by kernel_rfl) rfl (fun h => by cases h)) <|
  TOK.cons (TI.of0 (by kernel_rfl) (by kernel_rfl) rfl (fun h => by cases h)) <|
  TOK.cons (TI.of0 (by kernel_rfl) (by kernel_rfl) rfl (fun h => by cases h)) <|
  TOK.cons (TI.of (by kernel_rfl) (by kernel_rfl) (fun v hv => by injection hv with hv; subst hv; rfl) (fun _ => by kernel_rfl)) <|
  TOK.cons (TI.of (by kernel_rfl) (by kernel_rfl) (fun v hv => by injection hv with hv; subst hv; rfl) (fun _ => by kernel_rfl)) <|
  TOK.cons (TI.of0 (by kernel_rfl) (by kernel_rfl) rfl (fun h => by cases h)) <|
  TOK.cons (TI.of0 (by kernel_rfl) (by kernel_rfl) rfl (fun h => by cases h)) <|
  TOK.cons (TI.of0 (by kernel_rfl) (by kernel_rfl) rfl (fun h => by cases h)) <|
  TOK.cons (TI.of0 (by kernel_rfl) (by kernel_rfl) rfl (fun h => by cases h)) <|
  TOK.cons (TI.of0 (by kernel_rfl) (by kernel_rfl) rfl (fun h => by cases h)) <|
  TOK.cons (TI.of0 (by kernel_rfl) (by kernel_rfl) rfl (fun h => by cases h)) <|
  TOK.cons (TI.of0 (by kernel_rfl) (by kernel_rfl) rfl (fun h => by cases h)) <|
  TOK.cons (TI.of0 (by kernel_rfl) (by kernel_rfl) rfl (fun h => by cases h)) <|
  TOK.cons (TI.of0 (by kernel_rfl) (by kernel_rfl) rfl (fun h => by cases h)) <|
  TOK.cons (TI.of0 (by kernel_rfl) (by kernel_rfl) rfl (fun h => by cases h)) <|
  TOK.cons (TI.of0 (by kernel_rfl) (by kernel_rfl) rfl (fun h => by cases h)) <|
  TOK.cons (TI.of0 (by kernel_rfl) (by kernel_rfl) rfl (fun h => by cases h)) <|
  TOK.cons (TI.of0 (by kernel_rfl) (by kernel_rfl) rfl (fun h => by cases h)) <|
  TOK.cons (TI.of0 (by kernel_rfl) (by kernel_rfl) rfl (fun h => by cases h)) <|
  TOK.cons (TI.of0 (by kernel_rfl) (by kernel_rfl) rfl (fun h => by cases h)) <|
  TOK.cons (TI.of0 (by kernel_rfl) (by kernel_rfl) rfl (fun h => by cases h)) <|
  TOK.cons (TI.of0 (by kernel_rfl) (by kernel_rfl) rfl (fun h => by cases h)) <|
  TOK.cons (TI.of0 (by kernel_rfl) (by kernel_rfl) rfl (fun h => by cases h)) <|
  TOK.cons (TI.of0 (by kernel_rfl) (by kernel_rfl) rfl (fun h => by cases h)) <|
  TOK.cons (TI.of0 (by kernel_rfl) (by kernel_rfl) rfl (fun h => by cases h)) <|
  TOK.cons (TI.of0 (by kernel_rfl) (by kernel_rfl) rfl (fun h => by cases h)) <|
  TOK.cons (TI.of0 (by kernel_rfl) (by kernel_rfl) rfl (fun h => by cases h)) <|
  TOK.cons (TI.of0 (by kernel_rfl) (by kernel_rfl) rfl (fun h => by cases h)) <|
  TOK.cons (TI.of0 (by kernel_rfl) (by kernel_rfl) rfl (fun h => by cases h)) <|
  TOK.cons (TI.of0 (by kernel_rfl) (by kernel_rfl) rfl (fun h => by cases h)) <|
  TOK.cons (TI.of0 (by kernel_rfl) (by kernel_rfl) rfl (fun h => by cases h)) <|
  TOK.cons (TI.of (by kernel_rfl) (by kernel_rfl) (fun v hv => by injection hv with hv; subst hv; rfl) (fun h => by cases h)) <|
  TOK.cons (TI.of0 (by kernel_rfl) (by kernel_rfl) rfl (fun h => by cases h)) <|
  TOK.cons (TI.of0 (by kernel_rfl) (by kernel_rfl) rfl (fun h => by cases h)) <|
  TOK.cons (TI.of0 (by kernel_rfl) (by kernel_rfl) rfl (fun h => by cases h)) <|
  TOK.cons (TI.of (by kernel_rfl) (by kernel_rfl) (fun v hv => by injection hv with hv; subst hv; rfl) (fun h => by cases h)) <|
  TOK.cons (TI.of0 (by kernel_rfl) (by kernel_rfl) rfl (fun h => by cases h)) <|
  TOK.cons (TI.of0 (by kernel_rfl) (by kernel_rfl) rfl (fun h => by cases h)) <|
  TOK.cons (TI.of0 (by kernel_rfl) (by kernel_rfl) rfl (fun h => by cases h)) <|
  TOK.cons (TI.of0 (by kernel_rfl) (by kernel_rfl) rfl (fun h => by cases h)) <|
  TOK.cons (TI.of (by kernel_rfl) (by kernel_rfl) (fun v hv => by injection hv with hv; subst hv; rfl) (fun h => by cases h)) <|
  TOK.cons (TI.of0 (by kernel_rfl) (by kernel_rfl) rfl (fun h => by cases h)) <|
  TOK.cons (TI.of0 (by kernel_rfl) (by kernel_rfl) rfl (fun h => by cases h)) <|
  TOK.cons (TI.of0 (by kernel_rfl) (by kernel_rfl) rfl (fun h => by cases h)) <|
  TOK.cons (TI.of0 (by kernel_rfl) (by kernel_rfl) rfl (fun h => by cases h)) <|
  TOK.cons (TI.of0 (by kernel_rfl) (by kernel_rfl) rfl (fun h => by cases h)) <|
  TOK.cons (TI.of (by kernel_rfl) (by kernel_rfl) (fun v hv => by injection hv with hv; subst hv; rfl) (fun h => by cases h)) <|
  TOK.cons (TI.of0 (by kernel_rfl) (by kernel_rfl) rfl (fun h => by cases h)) <|
  TOK.cons (TI.of0 (by kernel_rfl) (by kernel_rfl) rfl (fun h => by cases h)) <|
  TOK.cons (TI.of0 (by kernel_rfl) (by kernel_rfl) rfl (fun h => by cases h)) <|
  TOK.cons (TI.of0 (by kernel_rfl) (by kernel_rfl) rfl (fun h => by cases h)) <|
  TOK.cons (TI.of0 (by kernel_rfl) (by kernel_rfl) rfl (fun h => by cases h)) <|
  TOK.cons (TI.of0 (by kernel_rfl) (by kernel_rfl) rfl (fun h => by cases h)) <|
  TOK.cons (TI.of0 (by kernel_rfl) (by kernel_rfl) rfl (fun h => by cases h)) <|
  TOK.cons (TI.of0 (by kernel_rfl) (by kernel_rfl) rfl (fun h => by cases h)) <|
  TOK.cons (TI.of0 (by kernel_rfl) (by kernel_rfl) rfl (fun h => by cases h)) <|
  TOK.cons (TI.of0 (by kernel_rfl) (by kernel_rfl) rfl (fun h => by cases h)) <|
  TOK.cons (TI.of0 (by kernel_rfl) (by kernel_rfl) rfl (fun h => by cases h)) <|
  TOK.cons (TI.of0 (by kernel_rfl) (by kernel_rfl) rfl (fun h => by cases h)) <|
  TOK.cons (TI.of0 (by kernel_rfl) (by kernel_rfl) rfl (fun h => by cases h)) <|
  TOK.cons (TI.of0 (by kernel_rfl) (by kernel_rfl) rfl (fun h => by cases h)) <|
  TOK.cons (TI.of0 (by kernel_rfl) (by kernel_rfl) rfl (fun h => by cases h)) <|
  TOK.cons (TI.of0 (by kernel_rfl) (by kernel_rfl) rfl (fun h => by cases h)) <|
  TOK.cons (TI.of0 (by kernel_rfl) (by kernel_rfl) rfl (fun h => by cases h)) <|
  TOK.cons (TI.of0 (by kernel_rfl) (by kernel_rfl) rfl (fun h => by cases h)) <|
  TOK.cons (TI.of0 (by kernel_rfl) (by kernel_rfl) rfl (fun h => by cases h)) <|
  TOK.cons (TI.of0 (by kernel_rfl) (by kernel_rfl) rfl (fun h => by cases h)) <|
  TOK.cons (TI.of0 (by kernel_rfl) (by kernel_rfl) rfl (fun h => by cases h)) <|
  TOK.cons (TI.of0 (by kernel_rfl) (by kernel_rfl) rfl (fun h => by cases h)) <|
  TOK.cons (TI.of0 (by kernel_rfl) (by kernel_rfl) rfl (fun h => by cases h)) <|
  TOK.cons (TI.of0 (by kernel_rfl) (by kernel_rfl) rfl (fun h => by cases h)) <|
  TOK.cons (TI.of0 (by kernel_rfl) (by kernel_rfl) rfl (fun h => by cases h)) <|
  TOK.cons (TI.of0 (by kernel_rfl) (by kernel_rfl) rfl (fun h => by cases h)) <|
  TOK.cons (TI.of0 (by kernel_rfl) (by kernel_rfl) rfl (fun h => by cases h)) <|
  TOK.cons (TI.of0 (by kernel_rfl) (by kernel_rfl) rfl (fun h => by cases h)) <|
  TOK.cons (TI.of0 (by kernel_rfl) (by kernel_rfl) rfl (fun h => by cases h)) <|
  TOK.cons (TI.of0 (by kernel_rfl) (by kernel_rfl) rfl (fun h => by cases h)) <|
  TOK.cons (TI.of0 (by kernel_rfl) (by kernel_rfl) rfl (fun h => by cases h)) <|
  TOK.cons (TI.of0 (by kernel_rfl) (by kernel_rfl) rfl (fun h => by cases h)) <|
  TOK.cons (TI.of0 (by kernel_rfl) (by kernel_rfl) rfl (fun h => by cases h)) <|
  TOK.cons (TI.of0 (by kernel_rfl) (by kernel_rfl) rfl (fun h => by cases h)) <|
  TOK.cons (TI.of0 (by kernel_rfl) (by kernel_rfl) rfl (fun h => by cases h)) <|
  TOK.cons (TI.of0 (by kernel_rfl) (by kernel_rfl) rfl (fun h => by cases h)) <|
  TOK.cons (TI.of (by kernel_rfl) (by kernel_rfl) (fun v hv => by injection hv with hv; subst hv; rfl) (fun h => by cases h)) <|
  TOK.cons (TI.of0 (by kernel_rfl) (by kernel_rfl) rfl (fun h => by cases h)) <|
  TOK.cons (TI.of0 (by kernel_rfl) (by kernel_rfl) rfl (fun h => by cases h)) <|
  TOK.cons (TI.of0 (by kernel_rfl) (by kernel_rfl) rfl (fun h => by cases h)) <|
  TOK.cons (TI.of (by kernel_rfl) (by kernel_rfl) (fun v hv => by injection hv with hv; subst hv; rfl) (fun h => by cases h)) <|
  TOK.cons (TI.of0 (by kernel_rfl) (by kernel_rfl) rfl (fun h => by cases h)) <|
  TOK.cons (TI.of0 (by kernel_rfl) (by kernel_rfl) rfl (fun h => by cases h)) <|
  TOK.cons (TI.of0 (by kernel_rfl) (by kernel_rfl) rfl (fun h => by cases h)) <|
  TOK.cons (TI.of0 (by kernel_rfl) (by kernel_rfl) rfl (fun h => by cases h)) <|
  TOK.cons (TI.of0 (by kernel_rfl) (by kernel_rfl) rfl (fun h => by cases h)) <|
  TOK.cons (TI.of0 (by kernel_rfl) (by kernel_rfl) rfl (fun h => by cases h)) <|
  TOK.cons (TI.of0 (by kernel_rfl) (by kernel_rfl) rfl (fun h => by cases h)) <|
  TOK.cons (TI.of0 (by kernel_rfl) (by kernel_rfl) rfl (fun h => by cases h)) <|
  TOK.cons (TI.of0 (by kernel_rfl) (by kernel_rfl) rfl (fun h => by cases h)) <|
  TOK.cons (TI.of0 (by kernel_rfl) (by kernel_rfl) rfl (fun h => by cases h)) <|
  TOK.cons (TI.of0 (by kernel_rfl) (by kernel_rfl) rfl (fun h => by cases h)) <|
  TOK.cons (TI.of0 (by kernel_rfl) (by kernel_rfl) rfl (fun h => by cases h)) <|
  TOK.cons (TI.of0 (by kernel_rfl) (by kernel_rfl) rfl (fun h => by cases h)) <|
  TOK.cons (TI.of0 (by kernel_rfl) (by kernel_rfl) rfl (fun h => by cases h)) <|
  TOK.cons (TI.of0 (by kernel_rfl) (by kernel_rfl) rfl (fun h => by cases h)) <|
  TOK.cons (TI.of0 (by kernel_rfl) (by kernel_rfl) rfl (fun h => by cases h)) <|
  TOK.cons (TI.of0 (by kernel_rfl) (by kernel_rfl) rfl (fun h => by cases h)) <|
  TOK.nil
theorem lateOk : Try.prog.follows .mixedOrders = true := by kernel_rfl
end Go.Proofs.Ytoiolpgmilobnaa
namespace Go.Proofs.Ytoiolpgmilobnaa
/-- the five primes -/
def primeB (p : Int) : Bool := p == 3 || p == 5 || p == 7 || p == 11 || p == 13
theorem prime_cases {p : Int} (h : primeB p = true) : p = 3 ∨ p = 5 ∨ p = 7 ∨ p = 11 ∨ p = 13 := by
  simp [primeB] at h; omega
theorem prime_bd {p : Int} (h : primeB p = true) : 3 ≤ p ∧ p ≤ 13 := by
  have := prime_cases h; omega
theorem tmod_bd {n p : Int} (hp : 0 < p) : -p < n.tmod p ∧ n.tmod p < p := by
  rw [Int.tmod_eq_emod]
  have h1 := Int.emod_nonneg n (show p ≠ 0 by omega)
  have h2 := Int.emod_lt_of_pos n hp
  split
  · omega
  · have : (p.natAbs : Int) = p := Int.natAbs_of_nonneg (by omega)
    have h3 : n % p ≠ 0 := fun h => by rename_i h'; exact h' (.inr (Int.dvd_of_emod_eq_zero h))
    omega
theorem tmod_tmod {n p : Int} (hp : 0 < p) : (n.tmod p + p).tmod p = n % p := by
  have hb := tmod_bd (n := n) hp
  rw [Int.tmod_eq_emod_of_nonneg (by omega)]
  rw [Int.add_emod_right]
  rw [Int.tmod_eq_emod]
  have e : (p.natAbs : Int) = p := Int.natAbs_of_nonneg (by omega)
  split
  · simp
  · rw [e, Int.sub_emod, Int.emod_self, Int.sub_zero, Int.emod_emod_of_dvd _ (Int.dvd_refl p), Int.emod_emod_of_dvd _ (Int.dvd_refl p)]
/-- all numbers of a list are numbers modulo p -/
def modB (p : Int) (l : List Int) : Bool := l.all fun n => decide (0 ≤ n) && decide (n ≤ p - 1)
/-- the first number that is not 0 -/
def fnz : List Int → Int
  | [] => 0
  | a :: r => if a = 0 then fnz r else a
theorem fnz_append (l m : List Int) : fnz (l ++ m) = if fnz l = 0 then fnz m else fnz l := by
  induction l with
  | nil => simp [fnz]
  | cons a r ih =>
    simp only [List.cons_append, fnz]
    split
    · exact ih
    · rfl
/-- a normal list -/
def normB (p : Int) (l : List Int) : Bool := modB p l && (fnz l == 1)
theorem take_snoc {l : List Int} {i : Nat} (h : i < l.length) : l.take (i + 1) = l.take i ++ [l.getD i 0] := by
  rw [List.take_succ_eq_append_getElem h]; simp [List.getD, h]
theorem modB_snoc {p : Int} {l : List Int} {i : Nat} (hi : i < l.length) (h : modB p (l.take i) = true) (h1 : 0 ≤ l.getD i 0) (h2 : l.getD i 0 ≤ p - 1) : modB p (l.take (i + 1)) = true := by
  rw [take_snoc hi]
  simp only [modB, List.all_append, Bool.and_eq_true] at h ⊢
  exact ⟨h, by simp only [List.all_cons, List.all_nil, Bool.and_true, Bool.and_eq_true, decide_eq_true_eq]; exact ⟨h1, h2⟩⟩
theorem modB_fail {p : Int} {l : List Int} {i n : Nat} (hi : i < l.length) (hn : i < n) (h : (decide (0 ≤ l.getD i 0) && decide (l.getD i 0 ≤ p - 1)) = false) : modB p (l.take n) = false := by
  rw [modB, List.all_eq_false]
  refine ⟨l.getD i 0, ?_, by rw [h]; simp⟩
  rw [List.mem_take_iff_getElem]
  exact ⟨i, by omega, by simp [List.getD, hi]⟩
theorem fnz_take {l : List Int} {i : Nat} (h : i < l.length) : fnz (l.take (i + 1)) = if fnz (l.take i) = 0 then l.getD i 0 else fnz (l.take i) := by
  rw [take_snoc h, fnz_append]
  simp only [fnz]
  split
  · split <;> simp_all
  · rfl
theorem fnz_keep {l : List Int} {i n : Nat} (h : i ≤ n) (h0 : fnz (l.take i) ≠ 0) : fnz (l.take n) = fnz (l.take i) := by
  have : l.take n = l.take i ++ (l.take n).drop i := by
    have := (List.take_append_drop i (l.take n)).symm
    rwa [List.take_take, Nat.min_eq_left h] at this
  rw [this, fnz_append, if_neg h0]
theorem fnz_at {l : List Int} {i n : Nat} (h : i < l.length) (hn : i < n) (h0 : fnz (l.take i) = 0) (h1 : l.getD i 0 ≠ 0) : fnz (l.take n) = l.getD i 0 := by
  have e : fnz (l.take (i + 1)) = l.getD i 0 := by rw [fnz_take h, if_pos h0]
  rw [fnz_keep (i := i + 1) (by omega) (by rw [e]; exact h1), e]
end Go.Proofs.Ytoiolpgmilobnaa
namespace Go.Proofs.Ytoiolpgmilobnaa
attribute [local irreducible] CW OW QW QOp Con thenP inBlockP
set_option maxRecDepth 10000
set_option linter.unusedSimpArgs false
set_option linter.unusedVariables false
theorem isPrime_con (p : Int) : ConQ Try.prog [] 123 [.int p] [] (.bool (primeB p)) := by
  refine conW tab_ok [(0, .int p)] 0 [] [] Try.func123 rfl rfl rfl rfl rfl rfl rfl rfl rfl ?_
  refine cR ?_
  refine oA rfl rfl ?_
  refine oN ?_
  refine cR ?_
  refine oM rfl rfl ?_
  refine oQ (Q_bin rfl rfl rfl) rfl rfl ?_
  refine oM rfl rfl ?_
  all_goals first | refine oT rfl rfl ?_ | refine o1 rfl rfl rfl ?_ | refine o0 rfl rfl rfl ?_ | refine ogP1 rfl rfl rfl (fun hg => ?_) (fun hg => ?_) | refine ogP0 rfl rfl rfl (fun hg => ?_) (fun hg => ?_)
  all_goals try simp only [s1, s2, s3, s4, s5, s6, s7, s8, s9, s10, s11, s12] at hg
  all_goals first | (refine oM rfl rfl ?_) | skip
  all_goals first | refine oT rfl rfl ?_ | refine o1 rfl rfl rfl ?_ | refine o0 rfl rfl rfl ?_ | refine ogP1 rfl rfl rfl (fun hg => ?_) (fun hg => ?_) | refine ogP0 rfl rfl rfl (fun hg => ?_) (fun hg => ?_)
  all_goals try simp only [s1, s2, s3, s4, s5, s6, s7, s8, s9, s10, s11, s12] at hg
  all_goals first | (refine oQ (Q_bin rfl rfl rfl) rfl rfl ?_) | skip
  all_goals first | refine oQ (Q_pick_t rfl (by with_reducible rfl) rfl rfl) rfl rfl ?_ | refine oQ (Q_pick_f rfl (by with_reducible rfl) rfl rfl) rfl rfl ?_
  all_goals first | (refine oM rfl rfl ?_)
  all_goals first | refine oT rfl rfl ?_ | refine o1 rfl rfl rfl ?_ | refine o0 rfl rfl rfl ?_ | refine ogP1 rfl rfl rfl (fun hg => ?_) (fun hg => ?_) | refine ogP0 rfl rfl rfl (fun hg => ?_) (fun hg => ?_)
  all_goals try simp only [s1, s2, s3, s4, s5, s6, s7, s8, s9, s10, s11, s12] at hg
  all_goals first | (refine oM rfl rfl ?_) | skip
  all_goals first | refine oT rfl rfl ?_ | refine o1 rfl rfl rfl ?_ | refine o0 rfl rfl rfl ?_ | refine ogP1 rfl rfl rfl (fun hg => ?_) (fun hg => ?_) | refine ogP0 rfl rfl rfl (fun hg => ?_) (fun hg => ?_)
  all_goals try simp only [s1, s2, s3, s4, s5, s6, s7, s8, s9, s10, s11, s12] at hg
  all_goals first | (refine oQ (Q_bin rfl rfl rfl) rfl rfl ?_) | skip
  all_goals first | refine oQ (Q_pick_t rfl (by with_reducible rfl) rfl rfl) rfl rfl ?_ | refine oQ (Q_pick_f rfl (by with_reducible rfl) rfl rfl) rfl rfl ?_
  all_goals first | (refine oM rfl rfl ?_)
  all_goals first | refine oT rfl rfl ?_ | refine o1 rfl rfl rfl ?_ | refine o0 rfl rfl rfl ?_ | refine ogP1 rfl rfl rfl (fun hg => ?_) (fun hg => ?_) | refine ogP0 rfl rfl rfl (fun hg => ?_) (fun hg => ?_)
  all_goals try simp only [s1, s2, s3, s4, s5, s6, s7, s8, s9, s10, s11, s12] at hg
  all_goals first | (refine oM rfl rfl ?_) | skip
  all_goals first | refine oT rfl rfl ?_ | refine o1 rfl rfl rfl ?_ | refine o0 rfl rfl rfl ?_ | refine ogP1 rfl rfl rfl (fun hg => ?_) (fun hg => ?_) | refine ogP0 rfl rfl rfl (fun hg => ?_) (fun hg => ?_)
  all_goals try simp only [s1, s2, s3, s4, s5, s6, s7, s8, s9, s10, s11, s12] at hg
  all_goals first | (refine oQ (Q_bin rfl rfl rfl) rfl rfl ?_) | skip
  all_goals first | refine oQ (Q_pick_t rfl (by with_reducible rfl) rfl rfl) rfl rfl ?_ | refine oQ (Q_pick_f rfl (by with_reducible rfl) rfl rfl) rfl rfl ?_
  all_goals first | (refine oM rfl rfl ?_)
  all_goals first | refine oT rfl rfl ?_ | refine o1 rfl rfl rfl ?_ | refine o0 rfl rfl rfl ?_ | refine ogP1 rfl rfl rfl (fun hg => ?_) (fun hg => ?_) | refine ogP0 rfl rfl rfl (fun hg => ?_) (fun hg => ?_)
  all_goals try simp only [s1, s2, s3, s4, s5, s6, s7, s8, s9, s10, s11, s12] at hg
  all_goals first | (refine oM rfl rfl ?_) | skip
  all_goals first | refine oT rfl rfl ?_ | refine o1 rfl rfl rfl ?_ | refine o0 rfl rfl rfl ?_ | refine ogP1 rfl rfl rfl (fun hg => ?_) (fun hg => ?_) | refine ogP0 rfl rfl rfl (fun hg => ?_) (fun hg => ?_)
  all_goals try simp only [s1, s2, s3, s4, s5, s6, s7, s8, s9, s10, s11, s12] at hg
  all_goals first | (refine oQ (Q_bin rfl rfl rfl) rfl rfl ?_) | skip
  all_goals first | refine oQ (Q_pick_t rfl (by with_reducible rfl) rfl rfl) rfl rfl ?_ | refine oQ (Q_pick_f rfl (by with_reducible rfl) rfl rfl) rfl rfl ?_
  all_goals first | (refine oA rfl rfl ?_)
  all_goals refine oN ?_
  all_goals (
   refine CW_ret ?_)
  all_goals (
   refine exitQ (.inr rfl) 0 (.cons (.tmp rfl rfl) .nil) ?_ rfl vHn rfl rfl
   simp_all [resV, primeB])
theorem l01Prime_con (p : Int) : ConQ Try.prog [] 116 [.int p] [] (.bool (primeB p)) := by
  refine conW tab_ok [(0, .int p)] 0 [] [] Try.func116 rfl rfl rfl rfl rfl rfl rfl rfl rfl ?_
  refine cR ?_
  refine oA rfl rfl ?_
  refine oN ?_
  refine cR ?_
  refine oM rfl rfl ?_
  refine oQ (Q_bin rfl rfl rfl) rfl rfl ?_
  refine oM rfl rfl ?_
  all_goals first | refine oT rfl rfl ?_ | refine o1 rfl rfl rfl ?_ | refine o0 rfl rfl rfl ?_ | refine ogP1 rfl rfl rfl (fun hg => ?_) (fun hg => ?_) | refine ogP0 rfl rfl rfl (fun hg => ?_) (fun hg => ?_)
  all_goals try simp only [s1, s2, s3, s4, s5, s6, s7, s8, s9, s10, s11, s12] at hg
  all_goals first | (refine oM rfl rfl ?_) | skip
  all_goals first | refine oT rfl rfl ?_ | refine o1 rfl rfl rfl ?_ | refine o0 rfl rfl rfl ?_ | refine ogP1 rfl rfl rfl (fun hg => ?_) (fun hg => ?_) | refine ogP0 rfl rfl rfl (fun hg => ?_) (fun hg => ?_)
  all_goals try simp only [s1, s2, s3, s4, s5, s6, s7, s8, s9, s10, s11, s12] at hg
  all_goals first | (refine oQ (Q_bin rfl rfl rfl) rfl rfl ?_) | skip
  all_goals first | refine oQ (Q_pick_t rfl (by with_reducible rfl) rfl rfl) rfl rfl ?_ | refine oQ (Q_pick_f rfl (by with_reducible rfl) rfl rfl) rfl rfl ?_
  all_goals first | (refine oM rfl rfl ?_)
  all_goals first | refine oT rfl rfl ?_ | refine o1 rfl rfl rfl ?_ | refine o0 rfl rfl rfl ?_ | refine ogP1 rfl rfl rfl (fun hg => ?_) (fun hg => ?_) | refine ogP0 rfl rfl rfl (fun hg => ?_) (fun hg => ?_)
  all_goals try simp only [s1, s2, s3, s4, s5, s6, s7, s8, s9, s10, s11, s12] at hg
  all_goals first | (refine oM rfl rfl ?_) | skip
  all_goals first | refine oT rfl rfl ?_ | refine o1 rfl rfl rfl ?_ | refine o0 rfl rfl rfl ?_ | refine ogP1 rfl rfl rfl (fun hg => ?_) (fun hg => ?_) | refine ogP0 rfl rfl rfl (fun hg => ?_) (fun hg => ?_)
  all_goals try simp only [s1, s2, s3, s4, s5, s6, s7, s8, s9, s10, s11, s12] at hg
  all_goals first | (refine oQ (Q_bin rfl rfl rfl) rfl rfl ?_) | skip
  all_goals first | refine oQ (Q_pick_t rfl (by with_reducible rfl) rfl rfl) rfl rfl ?_ | refine oQ (Q_pick_f rfl (by with_reducible rfl) rfl rfl) rfl rfl ?_
  all_goals first | (refine oM rfl rfl ?_)
  all_goals first | refine oT rfl rfl ?_ | refine o1 rfl rfl rfl ?_ | refine o0 rfl rfl rfl ?_ | refine ogP1 rfl rfl rfl (fun hg => ?_) (fun hg => ?_) | refine ogP0 rfl rfl rfl (fun hg => ?_) (fun hg => ?_)
  all_goals try simp only [s1, s2, s3, s4, s5, s6, s7, s8, s9, s10, s11, s12] at hg
  all_goals first | (refine oM rfl rfl ?_) | skip
  all_goals first | refine oT rfl rfl ?_ | refine o1 rfl rfl rfl ?_ | refine o0 rfl rfl rfl ?_ | refine ogP1 rfl rfl rfl (fun hg => ?_) (fun hg => ?_) | refine ogP0 rfl rfl rfl (fun hg => ?_) (fun hg => ?_)
  all_goals try simp only [s1, s2, s3, s4, s5, s6, s7, s8, s9, s10, s11, s12] at hg
  all_goals first | (refine oQ (Q_bin rfl rfl rfl) rfl rfl ?_) | skip
  all_goals first | refine oQ (Q_pick_t rfl (by with_reducible rfl) rfl rfl) rfl rfl ?_ | refine oQ (Q_pick_f rfl (by with_reducible rfl) rfl rfl) rfl rfl ?_
  all_goals first | (refine oM rfl rfl ?_)
  all_goals first | refine oT rfl rfl ?_ | refine o1 rfl rfl rfl ?_ | refine o0 rfl rfl rfl ?_ | refine ogP1 rfl rfl rfl (fun hg => ?_) (fun hg => ?_) | refine ogP0 rfl rfl rfl (fun hg => ?_) (fun hg => ?_)
  all_goals try simp only [s1, s2, s3, s4, s5, s6, s7, s8, s9, s10, s11, s12] at hg
  all_goals first | (refine oM rfl rfl ?_) | skip
  all_goals first | refine oT rfl rfl ?_ | refine o1 rfl rfl rfl ?_ | refine o0 rfl rfl rfl ?_ | refine ogP1 rfl rfl rfl (fun hg => ?_) (fun hg => ?_) | refine ogP0 rfl rfl rfl (fun hg => ?_) (fun hg => ?_)
  all_goals try simp only [s1, s2, s3, s4, s5, s6, s7, s8, s9, s10, s11, s12] at hg
  all_goals first | (refine oQ (Q_bin rfl rfl rfl) rfl rfl ?_) | skip
  all_goals first | refine oQ (Q_pick_t rfl (by with_reducible rfl) rfl rfl) rfl rfl ?_ | refine oQ (Q_pick_f rfl (by with_reducible rfl) rfl rfl) rfl rfl ?_
  all_goals first | (refine oA rfl rfl ?_)
  all_goals refine oN ?_
  all_goals (
   refine CW_ret ?_)
  all_goals (
   refine exitQ (.inr rfl) 0 (.cons (.tmp rfl rfl) .nil) ?_ rfl vHn rfl rfl
   simp_all [resV, primeB])
theorem within_con (n l h : Int) : ConQ Try.prog [] 161 [.int n, .int l, .int h] [] (.bool (decide (l ≤ n) && decide (n ≤ h))) := by
  refine conW tab_ok [(0, .int n), (1, .int l), (2, .int h)] 0 [] [] Try.func161 rfl rfl rfl rfl rfl rfl rfl rfl rfl ?_
  refine cR ?_
  refine oA rfl rfl ?_
  refine oN ?_
  refine cR ?_
  iterate 2 refine oM rfl rfl ?_
  refine oQ (Q_bin rfl rfl rfl) rfl rfl ?_
  refine oM rfl rfl ?_
  all_goals first | refine oT rfl rfl ?_ | refine o1 rfl rfl rfl ?_ | refine o0 rfl rfl rfl ?_ | refine ogP1 rfl rfl rfl (fun hg => ?_) (fun hg => ?_) | refine ogP0 rfl rfl rfl (fun hg => ?_) (fun hg => ?_)
  all_goals try simp only [s1, s2, s3, s4, s5, s6, s7, s8, s9, s10, s11, s12] at hg
  all_goals first | (refine oM rfl rfl ?_) | skip
  all_goals first | refine oT rfl rfl ?_ | refine o1 rfl rfl rfl ?_ | refine o0 rfl rfl rfl ?_ | refine ogP1 rfl rfl rfl (fun hg => ?_) (fun hg => ?_) | refine ogP0 rfl rfl rfl (fun hg => ?_) (fun hg => ?_)
  all_goals try simp only [s1, s2, s3, s4, s5, s6, s7, s8, s9, s10, s11, s12] at hg
  all_goals first | (refine oM rfl rfl ?_) | skip
  all_goals first | refine oT rfl rfl ?_ | refine o1 rfl rfl rfl ?_ | refine o0 rfl rfl rfl ?_ | refine ogP1 rfl rfl rfl (fun hg => ?_) (fun hg => ?_) | refine ogP0 rfl rfl rfl (fun hg => ?_) (fun hg => ?_)
  all_goals try simp only [s1, s2, s3, s4, s5, s6, s7, s8, s9, s10, s11, s12] at hg
  all_goals first | (refine oQ (Q_bin rfl rfl rfl) rfl rfl ?_) | skip
  all_goals first | refine oQ (Q_pick_t rfl (by with_reducible rfl) rfl rfl) rfl rfl ?_ | refine oQ (Q_pick_f rfl (by with_reducible rfl) rfl rfl) rfl rfl ?_
  all_goals first | (refine oA rfl rfl ?_)
  all_goals refine oN ?_
  all_goals (
   refine CW_ret ?_)
  all_goals (
   refine exitQ (.inr rfl) 0 (.cons (.tmp rfl rfl) .nil) ?_ rfl vHn rfl rfl
   (simp_all [resV]) <;> (intros; omega))
theorem l01In_con (n l h : Int) : ConQ Try.prog [] 143 [.int n, .int l, .int h] [] (.bool (decide (l ≤ n) && decide (n ≤ h))) := by
  refine conW tab_ok [(0, .int n), (1, .int l), (2, .int h)] 0 [] [] Try.func143 rfl rfl rfl rfl rfl rfl rfl rfl rfl ?_
  refine cR ?_
  refine oA rfl rfl ?_
  refine oN ?_
  refine cR ?_
  iterate 2 refine oM rfl rfl ?_
  refine oQ (Q_bin rfl rfl rfl) rfl rfl ?_
  refine oM rfl rfl ?_
  all_goals first | refine oT rfl rfl ?_ | refine o1 rfl rfl rfl ?_ | refine o0 rfl rfl rfl ?_ | refine ogP1 rfl rfl rfl (fun hg => ?_) (fun hg => ?_) | refine ogP0 rfl rfl rfl (fun hg => ?_) (fun hg => ?_)
  all_goals try simp only [s1, s2, s3, s4, s5, s6, s7, s8, s9, s10, s11, s12] at hg
  all_goals first | (refine oM rfl rfl ?_) | skip
  all_goals first | refine oT rfl rfl ?_ | refine o1 rfl rfl rfl ?_ | refine o0 rfl rfl rfl ?_ | refine ogP1 rfl rfl rfl (fun hg => ?_) (fun hg => ?_) | refine ogP0 rfl rfl rfl (fun hg => ?_) (fun hg => ?_)
  all_goals try simp only [s1, s2, s3, s4, s5, s6, s7, s8, s9, s10, s11, s12] at hg
  all_goals first | (refine oM rfl rfl ?_) | skip
  all_goals first | refine oT rfl rfl ?_ | refine o1 rfl rfl rfl ?_ | refine o0 rfl rfl rfl ?_ | refine ogP1 rfl rfl rfl (fun hg => ?_) (fun hg => ?_) | refine ogP0 rfl rfl rfl (fun hg => ?_) (fun hg => ?_)
  all_goals try simp only [s1, s2, s3, s4, s5, s6, s7, s8, s9, s10, s11, s12] at hg
  all_goals first | (refine oQ (Q_bin rfl rfl rfl) rfl rfl ?_) | skip
  all_goals first | refine oQ (Q_pick_t rfl (by with_reducible rfl) rfl rfl) rfl rfl ?_ | refine oQ (Q_pick_f rfl (by with_reducible rfl) rfl rfl) rfl rfl ?_
  all_goals first | (refine oA rfl rfl ?_)
  all_goals refine oN ?_
  all_goals (
   refine CW_ret ?_)
  all_goals (
   refine exitQ (.inr rfl) 0 (.cons (.tmp rfl rfl) .nil) ?_ rfl vHn rfl rfl
   (simp_all [resV]) <;> (intros; omega))
theorem mod_con (n p : Int) (hp : 0 < p) (hp' : p ≤ 1000000) : ConQ Try.prog [] 90 [.int n, .int p] [] (.int (n % p)) := by
  have hb := tmod_bd (n := n) hp
  refine conW tab_ok [(0, .int n), (1, .int p)] 0 [] [] Try.func90 rfl rfl rfl rfl rfl rfl rfl rfl rfl ?_
  refine cR ?_
  refine oA rfl rfl ?_
  refine oN ?_
  refine cR ?_
  iterate 2 refine oM rfl rfl ?_
  refine oQ (Q_rem rfl rfl (by omega)) rfl rfl ?_
  refine oM rfl rfl ?_
  first | refine oQ (Q_binu rfl rfl rfl (by omega)) rfl rfl ?_ | refine oQ (Q_bin rfl rfl rfl) rfl rfl ?_
  refine oM rfl rfl ?_
  refine oQ (Q_rem rfl rfl (by omega)) rfl rfl ?_
  refine oA rfl rfl ?_
  refine oN ?_
  refine CW_ret ?_
  all_goals (
   refine exitQ (.inr rfl) 0 (.cons (.tmp rfl rfl) .nil) ?_ rfl vHn rfl rfl
   simp [resV, tmod_tmod hp])
theorem l01Mod_con (n p : Int) (hp : 0 < p) (hp' : p ≤ 1000000) : ConQ Try.prog [] 128 [.int p, .int n] [] (.int (n % p)) := by
  have hb := tmod_bd (n := n) hp
  refine conW tab_ok [(0, .int p), (1, .int n)] 0 [] [] Try.func128 rfl rfl rfl rfl rfl rfl rfl rfl rfl ?_
  refine cR ?_
  refine oA rfl rfl ?_
  refine oN ?_
  refine cR ?_
  iterate 2 refine oM rfl rfl ?_
  refine oQ (Q_rem rfl rfl (by omega)) rfl rfl ?_
  refine oM rfl rfl ?_
  first | refine oQ (Q_binu rfl rfl rfl (by omega)) rfl rfl ?_ | refine oQ (Q_bin rfl rfl rfl) rfl rfl ?_
  refine oM rfl rfl ?_
  refine oQ (Q_rem rfl rfl (by omega)) rfl rfl ?_
  refine oA rfl rfl ?_
  refine oN ?_
  refine CW_ret ?_
  all_goals (
   refine exitQ (.inr rfl) 0 (.cons (.tmp rfl rfl) .nil) ?_ rfl vHn rfl rfl
   simp [resV, tmod_tmod hp])
theorem areNumbers_con (p : Int) (t : TypeId) (L : List Int) (n k : Nat) (hn : n ≤ L.length) (hp : 0 ≤ p ∧ p ≤ 1000) (hL : n ≤ 1000000000) : ConQ Try.prog [] 145 [.int p, .slice 0 0 n k] [(0, .ints t L)] (.bool (modB p (L.take n))) := by
  refine conW tab_ok [(0, .int p), (1, .slice 0 0 n k)] 1 [0] [0] Try.func145 rfl rfl rfl rfl rfl rfl rfl rfl rfl ?_
  refine cR ?_
  refine oA rfl rfl ?_
  refine oN ?_
  refine CW_seq ?_
  refine cR ?_
  refine oM rfl rfl ?_
  first | refine oQ (Q_len rfl rfl rfl rfl) rfl rfl ?_ | refine oQ (Q_len0 rfl rfl rfl rfl) rfl rfl ?_
  refine oM rfl rfl ?_
  refine oN ?_
  refine CW_block ?_
  refine CW_loop (ι := Nat) (fun i => i ≤ n ∧ modB p (L.take i) = true) (fun i => ⟨[(0, .int p), (7, .slice 0 0 n k), (8, .int n), (9, .int i)], [(0, .ints t L)], 1⟩) (fun i => n - i) 0 ?_ ?_ ?_
  · exact ⟨Nat.zero_le _, rfl⟩
  · refine View.mk' [] rfl rfl rfl ?_ ?_
    repeat' first | exact vFn | refine vFc rfl ?_ | exact vHn | refine vHc rfl ?_ | refine vFc (congrArg (fun z => some (V.int z)) ?_) ?_ | refine vHc (congrArg (fun z => some (Blk.ints _ z)) ?_) ?_ | refine vFc (congrArg (fun z => some (V.bool z)) ?_) ?_ | refine vFs rfl rfl ?_ ?_
  intro i hi
  obtain ⟨hi1, hi2⟩ := hi
  refine cR ?_
  refine oQ (Q_bin rfl rfl rfl) rfl rfl ?_
  refine oN ?_
  refine CW_seq ?_
  first | refine cT rfl ?_ | refine cF rfl ?_ | refine CW_cond rfl (fun hc => ?_) (fun hc => ?_)
  all_goals try simp only [s1, s2, s3, s4, s5, s6, s7, s8, s9, s10, s11, s12] at hc
  all_goals first
    | (
     refine CW_skip ?_)
    | (
     refine CW_exit ?_)
  all_goals first
    | with_reducible refine tR ?_
    | with_reducible refine tE ?_
    | (
     with_reducible refine tN ?_
     refine CW_seq ?_
     refine CW_block ?_
     refine cR ?_
     first | refine oQ (Is0 rfl rfl rfl rfl rfl rfl) rfl rfl ?_ | refine oQ (Is1 rfl rfl rfl rfl rfl rfl) rfl rfl ?_
     refine oQ (Ld rfl rfl rfl rfl) rfl rfl ?_
     refine oA rfl rfl ?_
     refine oN ?_
     refine cR ?_
     iterate 2 refine oM rfl rfl ?_
     first | refine oQ (Q_binu rfl rfl rfl (by omega)) rfl rfl ?_ | refine oQ (Q_bin rfl rfl rfl) rfl rfl ?_
     refine oQ (Q_call0 (within_con _ _ _) rfl rfl rfl) rfl rfl ?_
     refine oQ (Q_not rfl) rfl rfl ?_
     refine oN ?_
     first | refine cT rfl ?_ | refine cF rfl ?_ | refine CW_cond rfl (fun hc => ?_) (fun hc => ?_)
     all_goals try simp only [s1, s2, s3, s4, s5, s6, s7, s8, s9, s10, s11, s12] at hc
     all_goals first
       | (
        refine CW_skip ?_)
       | (
        refine cR ?_
        refine oA rfl rfl ?_
        refine oN ?_
        refine CW_ret ?_)
     all_goals first | with_reducible refine bN ?_ | with_reducible refine bE ?_ | with_reducible refine bR ?_ | refine bX rfl ?_
     all_goals first
       | with_reducible refine tR ?_
       | with_reducible refine tE ?_
       | (
        with_reducible refine tN ?_
        refine CW_region ?_
        first | refine oQ (Q_binu rfl rfl rfl (by omega)) rfl rfl ?_ | refine oQ (Q_bin rfl rfl rfl) rfl rfl ?_
        refine oM rfl rfl ?_
        refine OW_nil ?_))
  all_goals first
    | with_reducible refine tR ?_
    | with_reducible refine tE ?_
    | (
     with_reducible refine tN ?_
     refine ⟨i + 1, ?_, ?_, View.mk' [] rfl rfl rfl ?_ ?_⟩
     · exact ⟨by omega, modB_snoc (by omega) hi2 (by simp_all) (by simp_all)⟩
     · omega
     all_goals (repeat' first | exact vFn | refine vFc rfl ?_ | exact vHn | refine vHc rfl ?_ | refine vFc (congrArg (fun z => some (V.int z)) ?_) ?_ | refine vHc (congrArg (fun z => some (Blk.ints _ z)) ?_) ?_ | refine vFc (congrArg (fun z => some (V.bool z)) ?_) ?_ | refine vFs rfl rfl ?_ ?_))
  all_goals first | with_reducible refine bN ?_ | with_reducible refine bE ?_ | with_reducible refine bR ?_ | refine bX rfl ?_
  all_goals first
    | with_reducible refine tR ?_
    | with_reducible refine tE ?_
    | (
     with_reducible refine tN ?_
     refine cR ?_
     refine oA rfl rfl ?_
     refine oN ?_
     refine CW_ret ?_)
  all_goals (
   refine exitQ (.inr rfl) 1 (.cons (.tmp rfl rfl) .nil) ?_ rfl (vHc rfl vHn) rfl rfl
   simp only [resV, V.bool.injEq]
   first | exact (modB_fail (by omega) (by omega) hc).symm | (have e : i = n := (by omega); subst e; exact hi2.symm))
theorem isNormal_con (p : Int) (t : TypeId) (L : List Int) (n k : Nat) (hn : n ≤ L.length) (hp : 0 ≤ p ∧ p ≤ 1000) (hL : n ≤ 1000000000) : ConQ Try.prog [] 125 [.int p, .slice 0 0 n k] [(0, .ints t L)] (.bool (normB p (L.take n))) := by
  refine conW tab_ok [(0, .int p), (1, .slice 0 0 n k)] 1 [0] [0] Try.func125 rfl rfl rfl rfl rfl rfl rfl rfl rfl ?_
  refine cR ?_
  refine oA rfl rfl ?_
  refine oN ?_
  refine CW_seq ?_
  refine cR ?_
  refine oM rfl rfl ?_
  first | refine oQ (Q_len rfl rfl rfl rfl) rfl rfl ?_ | refine oQ (Q_len0 rfl rfl rfl rfl) rfl rfl ?_
  refine oM rfl rfl ?_
  refine oN ?_
  refine CW_block ?_
  refine CW_loop (ι := Nat) (fun i => i ≤ n ∧ fnz (L.take i) = 0) (fun i => ⟨[(0, .int p), (1, .slice 0 0 n k), (7, .slice 0 0 n k), (8, .int n), (9, .int i)], [(0, .ints t L)], 1⟩) (fun i => n - i) 0 ?_ ?_ ?_
  · exact ⟨Nat.zero_le _, rfl⟩
  · refine View.mk' [] rfl rfl rfl ?_ ?_
    repeat' first | exact vFn | refine vFc rfl ?_ | exact vHn | refine vHc rfl ?_ | refine vFc (congrArg (fun z => some (V.int z)) ?_) ?_ | refine vHc (congrArg (fun z => some (Blk.ints _ z)) ?_) ?_ | refine vFc (congrArg (fun z => some (V.bool z)) ?_) ?_ | refine vFs rfl rfl ?_ ?_
  intro i hi
  obtain ⟨hi1, hi2⟩ := hi
  refine cR ?_
  refine oQ (Q_bin rfl rfl rfl) rfl rfl ?_
  refine oN ?_
  refine CW_seq ?_
  first | refine cT rfl ?_ | refine cF rfl ?_ | refine CW_cond rfl (fun hc => ?_) (fun hc => ?_)
  all_goals try simp only [s1, s2, s3, s4, s5, s6, s7, s8, s9, s10, s11, s12] at hc
  all_goals first
    | (
     refine CW_skip ?_)
    | (
     refine CW_exit ?_)
  all_goals first
    | with_reducible refine tR ?_
    | with_reducible refine tE ?_
    | (
     with_reducible refine tN ?_
     refine CW_seq ?_
     refine CW_block ?_
     refine cR ?_
     first | refine oQ (Is0 rfl rfl rfl rfl rfl rfl) rfl rfl ?_ | refine oQ (Is1 rfl rfl rfl rfl rfl rfl) rfl rfl ?_
     refine oQ (Ld rfl rfl rfl rfl) rfl rfl ?_
     refine oA rfl rfl ?_
     refine oN ?_
     refine cR ?_
     refine oM rfl rfl ?_
     refine oQ (Q_bin rfl rfl rfl) rfl rfl ?_
     refine oN ?_
     first | refine cT rfl ?_ | refine cF rfl ?_ | refine CW_cond rfl (fun hc => ?_) (fun hc => ?_)
     all_goals try simp only [s1, s2, s3, s4, s5, s6, s7, s8, s9, s10, s11, s12] at hc
     all_goals first
       | (
        refine CW_skip ?_)
       | (
        refine cR ?_
        refine oM rfl rfl ?_
        refine oQ (Q_bin rfl rfl rfl) rfl rfl ?_
        refine oM rfl rfl ?_
        all_goals first | refine oT rfl rfl ?_ | refine o1 rfl rfl rfl ?_ | refine o0 rfl rfl rfl ?_ | refine ogP1 rfl rfl rfl (fun hg => ?_) (fun hg => ?_) | refine ogP0 rfl rfl rfl (fun hg => ?_) (fun hg => ?_)
        all_goals try simp only [s1, s2, s3, s4, s5, s6, s7, s8, s9, s10, s11, s12] at hg
        all_goals first | (refine oM rfl rfl ?_) | skip
        all_goals first | refine oT rfl rfl ?_ | refine o1 rfl rfl rfl ?_ | refine o0 rfl rfl rfl ?_ | refine ogP1 rfl rfl rfl (fun hg => ?_) (fun hg => ?_) | refine ogP0 rfl rfl rfl (fun hg => ?_) (fun hg => ?_)
        all_goals try simp only [s1, s2, s3, s4, s5, s6, s7, s8, s9, s10, s11, s12] at hg
        all_goals first | (refine oM rfl rfl ?_) | skip
        all_goals first | refine oT rfl rfl ?_ | refine o1 rfl rfl rfl ?_ | refine o0 rfl rfl rfl ?_ | refine ogP1 rfl rfl rfl (fun hg => ?_) (fun hg => ?_) | refine ogP0 rfl rfl rfl (fun hg => ?_) (fun hg => ?_)
        all_goals try simp only [s1, s2, s3, s4, s5, s6, s7, s8, s9, s10, s11, s12] at hg
        all_goals first | (refine oQ (Q_call (areNumbers_con p t L n k hn hp hL) [] rfl rfl (Fits.mk' (vHc rfl vHn) rfl rfl (by simp)) rfl rfl) rfl rfl ?_) | skip
        all_goals first | refine oQ (Q_pick_t rfl (by with_reducible rfl) rfl rfl) rfl rfl ?_ | refine oQ (Q_pick_f rfl (by with_reducible rfl) rfl rfl) rfl rfl ?_
        all_goals first | (refine oA rfl rfl ?_)
        all_goals refine oN ?_
        all_goals (
         refine CW_ret ?_))
     all_goals first | with_reducible refine bN ?_ | with_reducible refine bE ?_ | with_reducible refine bR ?_ | refine bX rfl ?_
     all_goals first
       | with_reducible refine tR ?_
       | with_reducible refine tE ?_
       | (
        with_reducible refine tN ?_
        refine CW_region ?_
        first | refine oQ (Q_binu rfl rfl rfl (by omega)) rfl rfl ?_ | refine oQ (Q_bin rfl rfl rfl) rfl rfl ?_
        refine oM rfl rfl ?_
        refine OW_nil ?_))
  all_goals first
    | with_reducible refine tR ?_
    | with_reducible refine tE ?_
    | (
     with_reducible refine tN ?_
     refine ⟨i + 1, ?_, ?_, View.mk' [] rfl rfl rfl ?_ ?_⟩
     · exact ⟨by omega, by rw [fnz_take (by omega), if_pos hi2]; simp_all⟩
     · omega
     all_goals (repeat' first | exact vFn | refine vFc rfl ?_ | exact vHn | refine vHc rfl ?_ | refine vFc (congrArg (fun z => some (V.int z)) ?_) ?_ | refine vHc (congrArg (fun z => some (Blk.ints _ z)) ?_) ?_ | refine vFc (congrArg (fun z => some (V.bool z)) ?_) ?_ | refine vFs rfl rfl ?_ ?_))
  all_goals first | with_reducible refine bN ?_ | with_reducible refine bE ?_ | with_reducible refine bR ?_ | refine bX rfl ?_
  all_goals first
    | with_reducible refine tR ?_
    | with_reducible refine tE ?_
    | (
     with_reducible refine tN ?_
     refine cR ?_
     refine oA rfl rfl ?_
     refine oN ?_
     refine CW_ret ?_)
  all_goals (
   refine exitQ (.inr rfl) 1 (.cons (.tmp rfl rfl) .nil) ?_ rfl (vHc rfl vHn) rfl rfl
   simp only [resV, V.bool.injEq]
   first | (have e : i = n := (by omega); subst e; simp [normB, hi2]; done) | (have hlt : i < n := (by omega); rw [normB, fnz_at (by omega) hlt hi2 (by assumption)]; simp_all [ren]; done) | (have hlt : i < n := (by omega); rw [normB, fnz_at (by omega) hlt hi2 (by assumption)]; cases h1 : modB p (L.take n) <;> simp_all [ren]; done))
theorem l01Normal_con (p : Int) (t : TypeId) (L : List Int) (n k : Nat) (hn : n ≤ L.length) (hp : 0 ≤ p ∧ p ≤ 1000) (hL : n ≤ 1000000000) : ConQ Try.prog [] 118 [.int p, .slice 0 0 n k] [(0, .ints t L)] (.bool (normB p (L.take n))) := by
  refine conW tab_ok [(0, .int p), (1, .slice 0 0 n k)] 1 [0] [0] Try.func118 rfl rfl rfl rfl rfl rfl rfl rfl rfl ?_
  refine cR ?_
  refine oA rfl rfl ?_
  refine oN ?_
  refine cR ?_
  refine oA rfl rfl ?_
  refine oN ?_
  refine CW_seq ?_
  refine cR ?_
  refine oA rfl rfl ?_
  refine oN ?_
  refine CW_block ?_
  refine CW_loop (ι := Nat) (fun i => i ≤ n ∧ modB p (L.take i) = true) (fun i => ⟨[(0, .int p), (1, .slice 0 0 n k), (5, .int (fnz (L.take i))), (6, .int i)], [(0, .ints t L)], 1⟩) (fun i => n - i) 0 ?_ ?_ ?_
  · exact ⟨Nat.zero_le _, rfl⟩
  · refine View.mk' [] rfl rfl rfl ?_ ?_
    repeat' first | exact vFn | refine vFc rfl ?_ | exact vHn | refine vHc rfl ?_ | refine vFc (congrArg (fun z => some (V.int z)) ?_) ?_ | refine vHc (congrArg (fun z => some (Blk.ints _ z)) ?_) ?_ | refine vFc (congrArg (fun z => some (V.bool z)) ?_) ?_ | refine vFs rfl rfl ?_ ?_
  intro i hi
  obtain ⟨hi1, hi2⟩ := hi
  refine CW_seq ?_
  refine cR ?_
  iterate 2 refine oM rfl rfl ?_
  first | refine oQ (Q_len rfl rfl rfl rfl) rfl rfl ?_ | refine oQ (Q_len0 rfl rfl rfl rfl) rfl rfl ?_
  refine oQ (Q_bin rfl rfl rfl) rfl rfl ?_
  refine oN ?_
  first | refine cT rfl ?_ | refine cF rfl ?_ | refine CW_cond rfl (fun hc => ?_) (fun hc => ?_)
  all_goals try simp only [s1, s2, s3, s4, s5, s6, s7, s8, s9, s10, s11, s12] at hc
  all_goals first
    | (
     refine CW_skip ?_)
    | (
     refine CW_exit ?_)
  all_goals first
    | with_reducible refine tR ?_
    | with_reducible refine tE ?_
    | (
     with_reducible refine tN ?_
     refine CW_seq ?_
     refine CW_block ?_
     refine CW_seq ?_
     refine cR ?_
     iterate 2 refine oM rfl rfl ?_
     first | refine oQ (Is0 rfl rfl rfl rfl rfl rfl) rfl rfl ?_ | refine oQ (Is1 rfl rfl rfl rfl rfl rfl) rfl rfl ?_
     refine oQ (Ld rfl rfl rfl rfl) rfl rfl ?_
     refine oM rfl rfl ?_
     first | refine oQ (Q_binu rfl rfl rfl (by omega)) rfl rfl ?_ | refine oQ (Q_bin rfl rfl rfl) rfl rfl ?_
     refine oQ (Q_call0 (l01In_con _ _ _) rfl rfl rfl) rfl rfl ?_
     refine oQ (Q_not rfl) rfl rfl ?_
     refine oN ?_
     first | refine cT rfl ?_ | refine cF rfl ?_ | refine CW_cond rfl (fun hc => ?_) (fun hc => ?_)
     all_goals try simp only [s1, s2, s3, s4, s5, s6, s7, s8, s9, s10, s11, s12] at hc
     all_goals first
       | (
        refine CW_skip ?_)
       | (
        refine cR ?_
        refine oA rfl rfl ?_
        refine oN ?_
        refine CW_ret ?_)
     all_goals first
       | with_reducible refine tR ?_
       | with_reducible refine tE ?_
       | (
        with_reducible refine tN ?_
        refine cR ?_
        refine oM rfl rfl ?_
        refine oQ (Q_bin rfl rfl rfl) rfl rfl ?_
        refine oN ?_
        first | refine cT rfl ?_ | refine cF rfl ?_ | refine CW_cond rfl (fun hc => ?_) (fun hc => ?_)
        all_goals try simp only [s1, s2, s3, s4, s5, s6, s7, s8, s9, s10, s11, s12] at hc
        all_goals first
          | (
           refine CW_skip ?_)
          | (
           refine CW_region ?_
           iterate 2 refine oM rfl rfl ?_
           first | refine oQ (Is0 rfl rfl rfl rfl rfl rfl) rfl rfl ?_ | refine oQ (Is1 rfl rfl rfl rfl rfl rfl) rfl rfl ?_
           refine oQ (Ld rfl rfl rfl rfl) rfl rfl ?_
           refine oA rfl rfl ?_
           refine OW_nil ?_))
     all_goals first | with_reducible refine bN ?_ | with_reducible refine bE ?_ | with_reducible refine bR ?_ | refine bX rfl ?_
     all_goals first
       | with_reducible refine tR ?_
       | with_reducible refine tE ?_
       | (
        with_reducible refine tN ?_
        refine CW_region ?_
        refine oM rfl rfl ?_
        first | refine oQ (Q_binu rfl rfl rfl (by omega)) rfl rfl ?_ | refine oQ (Q_bin rfl rfl rfl) rfl rfl ?_
        refine oA rfl rfl ?_
        refine OW_nil ?_))
  all_goals first
    | with_reducible refine tR ?_
    | with_reducible refine tE ?_
    | (
     with_reducible refine tN ?_
     refine ⟨i + 1, ?_, ?_, View.mk' [] rfl rfl rfl ?_ ?_⟩
     · exact ⟨by omega, modB_snoc (by omega) hi2 (by simp_all) (by simp_all)⟩
     · omega
     all_goals (repeat' first | exact vFn | refine vFc rfl ?_ | exact vHn | refine vHc rfl ?_ | refine vFc (congrArg (fun z => some (V.int z)) ?_) ?_ | refine vHc (congrArg (fun z => some (Blk.ints _ z)) ?_) ?_ | refine vFc (congrArg (fun z => some (V.bool z)) ?_) ?_ | refine vFs rfl rfl ?_ ?_)
     all_goals (rw [fnz_take (by omega)]; simp_all))
  all_goals first | with_reducible refine bN ?_ | with_reducible refine bE ?_ | with_reducible refine bR ?_ | refine bX rfl ?_
  all_goals first
    | with_reducible refine tR ?_
    | with_reducible refine tE ?_
    | (
     with_reducible refine tN ?_
     refine cR ?_
     refine oM rfl rfl ?_
     refine oQ (Q_bin rfl rfl rfl) rfl rfl ?_
     refine oA rfl rfl ?_
     refine oN ?_
     refine CW_ret ?_)
  all_goals (
   refine exitQ (.inr rfl) 1 (.cons (.tmp rfl rfl) .nil) ?_ rfl (vHc rfl vHn) rfl rfl
   simp only [resV, V.bool.injEq]
   first | (rw [normB, modB_fail (by omega) (by omega) hc]; rfl) | (have e : i = n := (by omega); subst e; rw [normB, hi2]; rfl))
end Go.Proofs.Ytoiolpgmilobnaa
namespace Go.Proofs.Ytoiolpgmilobnaa
attribute [local irreducible] CW OW QW QOp Con thenP inBlockP
set_option maxRecDepth 10000
set_option linter.unusedSimpArgs false
set_option linter.unusedVariables false
theorem fill_set {L : List Int} {i N : Nat} (h : i < N) (hL : L.length = N) : (L.take i ++ List.replicate (N - i) 0).set i (L.getD i 0) = L.take (i + 1) ++ List.replicate (N - (i + 1)) 0 := by
  have e : N - i = (N - (i + 1)) + 1 := by omega
  rw [e, List.replicate_succ, take_snoc (by omega), List.set_append_right _ _ (by simp; omega)]
  have : i - (L.take i).length = 0 := by simp; omega
  rw [this]
  simp
end Go.Proofs.Ytoiolpgmilobnaa
namespace Go.Proofs.Ytoiolpgmilobnaa
section
variable {c : Cx} {Q : Post} {F : Fr} {H : Hp} {n : Nat} {ops : Array Oper} {rest : List Oper} {d : Nat} {ty : TypeId} {pos : String} {af : Array Edge}
/-- append to a row of the call's own: the told part A, what is put behind it -/
theorem oApp {t t2 : TypeId} {ats : Array TypeId} {x y : Operand} {i i2 ie : TI} {e e2 sz b b' m k q q' by_ t' : Nat} {A sp xl : List Int}
    (hat : ats = #[t, t2]) (ht : lkT c.T t = some i) (hd : i.d = .slice e) (ht2 : lkT c.T t2 = some i2) (hd2 : i2.d = .slice e2) (he : lkT c.T e = some ie) (hz : ZI ie sz) (hby : ie.bytes = by_) (hb0 : Nat.blt 0 by_ = true)
    (hx : ev c F x = some (.slice b 0 m k)) (hy : ev c F y = some (.slice b' 0 q q')) (hb : lkB H b = some (.ints e (A ++ sp))) (hb' : lkB H b' = some (.ints t' xl)) (hA : A.length = m * sz) (hxl : xl.length = q * sz) (hroom : k * sz ≤ m * sz + sp.length) (hnk : m ≤ k)
    (hlim : (2 * (m + q) + 192) * by_ ≤ 281474976710656) (h63 : m + q ≤ 1000000000000) (hN : Nat.blt d c.N = true) (hn : Nat.blt n 1000 = true)
    (h : ∀ (k' : Nat) (sp' : List Int), m + q ≤ k' → k' * sz ≤ (m + q) * sz + sp'.length → OW c ops Q rest ⟨(d, .slice n 0 (m + q) k') :: F, (n, .ints e ((A ++ xl) ++ sp')) :: (b, .dead) :: H, n + 1⟩) :
    OW c ops Q (⟨some d, .call ⟨.builtin .append, #[x, y], ats⟩, ty, pos, af, none⟩ :: rest) ⟨F, H, n⟩ := by
  have hv : IsSl H sz (.slice b' 0 q q') q xl := by
    have := IsSl.mk (sz := sz) (k := q') hb' (show 0 + q * sz ≤ xl.length by omega)
    rwa [List.drop_zero, ← hxl, List.take_length] at this
  refine oAppOwn hat ht hd ht2 hd2 he hz hby hb0 hx hy hb hv (by rw [List.length_append, hA]; exact hroom) hnk hlim h63 hN hn fun k' spare h1 h2 => ?_
  have e1 : (A ++ sp).take (m * sz) = A := by rw [← hA]; simp
  rw [e1]
  exact h k' spare h1 h2
theorem putI_all {l : List Int} {sz : Nat} (h : l.length = sz) : putI (List.replicate sz 0) 0 l = l := by
  have key : ∀ (m z pre : List Int), z.length = m.length → putI (pre ++ z) pre.length m = pre ++ m := by
    intro m
    induction m with
    | nil => intro z pre h; simp [putI, List.eq_nil_of_length_eq_zero h]
    | cons x m ih =>
      intro z pre h
      match z, h with
      | y :: z, h =>
        have := ih z (pre ++ [x]) (by simpa using h)
        simp only [List.length_append, List.length_cons, List.length_nil, Nat.zero_add, List.append_assoc, List.cons_append, List.nil_append] at this
        simp only [putI]
        refine Eq.trans ?_ this
        congr 1
        simp
  have := key l (List.replicate sz 0) [] (by simp [h])
  simpa using this
/-- a slice of one array -/
theorem oBsl1 {t : TypeId} {ps : List (Nat × Operand)} {l : List Int} {i ie : TI} {e sz : Nat} (hl : l.length = sz) (ht : lkT c.T t = some i) (hd : i.d = .slice e) (he : lkT c.T e = some ie) (hs : ie.size = sz) (hz : ie.z = some (.arr (List.replicate sz 0))) (h0 : Nat.blt 0 sz = true)
    (hp : evp c F ps = some [(0, .arr l)]) (hlim : Nat.ble sz 16777216 = true) (hN : Nat.blt d c.N = true) (hn : Nat.blt n 1000 = true) (h : OW c ops Q rest ⟨(d, .slice n 0 1 1) :: F, (n, .ints e l) :: H, n + 1⟩) : OW c ops Q (⟨some d, .buildSlice t 1 ps.toArray, ty, pos, af, none⟩ :: rest) ⟨F, H, n⟩ := by
  have e1 : fillI sz (List.replicate (1 * sz) 0) [(0, V.arr l)] = some l := by simp only [fillI, Nat.one_mul, Nat.zero_mul, putI_all hl]
  exact oBsl ht hd he hs (.inr ⟨hz, rfl, by simpa [Nat.blt_eq] using h0⟩) hp e1 (by simp [okParts, hl]) (by simpa using hlim) hN hn h
/-- one number of a written out list -/
theorem Q_ldc {s : S} {dst : Option Tmp} {g : Option (Nat × Bool)} {x : Operand} {t t' : TypeId} {i : TI} {b o : Nat} {l : List Int} {m : Int} (ht : lkT c.T t = some i) (hd : i.d = .int .i64) (hx : ev c s.F x = some (.ptr b o)) (hb : lkB s.H b = some (.ints t' l)) (h : l[o]? = some m) :
    QOp c ⟨dst, .load t x, ty, pos, af, g⟩ s (.int m) := by
  have hl : o < l.length := by
    rcases Nat.lt_or_ge o l.length with h' | h'
    · exact h'
    · rw [List.getElem?_eq_none h'] at h; cases h
  have := Q_ld (c := c) (s := s) (dst := dst) (ty := ty) (pos := pos) (af := af) (g := g) ht hd hx hb hl
  rwa [show l.getD o 0 = m by simp [List.getD, h]] at this
/-- the end of a function whose heap has turned -/
theorem exitH {s : S} {rs : List ResultVar} {R : V → Hp → Prop} {r0 : V} {H0 : Hp} {e : Exit} {vs : List V} (he : e = .normal ∨ e = .ret) (l : List (Nat × Nat)) (n' : Nat) (hvs : RVs c s rs vs) (hr : resV vs = ren (ap l) r0) (hn : nb r0 = true)
    (hD : (c.D.all fun d => Nat.beq (ap l d) d) = true) (hH : vH (ap l) s.H H0) (hwf : wfB c.D ⟨[(0, r0)], H0, n'⟩ = true) (hinj : injB (ap l) (ids H0) = true) (hR : R r0 H0) : exitP c rs R e s :=
  ⟨he, vs, r0, H0, n', hvs, View.mk' l hD hwf hinj ⟨by rw [← hr]; rfl, trivial⟩ hH, hn, hR⟩
/-- a call by a contract, the outcome written out -/
theorem oCall {f : Nat} {xs : List Operand} {ats : Array TypeId} {vs args0 : List V} {gl' : List (Nat × Nat)} {H0 : Hp} {R : V → Hp → Prop}
    (con : Con c.P gl' f args0 H0 R) (σ : List (Nat × Nat)) (M : Nat) (hx : evs c F xs = some vs) (hargs : vs = rens (ap σ) args0) (hfit : Fits c ⟨F, H, n⟩ (ap σ) gl' H0) (hM : Nat.ble (n + M) 1000 = true) (hN : Nat.blt d c.N = true)
    (h : ∀ r H1, R r H1 → ∃ v' Hn, scM H0 M r H1 = true ∧ ren (σ' H0 (ap σ) n) r = v' ∧ (H1.map fun x => (σ' H0 (ap σ) n x.1, x.2.ren (σ' H0 (ap σ) n))) = Hn ∧ OW c ops Q rest ⟨(d, v') :: F, Hn ++ H, n + M⟩) :
    OW c ops Q (⟨some d, .call ⟨.value (.func f), xs.toArray, ats⟩, ty, pos, af, none⟩ :: rest) ⟨F, H, n⟩ := by
  refine OW_call con σ M hx hargs hfit hM hN fun r H1 hR => ?_
  obtain ⟨v', Hn, h1, rfl, rfl, h2⟩ := h r H1 hR
  exact ⟨h1, h2⟩
end
theorem mul_bds {a b A B : Int} (h0 : -A ≤ a) (h1 : a ≤ A) (h2 : -B ≤ b) (h3 : b ≤ B) : -(A * B) ≤ a * b ∧ a * b ≤ A * B := by
  have hA : 0 ≤ A := by omega
  have hB : 0 ≤ B := by omega
  have e : (a * b).natAbs ≤ (A * B).natAbs := by
    rw [Int.natAbs_mul, Int.natAbs_mul]
    exact Nat.mul_le_mul (by omega) (by omega)
  have : 0 ≤ A * B := Int.mul_nonneg hA hB
  omega
section
variable {c : Cx} {Q : Post} {F : Fr} {H : Hp} {n : Nat} {ops : Array Oper} {rest : List Oper} {d : Nat} {ty : TypeId} {pos : String} {af : Array Edge} {K : S → Prop} {t t' : TypeId} {x y : Operand} {m k : Int}
/-- a product that stays in range, under a name of its own -/
theorem oMul (A B : Int) (hx : ev c F x = some (.int m)) (hy : ev c F y = some (.int k)) (ha : -A ≤ m ∧ m ≤ A) (hb : -B ≤ k ∧ k ≤ B) (hAB : A * B ≤ 9223372036854775807) (hN : Nat.blt d c.N = true)
    (h : ∀ z, z = m * k → -(A * B) ≤ z → z ≤ A * B → OW c ops Q rest ⟨(d, .int z) :: F, H, n⟩) : OW c ops Q (⟨some d, .binOp .mul t x y t', ty, pos, af, none⟩ :: rest) ⟨F, H, n⟩ := by
  have hm := mul_bds ha.1 ha.2 hb.1 hb.2
  exact oQ (Q_binu hx hy rfl (by omega)) hN rfl (h _ rfl hm.1 hm.2)
theorem mulN_bds {a b A B : Int} (h0 : 0 ≤ a) (h1 : a ≤ A) (h2 : 0 ≤ b) (h3 : b ≤ B) : 0 ≤ a * b ∧ a * b ≤ A * B :=
  ⟨Int.mul_nonneg h0 h2, Int.mul_le_mul h1 h3 h2 (Int.le_trans h0 h1)⟩
theorem Q_nrem {dst : Option Tmp} {s : S} {g : Option (Nat × Bool)} {a b : Nat} (hx : ev c s.F x = some (.int (a : Int))) (hy : ev c s.F y = some (.int (b : Int))) (h : b ≠ 0) : QOp c ⟨dst, .binOp .rem t x y t', ty, pos, af, g⟩ s (.int ((a % b : Nat) : Int)) := by
  have := Q_rem (c := c) (s := s) (dst := dst) (ty := ty) (pos := pos) (af := af) (g := g) (t := t) (t' := t') hx hy (by omega)
  rwa [Int.tmod_eq_emod_of_nonneg (by omega), ← Int.natCast_emod] at this
end
/-- the numbers of a product stay small -/
theorem mul_bd {a b A B : Int} (h0 : 0 ≤ a) (h1 : a ≤ A) (h2 : 0 ≤ b) (h3 : b ≤ B) : 0 ≤ a * b ∧ a * b ≤ A * B :=
  ⟨Int.mul_nonneg h0 h2, Int.mul_le_mul h1 h3 h2 (Int.le_trans h0 h1)⟩
theorem mul_rng {a b p : Int} (h0 : 0 ≤ a) (h1 : a < p) (h2 : 0 ≤ b) (h3 : b < p) (hp : p ≤ 1000000) : -9223372036854775808 ≤ a * b ∧ a * b ≤ 9223372036854775807 := by
  have := mul_bd h0 (show a ≤ 1000000 by omega) h2 (show b ≤ 1000000 by omega)
  omega
end Go.Proofs.Ytoiolpgmilobnaa
namespace Go.Proofs.Ytoiolpgmilobnaa
attribute [local irreducible] CW OW QW QOp Con thenP inBlockP
set_option maxRecDepth 10000
set_option linter.unusedSimpArgs false
set_option linter.unusedVariables false
theorem take_eq_snoc {A B : List Int} {i : Nat} (hA : i < A.length) (hB : i < B.length) (h : A.take i = B.take i) (h2 : A.getD i 0 = B.getD i 0) : A.take (i + 1) = B.take (i + 1) := by
  rw [take_snoc hA, take_snoc hB, h, h2]
theorem take_ne {A B : List Int} {i n : Nat} (hA : i < A.length) (hB : i < B.length) (hn : i < n) (h2 : A.getD i 0 ≠ B.getD i 0) : A.take n ≠ B.take n := by
  intro h
  apply h2
  have := congrArg (fun l => l.getD i 0) h
  simpa [List.getD, List.getElem?_take, hn] using this
end Go.Proofs.Ytoiolpgmilobnaa
namespace Go.Proofs.Ytoiolpgmilobnaa
/-- the inverse of a number modulo p; 0 if it has none -/
def invN (p n : Int) : Nat := ((List.range p.toNat).find? fun (k : Nat) => n * (k : Int) % p == 1).getD 0
def invP (p n : Int) : Int := invN p n
theorem inv_zero (p : Int) : invP p 0 = 0 := by
  have : (List.range p.toNat).find? (fun (k : Nat) => (0 : Int) * (k : Int) % p == 1) = none := by
    rw [List.find?_eq_none]
    intro x _
    simp
  unfold invP invN
  rw [this]
  rfl
theorem small_cases {p n : Int} (hp : primeB p = true) (h0 : 0 < n) (h1 : n < p) : (p = 3 ∨ p = 5 ∨ p = 7 ∨ p = 11 ∨ p = 13) ∧ (n = 1 ∨ n = 2 ∨ n = 3 ∨ n = 4 ∨ n = 5 ∨ n = 6 ∨ n = 7 ∨ n = 8 ∨ n = 9 ∨ n = 10 ∨ n = 11 ∨ n = 12) := by
  have := prime_cases hp
  exact ⟨this, by omega⟩
theorem inv_un {p n : Int} (hp : primeB p = true) (h0 : 0 < n) (h1 : n < p) {k k' : Int} (a : 0 ≤ k) (b : k < p) (a' : 0 ≤ k') (b' : k' < p) (e : n * k % p = 1) (e' : n * k' % p = 1) : k = k' := by
  obtain ⟨hp, hn⟩ := small_cases hp h0 h1
  rcases hp with rfl | rfl | rfl | rfl | rfl <;> rcases hn with rfl | rfl | rfl | rfl | rfl | rfl | rfl | rfl | rfl | rfl | rfl | rfl <;> omega
theorem inv_ex {p n : Int} (hp : primeB p = true) (h0 : 0 < n) (h1 : n < p) : ∃ k : Nat, k < p.toNat ∧ n * (k : Int) % p = 1 := by
  obtain ⟨hp, hn⟩ := small_cases hp h0 h1
  rcases hp with rfl | rfl | rfl | rfl | rfl <;> rcases hn with rfl | rfl | rfl | rfl | rfl | rfl | rfl | rfl | rfl | rfl | rfl | rfl <;>
    first | (exfalso; omega) | exact ⟨1, by decide, by decide⟩ | exact ⟨2, by decide, by decide⟩ | exact ⟨3, by decide, by decide⟩ | exact ⟨4, by decide, by decide⟩ | exact ⟨5, by decide, by decide⟩ | exact ⟨6, by decide, by decide⟩ | exact ⟨7, by decide, by decide⟩ | exact ⟨8, by decide, by decide⟩ | exact ⟨9, by decide, by decide⟩ | exact ⟨10, by decide, by decide⟩ | exact ⟨11, by decide, by decide⟩ | exact ⟨12, by decide, by decide⟩
theorem inv_spec {p n : Int} (hp : primeB p = true) (h0 : 0 < n) (h1 : n < p) : 1 ≤ invP p n ∧ invP p n < p ∧ n * invP p n % p = 1 := by
  obtain ⟨k, hk1, hk2⟩ := inv_ex hp h0 h1
  have hb := prime_bd hp
  cases hf : (List.range p.toNat).find? (fun (k : Nat) => n * (k : Int) % p == 1) with
  | none =>
    rw [List.find?_eq_none] at hf
    have := hf k (by simpa using hk1)
    simp [hk2] at this
  | some j =>
    have h2 := List.find?_some hf
    have h3 := List.mem_of_find?_eq_some hf
    simp at h2 h3
    have e : invP p n = (j : Int) := by simp [invP, invN, hf]
    rw [e]
    refine ⟨?_, by omega, h2⟩
    have : (j : Int) ≠ 0 := fun h => by rw [h] at h2; simp at h2
    omega
theorem inv_is {p n k : Int} (hp : primeB p = true) (h0 : 0 < n) (h1 : n < p) (a : 0 ≤ k) (b : k < p) (e : n * k % p = 1) : invP p n = k := by
  have := inv_spec hp h0 h1
  exact inv_un hp h0 h1 (by omega) this.2.1 a b this.2.2 e
/-- the factor that makes a list normal: the inverse of its first number that is not 0 -/
def facP (p : Int) (l : List Int) : Int := invP p (fnz (l.map (· % p)))
def normL (p : Int) (l : List Int) : List Int := l.map fun n => n % p * facP p l % p
theorem normL_length (p : Int) (l : List Int) : (normL p l).length = l.length := by simp [normL]
theorem fnz_mem (l : List Int) : fnz l = 0 ∨ fnz l ∈ l := by
  induction l with
  | nil => simp [fnz]
  | cons a r ih =>
    simp only [fnz]
    split
    · rcases ih with h | h
      · exact .inl h
      · exact .inr (List.mem_cons_of_mem _ h)
    · exact .inr (by simp)
theorem fnz_bd {p : Int} (hp : 0 < p) (l : List Int) : 0 ≤ fnz (l.map (· % p)) ∧ fnz (l.map (· % p)) < p := by
  rcases fnz_mem (l.map (· % p)) with h | h
  · omega
  · obtain ⟨x, _, hx⟩ := List.mem_map.1 h
    have h1 := Int.emod_nonneg x (show p ≠ 0 by omega)
    have h2 := Int.emod_lt_of_pos x hp
    omega
theorem fac_bd {p : Int} (hp : primeB p = true) (l : List Int) : 0 ≤ facP p l ∧ facP p l < p := by
  have hb := prime_bd hp
  have hf := fnz_bd (p := p) (by omega) l
  by_cases h : fnz (l.map (· % p)) = 0
  · rw [facP, h, inv_zero]; omega
  · have := inv_spec hp (n := fnz (l.map (· % p))) (by omega) (by omega)
    simp only [facP]; omega
theorem fac_zero {p : Int} (hp : primeB p = true) (l : List Int) : facP p l = 0 ↔ fnz (l.map (· % p)) = 0 := by
  have hb := prime_bd hp
  have hf := fnz_bd (p := p) (by omega) l
  constructor
  · intro h
    by_cases h' : 0 < fnz (l.map (· % p))
    · have := inv_spec hp h' hf.2
      simp only [facP] at h; omega
    · omega
  · intro h; rw [facP, h, inv_zero]
theorem fac_snoc {p : Int} (hp : primeB p = true) (l : List Int) (x : Int) : facP p (l ++ [x]) = if facP p l = 0 then (if x % p = 0 then 0 else invP p (x % p)) else facP p l := by
  have h0 := fac_zero hp l
  have e : facP p (l ++ [x]) = invP p (if fnz (l.map (· % p)) = 0 then (if x % p = 0 then 0 else x % p) else fnz (l.map (· % p))) := by
    simp only [facP, List.map_append, List.map_cons, List.map_nil, fnz_append, fnz]
  rw [e]
  by_cases h : fnz (l.map (· % p)) = 0
  · rw [if_pos h, if_pos (h0.2 h)]
    split
    · exact inv_zero p
    · rfl
  · rw [if_neg h, if_neg fun e => h (h0.1 e)]
    rfl
theorem norm_snoc {p : Int} (hp : primeB p = true) (l : List Int) (x : Int) : normL p (l ++ [x]) = normL p l ++ [x % p * facP p (l ++ [x]) % p] := by
  simp only [normL, List.map_append, List.map_cons, List.map_nil]
  congr 1
  by_cases h : facP p l = 0
  · have hz := (fac_zero hp l).1 h
    have key : ∀ (m : List Int), fnz (m.map (· % p)) = 0 → ∀ n ∈ m, n % p = 0 := by
      intro m
      induction m with
      | nil => simp
      | cons a r ih =>
        intro h n hn
        simp only [List.map_cons, fnz] at h
        split at h
        · rename_i h'
          rcases List.mem_cons.1 hn with rfl | hn
          · exact h'
          · exact ih h n hn
        · rename_i h'; exact absurd h h'
    apply List.map_congr_left
    intro n hn
    simp [key l hz n hn]
  · rw [fac_snoc hp, if_neg h]
end Go.Proofs.Ytoiolpgmilobnaa
namespace Go.Proofs.Ytoiolpgmilobnaa
attribute [local irreducible] CW OW QW QOp Con thenP inBlockP
set_option maxRecDepth 10000
set_option linter.unusedSimpArgs false
set_option linter.unusedVariables false
theorem mid_get {A L : List Int} {i : Nat} (hA : A.length = i) (h : i < L.length) : (A ++ L.drop i)[i]? = some (L.getD i 0) := by
  rw [List.getElem?_append_right (by omega), List.getElem?_drop]
  have : i + (i - A.length) = i := by omega
  rw [this]
  simp [List.getD, h]
theorem mid_set {A L : List Int} {i : Nat} {x : Int} (hA : A.length = i) (h : i < L.length) : (A ++ L.drop i).set i x = (A ++ [x]) ++ L.drop (i + 1) := by
  have : i - A.length = 0 := by omega
  rw [List.set_append_right _ _ (by omega), this, List.drop_eq_getElem_cons h, List.set_cons_zero, List.append_assoc]
  rfl
theorem mod_bd {p : Int} (hp : primeB p = true) (x : Int) : 0 ≤ x % p ∧ x % p < p := by
  have := prime_bd hp
  exact ⟨Int.emod_nonneg x (by omega), Int.emod_lt_of_pos x (by omega)⟩
theorem invz_bd {p : Int} (hp : primeB p = true) {n : Int} (h0 : 0 ≤ n) (h1 : n < p) : 0 ≤ invP p n ∧ invP p n < p := by
  have hb := prime_bd hp
  by_cases h : n = 0
  · subst h; rw [inv_zero]; omega
  · have := inv_spec hp (n := n) (by omega) h1; omega
theorem mod_mod_self (p x : Int) : x % p % p = x % p := Int.emod_emod_of_dvd x (Int.dvd_refl p)
theorem inverse_con (n p : Int) (hp : primeB p = true) (h0 : 0 < n) (h1 : n < p) : ConQ Try.prog [] 129 [.int n, .int p] [] (.int (invP p n)) := by
  have hb := prime_bd hp
  obtain ⟨v1, v2, v3⟩ := inv_spec hp h0 h1
  refine conW tab_ok [(0, .int n), (1, .int p)] 0 [] [] Try.func129 rfl rfl rfl rfl rfl rfl rfl rfl rfl ?_
  refine cR ?_
  refine oA rfl rfl ?_
  refine oN ?_
  refine cR ?_
  refine oA rfl rfl ?_
  refine oN ?_
  refine CW_seq ?_
  refine CW_block ?_
  refine CW_loop (ι := Nat) (fun i => 1 ≤ i ∧ (i : Int) ≤ invP p n) (fun i => ⟨[(0, .int n), (1, .int p), (5, .int i)], [], 0⟩) (fun i => (invP p n).toNat - i) 1 ?_ ?_ ?_
  · exact ⟨Nat.le_refl _, by omega⟩
  · refine View.mk' [] rfl rfl rfl ?_ ?_
    repeat' first | exact vFn | refine vFc rfl ?_ | exact vHn | refine vHc rfl ?_ | refine vFc (congrArg (fun z => some (V.int z)) ?_) ?_ | refine vHc (congrArg (fun z => some (Blk.ints _ z)) ?_) ?_ | refine vFc (congrArg (fun z => some (V.bool z)) ?_) ?_ | refine vFs rfl rfl ?_ ?_
  intro i hi
  obtain ⟨hi1, hi2⟩ := hi
  refine CW_seq ?_
  refine cR ?_
  iterate 2 refine oM rfl rfl ?_
  refine oQ (Q_binu rfl rfl rfl (mul_rng (p := p) (by omega) (by omega) (by omega) (by omega) (by omega))) rfl rfl ?_
  refine oM rfl rfl ?_
  refine oQ (Q_call0 (mod_con _ _ (by omega) (by omega)) rfl rfl rfl) rfl rfl ?_
  refine oQ (Q_bin rfl rfl rfl) rfl rfl ?_
  refine oN ?_
  first | refine cT rfl ?_ | refine cF rfl ?_ | refine CW_cond rfl (fun hc => ?_) (fun hc => ?_)
  all_goals try simp only [s1, s2, s3, s4, s5, s6, s7, s8, s9, s10, s11, s12] at hc
  all_goals first
    | (
     refine CW_skip ?_)
    | (
     refine CW_exit ?_)
  all_goals first
    | with_reducible refine tR ?_
    | with_reducible refine tE ?_
    | (
     with_reducible refine tN ?_
     refine CW_block ?_
     refine CW_region ?_
     refine oM rfl rfl ?_
     first | refine oQ (Q_binu rfl rfl rfl (by omega)) rfl rfl ?_ | refine oQ (Q_bin rfl rfl rfl) rfl rfl ?_
     refine oA rfl rfl ?_
     refine OW_nil ?_
     all_goals first | with_reducible refine bN ?_ | with_reducible refine bE ?_ | with_reducible refine bR ?_ | refine bX rfl ?_)
  all_goals first
    | with_reducible refine tR ?_
    | with_reducible refine tE ?_
    | (
     with_reducible refine tN ?_
     refine ⟨i + 1, ?_, ?_, View.mk' [] rfl rfl rfl ?_ ?_⟩
     · have hne : (i : Int) ≠ invP p n := fun e => by rw [e] at hc; exact hc v3
       exact ⟨by omega, by omega⟩
     · (have hne : (i : Int) ≠ invP p n := (fun e => by rw [e] at hc; exact hc v3)); omega
     all_goals (repeat' first | exact vFn | refine vFc rfl ?_ | exact vHn | refine vHc rfl ?_ | refine vFc (congrArg (fun z => some (V.int z)) ?_) ?_ | refine vHc (congrArg (fun z => some (Blk.ints _ z)) ?_) ?_ | refine vFc (congrArg (fun z => some (V.bool z)) ?_) ?_ | refine vFs rfl rfl ?_ ?_))
  all_goals first | with_reducible refine bN ?_ | with_reducible refine bE ?_ | with_reducible refine bR ?_ | refine bX rfl ?_
  all_goals with_reducible refine tN ?_
  all_goals (
   refine cR ?_
   refine oM rfl rfl ?_
   refine oA rfl rfl ?_
   refine oN ?_
   refine CW_ret ?_)
  all_goals (
   refine exitQ (.inr rfl) 0 (.cons (.tmp rfl rfl) .nil) ?_ rfl vHn rfl rfl
   exact congrArg V.int (inv_is hp h0 h1 (by omega) (by omega) hc).symm)
theorem l01Inverse_con (n p : Int) (hp : primeB p = true) : ConQ Try.prog [] 144 [.int p, .int n] [] (.int (invP p (n % p))) := by
  have hb := prime_bd hp
  have hm := mod_bd hp n
  have hst : n % p = 0 ∨ ((1 : Nat) : Int) ≤ invP p (n % p) := by
    by_cases h0 : n % p = 0
    · exact .inl h0
    · have := inv_spec hp (n := n % p) (by omega) hm.2
      exact .inr (by omega)
  refine conW tab_ok [(0, .int p), (1, .int n)] 0 [] [] Try.func144 rfl rfl rfl rfl rfl rfl rfl rfl rfl ?_
  refine cR ?_
  refine oA rfl rfl ?_
  refine oN ?_
  refine CW_seq ?_
  refine cR ?_
  refine oA rfl rfl ?_
  refine oN ?_
  refine CW_block ?_
  refine CW_loop (ι := Nat) (fun i => 1 ≤ i ∧ (i : Int) ≤ p ∧ (n % p = 0 ∨ (i : Int) ≤ invP p (n % p))) (fun i => ⟨[(0, .int p), (1, .int n), (5, .int i)], [], 0⟩) (fun i => p.toNat - i) 1 ?_ ?_ ?_
  · exact ⟨Nat.le_refl _, by omega, hst⟩
  · refine View.mk' [] rfl rfl rfl ?_ ?_
    repeat' first | exact vFn | refine vFc rfl ?_ | exact vHn | refine vHc rfl ?_ | refine vFc (congrArg (fun z => some (V.int z)) ?_) ?_ | refine vHc (congrArg (fun z => some (Blk.ints _ z)) ?_) ?_ | refine vFc (congrArg (fun z => some (V.bool z)) ?_) ?_ | refine vFs rfl rfl ?_ ?_
  intro i hi
  obtain ⟨hi1, hi2, hi3⟩ := hi
  have hmr : (i : Int) < p → -9223372036854775808 ≤ (i : Int) * (n % p) ∧ (i : Int) * (n % p) ≤ 9223372036854775807 := fun h => mul_rng (by omega) h hm.1 hm.2 (by omega)
  have hm0 : 0 ≤ (i : Int) * (n % p) := Int.mul_nonneg (by omega) hm.1
  refine CW_seq ?_
  refine cR ?_
  iterate 2 refine oM rfl rfl ?_
  refine oQ (Q_bin rfl rfl rfl) rfl rfl ?_
  refine oN ?_
  first | refine cT rfl ?_ | refine cF rfl ?_ | refine CW_cond rfl (fun hc => ?_) (fun hc => ?_)
  all_goals try simp only [s1, s2, s3, s4, s5, s6, s7, s8, s9, s10, s11, s12] at hc
  all_goals first
    | (
     refine CW_skip ?_)
    | (
     refine CW_exit ?_)
  all_goals first
    | with_reducible refine tR ?_
    | with_reducible refine tE ?_
    | (
     with_reducible refine tN ?_
     refine CW_seq ?_
     refine CW_block ?_
     refine cR ?_
     iterate 3 refine oM rfl rfl ?_
     refine oQ (Q_call0 (l01Mod_con _ _ (by omega) (by omega)) rfl rfl rfl) rfl rfl ?_
     first | refine oQ (Q_binu rfl rfl rfl (by omega)) rfl rfl ?_ | refine oQ (Q_bin rfl rfl rfl) rfl rfl ?_
     refine oM rfl rfl ?_
     refine oQ (Q_rem rfl rfl (by omega)) rfl rfl ?_
     refine oQ (Q_bin rfl rfl rfl) rfl rfl ?_
     refine oN ?_
     first | refine cT rfl ?_ | refine cF rfl ?_ | refine CW_cond rfl (fun hc => ?_) (fun hc => ?_)
     all_goals try simp only [s1, s2, s3, s4, s5, s6, s7, s8, s9, s10, s11, s12] at hc
     all_goals first
       | (
        refine CW_skip ?_)
       | (
        refine cR ?_
        refine oM rfl rfl ?_
        refine oA rfl rfl ?_
        refine oN ?_
        refine CW_ret ?_)
     all_goals first | with_reducible refine bN ?_ | with_reducible refine bE ?_ | with_reducible refine bR ?_ | refine bX rfl ?_
     all_goals first
       | with_reducible refine tR ?_
       | with_reducible refine tE ?_
       | (
        with_reducible refine tN ?_
        refine CW_region ?_
        refine oM rfl rfl ?_
        first | refine oQ (Q_binu rfl rfl rfl (by omega)) rfl rfl ?_ | refine oQ (Q_bin rfl rfl rfl) rfl rfl ?_
        refine oA rfl rfl ?_
        refine OW_nil ?_))
  all_goals first
    | with_reducible refine tR ?_
    | with_reducible refine tE ?_
    | (
     with_reducible refine tN ?_
     refine ⟨i + 1, ?_, ?_, View.mk' [] rfl rfl rfl ?_ ?_⟩
     · refine ⟨by omega, by omega, ?_⟩
       rcases hi3 with h0 | h0
       · exact .inl h0
       · refine .inr ?_
         have hpos : 0 < n % p := by
           rcases Int.lt_trichotomy 0 (n % p) with h | h | h
           · exact h
           · rw [← h, inv_zero] at h0; omega
           · omega
         have v := inv_spec hp hpos hm.2
         have hne : (i : Int) ≠ invP p (n % p) := fun e => by apply hc; rw [Int.tmod_eq_emod_of_nonneg hm0, e, Int.mul_comm]; exact v.2.2
         omega
     · omega
     all_goals (repeat' first | exact vFn | refine vFc rfl ?_ | exact vHn | refine vHc rfl ?_ | refine vFc (congrArg (fun z => some (V.int z)) ?_) ?_ | refine vHc (congrArg (fun z => some (Blk.ints _ z)) ?_) ?_ | refine vFc (congrArg (fun z => some (V.bool z)) ?_) ?_ | refine vFs rfl rfl ?_ ?_))
  all_goals first | with_reducible refine bN ?_ | with_reducible refine bE ?_ | with_reducible refine bR ?_ | refine bX rfl ?_
  all_goals first
    | with_reducible refine tR ?_
    | with_reducible refine tE ?_
    | (
     with_reducible refine tN ?_
     refine cR ?_
     refine oA rfl rfl ?_
     refine oN ?_
     refine CW_ret ?_)
  all_goals (
   refine exitQ (.inr rfl) 0 (.cons (.tmp rfl rfl) .nil) ?_ rfl vHn rfl rfl
   refine congrArg V.int ?_
   by_cases h0 : n % p = 0
   · first
       | (rw [h0, inv_zero]; done)
       | (exfalso; rw [h0] at hc; simp at hc)
   · have v := inv_spec hp (n := n % p) (by omega) hm.2
     first
       | (exfalso; omega)
       | (rw [Int.tmod_eq_emod_of_nonneg hm0, Int.mul_comm] at hc
          exact (inv_is hp (n := n % p) (by omega) hm.2 (by omega) (by omega) hc).symm))
theorem norm_mid {p : Int} {L : List Int} {i : Nat} {x : Int} (hp : primeB p = true) (h : i < L.length) (hx : x = L.getD i 0 % p * facP p (L.take (i + 1)) % p) :
    (normL p (L.take i) ++ L.drop i).set i x = normL p (L.take (i + 1)) ++ L.drop (i + 1) := by
  rw [mid_set (by rw [normL_length]; simp; omega) h, take_snoc h, norm_snoc hp, ← take_snoc h, hx]
theorem fac_nil (p : Int) : facP p [] = 0 := by simp [facP, fnz, inv_zero]
theorem fac_step {p : Int} {L : List Int} {i : Nat} (hp : primeB p = true) (h : i < L.length) : facP p (L.take (i + 1)) = if facP p (L.take i) = 0 then (if L.getD i 0 % p = 0 then 0 else invP p (L.getD i 0 % p)) else facP p (L.take i) := by
  rw [take_snoc h, fac_snoc hp]
theorem normal_con (p : Int) (t : TypeId) (L : List Int) (n k : Nat) (hn : n ≤ L.length) (hp : primeB p = true) (hL : n ≤ 1000000000) : Con Try.prog [] 89 [.int p, .slice 0 0 n k] [(0, .ints t L)]
    (fun r H' => r = .bool (facP p (L.take n) != 0) ∧ H' = [(0, .ints t (normL p (L.take n) ++ L.drop n))]) := by
  have hb := prime_bd hp
  refine conW tab_ok [(0, .int p), (1, .slice 0 0 n k)] 1 [0] [0] Try.func89 rfl rfl rfl rfl rfl rfl rfl rfl rfl ?_
  refine cR ?_
  refine oA rfl rfl ?_
  refine oN ?_
  refine cR ?_
  refine oA rfl rfl ?_
  refine oN ?_
  refine CW_seq ?_
  refine cR ?_
  refine oM rfl rfl ?_
  first | refine oQ (Q_len rfl rfl rfl rfl) rfl rfl ?_ | refine oQ (Q_len0 rfl rfl rfl rfl) rfl rfl ?_
  refine oM rfl rfl ?_
  refine oN ?_
  refine CW_block ?_
  refine CW_loop (ι := Nat) (fun i => i ≤ n) (fun i => ⟨[(0, .int p), (1, .slice 0 0 n k), (5, .int (facP p (L.take i))), (8, .slice 0 0 n k), (9, .int n), (10, .int i)], [(0, .ints t (normL p (L.take i) ++ L.drop i))], 1⟩) (fun i => n - i) 0 ?_ ?_ ?_
  · first | trivial | omega | (simp; done) | (simp; omega)
  · refine View.mk' [] rfl rfl rfl ?_ ?_
    repeat' first | exact vFn | refine vFc rfl ?_ | exact vHn | refine vHc rfl ?_ | refine vFc (congrArg (fun z => some (V.int z)) ?_) ?_ | refine vHc (congrArg (fun z => some (Blk.ints _ z)) ?_) ?_ | refine vFc (congrArg (fun z => some (V.bool z)) ?_) ?_ | refine vFs rfl rfl ?_ ?_
    exact (fac_nil p).symm
  intro i hi
  have hfb := fac_bd hp (L.take i)
  have hxb := mod_bd hp (L.getD i 0)
  have hib := invz_bd hp hxb.1 hxb.2
  have hlen : (normL p (L.take i)).length = min i L.length := by rw [normL_length]; simp
  refine cR ?_
  refine oQ (Q_bin rfl rfl rfl) rfl rfl ?_
  refine oN ?_
  refine CW_seq ?_
  first | refine cT rfl ?_ | refine cF rfl ?_ | refine CW_cond rfl (fun hc => ?_) (fun hc => ?_)
  all_goals try simp only [s1, s2, s3, s4, s5, s6, s7, s8, s9, s10, s11, s12] at hc
  all_goals first
    | (
     refine CW_skip ?_)
    | (
     refine CW_exit ?_)
  all_goals first
    | with_reducible refine tR ?_
    | with_reducible refine tE ?_
    | (
     with_reducible refine tN ?_
     refine CW_seq ?_
     refine CW_block ?_
     refine cR ?_
     refine oM rfl rfl ?_
     first | refine oQ (Is0 rfl rfl rfl rfl rfl rfl) rfl rfl ?_ | refine oQ (Is1 rfl rfl rfl rfl rfl rfl) rfl rfl ?_
     refine oQ (Q_ldc rfl rfl rfl rfl (mid_get (by omega) (by omega))) rfl rfl ?_
     iterate 2 refine oA rfl rfl ?_
     refine oN ?_
     refine cR ?_
     iterate 2 refine oM rfl rfl ?_
     refine oQ (Q_call0 (mod_con _ _ (by omega) (by omega)) rfl rfl rfl) rfl rfl ?_
     refine oA rfl rfl ?_
     refine oN ?_
     refine CW_seq ?_
     refine cR ?_
     refine oM rfl rfl ?_
     refine oQ (Q_bin rfl rfl rfl) rfl rfl ?_
     refine oM rfl rfl ?_
     all_goals first | refine oT rfl rfl ?_ | refine o1 rfl rfl rfl ?_ | refine o0 rfl rfl rfl ?_ | refine ogP1 rfl rfl rfl (fun hg => ?_) (fun hg => ?_) | refine ogP0 rfl rfl rfl (fun hg => ?_) (fun hg => ?_)
     all_goals try simp only [s1, s2, s3, s4, s5, s6, s7, s8, s9, s10, s11, s12] at hg
     all_goals first | (refine oM rfl rfl ?_) | skip
     all_goals first | refine oT rfl rfl ?_ | refine o1 rfl rfl rfl ?_ | refine o0 rfl rfl rfl ?_ | refine ogP1 rfl rfl rfl (fun hg => ?_) (fun hg => ?_) | refine ogP0 rfl rfl rfl (fun hg => ?_) (fun hg => ?_)
     all_goals try simp only [s1, s2, s3, s4, s5, s6, s7, s8, s9, s10, s11, s12] at hg
     all_goals first | (refine oQ (Q_bin rfl rfl rfl) rfl rfl ?_) | skip
     all_goals first | refine oQ (Q_pick_t rfl (by with_reducible rfl) rfl rfl) rfl rfl ?_ | refine oQ (Q_pick_f rfl (by with_reducible rfl) rfl rfl) rfl rfl ?_
     all_goals refine oN ?_
     all_goals (
      first | refine cT rfl ?_ | refine cF rfl ?_ | refine CW_cond rfl (fun hc => ?_) (fun hc => ?_)
      all_goals try simp only [s1, s2, s3, s4, s5, s6, s7, s8, s9, s10, s11, s12] at hc
      all_goals first
        | (
         refine CW_skip ?_)
        | (
         refine CW_region ?_
         iterate 2 refine oM rfl rfl ?_
         (have hc' := hc); refine oQ (Q_call0 (inverse_con _ _ hp (by omega) (by omega)) rfl rfl rfl) rfl rfl ?_
         refine oA rfl rfl ?_
         refine OW_nil ?_))
     all_goals with_reducible refine tN ?_
     all_goals (
      refine CW_region ?_
      iterate 4 refine oM rfl rfl ?_
      refine oQ (Q_binu rfl rfl rfl (mul_rng (p := p) (by omega) (by omega) (by omega) (by omega) (by omega))) rfl rfl ?_
      refine oM rfl rfl ?_
      refine oQ (Q_call0 (mod_con _ _ (by omega) (by omega)) rfl rfl rfl) rfl rfl ?_
      first | refine oQ (Is0 rfl rfl rfl rfl rfl rfl) rfl rfl ?_ | refine oQ (Is1 rfl rfl rfl rfl rfl rfl) rfl rfl ?_
      refine oS rfl rfl rfl rfl rfl ?_
      refine OW_nil ?_)
     all_goals first | with_reducible refine bN ?_ | with_reducible refine bE ?_ | with_reducible refine bR ?_ | refine bX rfl ?_
     all_goals with_reducible refine tN ?_
     all_goals (
      refine CW_region ?_
      first | refine oQ (Q_binu rfl rfl rfl (by omega)) rfl rfl ?_ | refine oQ (Q_bin rfl rfl rfl) rfl rfl ?_
      refine oM rfl rfl ?_
      refine OW_nil ?_))
  all_goals first
    | with_reducible refine tR ?_
    | with_reducible refine tE ?_
    | (
     with_reducible refine tN ?_
     refine ⟨i + 1, ?_, ?_, View.mk' [] rfl rfl rfl ?_ ?_⟩
     · omega
     · omega
     all_goals (repeat' first | exact vFn | refine vFc rfl ?_ | exact vHn | refine vHc rfl ?_ | refine vFc (congrArg (fun z => some (V.int z)) ?_) ?_ | refine vHc (congrArg (fun z => some (Blk.ints _ z)) ?_) ?_ | refine vFc (congrArg (fun z => some (V.bool z)) ?_) ?_ | refine vFs rfl rfl ?_ ?_)
     all_goals (have hfs := fac_step hp (L := L) (i := i) (by omega))
     all_goals first | (refine norm_mid hp (by omega) ?_; congr 2; simp_all; done) | (simp_all; done))
  all_goals first | with_reducible refine bN ?_ | with_reducible refine bE ?_ | with_reducible refine bR ?_ | refine bX rfl ?_
  all_goals with_reducible refine tN ?_
  all_goals (
   refine cR ?_
   refine oM rfl rfl ?_
   refine oQ (Q_bin rfl rfl rfl) rfl rfl ?_
   refine oA rfl rfl ?_
   refine oN ?_
   refine CW_ret ?_)
  all_goals (
   have e : i = n := by omega
   subst e
   exact exitH (.inr rfl) [] 1 (.cons (.tmp rfl rfl) .nil) rfl rfl rfl (vHc rfl vHn) rfl rfl ⟨rfl, rfl⟩)
theorem l01Norm_con (p : Int) (t : TypeId) (L : List Int) (n k : Nat) (hn : n ≤ L.length) (hp : primeB p = true) (hL : n ≤ 1000000000) : Con Try.prog [] 122 [.int p, .slice 0 0 n k] [(0, .ints t L)]
    (fun r H' => ∃ k' sp, n ≤ k' ∧ k' ≤ n + sp.length ∧ r = .tuple [.slice 1 0 n k', .bool (facP p (L.take n) != 0)] ∧ H' = [(0, .ints t L), (1, .ints 2 (normL p (L.take n) ++ sp))]) := by
  have hb := prime_bd hp
  refine conW tab_ok [(0, .int p), (1, .slice 0 0 n k)] 1 [0] [0] Try.func122 rfl rfl rfl rfl rfl rfl rfl rfl rfl ?_
  refine cR ?_
  iterate 2 refine oA rfl rfl ?_
  refine oN ?_
  refine cR ?_
  refine oBsl (zl := []) rfl rfl rfl rfl (.inl ⟨rfl, rfl⟩) rfl rfl rfl rfl rfl rfl ?_
  iterate 2 refine oA rfl rfl ?_
  refine oN ?_
  refine CW_seq ?_
  refine cR ?_
  refine oA rfl rfl ?_
  refine oN ?_
  refine CW_block ?_
  refine CW_loop (ι := Nat × Nat × List Int) (fun x => x.1 ≤ n ∧ x.1 ≤ x.2.1 ∧ x.2.1 ≤ x.1 + x.2.2.length) (fun x => ⟨[(0, .int p), (1, .slice 0 0 n k), (6, .int (facP p (L.take x.1))), (7, .slice 1 0 x.1 x.2.1), (8, .int x.1)], [(0, .ints t L), (1, .ints 2 (normL p (L.take x.1) ++ x.2.2))], 2⟩) (fun x => n - x.1) (0, 0, []) ?_ ?_ ?_
  · exact ⟨Nat.zero_le _, Nat.le_refl _, Nat.le_refl _⟩
  · refine View.mk' [] rfl rfl rfl ?_ ?_
    repeat' first | exact vFn | refine vFc rfl ?_ | exact vHn | refine vHc rfl ?_ | refine vFc (congrArg (fun z => some (V.int z)) ?_) ?_ | refine vHc (congrArg (fun z => some (Blk.ints _ z)) ?_) ?_ | refine vFc (congrArg (fun z => some (V.bool z)) ?_) ?_ | refine vFs rfl rfl ?_ ?_
    exact (fac_nil p).symm
  rintro ⟨i, k', sp⟩ ⟨hi, hi2, hi3⟩
  dsimp only at hi hi2 hi3 ⊢
  have hfb := fac_bd hp (L.take i)
  have hxb := mod_bd hp (L.getD i 0)
  have hib := invz_bd hp hxb.1 hxb.2
  have hlen : (normL p (L.take i)).length = i * 1 := by rw [normL_length]; simp; omega
  refine CW_seq ?_
  refine cR ?_
  iterate 2 refine oM rfl rfl ?_
  first | refine oQ (Q_len rfl rfl rfl rfl) rfl rfl ?_ | refine oQ (Q_len0 rfl rfl rfl rfl) rfl rfl ?_
  refine oQ (Q_bin rfl rfl rfl) rfl rfl ?_
  refine oN ?_
  first | refine cT rfl ?_ | refine cF rfl ?_ | refine CW_cond rfl (fun hc => ?_) (fun hc => ?_)
  all_goals try simp only [s1, s2, s3, s4, s5, s6, s7, s8, s9, s10, s11, s12] at hc
  all_goals first
    | (
     refine CW_skip ?_)
    | (
     refine CW_exit ?_)
  all_goals first
    | with_reducible refine tR ?_
    | with_reducible refine tE ?_
    | (
     with_reducible refine tN ?_
     refine CW_seq ?_
     refine CW_block ?_
     refine cR ?_
     iterate 3 refine oM rfl rfl ?_
     first | refine oQ (Is0 rfl rfl rfl rfl rfl rfl) rfl rfl ?_ | refine oQ (Is1 rfl rfl rfl rfl rfl rfl) rfl rfl ?_
     refine oQ (Ld rfl rfl rfl rfl) rfl rfl ?_
     refine oQ (Q_call0 (l01Mod_con _ _ (by omega) (by omega)) rfl rfl rfl) rfl rfl ?_
     refine oA rfl rfl ?_
     refine oN ?_
     refine CW_seq ?_
     refine cR ?_
     refine oM rfl rfl ?_
     refine oQ (Q_bin rfl rfl rfl) rfl rfl ?_
     refine oM rfl rfl ?_
     all_goals first | refine oT rfl rfl ?_ | refine o1 rfl rfl rfl ?_ | refine o0 rfl rfl rfl ?_ | refine ogP1 rfl rfl rfl (fun hg => ?_) (fun hg => ?_) | refine ogP0 rfl rfl rfl (fun hg => ?_) (fun hg => ?_)
     all_goals try simp only [s1, s2, s3, s4, s5, s6, s7, s8, s9, s10, s11, s12] at hg
     all_goals first | (refine oM rfl rfl ?_) | skip
     all_goals first | refine oT rfl rfl ?_ | refine o1 rfl rfl rfl ?_ | refine o0 rfl rfl rfl ?_ | refine ogP1 rfl rfl rfl (fun hg => ?_) (fun hg => ?_) | refine ogP0 rfl rfl rfl (fun hg => ?_) (fun hg => ?_)
     all_goals try simp only [s1, s2, s3, s4, s5, s6, s7, s8, s9, s10, s11, s12] at hg
     all_goals first | (refine oQ (Q_bin rfl rfl rfl) rfl rfl ?_) | skip
     all_goals first | refine oQ (Q_pick_t rfl (by with_reducible rfl) rfl rfl) rfl rfl ?_ | refine oQ (Q_pick_f rfl (by with_reducible rfl) rfl rfl) rfl rfl ?_
     all_goals refine oN ?_
     all_goals (
      first | refine cT rfl ?_ | refine cF rfl ?_ | refine CW_cond rfl (fun hc => ?_) (fun hc => ?_)
      all_goals try simp only [s1, s2, s3, s4, s5, s6, s7, s8, s9, s10, s11, s12] at hc
      all_goals first
        | (
         refine CW_skip ?_)
        | (
         refine CW_region ?_
         iterate 2 refine oM rfl rfl ?_
         (have e9 := mod_mod_self p (L.getD i 0))
         refine oQ (Q_call0 (l01Inverse_con _ _ hp) rfl rfl rfl) rfl rfl ?_
         rw [e9]
         refine oA rfl rfl ?_
         refine OW_nil ?_))
     all_goals with_reducible refine tN ?_
     all_goals (
      refine CW_region ?_
      iterate 3 refine oM rfl rfl ?_
      refine oQ (Q_binu rfl rfl rfl (mul_rng (p := p) (by omega) (by omega) (by omega) (by omega) (by omega))) rfl rfl ?_
      refine oM rfl rfl ?_
      refine oQ (Q_rem rfl rfl (by omega)) rfl rfl ?_
      refine oBsl (zl := []) rfl rfl rfl rfl (.inl ⟨rfl, rfl⟩) rfl rfl rfl rfl rfl rfl ?_
      refine oApp (sz := 1) (by_ := 8) rfl rfl rfl rfl rfl rfl ⟨by decide, rfl, .inl ⟨rfl, rfl⟩⟩ rfl rfl rfl rfl rfl rfl hlen rfl (by omega) hi2 (by omega) (by omega) rfl rfl (fun k2 sp2 h1 h2 => ?_)
      refine oA rfl rfl ?_
      refine OW_nil ?_)
     all_goals first | with_reducible refine bN ?_ | with_reducible refine bE ?_ | with_reducible refine bR ?_ | refine bX rfl ?_
     all_goals with_reducible refine tN ?_
     all_goals (
      refine CW_region ?_
      refine oM rfl rfl ?_
      first | refine oQ (Q_binu rfl rfl rfl (by omega)) rfl rfl ?_ | refine oQ (Q_bin rfl rfl rfl) rfl rfl ?_
      refine oA rfl rfl ?_
      refine OW_nil ?_))
  all_goals first
    | with_reducible refine tR ?_
    | with_reducible refine tE ?_
    | (
     with_reducible refine tN ?_
     refine ⟨(i + 1, k2, sp2), ?_, ?_, View.mk' [(1, 3)] rfl rfl rfl ?_ ?_⟩
     · exact ⟨by omega, by simpa using h1, by simpa using h2⟩
     · omega
     all_goals (repeat' first | exact vFn | refine vFc rfl ?_ | exact vHn | refine vHc rfl ?_ | refine vFc (congrArg (fun z => some (V.int z)) ?_) ?_ | refine vHc (congrArg (fun z => some (Blk.ints _ z)) ?_) ?_ | refine vFc (congrArg (fun z => some (V.bool z)) ?_) ?_ | refine vFs rfl rfl ?_ ?_)
     all_goals (have hfs := fac_step hp (L := L) (i := i) (by omega))
     all_goals first | (refine congrArg (fun z => z ++ sp2) ?_; rw [take_snoc (show i < L.length by omega), norm_snoc hp, ← take_snoc (show i < L.length by omega), Int.tmod_eq_emod_of_nonneg (Int.mul_nonneg (by omega) (by omega))]; congr 4; simp_all; done) | (simp_all; done))
  all_goals first | with_reducible refine bN ?_ | with_reducible refine bE ?_ | with_reducible refine bR ?_ | refine bX rfl ?_
  all_goals with_reducible refine tN ?_
  all_goals (
   refine cR ?_
   iterate 2 refine oM rfl rfl ?_
   refine oQ (Q_bin rfl rfl rfl) rfl rfl ?_
   iterate 2 refine oA rfl rfl ?_
   refine oN ?_
   refine CW_ret ?_)
  all_goals (
   have e : i = n := by omega
   subst e
   exact exitH (.inr rfl) [] 2 (.cons (.tmp rfl rfl) (.cons (.tmp rfl rfl) .nil)) rfl rfl rfl (vHc rfl (vHc rfl vHn)) rfl rfl ⟨k', sp, hi2, hi3, rfl, rfl⟩)
end Go.Proofs.Ytoiolpgmilobnaa
namespace Go.Proofs.Ytoiolpgmilobnaa
attribute [local irreducible] CW OW QW QOp Con thenP inBlockP
set_option maxRecDepth 10000
set_option linter.unusedSimpArgs false
set_option linter.unusedVariables false
/-- the numbers m, m + 1, .., n of them -/
def seqL (m n : Nat) : List Int := (List.range' m n).map fun (i : Nat) => (i : Int)
theorem seqL_length (m n : Nat) : (seqL m n).length = n := by simp [seqL]
theorem seqL_snoc (m n : Nat) : seqL m (n + 1) = seqL m n ++ [((m + n : Nat) : Int)] := by
  simp [seqL, List.range'_concat]
theorem seqL_get {m n i : Nat} (h : i < n) : (seqL m n).getD i 0 = ((m + i : Nat) : Int) := by
  simp [seqL, List.getD, h]
theorem seqL_at {m n i : Nat} {sp : List Int} (h : i < n) : (seqL m n ++ sp)[i]? = some ((m + i : Nat) : Int) := by
  rw [List.getElem?_append_left (by rw [seqL_length]; exact h)]
  have := seqL_get (m := m) h
  rw [List.getD, List.getElem?_eq_getElem (by rw [seqL_length]; exact h)] at this
  rw [List.getElem?_eq_getElem (by rw [seqL_length]; exact h)]
  simpa using this
end Go.Proofs.Ytoiolpgmilobnaa
namespace Go.Proofs.Ytoiolpgmilobnaa
attribute [local irreducible] CW OW QW QOp Con thenP inBlockP
set_option maxRecDepth 10000
set_option linter.unusedSimpArgs false
set_option linter.unusedVariables false
theorem take_elem {A B : List Int} {sz i n : Nat} (hi : i < n) (h : A.take (n * sz) = B.take (n * sz)) : (A.drop (i * sz)).take sz = (B.drop (i * sz)).take sz := by
  have h1 : (i + 1) * sz ≤ n * sz := Nat.mul_le_mul_right sz hi
  rw [Nat.add_mul, Nat.one_mul] at h1
  have := congrArg (fun l => (l.drop (i * sz)).take sz) h
  simp only [List.drop_take, List.take_take] at this
  rwa [Nat.min_eq_left (by omega)] at this
theorem toPoint_con (l : List Int) (hl : l.length = 3) : ConQ Try.prog [] 22 [.arr l] [] (.arr l) := by
  refine conW tab_ok [(0, .arr l)] 0 [] [] Try.func22 rfl rfl rfl rfl rfl rfl rfl rfl rfl ?_
  refine cR ?_
  refine oBox rfl rfl rfl rfl rfl rfl ?_
  refine oAlloc rfl rfl rfl rfl rfl rfl rfl ?_
  refine oN ?_
  refine cR ?_
  refine oAlloc rfl rfl rfl rfl rfl rfl rfl ?_
  refine oN ?_
  refine CW_seq ?_
  refine cR ?_
  refine oA rfl rfl ?_
  refine oN ?_
  refine CW_block ?_
  refine CW_loop (ι := Nat) (fun i => i ≤ 3) (fun i => ⟨[(1, .ptr 0 0), (2, .ptr 1 0), (3, .ptr 2 0), (4, .int i)], [(0, .ints 31 l), (1, .ints 32 [0, 0, 0]), (2, .ints 32 (l.take i ++ List.replicate (3 - i) 0))], 3⟩) (fun i => 3 - i) 0 ?_ ?_ ?_
  · first | trivial | omega | (simp; done) | (simp; omega)
  · refine View.mk' [] rfl rfl rfl ?_ ?_
    repeat' first | exact vFn | refine vFc rfl ?_ | exact vHn | refine vHc rfl ?_ | refine vFc (congrArg (fun z => some (V.int z)) ?_) ?_ | refine vHc (congrArg (fun z => some (Blk.ints _ z)) ?_) ?_ | refine vFc (congrArg (fun z => some (V.bool z)) ?_) ?_ | refine vFs rfl rfl ?_ ?_
  intro i hi
  refine CW_seq ?_
  refine cR ?_
  refine oM rfl rfl ?_
  refine oQ (Q_bin rfl rfl rfl) rfl rfl ?_
  refine oN ?_
  first | refine cT rfl ?_ | refine cF rfl ?_ | refine CW_cond rfl (fun hc => ?_) (fun hc => ?_)
  all_goals try simp only [s1, s2, s3, s4, s5, s6, s7, s8, s9, s10, s11, s12] at hc
  all_goals first
    | (
     refine CW_skip ?_)
    | (
     refine CW_exit ?_)
  all_goals first
    | with_reducible refine tR ?_
    | with_reducible refine tE ?_
    | (
     with_reducible refine tN ?_
     refine CW_seq ?_
     refine CW_block ?_
     refine CW_region ?_
     iterate 2 refine oM rfl rfl ?_
     first | refine oQ (Ia0 rfl rfl rfl rfl rfl rfl) rfl rfl ?_ | refine oQ (Ia1 rfl rfl rfl rfl rfl rfl) rfl rfl ?_
     refine oQ (Ld rfl rfl rfl rfl) rfl rfl ?_
     first | refine oQ (Ia0 rfl rfl rfl rfl rfl rfl) rfl rfl ?_ | refine oQ (Ia1 rfl rfl rfl rfl rfl rfl) rfl rfl ?_
     refine oS rfl rfl rfl rfl rfl ?_
     refine OW_nil ?_
     all_goals first | with_reducible refine bN ?_ | with_reducible refine bE ?_ | with_reducible refine bR ?_ | refine bX rfl ?_
     all_goals with_reducible refine tN ?_
     all_goals (
      refine CW_region ?_
      refine oM rfl rfl ?_
      first | refine oQ (Q_binu rfl rfl rfl (by omega)) rfl rfl ?_ | refine oQ (Q_bin rfl rfl rfl) rfl rfl ?_
      refine oA rfl rfl ?_
      refine OW_nil ?_))
  all_goals first
    | with_reducible refine tR ?_
    | with_reducible refine tE ?_
    | (
     with_reducible refine tN ?_
     refine ⟨i + 1, ?_, ?_, View.mk' [] rfl rfl rfl ?_ ?_⟩
     · omega
     · omega
     all_goals (repeat' first | exact vFn | refine vFc rfl ?_ | exact vHn | refine vHc rfl ?_ | refine vFc (congrArg (fun z => some (V.int z)) ?_) ?_ | refine vHc (congrArg (fun z => some (Blk.ints _ z)) ?_) ?_ | refine vFc (congrArg (fun z => some (V.bool z)) ?_) ?_ | refine vFs rfl rfl ?_ ?_)
     all_goals exact fill_set (by omega) hl)
  all_goals first | with_reducible refine bN ?_ | with_reducible refine bE ?_ | with_reducible refine bR ?_ | refine bX rfl ?_
  all_goals with_reducible refine tN ?_
  all_goals (
   refine cR ?_
   first | refine oQ (Lw rfl rfl rfl rfl) rfl rfl ?_ | refine oQ (La rfl rfl rfl rfl rfl) rfl rfl ?_
   first | refine oSw rfl rfl rfl rfl ?_ | refine oSa rfl rfl rfl rfl ?_
   refine oN ?_
   refine CW_ret ?_)
  all_goals (
   have e : i = 3 := by omega
   subst e
   refine exitQ (.inr rfl) 0 (.cons (.arr rfl rfl rfl rfl (by simp [hl])) .nil) ?_ rfl vHn rfl rfl
   simp [resV, ← hl])
theorem eqPoint_con (a b : List Int) (ha : a.length = 3) (hb : b.length = 3) : ConQ Try.prog [] 20 [.arr a, .arr b] [] (.bool (decide (a = b))) := by
  refine conW tab_ok [(0, .arr a), (1, .arr b)] 0 [] [] Try.func20 rfl rfl rfl rfl rfl rfl rfl rfl rfl ?_
  refine cR ?_
  iterate 2 refine oBox rfl rfl rfl rfl rfl rfl ?_
  refine oA rfl rfl ?_
  refine oN ?_
  refine CW_seq ?_
  refine cR ?_
  refine oA rfl rfl ?_
  refine oN ?_
  refine CW_block ?_
  refine CW_loop (ι := Nat) (fun i => i ≤ 3 ∧ a.take i = b.take i) (fun i => ⟨[(2, .ptr 0 0), (3, .ptr 1 0), (5, .int i)], [(0, .ints 32 a), (1, .ints 32 b)], 2⟩) (fun i => 3 - i) 0 ?_ ?_ ?_
  · exact ⟨Nat.zero_le _, rfl⟩
  · refine View.mk' [] rfl rfl rfl ?_ ?_
    repeat' first | exact vFn | refine vFc rfl ?_ | exact vHn | refine vHc rfl ?_ | refine vFc (congrArg (fun z => some (V.int z)) ?_) ?_ | refine vHc (congrArg (fun z => some (Blk.ints _ z)) ?_) ?_ | refine vFc (congrArg (fun z => some (V.bool z)) ?_) ?_ | refine vFs rfl rfl ?_ ?_
  rintro i ⟨hi, hi2⟩
  refine CW_seq ?_
  refine cR ?_
  refine oM rfl rfl ?_
  refine oQ (Q_bin rfl rfl rfl) rfl rfl ?_
  refine oN ?_
  first | refine cT rfl ?_ | refine cF rfl ?_ | refine CW_cond rfl (fun hc => ?_) (fun hc => ?_)
  all_goals try simp only [s1, s2, s3, s4, s5, s6, s7, s8, s9, s10, s11, s12] at hc
  all_goals first
    | (
     refine CW_skip ?_)
    | (
     refine CW_exit ?_)
  all_goals first
    | with_reducible refine tR ?_
    | with_reducible refine tE ?_
    | (
     with_reducible refine tN ?_
     refine CW_seq ?_
     refine CW_block ?_
     refine CW_seq ?_
     refine CW_draw lateOk (by decide +kernel) ?_
     refine qM rfl rfl ?_
     first | refine qQ (Ia0 rfl rfl rfl rfl rfl rfl) rfl rfl ?_ | refine qQ (Ia1 rfl rfl rfl rfl rfl rfl) rfl rfl ?_
     refine qQ (Ld rfl rfl rfl rfl) rfl rfl ?_
     refine qM rfl rfl ?_
     first | refine qQ (Ia0 rfl rfl rfl rfl rfl rfl) rfl rfl ?_ | refine qQ (Ia1 rfl rfl rfl rfl rfl rfl) rfl rfl ?_
     refine qQ (Ld rfl rfl rfl rfl) rfl rfl ?_
     refine qQ (Q_bin rfl rfl rfl) rfl rfl ?_
     refine QW_nil ?_
     all_goals with_reducible refine tN ?_
     all_goals (
      first | refine cT rfl ?_ | refine cF rfl ?_ | refine CW_cond rfl (fun hc => ?_) (fun hc => ?_)
      all_goals try simp only [s1, s2, s3, s4, s5, s6, s7, s8, s9, s10, s11, s12] at hc
      all_goals first
        | (
         refine CW_skip ?_)
        | (
         refine cR ?_
         refine oA rfl rfl ?_
         refine oN ?_
         refine CW_ret ?_))
     all_goals first | with_reducible refine bN ?_ | with_reducible refine bE ?_ | with_reducible refine bR ?_ | refine bX rfl ?_
     all_goals first
       | with_reducible refine tR ?_
       | with_reducible refine tE ?_
       | (
        with_reducible refine tN ?_
        refine CW_region ?_
        refine oM rfl rfl ?_
        first | refine oQ (Q_binu rfl rfl rfl (by omega)) rfl rfl ?_ | refine oQ (Q_bin rfl rfl rfl) rfl rfl ?_
        refine oA rfl rfl ?_
        refine OW_nil ?_))
  all_goals first
    | with_reducible refine tR ?_
    | with_reducible refine tE ?_
    | (
     with_reducible refine tN ?_
     refine ⟨i + 1, ?_, ?_, View.mk' [] rfl rfl rfl ?_ ?_⟩
     · exact ⟨by omega, take_eq_snoc (by omega) (by omega) hi2 hc⟩
     · omega
     all_goals (repeat' first | exact vFn | refine vFc rfl ?_ | exact vHn | refine vHc rfl ?_ | refine vFc (congrArg (fun z => some (V.int z)) ?_) ?_ | refine vHc (congrArg (fun z => some (Blk.ints _ z)) ?_) ?_ | refine vFc (congrArg (fun z => some (V.bool z)) ?_) ?_ | refine vFs rfl rfl ?_ ?_))
  all_goals first | with_reducible refine bN ?_ | with_reducible refine bE ?_ | with_reducible refine bR ?_ | refine bX rfl ?_
  all_goals first
    | with_reducible refine tR ?_
    | with_reducible refine tE ?_
    | (
     with_reducible refine tN ?_
     refine cR ?_
     refine oA rfl rfl ?_
     refine oN ?_
     refine CW_ret ?_)
  all_goals (
   refine exitQ (.inr rfl) 0 (.cons (.tmp rfl rfl) .nil) ?_ rfl vHn rfl rfl
   simp only [resV, V.bool.injEq]
   first
     | (have e : i = 3 := (by omega); subst e; rw [List.take_of_length_le (by omega), List.take_of_length_le (by omega)] at hi2; simp [hi2]; done)
     | (have h9 := take_ne (A := a) (B := b) (n := 3) (by omega) (by omega) (by omega) hc; symm; exact decide_eq_false (fun h => h9 (by rw [h]))))
theorem eqPointS_con (t t' : TypeId) (A B : List Int) (n k m k' : Nat) (hn : n * 3 ≤ A.length) (hm : m * 3 ≤ B.length) (h6 : n ≤ 1000000000 ∧ m ≤ 1000000000) : ConQ Try.prog [] 24 [.slice 0 0 n k, .slice 1 0 m k'] [(0, .ints t A), (1, .ints t' B)] (.bool (decide (A.take (n * 3) = B.take (m * 3)))) := by
  refine conW tab_ok [(0, .slice 0 0 n k), (1, .slice 1 0 m k')] 2 [0, 1] [0, 1] Try.func24 rfl rfl rfl rfl rfl rfl rfl rfl rfl ?_
  refine cR ?_
  refine oA rfl rfl ?_
  refine oN ?_
  refine CW_seq ?_
  refine cR ?_
  refine oM rfl rfl ?_
  first | refine oQ (Q_len rfl rfl rfl rfl) rfl rfl ?_ | refine oQ (Q_len0 rfl rfl rfl rfl) rfl rfl ?_
  refine oM rfl rfl ?_
  first | refine oQ (Q_len rfl rfl rfl rfl) rfl rfl ?_ | refine oQ (Q_len0 rfl rfl rfl rfl) rfl rfl ?_
  refine oQ (Q_bin rfl rfl rfl) rfl rfl ?_
  refine oN ?_
  first | refine cT rfl ?_ | refine cF rfl ?_ | refine CW_cond rfl (fun hc => ?_) (fun hc => ?_)
  all_goals try simp only [s1, s2, s3, s4, s5, s6, s7, s8, s9, s10, s11, s12] at hc
  all_goals first
    | (
     refine CW_skip ?_)
    | (
     refine cR ?_
     refine oA rfl rfl ?_
     refine oN ?_
     refine CW_ret ?_)
  all_goals first
    | with_reducible refine tR ?_
    | with_reducible refine tE ?_
    | (
     with_reducible refine tN ?_
     refine CW_seq ?_
     refine cR ?_
     refine oA rfl rfl ?_
     refine oN ?_
     refine CW_block ?_
     refine CW_loop (ι := Nat) (fun i => i ≤ n ∧ n = m ∧ A.take (i * 3) = B.take (i * 3)) (fun i => ⟨[(0, .slice 0 0 n k), (1, .slice 1 0 m k'), (5, .int i)], [(0, .ints t A), (1, .ints t' B)], 2⟩) (fun i => n - i) 0 ?_ ?_ ?_
     · exact ⟨Nat.zero_le _, by omega, by simp⟩
     · refine View.mk' [] rfl rfl rfl ?_ ?_
       repeat' first | exact vFn | refine vFc rfl ?_ | exact vHn | refine vHc rfl ?_ | refine vFc (congrArg (fun z => some (V.int z)) ?_) ?_ | refine vHc (congrArg (fun z => some (Blk.ints _ z)) ?_) ?_ | refine vFc (congrArg (fun z => some (V.bool z)) ?_) ?_ | refine vFs rfl rfl ?_ ?_
     intro i hi
     obtain ⟨hi1, hi2, hi3⟩ := hi
     refine CW_seq ?_
     refine cR ?_
     iterate 2 refine oM rfl rfl ?_
     first | refine oQ (Q_len rfl rfl rfl rfl) rfl rfl ?_ | refine oQ (Q_len0 rfl rfl rfl rfl) rfl rfl ?_
     refine oQ (Q_bin rfl rfl rfl) rfl rfl ?_
     refine oN ?_
     first | refine cT rfl ?_ | refine cF rfl ?_ | refine CW_cond rfl (fun hc => ?_) (fun hc => ?_)
     all_goals try simp only [s1, s2, s3, s4, s5, s6, s7, s8, s9, s10, s11, s12] at hc
     all_goals first
       | (
        refine CW_skip ?_)
       | (
        refine CW_exit ?_)
     all_goals first
       | with_reducible refine tR ?_
       | with_reducible refine tE ?_
       | (
        with_reducible refine tN ?_
        refine CW_seq ?_
        refine CW_block ?_
        refine CW_seq ?_
        refine CW_draw lateOk (by decide +kernel) ?_
        iterate 2 refine qM rfl rfl ?_
        first | refine qQ (Q_ixs0z 3 rfl rfl rfl rfl rfl rfl (by first | omega | (dsimp only; omega) | (simp; omega) | (simp; done))) rfl rfl ?_ | refine qQ (Q_ixsz 3 rfl rfl rfl rfl rfl rfl (by first | omega | (dsimp only; omega) | (simp; omega) | (simp; done))) rfl rfl ?_
        first | refine qQ (Lw rfl rfl rfl rfl) rfl rfl ?_ | refine qQ (La rfl rfl rfl rfl rfl) rfl rfl ?_
        iterate 2 refine qM rfl rfl ?_
        first | refine qQ (Q_ixs0z 3 rfl rfl rfl rfl rfl rfl (by first | omega | (dsimp only; omega) | (simp; omega) | (simp; done))) rfl rfl ?_ | refine qQ (Q_ixsz 3 rfl rfl rfl rfl rfl rfl (by first | omega | (dsimp only; omega) | (simp; omega) | (simp; done))) rfl rfl ?_
        first | refine qQ (Lw rfl rfl rfl rfl) rfl rfl ?_ | refine qQ (La rfl rfl rfl rfl rfl) rfl rfl ?_
        refine qQ (Q_call0 (eqPoint_con _ _ (by simp; omega) (by simp; omega)) rfl rfl rfl) rfl rfl ?_
        refine qQ (Q_not rfl) rfl rfl ?_
        refine QW_nil ?_
        all_goals with_reducible refine tN ?_
        all_goals (
         first | refine cT rfl ?_ | refine cF rfl ?_ | refine CW_cond rfl (fun hc => ?_) (fun hc => ?_)
         all_goals try simp only [s1, s2, s3, s4, s5, s6, s7, s8, s9, s10, s11, s12] at hc
         all_goals first
           | (
            refine CW_skip ?_)
           | (
            refine cR ?_
            refine oA rfl rfl ?_
            refine oN ?_
            refine CW_ret ?_))
        all_goals first | with_reducible refine bN ?_ | with_reducible refine bE ?_ | with_reducible refine bR ?_ | refine bX rfl ?_
        all_goals first
          | with_reducible refine tR ?_
          | with_reducible refine tE ?_
          | (
           with_reducible refine tN ?_
           refine CW_region ?_
           refine oM rfl rfl ?_
           first | refine oQ (Q_binu rfl rfl rfl (by omega)) rfl rfl ?_ | refine oQ (Q_bin rfl rfl rfl) rfl rfl ?_
           refine oA rfl rfl ?_
           refine OW_nil ?_))
     all_goals first
       | with_reducible refine tR ?_
       | with_reducible refine tE ?_
       | (
        with_reducible refine tN ?_
        refine ⟨i + 1, ?_, ?_, View.mk' [] rfl rfl rfl ?_ ?_⟩
        · exact ⟨by omega, hi2, by rw [Nat.add_mul, Nat.one_mul, List.take_add, List.take_add, hi3, hc]⟩
        · omega
        all_goals (repeat' first | exact vFn | refine vFc rfl ?_ | exact vHn | refine vHc rfl ?_ | refine vFc (congrArg (fun z => some (V.int z)) ?_) ?_ | refine vHc (congrArg (fun z => some (Blk.ints _ z)) ?_) ?_ | refine vFc (congrArg (fun z => some (V.bool z)) ?_) ?_ | refine vFs rfl rfl ?_ ?_))
     all_goals first | with_reducible refine bN ?_ | with_reducible refine bE ?_ | with_reducible refine bR ?_ | refine bX rfl ?_
     all_goals first
       | with_reducible refine tR ?_
       | with_reducible refine tE ?_
       | (
        with_reducible refine tN ?_
        refine cR ?_
        refine oA rfl rfl ?_
        refine oN ?_
        refine CW_ret ?_))
  all_goals (
   refine exitQ (.inr rfl) 2 (.cons (.tmp rfl rfl) .nil) ?_ rfl (vHc rfl (vHc rfl vHn)) rfl rfl
   simp only [resV, V.bool.injEq]
   first
     | (have e : i = n := (by omega); subst e; subst hi2; simp [hi3]; done)
     | (have h9 : A.take (n * 3) ≠ B.take (n * 3) := (fun h => hc (take_elem (show i < n by omega) h)); subst hi2; symm; exact decide_eq_false h9)
     | (symm; rw [decide_eq_false_iff_not]; intro h; have := congrArg List.length h; simp at this; omega))
end Go.Proofs.Ytoiolpgmilobnaa
namespace Go.Proofs.Ytoiolpgmilobnaa
attribute [local irreducible] CW OW QW QOp Con thenP inBlockP
set_option maxRecDepth 10000
set_option linter.unusedSimpArgs false
set_option linter.unusedVariables false
theorem markPointS_con (m : Nat) (t : TypeId) (L : List Int) (n k : Nat) (hn : n * 3 ≤ L.length) (hL : n ≤ 100000000) (hm : m ≤ 1000000000) : Con Try.prog [] 25 [.slice 0 0 n k, .int m] [(0, .ints t L)] (fun r H' => r = .int ((m + n * 3 : Nat) : Int) ∧ H' = [(0, .ints t (seqL m (n * 3) ++ L.drop (n * 3)))]) := by
  refine conW tab_ok [(0, .slice 0 0 n k), (1, .int m)] 1 [0] [0] Try.func25 rfl rfl rfl rfl rfl rfl rfl rfl rfl ?_
  refine cR ?_
  refine oA rfl rfl ?_
  refine oN ?_
  refine CW_seq ?_
  refine cR ?_
  refine oA rfl rfl ?_
  refine oN ?_
  refine CW_block ?_
  refine CW_loop (ι := Nat) (fun i => i ≤ n) (fun i => ⟨[(0, .slice 0 0 n k), (1, .int ((m + i * 3 : Nat) : Int)), (5, .int i)], [(0, .ints t (seqL m (i * 3) ++ L.drop (i * 3)))], 1⟩) (fun i => n - i) 0 ?_ ?_ ?_
  · first | trivial | omega | (simp; done) | (simp; omega)
  · refine View.mk' [] rfl rfl rfl ?_ ?_
    repeat' first | exact vFn | refine vFc rfl ?_ | exact vHn | refine vHc rfl ?_ | refine vFc (congrArg (fun z => some (V.int z)) ?_) ?_ | refine vHc (congrArg (fun z => some (Blk.ints _ z)) ?_) ?_ | refine vFc (congrArg (fun z => some (V.bool z)) ?_) ?_ | refine vFs rfl rfl ?_ ?_
    all_goals first | (simp [seqL]; done) | simp
  intro i hi
  refine CW_seq ?_
  refine cR ?_
  iterate 2 refine oM rfl rfl ?_
  first | refine oQ (Q_len rfl rfl rfl rfl) rfl rfl ?_ | refine oQ (Q_len0 rfl rfl rfl rfl) rfl rfl ?_
  refine oQ (Q_bin rfl rfl rfl) rfl rfl ?_
  refine oN ?_
  first | refine cT rfl ?_ | refine cF rfl ?_ | refine CW_cond rfl (fun hc => ?_) (fun hc => ?_)
  all_goals try simp only [s1, s2, s3, s4, s5, s6, s7, s8, s9, s10, s11, s12] at hc
  all_goals first
    | (
     refine CW_skip ?_)
    | (
     refine CW_exit ?_)
  all_goals first
    | with_reducible refine tR ?_
    | with_reducible refine tE ?_
    | (
     with_reducible refine tN ?_
     refine CW_seq ?_
     refine CW_block ?_
     refine cR ?_
     refine oA rfl rfl ?_
     refine oN ?_
     refine CW_block ?_
     refine CW_loop (ι := Nat) (fun j => j ≤ 3) (fun j => ⟨[(0, .slice 0 0 n k), (1, .int ((m + (i * 3 + j) : Nat) : Int)), (5, .int i), (6, .int j)], [(0, .ints t (seqL m (i * 3 + j) ++ L.drop (i * 3 + j)))], 1⟩) (fun j => 3 - j) 0 ?_ ?_ ?_
     · first | trivial | omega | (simp; done) | (simp; omega)
     · refine View.mk' [] rfl rfl rfl ?_ ?_
       repeat' first | exact vFn | refine vFc rfl ?_ | exact vHn | refine vHc rfl ?_ | refine vFc (congrArg (fun z => some (V.int z)) ?_) ?_ | refine vHc (congrArg (fun z => some (Blk.ints _ z)) ?_) ?_ | refine vFc (congrArg (fun z => some (V.bool z)) ?_) ?_ | refine vFs rfl rfl ?_ ?_
     intro j hj
     have hsl := seqL_length m (i * 3 + j)
     have hb : i * 3 + 3 ≤ n * 3 := by have h1 : (i + 1) * 3 ≤ n * 3 := (Nat.mul_le_mul_right 3 (by omega)); omega
     refine CW_seq ?_
     refine cR ?_
     refine oM rfl rfl ?_
     refine oQ (Q_bin rfl rfl rfl) rfl rfl ?_
     refine oN ?_
     first | refine cT rfl ?_ | refine cF rfl ?_ | refine CW_cond rfl (fun hc => ?_) (fun hc => ?_)
     all_goals try simp only [s1, s2, s3, s4, s5, s6, s7, s8, s9, s10, s11, s12] at hc
     all_goals first
       | (
        refine CW_skip ?_)
       | (
        refine CW_exit ?_)
     all_goals first
       | with_reducible refine tR ?_
       | with_reducible refine tE ?_
       | (
        with_reducible refine tN ?_
        refine CW_seq ?_
        refine CW_block ?_
        refine cR ?_
        iterate 4 refine oM rfl rfl ?_
        refine oQ (Q_ixs0z 3 rfl rfl rfl rfl rfl rfl (by omega)) rfl rfl ?_
        refine oQ (Q_ixa1 rfl rfl rfl rfl rfl rfl (by omega)) rfl rfl ?_
        refine oS rfl rfl rfl rfl rfl ?_
        refine oN ?_
        refine CW_region ?_
        refine oM rfl rfl ?_
        refine oQ (Q_binu (z := ((m + (i * 3 + (j + 1)) : Nat) : Int)) rfl rfl (congrArg some (by omega)) (by omega)) rfl rfl ?_
        refine oA rfl rfl ?_
        refine OW_nil ?_
        all_goals first | with_reducible refine bN ?_ | with_reducible refine bE ?_ | with_reducible refine bR ?_ | refine bX rfl ?_
        all_goals with_reducible refine tN ?_
        all_goals (
         refine CW_region ?_
         refine oM rfl rfl ?_
         first | refine oQ (Q_binu rfl rfl rfl (by omega)) rfl rfl ?_ | refine oQ (Q_bin rfl rfl rfl) rfl rfl ?_
         refine oA rfl rfl ?_
         refine OW_nil ?_))
     all_goals first
       | with_reducible refine tR ?_
       | with_reducible refine tE ?_
       | (
        with_reducible refine tN ?_
        refine ⟨j + 1, ?_, ?_, View.mk' [] rfl rfl rfl ?_ ?_⟩
        · omega
        · omega
        all_goals (repeat' first | exact vFn | refine vFc rfl ?_ | exact vHn | refine vHc rfl ?_ | refine vFc (congrArg (fun z => some (V.int z)) ?_) ?_ | refine vHc (congrArg (fun z => some (Blk.ints _ z)) ?_) ?_ | refine vFc (congrArg (fun z => some (V.bool z)) ?_) ?_ | refine vFs rfl rfl ?_ ?_)
        all_goals (rw [mid_set hsl (by omega), ← seqL_snoc])
        all_goals rfl)
     all_goals first | with_reducible refine bN ?_ | with_reducible refine bE ?_ | with_reducible refine bR ?_ | refine bX rfl ?_
     all_goals first | with_reducible refine bN ?_ | with_reducible refine bE ?_ | with_reducible refine bR ?_ | refine bX rfl ?_
     all_goals with_reducible refine tN ?_
     all_goals (
      refine CW_region ?_
      refine oM rfl rfl ?_
      first | refine oQ (Q_binu rfl rfl rfl (by omega)) rfl rfl ?_ | refine oQ (Q_bin rfl rfl rfl) rfl rfl ?_
      refine oA rfl rfl ?_
      refine OW_nil ?_))
  all_goals first
    | with_reducible refine tR ?_
    | with_reducible refine tE ?_
    | (
     with_reducible refine tN ?_
     refine ⟨i + 1, ?_, ?_, View.mk' [] rfl rfl rfl ?_ ?_⟩
     · omega
     · omega
     all_goals (repeat' first | exact vFn | refine vFc rfl ?_ | exact vHn | refine vHc rfl ?_ | refine vFc (congrArg (fun z => some (V.int z)) ?_) ?_ | refine vHc (congrArg (fun z => some (Blk.ints _ z)) ?_) ?_ | refine vFc (congrArg (fun z => some (V.bool z)) ?_) ?_ | refine vFs rfl rfl ?_ ?_)
     all_goals (have e : j = 3 := by omega)
     all_goals (subst e; simp only [Nat.add_mul, Nat.one_mul]))
  all_goals first | with_reducible refine bN ?_ | with_reducible refine bE ?_ | with_reducible refine bR ?_ | refine bX rfl ?_
  all_goals with_reducible refine tN ?_
  all_goals (
   refine cR ?_
   refine oM rfl rfl ?_
   refine oA rfl rfl ?_
   refine oN ?_
   refine CW_ret ?_)
  all_goals (
   have e : i = n := by omega
   subst e
   exact exitH (.inr rfl) [] 1 (.cons (.tmp rfl rfl) .nil) rfl rfl rfl (vHc rfl vHn) rfl rfl ⟨rfl, rfl⟩)
theorem markPointS_nil (m : Nat) : ConQ Try.prog [] 25 [.nilsl, .int m] [] (.int m) := by
  refine conW tab_ok [(0, .nilsl), (1, .int m)] 0 [] [] Try.func25 rfl rfl rfl rfl rfl rfl rfl rfl rfl ?_
  refine cR ?_
  refine oA rfl rfl ?_
  refine oN ?_
  refine CW_seq ?_
  refine cR ?_
  refine oA rfl rfl ?_
  refine oN ?_
  refine CW_block ?_
  refine CW_loop (ι := Nat) (fun i => i = 0) (fun i => ⟨[(0, .nilsl), (1, .int m), (5, .int i)], [], 0⟩) (fun i => 0) 0 ?_ ?_ ?_
  · first | trivial | omega | (simp; done) | (simp; omega)
  · refine View.mk' [] rfl rfl rfl ?_ ?_
    repeat' first | exact vFn | refine vFc rfl ?_ | exact vHn | refine vHc rfl ?_ | refine vFc (congrArg (fun z => some (V.int z)) ?_) ?_ | refine vHc (congrArg (fun z => some (Blk.ints _ z)) ?_) ?_ | refine vFc (congrArg (fun z => some (V.bool z)) ?_) ?_ | refine vFs rfl rfl ?_ ?_
  intro i hi
  refine CW_seq ?_
  refine cR ?_
  iterate 2 refine oM rfl rfl ?_
  first | refine oQ (Q_len rfl rfl rfl rfl) rfl rfl ?_ | refine oQ (Q_len0 rfl rfl rfl rfl) rfl rfl ?_
  refine oQ (Q_bin rfl rfl rfl) rfl rfl ?_
  refine oN ?_
  first | refine cT rfl ?_ | refine cF rfl ?_ | refine CW_cond rfl (fun hc => ?_) (fun hc => ?_)
  all_goals try simp only [s1, s2, s3, s4, s5, s6, s7, s8, s9, s10, s11, s12] at hc
  all_goals try (exfalso; first | omega | (simp at hc); done)
  all_goals first
    | (
     refine CW_skip ?_)
    | (
     refine CW_exit ?_)
  all_goals first
    | with_reducible refine tR ?_
    | with_reducible refine tE ?_
    | (
     with_reducible refine tN ?_
     refine CW_seq ?_
     refine CW_block ?_
     refine cR ?_
     refine oA rfl rfl ?_
     refine oN ?_
     refine CW_block ?_
     refine CW_loop (ι := Nat) (fun i => i = 0) (fun i => ⟨[], [], 0⟩) (fun i => 0) 0 ?_ ?_ ?_
     · first | trivial | omega | (simp; done) | (simp; omega)
     · refine View.mk' [] rfl rfl rfl ?_ ?_
       repeat' first | exact vFn | refine vFc rfl ?_ | exact vHn | refine vHc rfl ?_ | refine vFc (congrArg (fun z => some (V.int z)) ?_) ?_ | refine vHc (congrArg (fun z => some (Blk.ints _ z)) ?_) ?_ | refine vFc (congrArg (fun z => some (V.bool z)) ?_) ?_ | refine vFs rfl rfl ?_ ?_
     intro i hi
     refine CW_seq ?_
     refine cR ?_
     refine oM rfl rfl ?_
     refine oQ (Q_bin rfl rfl rfl) rfl rfl ?_
     refine oN ?_
     first | refine cT rfl ?_ | refine cF rfl ?_ | refine CW_cond rfl (fun hc => ?_) (fun hc => ?_)
     all_goals try simp only [s1, s2, s3, s4, s5, s6, s7, s8, s9, s10, s11, s12] at hc
     all_goals try (exfalso; first | omega | (simp at hc); done)
     all_goals first
       | (
        refine CW_skip ?_)
       | (
        refine CW_exit ?_)
     all_goals first
       | with_reducible refine tR ?_
       | with_reducible refine tE ?_
       | (
        with_reducible refine tN ?_
        refine CW_seq ?_
        refine CW_block ?_
        refine cR ?_
        iterate 4 refine oM rfl rfl ?_
        first | refine oQ (Q_ixs0z 3 rfl rfl rfl rfl rfl rfl (by first | omega | (dsimp only; omega) | (simp; omega) | (simp; done))) rfl rfl ?_ | refine oQ (Q_ixsz 3 rfl rfl rfl rfl rfl rfl (by first | omega | (dsimp only; omega) | (simp; omega) | (simp; done))) rfl rfl ?_
        first | refine oQ (Ia0 rfl rfl rfl rfl rfl rfl) rfl rfl ?_ | refine oQ (Ia1 rfl rfl rfl rfl rfl rfl) rfl rfl ?_
        refine oS rfl rfl rfl rfl rfl ?_
        refine oN ?_
        refine CW_region ?_
        refine oM rfl rfl ?_
        first | refine oQ (Q_binu rfl rfl rfl (by omega)) rfl rfl ?_ | refine oQ (Q_bin rfl rfl rfl) rfl rfl ?_
        refine oA rfl rfl ?_
        refine OW_nil ?_
        all_goals first | with_reducible refine bN ?_ | with_reducible refine bE ?_ | with_reducible refine bR ?_ | refine bX rfl ?_
        all_goals with_reducible refine tN ?_
        all_goals (
         refine CW_region ?_
         refine oM rfl rfl ?_
         first | refine oQ (Q_binu rfl rfl rfl (by omega)) rfl rfl ?_ | refine oQ (Q_bin rfl rfl rfl) rfl rfl ?_
         refine oA rfl rfl ?_
         refine OW_nil ?_))
     all_goals first
       | with_reducible refine tR ?_
       | with_reducible refine tE ?_
       | (
        with_reducible refine tN ?_
        refine ⟨i + 1, ?_, ?_, View.mk' [] rfl rfl rfl ?_ ?_⟩
        · omega
        · omega
        all_goals (repeat' first | exact vFn | refine vFc rfl ?_ | exact vHn | refine vHc rfl ?_ | refine vFc (congrArg (fun z => some (V.int z)) ?_) ?_ | refine vHc (congrArg (fun z => some (Blk.ints _ z)) ?_) ?_ | refine vFc (congrArg (fun z => some (V.bool z)) ?_) ?_ | refine vFs rfl rfl ?_ ?_))
     all_goals first | with_reducible refine bN ?_ | with_reducible refine bE ?_ | with_reducible refine bR ?_ | refine bX rfl ?_
     all_goals first | with_reducible refine bN ?_ | with_reducible refine bE ?_ | with_reducible refine bR ?_ | refine bX rfl ?_
     all_goals with_reducible refine tN ?_
     all_goals (
      refine CW_region ?_
      refine oM rfl rfl ?_
      first | refine oQ (Q_binu rfl rfl rfl (by omega)) rfl rfl ?_ | refine oQ (Q_bin rfl rfl rfl) rfl rfl ?_
      refine oA rfl rfl ?_
      refine OW_nil ?_))
  all_goals first
    | with_reducible refine tR ?_
    | with_reducible refine tE ?_
    | (
     with_reducible refine tN ?_
     refine ⟨i + 1, ?_, ?_, View.mk' [] rfl rfl rfl ?_ ?_⟩
     · omega
     · omega
     all_goals (repeat' first | exact vFn | refine vFc rfl ?_ | exact vHn | refine vHc rfl ?_ | refine vFc (congrArg (fun z => some (V.int z)) ?_) ?_ | refine vHc (congrArg (fun z => some (Blk.ints _ z)) ?_) ?_ | refine vFc (congrArg (fun z => some (V.bool z)) ?_) ?_ | refine vFs rfl rfl ?_ ?_))
  all_goals first | with_reducible refine bN ?_ | with_reducible refine bE ?_ | with_reducible refine bR ?_ | refine bX rfl ?_
  all_goals with_reducible refine tN ?_
  all_goals (
   refine cR ?_
   refine oM rfl rfl ?_
   refine oA rfl rfl ?_
   refine oN ?_
   refine CW_ret ?_)
  all_goals (
   ((refine exitQ (.inr rfl) 0 (.cons (.tmp rfl rfl) .nil) ?_ rfl vHn rfl rfl); rfl))
theorem heldPointS_con (m : Nat) (t : TypeId) (sp : List Int) (n k : Nat) (hL : n ≤ 100000000) (hm : m ≤ 1000000000) : ConQ Try.prog [] 26 [.slice 0 0 n k, .int m] [(0, .ints t (seqL m (n * 3) ++ sp))] (.int ((m + n * 3 : Nat) : Int)) := by
  refine conW tab_ok [(0, .slice 0 0 n k), (1, .int m)] 1 [0] [0] Try.func26 rfl rfl rfl rfl rfl rfl rfl rfl rfl ?_
  refine cR ?_
  refine oA rfl rfl ?_
  refine oN ?_
  refine CW_seq ?_
  refine cR ?_
  refine oA rfl rfl ?_
  refine oN ?_
  refine CW_block ?_
  refine CW_loop (ι := Nat) (fun i => i ≤ n) (fun i => ⟨[(0, .slice 0 0 n k), (1, .int ((m + i * 3 : Nat) : Int)), (5, .int i)], [(0, .ints t (seqL m (n * 3) ++ sp))], 1⟩) (fun i => n - i) 0 ?_ ?_ ?_
  · first | trivial | omega | (simp; done) | (simp; omega)
  · refine View.mk' [] rfl rfl rfl ?_ ?_
    repeat' first | exact vFn | refine vFc rfl ?_ | exact vHn | refine vHc rfl ?_ | refine vFc (congrArg (fun z => some (V.int z)) ?_) ?_ | refine vHc (congrArg (fun z => some (Blk.ints _ z)) ?_) ?_ | refine vFc (congrArg (fun z => some (V.bool z)) ?_) ?_ | refine vFs rfl rfl ?_ ?_
    all_goals simp
  intro i hi
  refine CW_seq ?_
  refine cR ?_
  iterate 2 refine oM rfl rfl ?_
  first | refine oQ (Q_len rfl rfl rfl rfl) rfl rfl ?_ | refine oQ (Q_len0 rfl rfl rfl rfl) rfl rfl ?_
  refine oQ (Q_bin rfl rfl rfl) rfl rfl ?_
  refine oN ?_
  first | refine cT rfl ?_ | refine cF rfl ?_ | refine CW_cond rfl (fun hc => ?_) (fun hc => ?_)
  all_goals try simp only [s1, s2, s3, s4, s5, s6, s7, s8, s9, s10, s11, s12] at hc
  all_goals first
    | (
     refine CW_skip ?_)
    | (
     refine CW_exit ?_)
  all_goals first
    | with_reducible refine tR ?_
    | with_reducible refine tE ?_
    | (
     with_reducible refine tN ?_
     refine CW_seq ?_
     refine CW_block ?_
     refine cR ?_
     refine oA rfl rfl ?_
     refine oN ?_
     refine CW_block ?_
     refine CW_loop (ι := Nat) (fun j => j ≤ 3) (fun j => ⟨[(0, .slice 0 0 n k), (1, .int ((m + (i * 3 + j) : Nat) : Int)), (5, .int i), (6, .int j)], [(0, .ints t (seqL m (n * 3) ++ sp))], 1⟩) (fun j => 3 - j) 0 ?_ ?_ ?_
     · first | trivial | omega | (simp; done) | (simp; omega)
     · refine View.mk' [] rfl rfl rfl ?_ ?_
       repeat' first | exact vFn | refine vFc rfl ?_ | exact vHn | refine vHc rfl ?_ | refine vFc (congrArg (fun z => some (V.int z)) ?_) ?_ | refine vHc (congrArg (fun z => some (Blk.ints _ z)) ?_) ?_ | refine vFc (congrArg (fun z => some (V.bool z)) ?_) ?_ | refine vFs rfl rfl ?_ ?_
     intro j hj
     have hb : i * 3 + 3 ≤ n * 3 := by have h1 : (i + 1) * 3 ≤ n * 3 := (Nat.mul_le_mul_right 3 (by omega)); omega
     refine CW_seq ?_
     refine cR ?_
     refine oM rfl rfl ?_
     refine oQ (Q_bin rfl rfl rfl) rfl rfl ?_
     refine oN ?_
     first | refine cT rfl ?_ | refine cF rfl ?_ | refine CW_cond rfl (fun hc => ?_) (fun hc => ?_)
     all_goals try simp only [s1, s2, s3, s4, s5, s6, s7, s8, s9, s10, s11, s12] at hc
     all_goals first
       | (
        refine CW_skip ?_)
       | (
        refine CW_exit ?_)
     all_goals first
       | with_reducible refine tR ?_
       | with_reducible refine tE ?_
       | (
        with_reducible refine tN ?_
        refine CW_seq ?_
        refine CW_block ?_
        refine CW_seq ?_
        refine cR ?_
        iterate 3 refine oM rfl rfl ?_
        refine oQ (Q_ixs0z 3 rfl rfl rfl rfl rfl rfl (by omega)) rfl rfl ?_
        refine oQ (Q_ixa1 rfl rfl rfl rfl rfl rfl (by omega)) rfl rfl ?_
        refine oQ (Q_ldc rfl rfl rfl rfl (seqL_at (show i * 3 + j < n * 3 by omega))) rfl rfl ?_
        refine oM rfl rfl ?_
        refine oQ (Q_bin rfl rfl rfl) rfl rfl ?_
        refine oN ?_
        first | refine cT rfl ?_ | refine cF rfl ?_ | refine CW_cond rfl (fun hc => ?_) (fun hc => ?_)
        all_goals try simp only [s1, s2, s3, s4, s5, s6, s7, s8, s9, s10, s11, s12] at hc
        all_goals first
          | (
           refine CW_skip ?_)
          | (
           refine cR ?_
           refine oA rfl rfl ?_
           refine oN ?_
           refine CW_ret ?_)
        all_goals first
          | with_reducible refine tR ?_
          | with_reducible refine tE ?_
          | (
           with_reducible refine tN ?_
           refine CW_region ?_
           refine oM rfl rfl ?_
           refine oQ (Q_binu (z := ((m + (i * 3 + (j + 1)) : Nat) : Int)) rfl rfl (congrArg some (by omega)) (by omega)) rfl rfl ?_
           refine oA rfl rfl ?_
           refine OW_nil ?_)
        all_goals first | with_reducible refine bN ?_ | with_reducible refine bE ?_ | with_reducible refine bR ?_ | refine bX rfl ?_
        all_goals first
          | with_reducible refine tR ?_
          | with_reducible refine tE ?_
          | (
           with_reducible refine tN ?_
           refine CW_region ?_
           refine oM rfl rfl ?_
           first | refine oQ (Q_binu rfl rfl rfl (by omega)) rfl rfl ?_ | refine oQ (Q_bin rfl rfl rfl) rfl rfl ?_
           refine oA rfl rfl ?_
           refine OW_nil ?_))
     all_goals first
       | with_reducible refine tR ?_
       | with_reducible refine tE ?_
       | (
        with_reducible refine tN ?_
        refine ⟨j + 1, ?_, ?_, View.mk' [] rfl rfl rfl ?_ ?_⟩
        · omega
        · omega
        all_goals (repeat' first | exact vFn | refine vFc rfl ?_ | exact vHn | refine vHc rfl ?_ | refine vFc (congrArg (fun z => some (V.int z)) ?_) ?_ | refine vHc (congrArg (fun z => some (Blk.ints _ z)) ?_) ?_ | refine vFc (congrArg (fun z => some (V.bool z)) ?_) ?_ | refine vFs rfl rfl ?_ ?_))
     all_goals first | with_reducible refine bN ?_ | with_reducible refine bE ?_ | with_reducible refine bR ?_ | refine bX rfl ?_
     all_goals first | with_reducible refine bN ?_ | with_reducible refine bE ?_ | with_reducible refine bR ?_ | refine bX rfl ?_
     all_goals first
       | with_reducible refine tR ?_
       | with_reducible refine tE ?_
       | (
        with_reducible refine tN ?_
        refine CW_region ?_
        refine oM rfl rfl ?_
        first | refine oQ (Q_binu rfl rfl rfl (by omega)) rfl rfl ?_ | refine oQ (Q_bin rfl rfl rfl) rfl rfl ?_
        refine oA rfl rfl ?_
        refine OW_nil ?_))
  all_goals first
    | with_reducible refine tR ?_
    | with_reducible refine tE ?_
    | (
     with_reducible refine tN ?_
     refine ⟨i + 1, ?_, ?_, View.mk' [] rfl rfl rfl ?_ ?_⟩
     · omega
     · omega
     all_goals (repeat' first | exact vFn | refine vFc rfl ?_ | exact vHn | refine vHc rfl ?_ | refine vFc (congrArg (fun z => some (V.int z)) ?_) ?_ | refine vHc (congrArg (fun z => some (Blk.ints _ z)) ?_) ?_ | refine vFc (congrArg (fun z => some (V.bool z)) ?_) ?_ | refine vFs rfl rfl ?_ ?_)
     all_goals (have e : j = 3 := by omega)
     all_goals (subst e; simp only [Nat.add_mul, Nat.one_mul]))
  all_goals first | with_reducible refine bN ?_ | with_reducible refine bE ?_ | with_reducible refine bR ?_ | refine bX rfl ?_
  all_goals first
    | with_reducible refine tR ?_
    | with_reducible refine tE ?_
    | (
     with_reducible refine tN ?_
     refine cR ?_
     refine oM rfl rfl ?_
     refine oA rfl rfl ?_
     refine oN ?_
     refine CW_ret ?_)
  all_goals (
   first
     | (exfalso; exact hc trivial)
     | (exfalso; omega)
     | (have e : i = n := (by omega)
        subst e
        (refine exitQ (.inr rfl) 1 (.cons (.tmp rfl rfl) .nil) ?_ rfl (vHc rfl vHn) rfl rfl); rfl))
theorem heldPointS_nil (m : Nat) : ConQ Try.prog [] 26 [.nilsl, .int m] [] (.int m) := by
  refine conW tab_ok [(0, .nilsl), (1, .int m)] 0 [] [] Try.func26 rfl rfl rfl rfl rfl rfl rfl rfl rfl ?_
  refine cR ?_
  refine oA rfl rfl ?_
  refine oN ?_
  refine CW_seq ?_
  refine cR ?_
  refine oA rfl rfl ?_
  refine oN ?_
  refine CW_block ?_
  refine CW_loop (ι := Nat) (fun i => i = 0) (fun i => ⟨[(0, .nilsl), (1, .int m), (5, .int i)], [], 0⟩) (fun i => 0) 0 ?_ ?_ ?_
  · first | trivial | omega | (simp; done) | (simp; omega)
  · refine View.mk' [] rfl rfl rfl ?_ ?_
    repeat' first | exact vFn | refine vFc rfl ?_ | exact vHn | refine vHc rfl ?_ | refine vFc (congrArg (fun z => some (V.int z)) ?_) ?_ | refine vHc (congrArg (fun z => some (Blk.ints _ z)) ?_) ?_ | refine vFc (congrArg (fun z => some (V.bool z)) ?_) ?_ | refine vFs rfl rfl ?_ ?_
  intro i hi
  refine CW_seq ?_
  refine cR ?_
  iterate 2 refine oM rfl rfl ?_
  first | refine oQ (Q_len rfl rfl rfl rfl) rfl rfl ?_ | refine oQ (Q_len0 rfl rfl rfl rfl) rfl rfl ?_
  refine oQ (Q_bin rfl rfl rfl) rfl rfl ?_
  refine oN ?_
  first | refine cT rfl ?_ | refine cF rfl ?_ | refine CW_cond rfl (fun hc => ?_) (fun hc => ?_)
  all_goals try simp only [s1, s2, s3, s4, s5, s6, s7, s8, s9, s10, s11, s12] at hc
  all_goals try (exfalso; first | omega | (simp at hc); done)
  all_goals first
    | (
     refine CW_skip ?_)
    | (
     refine CW_exit ?_)
  all_goals first
    | with_reducible refine tR ?_
    | with_reducible refine tE ?_
    | (
     with_reducible refine tN ?_
     refine CW_seq ?_
     refine CW_block ?_
     refine cR ?_
     refine oA rfl rfl ?_
     refine oN ?_
     refine CW_block ?_
     refine CW_loop (ι := Nat) (fun i => i = 0) (fun i => ⟨[], [], 0⟩) (fun i => 0) 0 ?_ ?_ ?_
     · first | trivial | omega | (simp; done) | (simp; omega)
     · refine View.mk' [] rfl rfl rfl ?_ ?_
       repeat' first | exact vFn | refine vFc rfl ?_ | exact vHn | refine vHc rfl ?_ | refine vFc (congrArg (fun z => some (V.int z)) ?_) ?_ | refine vHc (congrArg (fun z => some (Blk.ints _ z)) ?_) ?_ | refine vFc (congrArg (fun z => some (V.bool z)) ?_) ?_ | refine vFs rfl rfl ?_ ?_
     intro i hi
     refine CW_seq ?_
     refine cR ?_
     refine oM rfl rfl ?_
     refine oQ (Q_bin rfl rfl rfl) rfl rfl ?_
     refine oN ?_
     first | refine cT rfl ?_ | refine cF rfl ?_ | refine CW_cond rfl (fun hc => ?_) (fun hc => ?_)
     all_goals try simp only [s1, s2, s3, s4, s5, s6, s7, s8, s9, s10, s11, s12] at hc
     all_goals try (exfalso; first | omega | (simp at hc); done)
     all_goals first
       | (
        refine CW_skip ?_)
       | (
        refine CW_exit ?_)
     all_goals first
       | with_reducible refine tR ?_
       | with_reducible refine tE ?_
       | (
        with_reducible refine tN ?_
        refine CW_seq ?_
        refine CW_block ?_
        refine CW_seq ?_
        refine cR ?_
        iterate 3 refine oM rfl rfl ?_
        first | refine oQ (Q_ixs0z 3 rfl rfl rfl rfl rfl rfl (by first | omega | (dsimp only; omega) | (simp; omega) | (simp; done))) rfl rfl ?_ | refine oQ (Q_ixsz 3 rfl rfl rfl rfl rfl rfl (by first | omega | (dsimp only; omega) | (simp; omega) | (simp; done))) rfl rfl ?_
        first | refine oQ (Ia0 rfl rfl rfl rfl rfl rfl) rfl rfl ?_ | refine oQ (Ia1 rfl rfl rfl rfl rfl rfl) rfl rfl ?_
        refine oQ (Ld rfl rfl rfl rfl) rfl rfl ?_
        refine oM rfl rfl ?_
        refine oQ (Q_bin rfl rfl rfl) rfl rfl ?_
        refine oN ?_
        first | refine cT rfl ?_ | refine cF rfl ?_ | refine CW_cond rfl (fun hc => ?_) (fun hc => ?_)
        all_goals try simp only [s1, s2, s3, s4, s5, s6, s7, s8, s9, s10, s11, s12] at hc
        all_goals try (exfalso; first | omega | (simp at hc); done)
        all_goals first
          | (
           refine CW_skip ?_)
          | (
           refine cR ?_
           refine oA rfl rfl ?_
           refine oN ?_
           refine CW_ret ?_)
        all_goals first
          | with_reducible refine tR ?_
          | with_reducible refine tE ?_
          | (
           with_reducible refine tN ?_
           refine CW_region ?_
           refine oM rfl rfl ?_
           first | refine oQ (Q_binu rfl rfl rfl (by omega)) rfl rfl ?_ | refine oQ (Q_bin rfl rfl rfl) rfl rfl ?_
           refine oA rfl rfl ?_
           refine OW_nil ?_)
        all_goals first | with_reducible refine bN ?_ | with_reducible refine bE ?_ | with_reducible refine bR ?_ | refine bX rfl ?_
        all_goals first
          | with_reducible refine tR ?_
          | with_reducible refine tE ?_
          | (
           with_reducible refine tN ?_
           refine CW_region ?_
           refine oM rfl rfl ?_
           first | refine oQ (Q_binu rfl rfl rfl (by omega)) rfl rfl ?_ | refine oQ (Q_bin rfl rfl rfl) rfl rfl ?_
           refine oA rfl rfl ?_
           refine OW_nil ?_))
     all_goals first
       | with_reducible refine tR ?_
       | with_reducible refine tE ?_
       | (
        with_reducible refine tN ?_
        refine ⟨i + 1, ?_, ?_, View.mk' [] rfl rfl rfl ?_ ?_⟩
        · omega
        · omega
        all_goals (repeat' first | exact vFn | refine vFc rfl ?_ | exact vHn | refine vHc rfl ?_ | refine vFc (congrArg (fun z => some (V.int z)) ?_) ?_ | refine vHc (congrArg (fun z => some (Blk.ints _ z)) ?_) ?_ | refine vFc (congrArg (fun z => some (V.bool z)) ?_) ?_ | refine vFs rfl rfl ?_ ?_))
     all_goals first | with_reducible refine bN ?_ | with_reducible refine bE ?_ | with_reducible refine bR ?_ | refine bX rfl ?_
     all_goals first | with_reducible refine bN ?_ | with_reducible refine bE ?_ | with_reducible refine bR ?_ | refine bX rfl ?_
     all_goals first
       | with_reducible refine tR ?_
       | with_reducible refine tE ?_
       | (
        with_reducible refine tN ?_
        refine CW_region ?_
        refine oM rfl rfl ?_
        first | refine oQ (Q_binu rfl rfl rfl (by omega)) rfl rfl ?_ | refine oQ (Q_bin rfl rfl rfl) rfl rfl ?_
        refine oA rfl rfl ?_
        refine OW_nil ?_))
  all_goals first
    | with_reducible refine tR ?_
    | with_reducible refine tE ?_
    | (
     with_reducible refine tN ?_
     refine ⟨i + 1, ?_, ?_, View.mk' [] rfl rfl rfl ?_ ?_⟩
     · omega
     · omega
     all_goals (repeat' first | exact vFn | refine vFc rfl ?_ | exact vHn | refine vHc rfl ?_ | refine vFc (congrArg (fun z => some (V.int z)) ?_) ?_ | refine vHc (congrArg (fun z => some (Blk.ints _ z)) ?_) ?_ | refine vFc (congrArg (fun z => some (V.bool z)) ?_) ?_ | refine vFs rfl rfl ?_ ?_))
  all_goals first | with_reducible refine bN ?_ | with_reducible refine bE ?_ | with_reducible refine bR ?_ | refine bX rfl ?_
  all_goals first
    | with_reducible refine tR ?_
    | with_reducible refine tE ?_
    | (
     with_reducible refine tN ?_
     refine cR ?_
     refine oM rfl rfl ?_
     refine oA rfl rfl ?_
     refine oN ?_
     refine CW_ret ?_)
  all_goals (
   ((refine exitQ (.inr rfl) 0 (.cons (.tmp rfl rfl) .nil) ?_ rfl vHn rfl rfl); rfl))
theorem eqPointS_nn  : ConQ Try.prog [] 24 [.nilsl, .nilsl] [] (.bool true) := by
  refine conW tab_ok [(0, .nilsl), (1, .nilsl)] 0 [] [] Try.func24 rfl rfl rfl rfl rfl rfl rfl rfl rfl ?_
  refine cR ?_
  refine oA rfl rfl ?_
  refine oN ?_
  refine CW_seq ?_
  refine cR ?_
  refine oM rfl rfl ?_
  first | refine oQ (Q_len rfl rfl rfl rfl) rfl rfl ?_ | refine oQ (Q_len0 rfl rfl rfl rfl) rfl rfl ?_
  refine oM rfl rfl ?_
  first | refine oQ (Q_len rfl rfl rfl rfl) rfl rfl ?_ | refine oQ (Q_len0 rfl rfl rfl rfl) rfl rfl ?_
  refine oQ (Q_bin rfl rfl rfl) rfl rfl ?_
  refine oN ?_
  first | refine cT rfl ?_ | refine cF rfl ?_ | refine CW_cond rfl (fun hc => ?_) (fun hc => ?_)
  all_goals try simp only [s1, s2, s3, s4, s5, s6, s7, s8, s9, s10, s11, s12] at hc
  all_goals try (exfalso; first | omega | (simp at hc); done)
  all_goals first
    | (
     refine CW_skip ?_)
    | (
     refine cR ?_
     refine oA rfl rfl ?_
     refine oN ?_
     refine CW_ret ?_)
  all_goals first
    | with_reducible refine tR ?_
    | with_reducible refine tE ?_
    | (
     with_reducible refine tN ?_
     refine CW_seq ?_
     refine cR ?_
     refine oA rfl rfl ?_
     refine oN ?_
     refine CW_block ?_
     refine CW_loop (ι := Nat) (fun i => i = 0) (fun i => ⟨[(0, .nilsl), (1, .nilsl), (5, .int i)], [], 0⟩) (fun i => 0) 0 ?_ ?_ ?_
     · first | trivial | omega | (simp; done) | (simp; omega)
     · refine View.mk' [] rfl rfl rfl ?_ ?_
       repeat' first | exact vFn | refine vFc rfl ?_ | exact vHn | refine vHc rfl ?_ | refine vFc (congrArg (fun z => some (V.int z)) ?_) ?_ | refine vHc (congrArg (fun z => some (Blk.ints _ z)) ?_) ?_ | refine vFc (congrArg (fun z => some (V.bool z)) ?_) ?_ | refine vFs rfl rfl ?_ ?_
     intro i hi
     refine CW_seq ?_
     refine cR ?_
     iterate 2 refine oM rfl rfl ?_
     first | refine oQ (Q_len rfl rfl rfl rfl) rfl rfl ?_ | refine oQ (Q_len0 rfl rfl rfl rfl) rfl rfl ?_
     refine oQ (Q_bin rfl rfl rfl) rfl rfl ?_
     refine oN ?_
     first | refine cT rfl ?_ | refine cF rfl ?_ | refine CW_cond rfl (fun hc => ?_) (fun hc => ?_)
     all_goals try simp only [s1, s2, s3, s4, s5, s6, s7, s8, s9, s10, s11, s12] at hc
     all_goals try (exfalso; first | omega | (simp at hc); done)
     all_goals first
       | (
        refine CW_skip ?_)
       | (
        refine CW_exit ?_)
     all_goals first
       | with_reducible refine tR ?_
       | with_reducible refine tE ?_
       | (
        with_reducible refine tN ?_
        refine CW_seq ?_
        refine CW_block ?_
        refine CW_seq ?_
        refine CW_draw lateOk (by decide +kernel) ?_
        iterate 2 refine qM rfl rfl ?_
        first | refine qQ (Q_ixs0z 3 rfl rfl rfl rfl rfl rfl (by first | omega | (dsimp only; omega) | (simp; omega) | (simp; done))) rfl rfl ?_ | refine qQ (Q_ixsz 3 rfl rfl rfl rfl rfl rfl (by first | omega | (dsimp only; omega) | (simp; omega) | (simp; done))) rfl rfl ?_
        first | refine qQ (Lw rfl rfl rfl rfl) rfl rfl ?_ | refine qQ (La rfl rfl rfl rfl rfl) rfl rfl ?_
        iterate 2 refine qM rfl rfl ?_
        first | refine qQ (Q_ixs0z 3 rfl rfl rfl rfl rfl rfl (by first | omega | (dsimp only; omega) | (simp; omega) | (simp; done))) rfl rfl ?_ | refine qQ (Q_ixsz 3 rfl rfl rfl rfl rfl rfl (by first | omega | (dsimp only; omega) | (simp; omega) | (simp; done))) rfl rfl ?_
        first | refine qQ (Lw rfl rfl rfl rfl) rfl rfl ?_ | refine qQ (La rfl rfl rfl rfl rfl) rfl rfl ?_
        fail "call of loop.example/g01310/laws.eqPoint at slot 25"
        refine qQ (Q_not rfl) rfl rfl ?_
        refine QW_nil ?_
        all_goals with_reducible refine tN ?_
        all_goals (
         first | refine cT rfl ?_ | refine cF rfl ?_ | refine CW_cond rfl (fun hc => ?_) (fun hc => ?_)
         all_goals try simp only [s1, s2, s3, s4, s5, s6, s7, s8, s9, s10, s11, s12] at hc
         all_goals try (exfalso; first | omega | (simp at hc); done)
         all_goals first
           | (
            refine CW_skip ?_)
           | (
            refine cR ?_
            refine oA rfl rfl ?_
            refine oN ?_
            refine CW_ret ?_))
        all_goals first | with_reducible refine bN ?_ | with_reducible refine bE ?_ | with_reducible refine bR ?_ | refine bX rfl ?_
        all_goals first
          | with_reducible refine tR ?_
          | with_reducible refine tE ?_
          | (
           with_reducible refine tN ?_
           refine CW_region ?_
           refine oM rfl rfl ?_
           first | refine oQ (Q_binu rfl rfl rfl (by omega)) rfl rfl ?_ | refine oQ (Q_bin rfl rfl rfl) rfl rfl ?_
           refine oA rfl rfl ?_
           refine OW_nil ?_))
     all_goals first
       | with_reducible refine tR ?_
       | with_reducible refine tE ?_
       | (
        with_reducible refine tN ?_
        refine ⟨i + 1, ?_, ?_, View.mk' [] rfl rfl rfl ?_ ?_⟩
        · omega
        · omega
        all_goals (repeat' first | exact vFn | refine vFc rfl ?_ | exact vHn | refine vHc rfl ?_ | refine vFc (congrArg (fun z => some (V.int z)) ?_) ?_ | refine vHc (congrArg (fun z => some (Blk.ints _ z)) ?_) ?_ | refine vFc (congrArg (fun z => some (V.bool z)) ?_) ?_ | refine vFs rfl rfl ?_ ?_))
     all_goals first | with_reducible refine bN ?_ | with_reducible refine bE ?_ | with_reducible refine bR ?_ | refine bX rfl ?_
     all_goals first
       | with_reducible refine tR ?_
       | with_reducible refine tE ?_
       | (
        with_reducible refine tN ?_
        refine cR ?_
        refine oA rfl rfl ?_
        refine oN ?_
        refine CW_ret ?_))
  all_goals (
   ((refine exitQ (.inr rfl) 0 (.cons (.tmp rfl rfl) .nil) ?_ rfl vHn rfl rfl); rfl))
end Go.Proofs.Ytoiolpgmilobnaa
namespace Go.Proofs.Ytoiolpgmilobnaa
attribute [local irreducible] CW OW QW QOp Con thenP inBlockP
set_option maxRecDepth 10000
set_option linter.unusedSimpArgs false
set_option linter.unusedVariables false
theorem toConic_con (l : List Int) (hl : l.length = 6) : ConQ Try.prog [] 12 [.arr l] [] (.arr l) := by
  refine conW tab_ok [(0, .arr l)] 0 [] [] Try.func12 rfl rfl rfl rfl rfl rfl rfl rfl rfl ?_
  refine cR ?_
  refine oBox rfl rfl rfl rfl rfl rfl ?_
  refine oAlloc rfl rfl rfl rfl rfl rfl rfl ?_
  refine oN ?_
  refine cR ?_
  refine oAlloc rfl rfl rfl rfl rfl rfl rfl ?_
  refine oN ?_
  refine CW_seq ?_
  refine cR ?_
  refine oA rfl rfl ?_
  refine oN ?_
  refine CW_block ?_
  refine CW_loop (ι := Nat) (fun i => i ≤ 6) (fun i => ⟨[(1, .ptr 0 0), (2, .ptr 1 0), (3, .ptr 2 0), (4, .int i)], [(0, .ints 22 l), (1, .ints 25 [0, 0, 0, 0, 0, 0]), (2, .ints 25 (l.take i ++ List.replicate (6 - i) 0))], 3⟩) (fun i => 6 - i) 0 ?_ ?_ ?_
  · first | trivial | omega | (simp; done) | (simp; omega)
  · refine View.mk' [] rfl rfl rfl ?_ ?_
    repeat' first | exact vFn | refine vFc rfl ?_ | exact vHn | refine vHc rfl ?_ | refine vFc (congrArg (fun z => some (V.int z)) ?_) ?_ | refine vHc (congrArg (fun z => some (Blk.ints _ z)) ?_) ?_ | refine vFc (congrArg (fun z => some (V.bool z)) ?_) ?_ | refine vFs rfl rfl ?_ ?_
  intro i hi
  refine CW_seq ?_
  refine cR ?_
  refine oM rfl rfl ?_
  refine oQ (Q_bin rfl rfl rfl) rfl rfl ?_
  refine oN ?_
  first | refine cT rfl ?_ | refine cF rfl ?_ | refine CW_cond rfl (fun hc => ?_) (fun hc => ?_)
  all_goals try simp only [s1, s2, s3, s4, s5, s6, s7, s8, s9, s10, s11, s12] at hc
  all_goals first
    | (
     refine CW_skip ?_)
    | (
     refine CW_exit ?_)
  all_goals first
    | with_reducible refine tR ?_
    | with_reducible refine tE ?_
    | (
     with_reducible refine tN ?_
     refine CW_seq ?_
     refine CW_block ?_
     refine CW_region ?_
     iterate 2 refine oM rfl rfl ?_
     first | refine oQ (Ia0 rfl rfl rfl rfl rfl rfl) rfl rfl ?_ | refine oQ (Ia1 rfl rfl rfl rfl rfl rfl) rfl rfl ?_
     refine oQ (Ld rfl rfl rfl rfl) rfl rfl ?_
     first | refine oQ (Ia0 rfl rfl rfl rfl rfl rfl) rfl rfl ?_ | refine oQ (Ia1 rfl rfl rfl rfl rfl rfl) rfl rfl ?_
     refine oS rfl rfl rfl rfl rfl ?_
     refine OW_nil ?_
     all_goals first | with_reducible refine bN ?_ | with_reducible refine bE ?_ | with_reducible refine bR ?_ | refine bX rfl ?_
     all_goals with_reducible refine tN ?_
     all_goals (
      refine CW_region ?_
      refine oM rfl rfl ?_
      first | refine oQ (Q_binu rfl rfl rfl (by omega)) rfl rfl ?_ | refine oQ (Q_bin rfl rfl rfl) rfl rfl ?_
      refine oA rfl rfl ?_
      refine OW_nil ?_))
  all_goals first
    | with_reducible refine tR ?_
    | with_reducible refine tE ?_
    | (
     with_reducible refine tN ?_
     refine ⟨i + 1, ?_, ?_, View.mk' [] rfl rfl rfl ?_ ?_⟩
     · omega
     · omega
     all_goals (repeat' first | exact vFn | refine vFc rfl ?_ | exact vHn | refine vHc rfl ?_ | refine vFc (congrArg (fun z => some (V.int z)) ?_) ?_ | refine vHc (congrArg (fun z => some (Blk.ints _ z)) ?_) ?_ | refine vFc (congrArg (fun z => some (V.bool z)) ?_) ?_ | refine vFs rfl rfl ?_ ?_)
     all_goals exact fill_set (by omega) hl)
  all_goals first | with_reducible refine bN ?_ | with_reducible refine bE ?_ | with_reducible refine bR ?_ | refine bX rfl ?_
  all_goals with_reducible refine tN ?_
  all_goals (
   refine cR ?_
   first | refine oQ (Lw rfl rfl rfl rfl) rfl rfl ?_ | refine oQ (La rfl rfl rfl rfl rfl) rfl rfl ?_
   first | refine oSw rfl rfl rfl rfl ?_ | refine oSa rfl rfl rfl rfl ?_
   refine oN ?_
   refine CW_ret ?_)
  all_goals (
   have e : i = 6 := by omega
   subst e
   refine exitQ (.inr rfl) 0 (.cons (.arr rfl rfl rfl rfl (by simp [hl])) .nil) ?_ rfl vHn rfl rfl
   simp [resV, ← hl])
end Go.Proofs.Ytoiolpgmilobnaa
namespace Go.Proofs.Ytoiolpgmilobnaa
set_option linter.unusedVariables false
set_option linter.unusedSimpArgs false
set_option linter.unusedSectionVars false
open Lean.Grind
theorem pigeon : ∀ (m k : Nat) (f : Nat → Nat), (∀ i, i < m → f i < k) → (∀ i j, i < m → j < m → f i = f j → i = j) → m ≤ k
  | 0, k, f, _, _ => Nat.zero_le k
  | m + 1, k, f, h1, h2 => by
    have hk : f m < k := h1 m (by omega)
    -- leave out the place of m: swap it with k - 1
    have := pigeon m (k - 1) (fun i => if f i = k - 1 then f m else f i) (fun i hi => by
      have a := h1 i (by omega)
      have b : f i ≠ f m := fun e => by have := h2 i m (by omega) (by omega) e; omega
      split <;> omega) (fun i j hi hj e => by
      have b : f i ≠ f m := fun e => by have := h2 i m (by omega) (by omega) e; omega
      have b' : f j ≠ f m := fun e => by have := h2 j m (by omega) (by omega) e; omega
      refine h2 i j (by omega) (by omega) ?_
      split at e <;> split at e <;> omega)
    omega
section
variable {F : Type} [CommRing F]
/-- the sum of products of w numbers -/
def dt (r x : Nat → F) : Nat → F
  | 0 => 0
  | w + 1 => dt r x w + r w * x w
def dl (c j : Nat) : F := if j = c then 1 else 0
theorem dt_dl_ge (r : Nat → F) {c : Nat} : ∀ {w : Nat}, w ≤ c → dt r (dl c) w = 0
  | 0, _ => rfl
  | w + 1, h => by
    rw [dt, dt_dl_ge r (by omega)]
    unfold dl
    rw [if_neg (by omega)]
    grind
theorem dt_dl (r : Nat → F) {c : Nat} : ∀ {w : Nat}, c < w → dt r (dl c) w = r c
  | 0, h => by omega
  | w + 1, h => by
    rw [dt]
    by_cases e : c = w
    · subst e
      rw [dt_dl_ge r (Nat.le_refl c)]
      unfold dl
      rw [if_pos rfl]
      grind
    · rw [dt_dl r (by omega)]
      unfold dl
      rw [if_neg (by omega)]
      grind
theorem dt_sub (r x y : Nat → F) (k : F) : ∀ w, dt r (fun j => x j - k * y j) w = dt r x w - k * dt r y w
  | 0 => by unfold dt; grind
  | w + 1 => by rw [dt, dt, dt, dt_sub r x y k w]; grind
theorem dt_row (r s : Nat → F) (x : Nat → F) (k : F) : ∀ w, dt (fun j => r j - k * s j) x w = dt r x w - k * dt s x w
  | 0 => by unfold dt; grind
  | w + 1 => by rw [dt, dt, dt, dt_row r s x k w]; grind
theorem dt_scal (r : Nat → F) (x : Nat → F) (k : F) : ∀ w, dt (fun j => k * r j) x w = k * dt r x w
  | 0 => by unfold dt; grind
  | w + 1 => by rw [dt, dt, dt_scal r x k w]; grind
theorem dt_congr {r s x : Nat → F} : ∀ {w : Nat}, (∀ j, j < w → r j = s j) → dt r x w = dt s x w
  | 0, _ => rfl
  | w + 1, h => by rw [dt, dt, dt_congr (fun j hj => h j (by omega)), h w (by omega)]
/-- zeros ahead in the row, zeros behind in the vector -/
theorem dt_lead {r x : Nat → F} {c : Nat} (hr : ∀ j, j < c → r j = 0) (hx : ∀ j, c < j → x j = 0) : ∀ {w : Nat}, dt r x w = if c < w then r c * x c else 0
  | 0 => by rw [if_neg (by omega)]; rfl
  | w + 1 => by
    rw [dt, dt_lead hr hx]
    by_cases h : c < w
    · rw [if_pos h, if_pos (by omega), hx w h]; grind
    · rw [if_neg h]
      by_cases e : c = w
      · subst e; rw [if_pos (by omega)]; grind
      · rw [if_neg (by omega), hr w (by omega)]; grind
def NullV (A : Nat → Nat → F) (m w : Nat) (x : Nat → F) : Prop := ∀ i, i < m → dt (A i) x w = 0
/-- a reduced list: row i leads with 1 at P i -/
structure Ech (A : Nat → Nat → F) (m w : Nat) (P : Nat → Nat) : Prop where
  lt : ∀ i, i < m → P i < w
  one : ∀ i, i < m → A i (P i) = 1
  low : ∀ i, i < m → ∀ j, j < P i → A i j = 0
  oth : ∀ i, i < m → ∀ k, k < m → k ≠ i → A k (P i) = 0
/-- the null vector of a column without a lead -/
def nv (A : Nat → Nat → F) (P : Nat → Nat) (c : Nat) : Nat → Nat → F
  | 0 => dl c
  | i + 1 => fun j => nv A P c i j - A i c * dl (P i) j
theorem nv_dt {A : Nat → Nat → F} {m w : Nat} {P : Nat → Nat} (h : Ech A m w P) {c : Nat} (hc : c < w) {k : Nat} (hk : k < m) : ∀ {i : Nat}, i ≤ m → dt (A k) (nv A P c i) w = if k < i then 0 else A k c
  | 0, _ => by rw [nv, dt_dl _ hc, if_neg (by omega)]
  | i + 1, hi => by
    rw [nv, dt_sub, nv_dt h hc hk (by omega), dt_dl _ (h.lt i (by omega))]
    by_cases e : k = i
    · subst e
      rw [if_neg (by omega), if_pos (by omega), h.one k hk]; grind
    · rw [h.oth i (by omega) k hk e]
      by_cases hl : k < i
      · rw [if_pos hl, if_pos (by omega)]; grind
      · rw [if_neg hl, if_neg (by omega)]; grind
theorem nv_at {A : Nat → Nat → F} {m w : Nat} {P : Nat → Nat} (h : Ech A m w P) {c : Nat} (hP : ∀ i, i < m → P i ≠ c) : ∀ {i : Nat}, i ≤ m → nv A P c i c = 1 ∧ ∀ j, c < j → nv A P c i j = 0
  | 0, _ => by
    refine ⟨by unfold nv dl; rw [if_pos rfl], fun j hj => ?_⟩
    unfold nv dl
    rw [if_neg (by omega)]
  | i + 1, hi => by
    obtain ⟨h1, h2⟩ := nv_at h hP (i := i) (by omega)
    have hp := hP i (by omega)
    refine ⟨?_, fun j hj => ?_⟩
    · show nv A P c i c - A i c * dl (P i) c = 1
      rw [h1]; unfold dl; rw [if_neg (fun e => hp e.symm)]; grind
    · show nv A P c i j - A i c * dl (P i) j = 0
      rw [h2 j hj]
      by_cases e : P i = j
      · rw [h.low i (by omega) c (by omega)]; grind
      · unfold dl; rw [if_neg (fun x => e x.symm)]; grind
theorem ech_piv {A : Nat → Nat → F} {m w : Nat} {P : Nat → Nat} (h1 : (1 : F) ≠ 0) (h : Ech A m w P) {c : Nat} (hc : c < w) : (∃ i, i < m ∧ P i = c) ↔ ∀ x, NullV A m w x → (∀ j, c < j → x j = 0) → x c = 0 := by
  constructor
  · rintro ⟨i, hi, rfl⟩ x hx hz
    have := hx i hi
    rw [dt_lead (h.low i hi) hz, if_pos hc, h.one i hi] at this
    grind
  · intro hx
    apply Classical.byContradiction
    intro hn
    have hP : ∀ i, i < m → P i ≠ c := fun i hi e => hn ⟨i, hi, e⟩
    obtain ⟨g1, g2⟩ := nv_at h hP (Nat.le_refl m)
    have := hx (nv A P c m) (fun k hk => by rw [nv_dt h hc hk (Nat.le_refl m), if_pos hk]) g2
    rw [g1] at this
    exact h1 this
theorem ech_inj {A : Nat → Nat → F} {m w : Nat} {P : Nat → Nat} (h1 : (1 : F) ≠ 0) (h : Ech A m w P) {i j : Nat} (hi : i < m) (hj : j < m) (e : P i = P j) : i = j := by
  apply Classical.byContradiction
  intro hn
  have := h.oth i hi j hj (fun x => hn x.symm)
  rw [e, h.one j hj] at this
  exact h1 this
theorem ech_le {A B : Nat → Nat → F} {m k w : Nat} {P Q : Nat → Nat} (h1 : (1 : F) ≠ 0) (hA : Ech A m w P) (hB : Ech B k w Q) (hN : ∀ x, NullV A m w x ↔ NullV B k w x) : m ≤ k := by
  have hex : ∀ i, ∃ q, i < m → q < k ∧ Q q = P i := fun i => by
    by_cases hi : i < m
    · obtain ⟨q, hq, e⟩ := (ech_piv h1 hB (hA.lt i hi)).2 (fun x hx hz => (ech_piv h1 hA (hA.lt i hi)).1 ⟨i, hi, rfl⟩ x ((hN x).2 hx) hz)
      exact ⟨q, fun _ => ⟨hq, e⟩⟩
    · exact ⟨0, fun h => absurd h hi⟩
  refine pigeon m k (fun i => Classical.choose (hex i)) (fun i hi => (Classical.choose_spec (hex i) hi).1) (fun i j hi hj e => ?_)
  have a := (Classical.choose_spec (hex i) hi).2
  have b := (Classical.choose_spec (hex j) hj).2
  exact ech_inj h1 hA hi hj (by rw [← a, ← b]; exact congrArg Q e)
theorem ech_len {A B : Nat → Nat → F} {m k w : Nat} {P Q : Nat → Nat} (h1 : (1 : F) ≠ 0) (hA : Ech A m w P) (hB : Ech B k w Q) (hN : ∀ x, NullV A m w x ↔ NullV B k w x) : m = k :=
  Nat.le_antisymm (ech_le h1 hA hB hN) (ech_le h1 hB hA fun x => (hN x).symm)
end
end Go.Proofs.Ytoiolpgmilobnaa
namespace Go.Proofs.Ytoiolpgmilobnaa
set_option linter.unusedVariables false
set_option linter.unusedSimpArgs false
set_option linter.unusedSectionVars false
open Lean.Grind
section
variable {F : Type} [CommRing F]
/-- the program's state: cnt leads in the first c columns, the other rows 0 there -/
structure Red (A : Nat → Nat → F) (m w cnt c : Nat) (P : Nat → Nat) : Prop where
  le : cnt ≤ m
  lt : ∀ i, i < cnt → P i < c
  one : ∀ i, i < cnt → A i (P i) = 1
  low : ∀ i, i < cnt → ∀ j, j < P i → A i j = 0
  oth : ∀ i, i < cnt → ∀ k, k < m → k ≠ i → A k (P i) = 0
  zer : ∀ k, cnt ≤ k → k < m → ∀ j, j < c → A k j = 0
theorem red_start (A : Nat → Nat → F) (m w : Nat) (P : Nat → Nat) : Red A m w 0 0 P :=
  ⟨Nat.zero_le m, fun i h => by omega, fun i h => by omega, fun i h => by omega, fun i h => by omega, fun k _ _ j h => by omega⟩
theorem red_skip {A : Nat → Nat → F} {m w cnt c : Nat} {P : Nat → Nat} (h : Red A m w cnt c P) (hz : ∀ k, cnt ≤ k → k < m → A k c = 0) : Red A m w cnt (c + 1) P :=
  ⟨h.le, fun i hi => by have := h.lt i hi; omega, h.one, h.low, h.oth, fun k h1 h2 j hj => by
    by_cases e : j = c
    · subst e; exact hz k h1 h2
    · exact h.zer k h1 h2 j (by omega)⟩
/-- rows after the exchange of the rows cnt and i -/
def swA (A : Nat → Nat → F) (cnt i : Nat) : Nat → Nat → F := fun k => if k = cnt then A i else if k = i then A cnt else A k
/-- rows after the row cnt is made s times itself and taken off the others -/
def elA (B : Nat → Nat → F) (cnt c : Nat) (s : F) : Nat → Nat → F := fun k => if k = cnt then fun j => s * B cnt j else fun j => B k j - B k c * (s * B cnt j)
theorem sw_null (A : Nat → Nat → F) {m w cnt i : Nat} (h1 : cnt < m) (h2 : i < m) (x : Nat → F) : NullV A m w x ↔ NullV (swA A cnt i) m w x := by
  constructor
  · intro h k hk
    unfold swA
    split
    · exact h i h2
    · split
      · exact h cnt h1
      · exact h k hk
  · intro h k hk
    have a := h cnt h1
    have b := h i h2
    have d := h k hk
    unfold swA at a b d
    by_cases e : k = cnt
    · subst e
      by_cases e2 : i = k
      · subst e2; rwa [if_pos rfl] at a
      · rwa [if_neg e2, if_pos rfl] at b
    · by_cases e2 : k = i
      · subst e2; rwa [if_pos rfl] at a
      · rwa [if_neg e, if_neg e2] at d
theorem el_null (B : Nat → Nat → F) {m w cnt c : Nat} {s t : F} (h1 : cnt < m) (hs : s * t = 1) (x : Nat → F) : NullV B m w x ↔ NullV (elA B cnt c s) m w x := by
  have e0 : ∀ k, dt (elA B cnt c s k) x w = if k = cnt then s * dt (B cnt) x w else dt (B k) x w - B k c * (s * dt (B cnt) x w) := fun k => by
    unfold elA
    split
    · rw [dt_scal]
    · rw [dt_row (B k) (fun j => s * B cnt j) x (B k c) w, dt_scal]
  constructor
  · intro h k hk
    rw [e0]
    have a := h cnt h1
    split
    · rw [a]; grind
    · rw [h k hk, a]; grind
  · intro h k hk
    have a := h cnt h1
    rw [e0, if_pos rfl] at a
    have a' : dt (B cnt) x w = 0 := by
      have : dt (B cnt) x w = t * (s * dt (B cnt) x w) := by grind
      rw [this, a]; grind
    by_cases e : k = cnt
    · subst e; exact a'
    · have b := h k hk
      rw [e0, if_neg e, a'] at b
      grind
theorem red_piv {A : Nat → Nat → F} {m w cnt c i : Nat} {P : Nat → Nat} {s : F} (h : Red A m w cnt c P) (h1 : cnt ≤ i) (h2 : i < m) (hs : s * A i c = 1) : Red (elA (swA A cnt i) cnt c s) m w (cnt + 1) (c + 1) (fun z => if z = cnt then c else P z) := by
  have hb : ∀ k, k < cnt → swA A cnt i k = A k := fun k hk => by unfold swA; rw [if_neg (by omega), if_neg (by omega)]
  have hc : swA A cnt i cnt = A i := by unfold swA; rw [if_pos rfl]
  have hbz : ∀ k, cnt ≤ k → k < m → ∀ j, j < c → swA A cnt i k j = 0 := fun k a b j hj => by
    unfold swA
    split
    · exact h.zer i h1 h2 j hj
    · split
      · exact h.zer cnt (Nat.le_refl _) (by omega) j hj
      · exact h.zer k a b j hj
  have hbo : ∀ z, z < cnt → ∀ k, k < m → k ≠ z → swA A cnt i k (P z) = 0 := fun z hz k hk hne => by
    unfold swA
    split
    · exact h.oth z hz i h2 (by omega)
    · split
      · exact h.oth z hz cnt (by omega) (by omega)
      · exact h.oth z hz k hk hne
  generalize hB : swA A cnt i = B at *
  have hsB : s * B cnt c = 1 := by rw [hc]; exact hs
  refine ⟨by omega, fun z hz => ?_, fun z hz => ?_, fun z hz j hj => ?_, fun z hz k hk hne => ?_, fun k hk hk2 j hj => ?_⟩
  · split
    · omega
    · have := h.lt z (by omega); omega
  · by_cases e : z = cnt
    · rw [if_pos e]; subst e; unfold elA; rw [if_pos rfl]; exact hsB
    · have a := h.lt z (by omega)
      rw [if_neg e]; unfold elA; rw [if_neg e]
      show B z (P z) - B z c * (s * B cnt (P z)) = 1
      rw [hbo z (by omega) cnt (by omega) (fun x => e x.symm), hb z (by omega), h.one z (by omega)]; grind
  · by_cases e : z = cnt
    · rw [if_pos e] at hj; subst e; unfold elA; rw [if_pos rfl]
      show s * B z j = 0
      rw [hbz z (Nat.le_refl _) (by omega) j hj]; grind
    · rw [if_neg e] at hj
      have a := h.lt z (by omega)
      unfold elA; rw [if_neg e]
      show B z j - B z c * (s * B cnt j) = 0
      rw [hbz cnt (Nat.le_refl _) (by omega) j (by omega), hb z (by omega), h.low z (by omega) j hj]; grind
  · by_cases e : z = cnt
    · rw [if_pos e]; subst e; unfold elA; rw [if_neg hne]
      show B k c - B k c * (s * B z c) = 0
      rw [hsB]; grind
    · rw [if_neg e]
      have a := h.lt z (by omega)
      unfold elA
      by_cases e2 : k = cnt
      · rw [if_pos e2]
        show s * B cnt (P z) = 0
        rw [hbo z (by omega) cnt (by omega) (fun x => e x.symm)]; grind
      · rw [if_neg e2]
        show B k (P z) - B k c * (s * B cnt (P z)) = 0
        rw [hbo z (by omega) cnt (by omega) (fun x => e x.symm), hbo z (by omega) k hk hne]; grind
  · have e : k ≠ cnt := by omega
    unfold elA; rw [if_neg e]
    show B k j - B k c * (s * B cnt j) = 0
    by_cases ej : j = c
    · subst ej; rw [hsB]; grind
    · rw [hbz k (by omega) hk2 j (by omega), hbz cnt (Nat.le_refl _) (by omega) j (by omega)]; grind
/-- the end: all rows lead, or all columns are done -/
theorem red_end {A : Nat → Nat → F} {m w cnt c : Nat} {P : Nat → Nat} (h : Red A m w cnt c P) (hc : c ≤ w) (he : cnt = m ∨ c = w) : Ech A cnt w P ∧ ∀ x, NullV A m w x ↔ NullV A cnt w x := by
  refine ⟨⟨fun i hi => by have := h.lt i hi; omega, h.one, h.low, fun i hi k hk hne => h.oth i hi k (by have := h.le; omega) hne⟩, fun x => ⟨fun g i hi => g i (by have := h.le; omega), fun g i hi => ?_⟩⟩
  by_cases hl : i < cnt
  · exact g i hl
  · rcases he with he | he
    · omega
    · subst he
      have hz := h.zer i (by omega) hi
      have : ∀ w', w' ≤ c → dt (A i) x w' = 0 := by
        intro w'
        induction w' with
        | zero => intro _; rfl
        | succ q ih => intro hq; rw [dt, ih (by omega), hz q (by omega)]; grind
      exact this c (Nat.le_refl c)
/-! ### the reference's step -/
/-- the row r set in at place q, and taken off the others -/
def inA (E : Nat → Nat → F) (r : Nat → F) (q a : Nat) : Nat → Nat → F := fun k => if k < q then fun j => E k j - E k a * r j else if k = q then r else fun j => E (k - 1) j - E (k - 1) a * r j
def inP (P : Nat → Nat) (q a : Nat) : Nat → Nat := fun k => if k < q then P k else if k = q then a else P (k - 1)
theorem in_null {E : Nat → Nat → F} {r : Nat → F} {m w q a : Nat} (hq : q ≤ m) (x : Nat → F) : NullV (inA E r q a) (m + 1) w x ↔ NullV E m w x ∧ dt r x w = 0 := by
  have e0 : ∀ k, dt (inA E r q a k) x w = if k < q then dt (E k) x w - E k a * dt r x w else if k = q then dt r x w else dt (E (k - 1)) x w - E (k - 1) a * dt r x w := fun k => by
    unfold inA
    split
    · rw [dt_row]
    · split
      · rfl
      · rw [dt_row]
  constructor
  · intro h
    have hr : dt r x w = 0 := by have := h q (by omega); rwa [e0, if_neg (by omega), if_pos rfl] at this
    refine ⟨fun k hk => ?_, hr⟩
    by_cases hl : k < q
    · have := h k (by omega)
      rw [e0, if_pos hl, hr] at this
      grind
    · have := h (k + 1) (by omega)
      rw [e0, if_neg (by omega), if_neg (by omega), Nat.add_sub_cancel, hr] at this
      grind
  · rintro ⟨h, hr⟩ k hk
    rw [e0]
    split
    · rw [h k (by omega), hr]; grind
    · split
      · exact hr
      · rw [h (k - 1) (by omega), hr]; grind
theorem in_ech {E : Nat → Nat → F} {r : Nat → F} {m w q a : Nat} {P : Nat → Nat} (h : Ech E m w P) (hq : q ≤ m) (ha : a < w) (h0 : ∀ j, j < a → r j = 0) (h1 : r a = 1) (hP : ∀ k, k < m → r (P k) = 0) (one0 : (1 : F) ≠ 0) : Ech (inA E r q a) (m + 1) w (inP P q a) := by
  have hne : ∀ k, k < m → P k ≠ a := fun k hk e => by have := hP k hk; rw [e, h1] at this; exact one0 this
  have lowk : ∀ k, k < m → ∀ j, j < P k → E k j - E k a * r j = 0 := fun k hk j hj => by
    rw [h.low k hk j hj]
    by_cases ha' : a < P k
    · rw [h.low k hk a ha']; grind
    · rw [h0 j (by have := hne k hk; omega)]; grind
  have onek : ∀ k, k < m → E k (P k) - E k a * r (P k) = 1 := fun k hk => by rw [h.one k hk, hP k hk]; grind
  have othk : ∀ z, z < m → ∀ k, k < m → k ≠ z → E k (P z) - E k a * r (P z) = 0 := fun z hz k hk hkz => by rw [h.oth z hz k hk hkz, hP z hz]; grind
  have atk : ∀ k, E k a - E k a * r a = 0 := fun k => by rw [h1]; grind
  refine ⟨fun i hi => ?_, fun i hi => ?_, fun i hi j hj => ?_, fun i hi k hk hki => ?_⟩
  · unfold inP; split
    · exact h.lt i (by omega)
    · split
      · exact ha
      · exact h.lt (i - 1) (by omega)
  · unfold inP inA; split
    · exact onek i (by omega)
    · split
      · exact h1
      · exact onek (i - 1) (by omega)
  · unfold inP at hj; unfold inA; split
    · rename_i hl; rw [if_pos hl] at hj; exact lowk i (by omega) j hj
    · rename_i hl; rw [if_neg hl] at hj; split
      · rename_i he; rw [if_pos he] at hj; exact h0 j hj
      · rename_i he; rw [if_neg he] at hj; exact lowk (i - 1) (by omega) j hj
  · unfold inP inA
    by_cases i1 : i < q
    · rw [if_pos i1]
      by_cases k1 : k < q
      · rw [if_pos k1]; exact othk i (by omega) k (by omega) hki
      · rw [if_neg k1]
        by_cases k2 : k = q
        · rw [if_pos k2]; exact hP i (by omega)
        · rw [if_neg k2]; exact othk i (by omega) (k - 1) (by omega) (by omega)
    · rw [if_neg i1]
      by_cases i2 : i = q
      · rw [if_pos i2]
        by_cases k1 : k < q
        · rw [if_pos k1]; exact atk k
        · rw [if_neg k1, if_neg (by omega)]; exact atk (k - 1)
      · rw [if_neg i2]
        by_cases k1 : k < q
        · rw [if_pos k1]; exact othk (i - 1) (by omega) k (by omega) (by omega)
        · rw [if_neg k1]
          by_cases k2 : k = q
          · rw [if_pos k2]; exact hP (i - 1) (by omega)
          · rw [if_neg k2]; exact othk (i - 1) (by omega) (k - 1) (by omega) (by omega)
end
end Go.Proofs.Ytoiolpgmilobnaa
namespace Go.Proofs.Ytoiolpgmilobnaa
attribute [local irreducible] CW OW QW QOp Con thenP inBlockP
set_option maxRecDepth 10000
set_option linter.unusedSimpArgs false
set_option linter.unusedVariables false
theorem mod_list {p : Int} {l : List Int} (h : modB p l = true) : ∀ x ∈ l, 0 ≤ x ∧ x < p := by
  intro x hx
  have := List.all_eq_true.1 h x hx
  simp at this
  omega
theorem norm_list {p : Int} {l : List Int} (h : normB p l = true) : ∀ x ∈ l, 0 ≤ x ∧ x < p := by
  simp only [normB, Bool.and_eq_true] at h
  exact mod_list h.1
/-- element number i of a list of arrays -/
abbrev elemAt (sz : Nat) (M : List Int) (i : Nat) : List Int := (M.drop (i * sz)).take sz
theorem elemAt_length {sz : Nat} {M : List Int} {i k : Nat} (h : k * sz ≤ M.length) (hi : i < k) : (elemAt sz M i).length = sz := by
  have : (i + 1) * sz ≤ k * sz := Nat.mul_le_mul_right sz hi
  rw [Nat.add_mul] at this
  simp; omega
/-- the place of the first element for which something is so, or -1 -/
def idxF (g : List Int → Bool) (sz : Nat) (M : List Int) (k : Nat) : Int := match (List.range k).find? fun i => g (elemAt sz M i) with
  | some i => (i : Int)
  | none => -1
def anyF (g : List Int → Bool) (sz : Nat) (M : List Int) (k : Nat) : Bool := (List.range k).any fun i => g (elemAt sz M i)
theorem idx_found {g : List Int → Bool} {sz : Nat} {M : List Int} {k i : Nat} (hi : i < k) (h0 : ∀ j, j < i → g (elemAt sz M j) = false) (h1 : g (elemAt sz M i) = true) : idxF g sz M k = (i : Int) := by
  have : (List.range k).find? (fun i => g (elemAt sz M i)) = some i := by
    rw [List.find?_eq_some_iff_getElem]
    refine ⟨h1, i, by simpa using hi, by simp, fun j hj => ?_⟩
    simp [h0 j hj]
  simp [idxF, this]
theorem idx_none {g : List Int → Bool} {sz : Nat} {M : List Int} {k : Nat} (h0 : ∀ j, j < k → g (elemAt sz M j) = false) : idxF g sz M k = -1 := by
  have : (List.range k).find? (fun i => g (elemAt sz M i)) = none := by
    rw [List.find?_eq_none]
    intro j hj
    simp [h0 j (by simpa using hj)]
  simp [idxF, this]
theorem idx_any {g : List Int → Bool} {sz : Nat} {M : List Int} {k : Nat} : (decide (idxF g sz M k ≥ 0)) = anyF g sz M k := by
  unfold idxF anyF
  cases h : (List.range k).find? fun i => g (elemAt sz M i) with
  | none =>
    rw [List.find?_eq_none] at h
    symm
    simp only [ge_iff_le]
    rw [show decide ((0 : Int) ≤ -1) = false by decide, List.any_eq_false]
    exact h
  | some i =>
    have h1 := List.find?_some h
    have h2 := List.mem_of_find?_eq_some h
    symm
    have : decide ((i : Int) ≥ 0) = true := by simp
    rw [this, List.any_eq_true]
    exact ⟨i, h2, h1⟩
theorem injB_id : ∀ l : List Nat, injB (ap []) l = true
  | [] => rfl
  | b :: r => by
    simp only [injB, injB_id r, Bool.and_true, List.all_eq_true, Bool.or_eq_true, Nat.beq_eq_true_eq, Bool.not_eq_true']
    intro b' _
    by_cases h : b = b'
    · exact .inl (by subst h; exact Nat.beq_refl b)
    · right
      show Nat.beq b b' = false
      cases hb : Nat.beq b b'
      · rfl
      · exact absurd (Nat.eq_of_beq_eq_true hb) h
theorem rens_nil (l : List V) : rens (ap []) l = l := rens_id _ _ (fun _ _ => rfl)
/-- the code of a prime and of what a closure says, whatever it has captured -/
theorem planeCode_gen (p : Int) (f : Nat) (b : Bool) (caps : List V) (H0 : Hp) (n : Nat) (hv : vH (ap []) H0 H0) (hl : allLive H0 = true) (hcl : closedB H0 = true) (hwf : wfB (ids H0) ⟨[(0, .int p), (1, .func f [] caps)], H0, n⟩ = true) (hwf2 : wfB (ids H0) ⟨[(0, .int 0)], H0, n⟩ = true)
    (hf : primeB p = true → ConQ Try.prog [] f caps H0 (.bool b)) : ConQ Try.prog [] 80 [.int p, .func f [] caps] H0 (.int (if primeB p = true then (if b = true then 0 else 1) else 2)) := by
  have hsc : sc n (V.func f [] caps).ids = true := by
    simp only [wfB, Bool.and_eq_true, List.all_cons] at hwf
    exact hwf.2.2.1
  refine conW tab_ok [(0, .int p), (1, .func f [] caps)] n (ids H0) (wids H0) Try.func80 rfl rfl rfl rfl rfl rfl rfl rfl hwf ?_
  refine cR ?_
  refine oA rfl rfl ?_
  refine oN ?_
  refine CW_seq ?_
  refine CW_block ?_
  refine cR ?_
  refine oM rfl rfl ?_
  refine oQ (Q_call0 (isPrime_con _) rfl rfl rfl) rfl rfl ?_
  refine oQ (Q_not rfl) rfl rfl ?_
  refine oA rfl rfl ?_
  refine oN ?_
  first | refine cT rfl ?_ | refine cF rfl ?_ | refine CW_cond rfl (fun hc => ?_) (fun hc => ?_)
  all_goals try simp only [s1, s2, s3, s4, s5, s6, s7, s8, s9, s10, s11, s12] at hc
  all_goals first
    | (
     refine cR ?_
     refine oA rfl rfl ?_
     refine oN ?_
     refine CW_ret ?_)
    | (
     refine cR ?_
     refine oQ (Q_move rfl rfl) rfl hsc ?_
     refine oQ (Q_callf (hf hc) [] rfl rfl (rens_nil caps).symm ⟨hv, hl, injB_iff (injB_id _), fun x hx => by simp at hx⟩ rfl hcl) rfl rfl ?_
     refine oQ (Q_not rfl) rfl rfl ?_
     refine oA rfl rfl ?_
     refine oN ?_
     first | refine cT rfl ?_ | refine cF rfl ?_ | refine CW_cond rfl (fun hc => ?_) (fun hc => ?_)
     all_goals try simp only [s1, s2, s3, s4, s5, s6, s7, s8, s9, s10, s11, s12] at hc
     all_goals first
       | (
        refine CW_skip ?_)
       | (
        refine cR ?_
        refine oA rfl rfl ?_
        refine oN ?_
        refine CW_ret ?_))
  all_goals first | with_reducible refine bN ?_ | with_reducible refine bE ?_ | with_reducible refine bR ?_ | refine bX rfl ?_
  all_goals first
    | with_reducible refine tR ?_
    | with_reducible refine tE ?_
    | (
     with_reducible refine tN ?_
     refine cR ?_
     refine oA rfl rfl ?_
     refine oN ?_
     refine CW_ret ?_)
  all_goals (
   refine exitQ (.inr rfl) n (.cons (.tmp rfl rfl) .nil) ?_ rfl hv hwf2 (injB_id _)
   simp_all [resV, ren])
theorem indexConic_con (f : Nat) (g : List Int → Bool) (q : Int) (tM tP : TypeId) (M : List Int) (k ck : Nat) (hM : k * 6 ≤ M.length) (hk : k ≤ 1000000000) (hf : ∀ m, m.length = 6 → ConQ Try.prog [] f [.arr m, .ptr 1 0] [(1, .ints tP [q])] (.bool (g m))) :
    ConQ Try.prog [] 124 [.slice 0 0 k ck, .func f [] [.ptr 1 0]] [(0, .ints tM M), (1, .ints tP [q])] (.int (idxF g 6 M k)) := by
  refine conW tab_ok [(0, .slice 0 0 k ck), (1, .func f [] [.ptr 1 0])] 2 [0, 1] [0, 1] Try.func124 rfl rfl rfl rfl rfl rfl rfl rfl rfl ?_
  refine cR ?_
  refine oA rfl rfl ?_
  refine oN ?_
  refine CW_seq ?_
  refine cR ?_
  refine oM rfl rfl ?_
  first | refine oQ (Q_len rfl rfl rfl rfl) rfl rfl ?_ | refine oQ (Q_len0 rfl rfl rfl rfl) rfl rfl ?_
  refine oM rfl rfl ?_
  refine oN ?_
  refine CW_block ?_
  refine CW_loop (ι := Nat) (fun i => i ≤ k ∧ ∀ j, j < i → g (elemAt 6 M j) = false) (fun i => ⟨[(0, .slice 0 0 k ck), (1, .func f [] [.ptr 1 0]), (7, .int k), (8, .int i)], [(0, .ints tM M), (1, .ints tP [q])], 2⟩) (fun i => k - i) 0 ?_ ?_ ?_
  · exact ⟨Nat.zero_le _, fun j h => absurd h (Nat.not_lt_zero _)⟩
  · refine View.mk' [] rfl rfl rfl ?_ ?_
    repeat' first | exact vFn | refine vFc rfl ?_ | exact vHn | refine vHc rfl ?_ | refine vFc (congrArg (fun z => some (V.int z)) ?_) ?_ | refine vHc (congrArg (fun z => some (Blk.ints _ z)) ?_) ?_ | refine vFc (congrArg (fun z => some (V.bool z)) ?_) ?_ | refine vFs rfl rfl ?_ ?_
  rintro i ⟨hi, hi2⟩
  refine cR ?_
  refine oQ (Q_bin rfl rfl rfl) rfl rfl ?_
  refine oN ?_
  refine CW_seq ?_
  first | refine cT rfl ?_ | refine cF rfl ?_ | refine CW_cond rfl (fun hc => ?_) (fun hc => ?_)
  all_goals try simp only [s1, s2, s3, s4, s5, s6, s7, s8, s9, s10, s11, s12] at hc
  all_goals first
    | (
     refine CW_skip ?_)
    | (
     refine CW_exit ?_)
  all_goals first
    | with_reducible refine tR ?_
    | with_reducible refine tE ?_
    | (
     with_reducible refine tN ?_
     refine CW_seq ?_
     refine CW_block ?_
     refine cR ?_
     refine oM rfl rfl ?_
     refine oA rfl rfl ?_
     refine oN ?_
     refine cR ?_
     iterate 3 refine oM rfl rfl ?_
     first | refine oQ (Q_ixs0z 6 rfl rfl rfl rfl rfl rfl (by first | omega | (dsimp only; omega) | (simp; omega) | (simp; done))) rfl rfl ?_ | refine oQ (Q_ixsz 6 rfl rfl rfl rfl rfl rfl (by first | omega | (dsimp only; omega) | (simp; omega) | (simp; done))) rfl rfl ?_
     first | refine oQ (Lw rfl rfl rfl rfl) rfl rfl ?_ | refine oQ (La rfl rfl rfl rfl rfl) rfl rfl ?_
     refine oQ (Q_callf (hf _ (elemAt_length hM (by omega))) [] rfl rfl rfl (Fits.mk' (vHc rfl vHn) rfl rfl (by simp)) rfl rfl) rfl rfl ?_
     refine oN ?_
     first | refine cT rfl ?_ | refine cF rfl ?_ | refine CW_cond rfl (fun hc => ?_) (fun hc => ?_)
     all_goals try simp only [s1, s2, s3, s4, s5, s6, s7, s8, s9, s10, s11, s12] at hc
     all_goals first
       | (
        refine CW_skip ?_)
       | (
        refine cR ?_
        refine oM rfl rfl ?_
        refine oA rfl rfl ?_
        refine oN ?_
        refine CW_ret ?_)
     all_goals first | with_reducible refine bN ?_ | with_reducible refine bE ?_ | with_reducible refine bR ?_ | refine bX rfl ?_
     all_goals first
       | with_reducible refine tR ?_
       | with_reducible refine tE ?_
       | (
        with_reducible refine tN ?_
        refine CW_region ?_
        first | refine oQ (Q_binu rfl rfl rfl (by omega)) rfl rfl ?_ | refine oQ (Q_bin rfl rfl rfl) rfl rfl ?_
        refine oM rfl rfl ?_
        refine OW_nil ?_))
  all_goals first
    | with_reducible refine tR ?_
    | with_reducible refine tE ?_
    | (
     with_reducible refine tN ?_
     refine ⟨i + 1, ?_, ?_, View.mk' [] rfl rfl rfl ?_ ?_⟩
     · refine ⟨by omega, fun j hj => ?_⟩
       by_cases e : j = i
       · subst e; exact hc
       · exact hi2 j (by omega)
     · omega
     all_goals (repeat' first | exact vFn | refine vFc rfl ?_ | exact vHn | refine vHc rfl ?_ | refine vFc (congrArg (fun z => some (V.int z)) ?_) ?_ | refine vHc (congrArg (fun z => some (Blk.ints _ z)) ?_) ?_ | refine vFc (congrArg (fun z => some (V.bool z)) ?_) ?_ | refine vFs rfl rfl ?_ ?_))
  all_goals first | with_reducible refine bN ?_ | with_reducible refine bE ?_ | with_reducible refine bR ?_ | refine bX rfl ?_
  all_goals first
    | with_reducible refine tR ?_
    | with_reducible refine tE ?_
    | (
     with_reducible refine tN ?_
     refine cR ?_
     refine oA rfl rfl ?_
     refine oN ?_
     refine CW_ret ?_)
  all_goals (
   refine exitQ (.inr rfl) 2 (.cons (.tmp rfl rfl) .nil) ?_ rfl (vHc rfl (vHc rfl vHn)) rfl rfl
   first
     | exact congrArg V.int (idx_found (by omega) hi2 hc).symm
     | exact congrArg V.int (idx_none (fun j hj => hi2 j (by omega))).symm)
theorem containsConic_con (f : Nat) (g : List Int → Bool) (q : Int) (tM tP : TypeId) (M : List Int) (k ck : Nat) (hM : k * 6 ≤ M.length) (hk : k ≤ 1000000000) (hf : ∀ m, m.length = 6 → ConQ Try.prog [] f [.arr m, .ptr 1 0] [(1, .ints tP [q])] (.bool (g m))) :
    ConQ Try.prog [] 82 [.slice 0 0 k ck, .func f [] [.ptr 1 0]] [(0, .ints tM M), (1, .ints tP [q])] (.bool (anyF g 6 M k)) := by
  refine conW tab_ok [(0, .slice 0 0 k ck), (1, .func f [] [.ptr 1 0])] 2 [0, 1] [0, 1] Try.func82 rfl rfl rfl rfl rfl rfl rfl rfl rfl ?_
  refine cR ?_
  refine oA rfl rfl ?_
  refine oN ?_
  refine cR ?_
  iterate 2 refine oM rfl rfl ?_
  refine oQ (Q_call (indexConic_con f g q tM tP M k ck hM hk hf) [] rfl rfl (Fits.mk' (vHc rfl (vHc rfl vHn)) rfl rfl (by simp)) rfl rfl) rfl rfl ?_
  refine oQ (Q_bin rfl rfl rfl) rfl rfl ?_
  refine oA rfl rfl ?_
  refine oN ?_
  refine CW_ret ?_
  all_goals (
   refine exitQ (.inr rfl) 2 (.cons (.tmp rfl rfl) .nil) ?_ rfl (vHc rfl (vHc rfl vHn)) rfl rfl
   exact congrArg V.bool idx_any)
end Go.Proofs.Ytoiolpgmilobnaa
namespace Go.Proofs.Ytoiolpgmilobnaa
set_option linter.unusedVariables false
set_option linter.unusedSimpArgs false
set_option linter.unusedSectionVars false
open Lean.Grind
section
variable {R : Type} [CommRing R]
def ic (x : Int) : R := (Ring.intCast (α := R)).intCast x
theorem ic_add (x y : Int) : (ic (x + y) : R) = ic x + ic y := Ring.intCast_add x y
theorem ic_mul (x y : Int) : (ic (x * y) : R) = ic x * ic y := Ring.intCast_mul x y
theorem ic_sub (x y : Int) : (ic (x - y) : R) = ic x - ic y := Ring.intCast_sub x y
theorem ic_zero : (ic 0 : R) = 0 := Ring.intCast_zero
theorem ic_one : (ic 1 : R) = 1 := Ring.intCast_one
theorem ic_mod (n : Nat) [IsCharP R n] (x : Int) : (ic (x % (n : Int)) : R) = ic x := (IsCharP.intCast_ext_iff n).2 (Int.emod_emod_of_dvd _ (Int.dvd_refl _))
theorem ic_eq (n : Nat) [IsCharP R n] {x y : Int} : (ic x : R) = ic y ↔ x % (n : Int) = y % (n : Int) := IsCharP.intCast_ext_iff n
theorem ic_z (n : Nat) [IsCharP R n] {x : Int} : (ic x : R) = 0 ↔ x % (n : Int) = 0 := by
  rw [← ic_zero, ic_eq n, Int.zero_emod]
/-- a field -/
def Fld (R : Type) [CommRing R] : Prop := (1 : R) ≠ 0 ∧ (∀ x y : R, x * y = 0 → x = 0 ∨ y = 0) ∧ ∀ x : R, x ≠ 0 → ∃ i, x * i = 1
theorem Fld.ml {x y : R} (h : Fld R) (hx : x ≠ 0) (hy : y ≠ 0) : x * y ≠ 0 := fun e => by
  rcases h.2.1 _ _ e with e | e
  · exact hx e
  · exact hy e
end
theorem fld_of {p : Int} (hp : primeB p = true) : ∃ (n : Nat) (_ : NeZero n), p = (n : Int) ∧ Fld (Fin n) ∧ ∀ a : Fin n, ∃ k : Nat, (ic (k : Int) : Fin n) = a := by
  have h := prime_cases hp
  rcases h with rfl | rfl | rfl | rfl | rfl
  · exact ⟨3, inferInstance, rfl, ⟨by decide, by decide, by decide⟩, fun a => ⟨a.val, by revert a; decide⟩⟩
  · exact ⟨5, inferInstance, rfl, ⟨by decide, by decide, by decide⟩, fun a => ⟨a.val, by revert a; decide⟩⟩
  · exact ⟨7, inferInstance, rfl, ⟨by decide, by decide, by decide⟩, fun a => ⟨a.val, by revert a; decide⟩⟩
  · exact ⟨11, inferInstance, rfl, ⟨by decide, by decide +kernel, by decide +kernel⟩, fun a => ⟨a.val, by revert a; decide⟩⟩
  · exact ⟨13, inferInstance, rfl, ⟨by decide, by decide +kernel, by decide +kernel⟩, fun a => ⟨a.val, by revert a; decide⟩⟩
/-! ### normal lists -/
theorem em_l (a b p : Int) : a % p * b % p = a * b % p := by rw [Int.mul_emod, Int.emod_emod_of_dvd _ (Int.dvd_refl p), ← Int.mul_emod]
theorem em_r (a b p : Int) : a * (b % p) % p = a * b % p := by rw [Int.mul_emod, Int.emod_emod_of_dvd _ (Int.dvd_refl p), ← Int.mul_emod]
theorem unit_mul {p : Int} (hp : primeB p = true) {k a : Int} (hk : ¬ k % p = 0) (h0 : 0 < a) (h1 : a < p) : ¬ k * a % p = 0 := by
  intro e
  obtain ⟨_, _, h⟩ := inv_spec hp h0 h1
  apply hk
  have : k * (a * invP p a) % p = 0 := by rw [← Int.mul_assoc, ← em_l, e, Int.zero_mul, Int.zero_emod]
  rw [← em_r, h, Int.mul_one] at this
  exact this
theorem fnz_mul {p : Int} (hp : primeB p = true) {k : Int} (hk : ¬ k % p = 0) : ∀ {l : List Int}, (∀ x ∈ l, 0 ≤ x ∧ x < p) → fnz ((l.map (k * ·)).map (· % p)) = k * fnz l % p
  | [], _ => by simp [fnz]
  | a :: r, h => by
    have ha := h a List.mem_cons_self
    have ih := fnz_mul hp hk (l := r) (fun x hx => h x (List.mem_cons_of_mem _ hx))
    simp only [List.map_cons, fnz]
    by_cases h0 : a = 0
    · subst h0
      rw [if_pos (by simp), if_pos rfl]; exact ih
    · rw [if_neg (unit_mul hp hk (by omega) ha.2), if_neg h0]
theorem fnz_all {p : Int} {l : List Int} : fnz (l.map (· % p)) = 0 ↔ ∀ x ∈ l, x % p = 0 := by
  induction l with
  | nil => simp [fnz]
  | cons a r ih =>
    simp only [List.map_cons, fnz]
    split
    · rename_i h
      rw [ih]
      simp [h]
    · rename_i h
      simp [h]
theorem norm_of_mul {p : Int} (hp : primeB p = true) {m X : List Int} (hm : normB p m = true) {k : Int} (hk : ¬ k % p = 0) (hX : X.map (· % p) = (m.map (k * ·)).map (· % p)) : normL p X = m := by
  have hb := prime_bd hp
  have hr := Int.emod_nonneg k (show p ≠ 0 by omega)
  have hr2 := Int.emod_lt_of_pos k (show 0 < p by omega)
  obtain ⟨hi1, hi2, hi3⟩ := inv_spec hp (n := k % p) (by omega) hr2
  have hml : ∀ x ∈ m, 0 ≤ x ∧ x < p := norm_list hm
  simp only [normB, Bool.and_eq_true, beq_iff_eq] at hm
  have hf : facP p X = invP p (k % p) := by
    unfold facP
    rw [hX, fnz_mul hp hk hml, hm.2, Int.mul_one]
  have hn : normL p X = (X.map (· % p)).map (fun x => x * facP p X % p) := by unfold normL; rw [List.map_map]; rfl
  rw [hn, hX, hf, List.map_map, List.map_map]
  have : ∀ y ∈ m, (((fun x => x * invP p (k % p) % p) ∘ (fun x => x % p)) ∘ (fun x => k * x)) y = id y := fun y hy => by
    have h1 := hml y hy
    show k * y % p * invP p (k % p) % p = y
    rw [em_l, Int.mul_right_comm, ← em_l, ← em_l k, hi3, Int.one_mul, Int.emod_eq_of_lt h1.1 h1.2]
  rw [List.map_congr_left this, List.map_id]
end Go.Proofs.Ytoiolpgmilobnaa
namespace Go.Proofs.Ytoiolpgmilobnaa
set_option linter.unusedVariables false
set_option linter.unusedSimpArgs false
set_option linter.unusedSectionVars false
open Lean.Grind
/-- a row less k times another one, the first j numbers -/
def lsL (p : Int) (r s : List Int) (k : Int) (j : Nat) : List Int := (List.range j).map fun i => (r.getD i 0 - k * s.getD i 0) % p
theorem lsL_len (p : Int) (r s : List Int) (k : Int) (j : Nat) : (lsL p r s k j).length = j := by simp [lsL]
theorem lsL_snoc (p : Int) (r s : List Int) (k : Int) (j : Nat) : lsL p r s k (j + 1) = lsL p r s k j ++ [(r.getD j 0 - k * s.getD j 0) % p] := by simp [lsL, List.range_succ]
theorem lsL_get (p : Int) (r s : List Int) (k : Int) (j i : Nat) (hi : i < j) : (lsL p r s k j).getD i 0 = (r.getD i 0 - k * s.getD i 0) % p := by simp [lsL, List.getD, hi]
theorem lsL_get2 (p : Int) (r s : List Int) (k : Int) (j i : Nat) (hi : j ≤ i) : (lsL p r s k j).getD i 0 = 0 := by
  have : (lsL p r s k j).length ≤ i := by rw [lsL_len]; exact hi
  simp [List.getD, this]
theorem normL_get (p : Int) (l : List Int) (i : Nat) : (normL p l).getD i 0 = l.getD i 0 % p * facP p l % p := by
  unfold normL
  by_cases h : i < l.length
  · simp [List.getD, h]
  · simp [List.getD, show l.length ≤ i by omega]
section
variable {n : Nat} [NeZero n]
def cM (n : Nat) [NeZero n] (A : Nat → List Int) : Nat → Nat → Fin n := fun i j => ic ((A i).getD j 0)
end
/-- the rows A are what c columns of the rows M have come to, with cnt leads -/
def RedI (p : Int) (M : Nat → List Int) (m w : Nat) (A : Nat → List Int) (cnt c : Nat) : Prop :=
  ∀ (n : Nat) [NeZero n], p = (n : Int) → Fld (Fin n) → ∃ P, Red (cM n A) m w cnt c P ∧ ∀ x, NullV (cM n M) m w x ↔ NullV (cM n A) m w x
theorem RedI_start (p : Int) (M : Nat → List Int) (m w : Nat) : RedI p M m w M 0 0 := fun n _ _ _ => ⟨fun _ => 0, red_start _ m w _, fun _ => Iff.rfl⟩
theorem RedI_skip {p : Int} {M : Nat → List Int} {m w : Nat} {A : Nat → List Int} {cnt c : Nat} (h : RedI p M m w A cnt c) (hz : ∀ k, cnt ≤ k → k < m → (A k).getD c 0 = 0) : RedI p M m w A cnt (c + 1) := fun n _ hn hF => by
  obtain ⟨P, h1, h2⟩ := h n hn hF
  exact ⟨P, red_skip h1 (fun k a b => by show ic _ = _; rw [hz k a b, ic_zero]), h2⟩
theorem red_congr {F : Type} [CommRing F] {A B : Nat → Nat → F} {m w cnt c : Nat} {P : Nat → Nat} (h : Red A m w cnt c P) (e : ∀ k, k < m → A k = B k) : Red B m w cnt c P :=
  ⟨h.le, h.lt, fun i hi => by rw [← e i (by have := h.le; omega)]; exact h.one i hi, fun i hi => by rw [← e i (by have := h.le; omega)]; exact h.low i hi, fun i hi k hk hne => by rw [← e k hk]; exact h.oth i hi k hk hne, fun k a b => by rw [← e k b]; exact h.zer k a b⟩
theorem nullv_congr {F : Type} [CommRing F] {A B : Nat → Nat → F} {m w : Nat} (e : ∀ k, k < m → A k = B k) (x : Nat → F) : NullV A m w x ↔ NullV B m w x :=
  ⟨fun h k hk => by rw [← e k hk]; exact h k hk, fun h k hk => by rw [e k hk]; exact h k hk⟩
theorem fnz_lead : ∀ {l : List Int} {c : Nat}, (∀ j, j < c → l.getD j 0 = 0) → l.getD c 0 ≠ 0 → fnz l = l.getD c 0
  | [], c, _, h => absurd (by simp) h
  | a :: r, 0, _, h => by
    have : a ≠ 0 := by simpa using h
    simp [fnz, this]
  | a :: r, c + 1, h0, h => by
    have ha : a = 0 := by simpa using h0 0 (by omega)
    have := fnz_lead (l := r) (c := c) (fun j hj => by simpa using h0 (j + 1) (by omega)) (by simpa using h)
    simp only [fnz, ha, if_true]
    rw [this]; simp
theorem ic_small {n : Nat} [NeZero n] {x : Int} (h0 : 0 ≤ x) (h1 : x < (n : Int)) (e : (ic x : Fin n) = 0) : x = 0 := by
  have := (ic_z n).1 e
  rwa [Int.emod_eq_of_lt h0 h1] at this
theorem map_small {p : Int} {l : List Int} (h : ∀ j, 0 ≤ l.getD j 0 ∧ l.getD j 0 < p) : l.map (· % p) = l := by
  have : ∀ x ∈ l, x % p = id x := fun x hx => by
    obtain ⟨j, hj, e⟩ := List.mem_iff_getElem.1 hx
    have := h j
    simp only [List.getD, List.getElem?_eq_getElem hj, Option.getD_some, e] at this
    exact Int.emod_eq_of_lt this.1 this.2
  rw [List.map_congr_left this, List.map_id]
/-- the row i with its first number in column c, made 1 and taken off the others -/
theorem RedI_piv {p : Int} (hp : primeB p = true) {M : Nat → List Int} {m w : Nat} {A B : Nat → List Int} {cnt c i : Nat} (h : RedI p M m w A cnt c) (h1 : cnt ≤ i) (h2 : i < m) (hcw : c < w) (hw : ∀ k, k < m → (A k).length = w) (hb : ∀ k, k < m → ∀ j, 0 ≤ (A k).getD j 0 ∧ (A k).getD j 0 < p) (h0 : (A i).getD c 0 ≠ 0) (hB : B cnt = normL p (A i)) (hB' : ∀ k, k < m → k ≠ cnt → B k = lsL p (if k = i then A cnt else A k) (normL p (A i)) ((if k = i then A cnt else A k).getD c 0) w) : RedI p M m w B (cnt + 1) (c + 1) := fun n _ hn hF => by
  obtain ⟨P, g1, g2⟩ := h n hn hF
  have hz : ∀ j, j < c → (A i).getD j 0 = 0 := fun j hj => by
    have := g1.zer i h1 h2 j hj
    have b := hb i h2 j
    exact ic_small b.1 (by omega) this
  have hf : facP p (A i) = invP p ((A i).getD c 0) := by unfold facP; rw [map_small (hb i h2), fnz_lead hz h0]
  have b := hb i h2 c
  obtain ⟨i1, i2, i3⟩ := inv_spec hp (n := (A i).getD c 0) (by omega) b.2
  have hs : (ic (facP p (A i)) : Fin n) * cM n A i c = 1 := by
    show ic _ * ic _ = _
    rw [hf, ← ic_mul, Int.mul_comm, ← ic_one, ic_eq n, ← hn, i3]
    have := prime_bd hp
    rw [Int.emod_eq_of_lt (by omega) (by omega)]
  have hno : ∀ j, (ic ((normL p (A i)).getD j 0) : Fin n) = ic (facP p (A i)) * cM n A i j := fun j => by
    rw [normL_get, hn, ic_mod n, ic_mul, ic_mod n]
    show _ = _ * ic _
    grind
  have key : ∀ k, k < m → elA (swA (cM n A) cnt i) cnt c (ic (facP p (A i))) k = cM n B k := fun k hk => by
    funext j
    by_cases e : k = cnt
    · subst e
      unfold elA swA; rw [if_pos rfl, if_pos rfl]
      show _ = ic _
      rw [hB, hno]
    · show _ = ic _
      rw [hB' k hk e]
      unfold elA; rw [if_neg e]
      have e1 : swA (cM n A) cnt i cnt = cM n A i := by unfold swA; rw [if_pos rfl]
      have e2 : ∀ j, swA (cM n A) cnt i k j = ic ((if k = i then A cnt else A k).getD j 0) := fun j => by
        unfold swA; rw [if_neg e]; split <;> rfl
      show swA (cM n A) cnt i k j - swA (cM n A) cnt i k c * (ic (facP p (A i)) * swA (cM n A) cnt i cnt j) = _
      rw [e1, e2, e2, ← hno]
      by_cases hj : j < w
      · rw [lsL_get _ _ _ _ _ _ hj, hn, ic_mod n, ic_sub, ic_mul]
      · rw [lsL_get2 _ _ _ _ _ _ (by omega), hno]
        have z1 : (A i).getD j 0 = 0 := by simp [List.getD, show (A i).length ≤ j by rw [hw i h2]; omega]
        have z2 : (if k = i then A cnt else A k).getD j 0 = 0 := by
          split
          · simp [List.getD, show (A cnt).length ≤ j by rw [hw cnt (by omega)]; omega]
          · simp [List.getD, show (A k).length ≤ j by rw [hw k hk]; omega]
        rw [z2]
        show _ - _ * (_ * ic _) = _
        rw [z1, ic_zero]; grind
  refine ⟨fun z => if z = cnt then c else P z, red_congr (red_piv g1 h1 h2 hs) key, fun x => ?_⟩
  rw [g2 x, sw_null _ (show cnt < m by omega) h2 x, el_null (c := c) (s := ic (facP p (A i))) (t := cM n A i c) _ (show cnt < m by omega) hs x]
  exact nullv_congr key x
/-! ### the rank -/
def rkP (p : Int) (M : Nat → List Int) (m w r : Nat) : Prop := ∀ (n : Nat) [NeZero n], p = (n : Int) → Fld (Fin n) → ∃ (E : Nat → Nat → Fin n) (P : Nat → Nat), Ech E r w P ∧ ∀ x, NullV (cM n M) m w x ↔ NullV E r w x
open Classical in
noncomputable def rkI (p : Int) (M : Nat → List Int) (m w : Nat) : Nat := if h : ∃ r, rkP p M m w r then Classical.choose h else 0
theorem rk_eq {p : Int} (hp : primeB p = true) {M : Nat → List Int} {m w r : Nat} (h : rkP p M m w r) : rkI p M m w = r := by
  have h' : ∃ r, rkP p M m w r := ⟨r, h⟩
  obtain ⟨n, _, e, hF, _⟩ := fld_of hp
  have g := Classical.choose_spec h' n e hF
  obtain ⟨E, P, a1, a2⟩ := h n e hF
  obtain ⟨E', P', b1, b2⟩ := g
  unfold rkI
  rw [dif_pos h']
  exact ech_len hF.1 b1 a1 (fun x => (b2 x).symm.trans (a2 x))
theorem RedI_end {p : Int} (hp : primeB p = true) {M : Nat → List Int} {m w : Nat} {A : Nat → List Int} {cnt c : Nat} (h : RedI p M m w A cnt c) (hc : c ≤ w) (he : cnt = m ∨ c = w) : rkI p M m w = cnt := by
  refine rk_eq hp fun n _ hn hF => ?_
  obtain ⟨P, h1, h2⟩ := h n hn hF
  obtain ⟨a, b⟩ := red_end h1 hc he
  exact ⟨_, P, a, fun x => (h2 x).trans (b x)⟩
end Go.Proofs.Ytoiolpgmilobnaa
namespace Go.Proofs.Ytoiolpgmilobnaa
theorem flat3 {L : List (List Int)} {sz : Nat} (h : ∀ x ∈ L, x.length = sz) : L.flatten.length = L.length * sz := by
  induction L with
  | nil => simp
  | cons a r ih =>
    rw [List.flatten_cons, List.length_append, ih (fun x hx => h x (List.mem_cons_of_mem _ hx)), h a (by simp), List.length_cons, Nat.add_mul, Nat.one_mul, Nat.add_comm]
theorem putI_at : ∀ (m l pre post : List Int), l.length = m.length → putI (pre ++ (l ++ post)) pre.length m = pre ++ (m ++ post)
  | [], l, pre, post, h => by
    have : l = [] := List.eq_nil_of_length_eq_zero h
    simp [putI, this]
  | x :: m, [], pre, post, h => by simp at h
  | x :: m, y :: l, pre, post, h => by
    have ih := putI_at m l (pre ++ [x]) post (by simpa using h)
    simp only [List.length_append, List.length_cons, List.length_nil, Nat.zero_add, List.append_assoc, List.cons_append, List.nil_append] at ih
    simp only [putI]
    refine Eq.trans ?_ ih
    congr 1
    simp
theorem flat_take {L : List (List Int)} {sz : Nat} (h : ∀ x ∈ L, x.length = sz) (i : Nat) (hi : i ≤ L.length) : (L.take i).flatten.length = i * sz := by
  rw [flat3 (fun x hx => h x (List.mem_of_mem_take hx)), List.length_take, Nat.min_eq_left hi]
theorem flat_get {L : List (List Int)} {sz : Nat} {sp : List Int} (h : ∀ x ∈ L, x.length = sz) {i : Nat} (hi : i < L.length) : ((L.flatten ++ sp).drop (i * sz)).take sz = L.getD i [] := by
  have e : L.flatten = (L.take i).flatten ++ (L[i] ++ (L.drop (i + 1)).flatten) := by
    conv => lhs; rw [← List.take_append_drop i L, List.flatten_append, List.drop_eq_getElem_cons hi, List.flatten_cons]
  have hx : L[i].length = sz := h _ (List.getElem_mem hi)
  rw [e, ← flat_take h i (by omega), List.append_assoc, List.drop_left, List.append_assoc, ← hx, List.take_left]
  simp [List.getD, hi]
theorem getD_mem {L : List (List Int)} {i : Nat} (hi : i < L.length) : L.getD i [] ∈ L := by
  have : L.getD i [] = L[i] := by simp [List.getD, hi]
  rw [this]; exact List.getElem_mem hi
theorem takeL_snoc {L : List (List Int)} {i : Nat} (hi : i < L.length) : L.take (i + 1) = L.take i ++ [L.getD i []] := by
  rw [List.take_succ_eq_append_getElem hi]
  simp [List.getD, hi]
/-- the place of the first element for which something is so, or -1 -/
def idxL (g : List Int → Bool) (L : List (List Int)) : Int := match L.findIdx? g with
  | some i => (i : Int)
  | none => -1
theorem idxL_found {g : List Int → Bool} {L : List (List Int)} {i : Nat} (hi : i < L.length) (h0 : ∀ j, j < i → g (L.getD j []) = false) (h1 : g (L.getD i []) = true) : idxL g L = (i : Int) := by
  have : L.findIdx? g = some i := by
    rw [List.findIdx?_eq_some_iff_getElem]
    have key : ∀ j (hj : j < L.length), L.getD j [] = L[j] := fun j hj => by simp [List.getD, hj]
    refine ⟨hi, by rw [← key i hi]; exact h1, fun j hj => ?_⟩
    have := h0 j hj
    rw [key j (by omega)] at this
    simp [this]
  simp [idxL, this]
theorem idxL_none {g : List Int → Bool} {L : List (List Int)} (h0 : ∀ j, j < L.length → g (L.getD j []) = false) : idxL g L = -1 := by
  have : L.findIdx? g = none := by
    rw [List.findIdx?_eq_none_iff]
    intro x hx
    obtain ⟨j, hj, rfl⟩ := List.getElem_of_mem hx
    have := h0 j hj
    simpa [List.getD, hj] using this
  simp [idxL, this]
theorem idxL_cases (g : List Int → Bool) (L : List (List Int)) : (idxL g L = -1 ∧ ∀ x ∈ L, g x = false) ∨ ∃ i : Nat, idxL g L = (i : Int) ∧ i < L.length ∧ g (L.getD i []) = true ∧ ∀ x ∈ L.take i, g x = false := by
  unfold idxL
  cases h : L.findIdx? g with
  | none => left; exact ⟨rfl, by simpa using h⟩
  | some i =>
    right
    rw [List.findIdx?_eq_some_iff_getElem] at h
    obtain ⟨hi, h1, h2⟩ := h
    refine ⟨i, rfl, hi, by simpa [List.getD, hi] using h1, fun x hx => ?_⟩
    obtain ⟨j, hj, rfl⟩ := List.getElem_of_mem hx
    simp only [List.length_take] at hj
    have := h2 j (by omega)
    simpa using this
theorem filter_snoc {g : List Int → Bool} {L : List (List Int)} {i : Nat} (hi : i < L.length) (h : g (L.getD i []) = true) : (L.take (i + 1)).filter g = (L.take i).filter g ++ [L.getD i []] := by
  rw [takeL_snoc hi, List.filter_append]; simp only [List.filter_cons, h, List.filter_nil, if_true]
theorem filter_skip {g : List Int → Bool} {L : List (List Int)} {i : Nat} (hi : i < L.length) (h : g (L.getD i []) = false) : (L.take (i + 1)).filter g = (L.take i).filter g := by
  rw [takeL_snoc hi, List.filter_append]; simp only [List.filter_cons, h, List.filter_nil, Bool.false_eq_true, if_false, List.append_nil]
theorem filter_len {g : List Int → Bool} {L : List (List Int)} (i : Nat) (hi : i ≤ L.length) : ((L.take i).filter g).length ≤ i := by
  have := List.length_filter_le g (L.take i)
  rw [List.length_take] at this; omega
theorem filter_three {g : List Int → Bool} {L : List (List Int)} {sz : Nat} (h : ∀ x ∈ L, x.length = sz) (i : Nat) : ∀ x ∈ (L.take i).filter g, x.length = sz := fun x hx => h x (List.mem_of_mem_take (List.mem_filter.1 hx).1)
/-- the list while elements are struck: those kept, what is no more wanted, those to come -/
def delM (sz : Nat) (g : List Int → Bool) (L : List (List Int)) (j : Nat) (junk sp : List Int) : List Int := ((L.take j).filter fun x => !g x).flatten ++ (junk ++ ((L.drop j).flatten ++ sp))
theorem delM_get {sz : Nat} {g : List Int → Bool} {L : List (List Int)} {j : Nat} {junk sp : List Int} (h : ∀ x ∈ L, x.length = sz) (hj : j < L.length) (hjunk : junk.length + ((L.take j).filter fun x => !g x).length * sz = j * sz) : ((delM sz g L j junk sp).drop (j * sz)).take sz = L.getD j [] := by
  have h1 := flat3 (filter_three (g := fun x => !g x) h j)
  have hx : L[j].length = sz := h _ (List.getElem_mem hj)
  unfold delM
  have : (((L.take j).filter fun x => !g x).flatten ++ junk).length = j * sz := by rw [List.length_append, h1]; omega
  rw [← List.append_assoc, List.drop_left' this, List.drop_eq_getElem_cons hj, List.flatten_cons, List.append_assoc, List.take_left' hx]
  simp [List.getD, hj]
theorem delM_skip {sz : Nat} {g : List Int → Bool} {L : List (List Int)} {j : Nat} {junk sp : List Int} (hj : j < L.length) (hg : g (L.getD j []) = true) : delM sz g L j junk sp = delM sz g L (j + 1) (junk ++ L.getD j []) sp := by
  have e : L.getD j [] = L[j] := by simp [List.getD, hj]
  unfold delM
  rw [filter_skip hj (by rw [hg]; rfl), List.drop_eq_getElem_cons hj, List.flatten_cons, e]
  simp
theorem delM_keep {sz : Nat} {g : List Int → Bool} {L : List (List Int)} {j : Nat} {junk sp : List Int} (h : ∀ x ∈ L, x.length = sz) (hj : j < L.length) (hg : g (L.getD j []) = false) (hjunk : junk.length + ((L.take j).filter fun x => !g x).length * sz = j * sz) :
    putI (delM sz g L j junk sp) (((L.take j).filter fun x => !g x).length * sz) (L.getD j []) = delM sz g L (j + 1) ((junk ++ L.getD j []).drop sz) sp := by
  have e : L.getD j [] = L[j] := by simp [List.getD, hj]
  have h1 := flat3 (filter_three (g := fun x => !g x) h j)
  have hx : (L.getD j []).length = sz := h _ (getD_mem hj)
  have hs : (junk ++ L.getD j []).take sz ++ (junk ++ L.getD j []).drop sz = junk ++ L.getD j [] := List.take_append_drop _ _
  unfold delM
  rw [← h1]
  have e2 : junk ++ ((L.drop j).flatten ++ sp) = (junk ++ L.getD j []).take sz ++ ((junk ++ L.getD j []).drop sz ++ ((L.drop (j + 1)).flatten ++ sp)) := by
    rw [← List.append_assoc (List.take _ _), hs, List.drop_eq_getElem_cons hj, List.flatten_cons, e]; simp
  rw [e2, putI_at _ _ _ _ (by rw [List.length_take, List.length_append, hx]; omega), filter_snoc hj (by rw [hg]; rfl), List.flatten_append]
  simp
theorem delM_len {sz : Nat} {g : List Int → Bool} {L : List (List Int)} {j : Nat} {junk sp : List Int} (h : ∀ x ∈ L, x.length = sz) (hj : j ≤ L.length) (hjunk : junk.length + ((L.take j).filter fun x => !g x).length * sz = j * sz) : (delM sz g L j junk sp).length = L.length * sz + sp.length := by
  have h1 := flat3 (filter_three (g := fun x => !g x) h j)
  have h2 : (L.drop j).flatten.length = (L.length - j) * sz := by rw [flat3 (fun x hx => h x (List.mem_of_mem_drop hx)), List.length_drop]
  unfold delM
  rw [List.length_append, List.length_append, List.length_append, h1, h2, Nat.sub_mul]
  have : j * sz ≤ L.length * sz := Nat.mul_le_mul_right sz hj
  omega
theorem delM_end {sz : Nat} {g : List Int → Bool} {L : List (List Int)} {junk sp : List Int} (h : ∀ x ∈ L, x.length = sz) (hjunk : junk.length + ((L.take L.length).filter fun x => !g x).length * sz = L.length * sz) :
    putI (delM sz g L L.length junk sp) (((L.take L.length).filter fun x => !g x).length * sz) (List.replicate ((L.length - ((L.take L.length).filter fun x => !g x).length) * sz) 0) = (L.filter fun x => !g x).flatten ++ (List.replicate ((L.length - (L.filter fun x => !g x).length) * sz) 0 ++ sp) := by
  have h1 := flat3 (filter_three (g := fun x => !g x) h L.length)
  unfold delM
  rw [← h1]
  rw [putI_at _ _ _ _ (by rw [List.length_replicate, Nat.sub_mul]; omega)]
  simp
end Go.Proofs.Ytoiolpgmilobnaa
