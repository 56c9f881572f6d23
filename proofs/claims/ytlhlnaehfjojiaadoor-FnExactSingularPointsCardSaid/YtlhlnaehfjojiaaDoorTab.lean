/- The table of types of the seat. Printed by gentab.py. -/
import Derived.Test.YtlhlnaehfjojiaaDoorEngG
import Derived.Test.YtlhlnaehfjojiaaDoorProg
namespace Go.Proofs.YtlhlnaehfjojiaaDoor
theorem TI.of {P : Program} {t : Nat} {x : TI} (h1 : P.underlying t = some x.d) (h2 : (P.info? t).map (fun i => (i.size, i.bytes, i.zero)) = some (x.size, x.bytes, x.z.map (rv fun b => b))) (h3 : ∀ v, x.z = some v → v.ids = []) (h4 : x.g = true → P.eqGuardType P.depth t = false) : x.ok P t := by
  cases hi : P.info? t with
  | none => simp [hi] at h2
  | some i =>
    simp only [hi, Option.map_some, Option.some.injEq, Prod.mk.injEq] at h2
    exact ⟨h1, ⟨i, hi, h2.1, h2.2.1, fun v hv => ⟨by rw [h2.2.2, hv]; rfl, h3 v hv⟩⟩, h4⟩
theorem TI.of0 {P : Program} {t : Nat} {x : TI} (h1 : P.underlying t = some x.d) (h2 : (P.info? t).map (fun i => (i.size, i.bytes)) = some (x.size, x.bytes)) (h3 : x.z = none) (h4 : x.g = true → P.eqGuardType P.depth t = false) : x.ok P t := by
  cases hi : P.info? t with
  | none => simp [hi] at h2
  | some i =>
    simp only [hi, Option.map_some, Option.some.injEq, Prod.mk.injEq] at h2
    exact ⟨h1, ⟨i, hi, h2.1, h2.2, fun v hv => by rw [h3] at hv; cases hv⟩, h4⟩
def tab : TT := [(1, ⟨.func #[] #[] false, 1, 8, none, false⟩),
  (2, ⟨.int .i64, 1, 8, some (.int 0), false⟩),
  (3, ⟨.int .i64, 1, 8, some (.int 0), false⟩),
  (4, ⟨.bool, 1, 1, some (.bool false), false⟩),
  (22, ⟨.array 10 2, 10, 80, some (.arr [0, 0, 0, 0, 0, 0, 0, 0, 0, 0]), true⟩),
  (23, ⟨.slice 35, 1, 24, some (.nilsl), false⟩),
  (25, ⟨.func #[2, 26] #[23, 2] false, 1, 8, none, false⟩),
  (26, ⟨.array 10 2, 10, 80, some (.arr [0, 0, 0, 0, 0, 0, 0, 0, 0, 0]), true⟩),
  (27, ⟨.func #[22] #[26] false, 1, 8, none, false⟩),
  (28, ⟨.func #[23, 23] #[4] false, 1, 8, none, false⟩),
  (29, ⟨.func #[23, 3] #[3] false, 1, 8, none, false⟩),
  (30, ⟨.func #[2, 22] #[4] false, 1, 8, none, false⟩),
  (31, ⟨.array 3 2, 3, 24, some (.arr [0, 0, 0]), true⟩),
  (32, ⟨.array 3 2, 3, 24, some (.arr [0, 0, 0]), true⟩),
  (34, ⟨.func #[2, 26, 35] #[32, 2] false, 1, 8, none, false⟩),
  (35, ⟨.array 3 2, 3, 24, some (.arr [0, 0, 0]), true⟩),
  (36, ⟨.func #[31] #[35] false, 1, 8, none, false⟩),
  (37, ⟨.func #[32, 32] #[4] false, 1, 8, none, false⟩),
  (38, ⟨.func #[2, 22, 31] #[4] false, 1, 8, none, false⟩),
  (39, ⟨.slice 2, 1, 24, some (.nilsl), false⟩),
  (41, ⟨.func #[2, 26, 32] #[23, 39, 2] false, 1, 8, none, false⟩),
  (42, ⟨.func #[31] #[32] false, 1, 8, none, false⟩),
  (43, ⟨.func #[39, 39] #[4] false, 1, 8, none, false⟩),
  (44, ⟨.func #[39, 3] #[3] false, 1, 8, none, false⟩),
  (46, ⟨.func #[2, 26, 35, 35] #[35, 2] false, 1, 8, none, false⟩),
  (47, ⟨.func #[35, 35] #[4] false, 1, 8, none, false⟩),
  (48, ⟨.func #[2, 22, 31, 31] #[4] false, 1, 8, none, false⟩),
  (49, ⟨.func #[2, 26, 35, 35, 35] #[35, 2] false, 1, 8, none, false⟩),
  (50, ⟨.func #[2, 22, 31, 31, 31] #[4] false, 1, 8, none, false⟩),
  (52, ⟨.func #[2, 26, 35, 35] #[2, 2] false, 1, 8, none, false⟩),
  (53, ⟨.array 3 31, 9, 72, some (.arr [0, 0, 0, 0, 0, 0, 0, 0, 0]), true⟩),
  (55, ⟨.func #[2, 56, 26] #[26, 2] false, 1, 8, none, false⟩),
  (56, ⟨.array 3 31, 9, 72, some (.arr [0, 0, 0, 0, 0, 0, 0, 0, 0]), true⟩),
  (57, ⟨.func #[53] #[56] false, 1, 8, none, false⟩),
  (58, ⟨.func #[26, 26] #[4] false, 1, 8, none, false⟩),
  (59, ⟨.func #[2, 53, 22] #[4] false, 1, 8, none, false⟩),
  (60, ⟨.func #[2, 26, 23] #[2] true, 1, 8, none, false⟩),
  (61, ⟨.func #[2, 26] #[23] false, 1, 8, none, false⟩),
  (62, ⟨.func #[2, 26, 4] #[2] false, 1, 8, none, false⟩),
  (63, ⟨.func #[2, 65] #[23] false, 1, 8, none, false⟩),
  (64, ⟨.func #[2, 35] #[2] false, 1, 8, none, false⟩),
  (65, ⟨.func #[35] #[4] false, 1, 8, none, false⟩),
  (67, ⟨.func #[2, 26, 35] #[32, 4] false, 1, 8, none, false⟩),
  (68, ⟨.func #[2, 26, 35] #[4] false, 1, 8, none, false⟩),
  (69, ⟨.func #[2, 23] #[4] true, 1, 8, none, false⟩),
  (70, ⟨.func #[2, 35] #[32, 4] false, 1, 8, none, false⟩),
  (71, ⟨.func #[2, 35] #[31] false, 1, 8, none, false⟩),
  (73, ⟨.func #[2, 26, 32] #[23, 39, 4] false, 1, 8, none, false⟩),
  (74, ⟨.func #[2, 111] #[4] true, 1, 8, none, false⟩),
  (75, ⟨.func #[2, 32] #[23, 39, 4] false, 1, 8, none, false⟩),
  (76, ⟨.func #[2, 35] #[4] false, 1, 8, none, false⟩),
  (78, ⟨.func #[2, 26, 35, 35] #[35, 4] false, 1, 8, none, false⟩),
  (79, ⟨.func #[2, 35, 35] #[35, 4] false, 1, 8, none, false⟩),
  (80, ⟨.func #[2, 26, 35, 35, 35] #[35, 4] false, 1, 8, none, false⟩),
  (81, ⟨.func #[2, 35, 35, 35] #[35, 4] false, 1, 8, none, false⟩),
  (82, ⟨.func #[2, 116] #[2] true, 1, 8, none, false⟩),
  (83, ⟨.func #[2, 26] #[4] false, 1, 8, none, false⟩),
  (84, ⟨.func #[2, 56, 26] #[26] false, 1, 8, none, false⟩),
  (85, ⟨.func #[31] #[31] false, 1, 8, none, false⟩),
  (86, ⟨.func #[2, 56] #[4] false, 1, 8, none, false⟩),
  (87, ⟨.func #[2] #[56] false, 1, 8, none, false⟩),
  (88, ⟨.array 3 3, 3, 24, some (.arr [0, 0, 0]), true⟩),
  (89, ⟨.array 10 88, 30, 240, some (.arr [0, 0, 0, 0, 0, 0, 0, 0, 0, 0, 0, 0, 0, 0, 0, 0, 0, 0, 0, 0, 0, 0, 0, 0, 0, 0, 0, 0, 0, 0]), true⟩),
  (90, ⟨.slice 3, 1, 24, some (.nilsl), false⟩),
  (91, ⟨.func #[90] #[] false, 1, 8, none, false⟩),
  (92, ⟨.func #[93, 88] #[3] false, 1, 8, none, false⟩),
  (93, ⟨.slice 88, 1, 24, some (.nilsl), false⟩),
  (94, ⟨.func #[2, 2] #[2] false, 1, 8, none, false⟩),
  (95, ⟨.func #[2, 39] #[4] false, 1, 8, none, false⟩),
  (96, ⟨.func #[2] #[4] false, 1, 8, none, false⟩),
  (97, ⟨.func #[2, 23] #[2] true, 1, 8, none, false⟩),
  (98, ⟨.func #[2] #[23] false, 1, 8, none, false⟩),
  (99, ⟨.func #[2, 100] #[2] false, 1, 8, none, false⟩),
  (100, ⟨.func #[] #[4] false, 1, 8, none, false⟩),
  (101, ⟨.func #[23, 65] #[23] false, 1, 8, none, false⟩),
  (102, ⟨.array 4 2, 4, 32, some (.arr [0, 0, 0, 0]), true⟩),
  (103, ⟨.func #[2, 35, 35] #[102] false, 1, 8, none, false⟩),
  (104, ⟨.func #[2, 2, 2, 2] #[35, 4] false, 1, 8, none, false⟩),
  (105, ⟨.func #[2, 26, 35, 3] #[2] false, 1, 8, none, false⟩),
  (106, ⟨.func #[2, 32] #[23] false, 1, 8, none, false⟩),
  (107, ⟨.func #[2, 26, 35, 35] #[39] false, 1, 8, none, false⟩),
  (109, ⟨.func #[2, 35, 35, 35] #[2, 2, 4] false, 1, 8, none, false⟩),
  (110, ⟨.func #[2, 39, 2, 2] #[2] false, 1, 8, none, false⟩),
  (111, ⟨.slice 32, 1, 24, some (.nilsl), false⟩),
  (112, ⟨.func #[2, 32] #[4] false, 1, 8, none, false⟩),
  (113, ⟨.func #[23, 35] #[3] false, 1, 8, none, false⟩),
  (114, ⟨.func #[2, 35, 35] #[32, 4] false, 1, 8, none, false⟩),
  (115, ⟨.func #[2, 35, 35] #[32] false, 1, 8, none, false⟩),
  (116, ⟨.slice 56, 1, 24, some (.nilsl), false⟩),
  (117, ⟨.func #[2, 56] #[56] false, 1, 8, none, false⟩),
  (118, ⟨.array 10 31, 30, 240, some (.arr [0, 0, 0, 0, 0, 0, 0, 0, 0, 0, 0, 0, 0, 0, 0, 0, 0, 0, 0, 0, 0, 0, 0, 0, 0, 0, 0, 0, 0, 0]), true⟩),
  (119, ⟨.func #[] #[118] false, 1, 8, none, false⟩),
  (121, ⟨.func #[2, 39] #[26, 4] false, 1, 8, none, false⟩),
  (122, ⟨.func #[] #[39] false, 1, 8, none, false⟩),
  (123, ⟨.func #[2] #[2] false, 1, 8, none, false⟩),
  (124, ⟨.func #[90, 3, 3, 3] #[] false, 1, 8, none, false⟩),
  (125, ⟨.func #[126] #[3] false, 1, 8, none, false⟩),
  (127, ⟨.func #[23, 65] #[3] false, 1, 8, none, false⟩),
  (129, ⟨.func #[2, 39] #[39, 4] false, 1, 8, none, false⟩),
  (130, ⟨.func #[2, 35, 32] #[4] false, 1, 8, none, false⟩),
  (131, ⟨.func #[2, 35, 35, 2, 2] #[35] false, 1, 8, none, false⟩),
  (132, ⟨.func #[2, 31, 31] #[31] false, 1, 8, none, false⟩),
  (133, ⟨.func #[2, 2, 2] #[4] false, 1, 8, none, false⟩),
  (134, ⟨.func #[2, 56] #[2] false, 1, 8, none, false⟩),
  (135, ⟨.func #[2, 39] #[4] true, 1, 8, none, false⟩),
  (136, ⟨.func #[155] #[39] true, 1, 8, none, false⟩),
  (137, ⟨.func #[2, 31, 31, 31] #[2] false, 1, 8, none, false⟩),
  (138, ⟨.func #[90, 3, 3] #[] false, 1, 8, none, false⟩),
  (139, ⟨.int .i64, 1, 8, some (.int 0), false⟩),
  (141, ⟨.func #[90, 3, 3] #[3, 139] false, 1, 8, none, false⟩),
  (142, ⟨.func #[90, 3, 3] #[4] false, 1, 8, none, false⟩),
  (143, ⟨.func #[3, 3] #[4] false, 1, 8, none, false⟩),
  (144, ⟨.func #[90, 3, 3, 3] #[3] false, 1, 8, none, false⟩),
  (146, ⟨.func #[90, 3, 3, 3] #[3, 4] false, 1, 8, none, false⟩),
  (147, ⟨.func #[148] #[3] false, 1, 8, none, false⟩),
  (149, ⟨.func #[150] #[3] false, 1, 8, none, false⟩),
  (151, ⟨.func #[35] #[39] false, 1, 8, none, false⟩),
  (152, ⟨.func #[2, 31, 31] #[2] false, 1, 8, none, false⟩),
  (153, ⟨.func #[2, 2, 2, 2] #[35] false, 1, 8, none, false⟩),
  (154, ⟨.func #[2, 35, 35, 35] #[2] false, 1, 8, none, false⟩),
  (155, ⟨.slice 39, 1, 24, some (.nilsl), false⟩),
  (156, ⟨.func #[39, 3] #[39] false, 1, 8, none, false⟩),
  (158, ⟨.func #[3] #[126] false, 1, 8, none, false⟩),
  (159, ⟨.func #[] #[150] false, 1, 8, none, false⟩),
  (160, ⟨.func #[90, 3, 161] #[3] false, 1, 8, none, false⟩),
  (162, ⟨.func #[90, 3, 3, 3, 161] #[3] false, 1, 8, none, false⟩),
  (163, ⟨.func #[3] #[4] false, 1, 8, none, false⟩),
  (166, ⟨.func #[90, 3, 3, 161] #[3, 3] false, 1, 8, none, false⟩),
  (167, ⟨.func #[] #[9] false, 1, 8, none, false⟩),
  (170, ⟨.array 0 16, 0, 0, none, false⟩),
  (173, ⟨.func #[] #[3] false, 1, 8, none, false⟩),
  (176, ⟨.func #[182, 182] #[4] false, 1, 8, none, false⟩)]
theorem tab_ok : TOK Tryd.prog tab :=
  TOK.cons (TI.of0 (by kernel_rfl) (by kernel_rfl) rfl (fun h => by cases h)) <|
  TOK.cons (TI.of (by kernel_rfl) (by kernel_rfl) (fun v hv => by injection hv with hv; subst hv; rfl) (fun h => by cases h)) <|
  TOK.cons (TI.of (by kernel_rfl) (by kernel_rfl) (fun v hv => by injection hv with hv; subst hv; rfl) (fun h => by cases h)) <|
  TOK.cons (TI.of (by kernel_rfl) (by kernel_rfl) (fun v hv => by injection hv with hv; subst hv; rfl) (fun h => by cases h)) <|
  TOK.cons (TI.of (by kernel_rfl) (by kernel_rfl) (fun v hv => by injection hv with hv; subst hv; rfl) (fun _ => by kernel_rfl)) <|
  TOK.cons (TI.of (by kernel_rfl) (by kernel_rfl) (fun v hv => by injection hv with hv; subst hv; rfl) (fun h => by cases h)) <|
  TOK.cons (TI.of0 (by kernel_rfl) (by kernel_rfl) rfl (fun h => by cases h)) <|
  TOK.cons (TI.of (by kernel_rfl) (by kernel_rfl) (fun v hv => by injection hv with hv; subst hv; rfl) (fun _ => by kernel_rfl)) <|
  TOK.cons (TI.of0 (by kernel_rfl) (by kernel_rfl) rfl (fun h => by cases h)) <|
  TOK.cons (TI.of0 (by kernel_rfl) (by kernel_rfl) rfl (fun h => by cases h)) <|
  TOK.cons (TI.of0 (by kernel_rfl) (by kernel_rfl) rfl (fun h => by cases h)) <|
  TOK.cons (TI.of0 (by kernel_rfl) (by kernel_rfl) rfl (fun h => by cases h)) <|
  TOK.cons (TI.of (by kernel_rfl) (by kernel_rfl) (fun v hv => by injection hv with hv; subst hv; rfl) (fun _ => by kernel_rfl)) <|
  TOK.cons (TI.of (by kernel_rfl) (by kernel_rfl) (fun v hv => by injection hv with hv; subst hv; rfl) (fun _ => by kernel_rfl)) <|
  TOK.cons (TI.of0 (by kernel_rfl) (by kernel_rfl) rfl (fun h => by cases h)) <|
  TOK.cons (TI.of (by kernel_rfl) (by kernel_rfl) (fun v hv => by injection hv with hv; subst hv; rfl) (fun _ => by kernel_rfl)) <|
  TOK.cons (TI.of0 (by kernel_rfl) (by kernel_rfl) rfl (fun h => by cases h)) <|
  TOK.cons (TI.of0 (by kernel_rfl) (by kernel_rfl) rfl (fun h => by cases h)) <|
  TOK.cons (TI.of0 (by kernel_rfl) (by kernel_rfl) rfl (fun h => by cases h)) <|
  TOK.cons (TI.of (by kernel_rfl) (by kernel_rfl) (fun v hv => by injection hv with hv; subst hv; rfl) (fun h => by cases h)) <|
  TOK.cons (TI.of0 (by kernel_rfl) (by kernel_rfl) rfl (fun h => by cases h)) <|
  TOK.cons (TI.of0 (by kernel_rfl) (by kernel_rfl) rfl (fun h => by cases h)) <|
  TOK.cons (TI.of0 (by kernel_rfl) (by kernel_rfl) rfl (fun h => by cases h)) <|
  TOK.cons (TI.of0 (by kernel_rfl) (by kernel_rfl) rfl (fun h => by cases h)) <|
  TOK.cons (TI.of0 (by kernel_rfl) (by kernel_rfl) rfl (fun h => by cases h)) <|
  TOK.cons (TI.of0 (by kernel_rfl) (by kernel_rfl) rfl (fun h => by cases h)) <|
  TOK.cons (TI.of0 (by kernel_rfl) (by kernel_rfl) rfl (fun h => by cases h)) <|
  TOK.cons (TI.of0 (by kernel_rfl) (by kernel_rfl) rfl (fun h => by cases h)) <|
  TOK.cons (TI.of0 (by kernel_rfl) (by kernel_rfl) rfl (fun h => by cases h)) <|
  TOK.cons (TI.of0 (by kernel_rfl) (by kernel_rfl) rfl (fun h => by cases h)) <|
  TOK.cons (TI.of (by kernel_rfl) (by kernel_rfl) (fun v hv => by injection hv with hv; subst hv; rfl) (fun _ => by kernel_rfl)) <|
  TOK.cons (TI.of0 (by kernel_rfl) (by kernel_rfl) rfl (fun h => by cases h)) <|
  TOK.cons (TI.of (by kernel_rfl) (by kernel_rfl) (fun v hv => by injection hv with hv; subst hv; rfl) (fun _ => by kernel_rfl)) <|
  TOK.cons (TI.of0 (by kernel_rfl) (by kernel_rfl) rfl (fun h => by cases h)) <|
  TOK.cons (TI.of0 (by kernel_rfl) (by kernel_rfl) rfl (fun h => by cases h)) <|
  TOK.cons (TI.of0 (by kernel_rfl) (by kernel_rfl) rfl (fun h => by cases h)) <|
  TOK.cons (TI.of0 (by kernel_rfl) (by kernel_rfl) rfl (fun h => by cases h)) <|
  TOK.cons (TI.of0 (by kernel_rfl) (by kernel_rfl) rfl (fun h => by cases h)) <|
  TOK.cons (TI.of0 (by kernel_rfl) (by kernel_rfl) rfl (fun h => by cases h)) <|
  TOK.cons (TI.of0 (by kernel_rfl) (by kernel_rfl) rfl (fun h => by cases h)) <|
  TOK.cons (TI.of0 (by kernel_rfl) (by kernel_rfl) rfl (fun h => by cases h)) <|
  TOK.cons (TI.of0 (by kernel_rfl) (by kernel_rfl) rfl (fun h => by cases h)) <|
  TOK.cons (TI.of0 (by kernel_rfl) (by kernel_rfl) rfl (fun h => by cases h)) <|
  TOK.cons (TI.of0 (by kernel_rfl) (by kernel_rfl) rfl (fun h => by cases h)) <|
  TOK.cons (TI.of0 (by kernel_rfl) (by kernel_rfl) rfl (fun h => by cases h)) <|
  TOK.cons (TI.of0 (by kernel_rfl) (by kernel_rfl) rfl (fun h => by cases h)) <|
  TOK.cons (TI.of0 (by kernel_rfl) (by kernel_rfl) rfl (fun h => by cases h)) <|
  TOK.cons (TI.of0 (by kernel_rfl) (by kernel_rfl) rfl (fun h => by cases h)) <|
  TOK.cons (TI.of0 (by kernel_rfl) (by kernel_rfl) rfl (fun h => by cases h)) <|
  TOK.cons (TI.of0 (by kernel_rfl) (by kernel_rfl) rfl (fun h => by cases h)) <|
  TOK.cons (TI.of0 (by kernel_rfl) (by kernel_rfl) rfl (fun h => by cases h)) <|
  TOK.cons (TI.of0 (by kernel_rfl) (by kernel_rfl) rfl (fun h => by cases h)) <|
  TOK.cons (TI.of0 (by kernel_rfl) (by kernel_rfl) rfl (fun h => by cases h)) <|
  TOK.cons (TI.of0 (by kernel_rfl) (by kernel_rfl) rfl (fun h => by cases h)) <|
  TOK.cons (TI.of0 (by kernel_rfl) (by kernel_rfl) rfl (fun h => by cases h)) <|
  TOK.cons (TI.of0 (by kernel_rfl) (by kernel_rfl) rfl (fun h => by cases h)) <|
  TOK.cons (TI.of0 (by kernel_rfl) (by kernel_rfl) rfl (fun h => by cases h)) <|
  TOK.cons (TI.of0 (by kernel_rfl) (by kernel_rfl) rfl (fun h => by cases h)) <|
  TOK.cons (TI.of0 (by kernel_rfl) (by kernel_rfl) rfl (fun h => by cases h)) <|
  TOK.cons (TI.of0 (by kernel_rfl) (by kernel_rfl) rfl (fun h => by cases h)) <|
  TOK.cons (TI.of0 (by kernel_rfl) (by kernel_rfl) rfl (fun h => by cases h)) <|
  TOK.cons (TI.of (by kernel_rfl) (by kernel_rfl) (fun v hv => by injection hv with hv; subst hv; rfl) (fun _ => by kernel_rfl)) <|
  TOK.cons (TI.of (by kernel_rfl) (by kernel_rfl) (fun v hv => by injection hv with hv; subst hv; rfl) (fun _ => by kernel_rfl)) <|
  TOK.cons (TI.of (by kernel_rfl) (by kernel_rfl) (fun v hv => by injection hv with hv; subst hv; rfl) (fun h => by cases h)) <|
  TOK.cons (TI.of0 (by kernel_rfl) (by kernel_rfl) rfl (fun h => by cases h)) <|
  TOK.cons (TI.of0 (by kernel_rfl) (by kernel_rfl) rfl (fun h => by cases h)) <|
  TOK.cons (TI.of (by kernel_rfl) (by kernel_rfl) (fun v hv => by injection hv with hv; subst hv; rfl) (fun h => by cases h)) <|
  TOK.cons (TI.of0 (by kernel_rfl) (by kernel_rfl) rfl (fun h => by cases h)) <|
  TOK.cons (TI.of0 (by kernel_rfl) (by kernel_rfl) rfl (fun h => by cases h)) <|
  TOK.cons (TI.of0 (by kernel_rfl) (by kernel_rfl) rfl (fun h => by cases h)) <|
  TOK.cons (TI.of0 (by kernel_rfl) (by kernel_rfl) rfl (fun h => by cases h)) <|
  TOK.cons (TI.of0 (by kernel_rfl) (by kernel_rfl) rfl (fun h => by cases h)) <|
  TOK.cons (TI.of0 (by kernel_rfl) (by kernel_rfl) rfl (fun h => by cases h)) <|
  TOK.cons (TI.of0 (by kernel_rfl) (by kernel_rfl) rfl (fun h => by cases h)) <|
  TOK.cons (TI.of0 (by kernel_rfl) (by kernel_rfl) rfl (fun h => by cases h)) <|
  TOK.cons (TI.of (by kernel_rfl) (by kernel_rfl) (fun v hv => by injection hv with hv; subst hv; rfl) (fun _ => by kernel_rfl)) <|
  TOK.cons (TI.of0 (by kernel_rfl) (by kernel_rfl) rfl (fun h => by cases h)) <|
  TOK.cons (TI.of0 (by kernel_rfl) (by kernel_rfl) rfl (fun h => by cases h)) <|
  TOK.cons (TI.of0 (by kernel_rfl) (by kernel_rfl) rfl (fun h => by cases h)) <|
  TOK.cons (TI.of0 (by kernel_rfl) (by kernel_rfl) rfl (fun h => by cases h)) <|
  TOK.cons (TI.of0 (by kernel_rfl) (by kernel_rfl) rfl (fun h => by cases h)) <|
  TOK.cons (TI.of0 (by kernel_rfl) (by kernel_rfl) rfl (fun h => by cases h)) <|
  TOK.cons (TI.of0 (by kernel_rfl) (by kernel_rfl) rfl (fun h => by cases h)) <|
  TOK.cons (TI.of (by kernel_rfl) (by kernel_rfl) (fun v hv => by injection hv with hv; subst hv; rfl) (fun h => by cases h)) <|
  TOK.cons (TI.of0 (by kernel_rfl) (by kernel_rfl) rfl (fun h => by cases h)) <|
  TOK.cons (TI.of0 (by kernel_rfl) (by kernel_rfl) rfl (fun h => by cases h)) <|
  TOK.cons (TI.of0 (by kernel_rfl) (by kernel_rfl) rfl (fun h => by cases h)) <|
  TOK.cons (TI.of0 (by kernel_rfl) (by kernel_rfl) rfl (fun h => by cases h)) <|
  TOK.cons (TI.of (by kernel_rfl) (by kernel_rfl) (fun v hv => by injection hv with hv; subst hv; rfl) (fun h => by cases h)) <|
  TOK.cons (TI.of0 (by kernel_rfl) (by kernel_rfl) rfl (fun h => by cases h)) <|
  TOK.cons (TI.of (by kernel_rfl) (by kernel_rfl) (fun v hv => by injection hv with hv; subst hv; rfl) (fun _ => by kernel_rfl)) <|
  TOK.cons (TI.of0 (by kernel_rfl) (by kernel_rfl) rfl (fun h => by cases h)) <|
  TOK.cons (TI.of0 (by kernel_rfl) (by kernel_rfl) rfl (fun h => by cases h)) <|
  TOK.cons (TI.of0 (by kernel_rfl) (by kernel_rfl) rfl (fun h => by cases h)) <|
  TOK.cons (TI.of0 (by kernel_rfl) (by kernel_rfl) rfl (fun h => by cases h)) <|
  TOK.cons (TI.of0 (by kernel_rfl) (by kernel_rfl) rfl (fun h => by cases h)) <|
  TOK.cons (TI.of0 (by kernel_rfl) (by kernel_rfl) rfl (fun h => by cases h)) <|
  TOK.cons (TI.of0 (by kernel_rfl) (by kernel_rfl) rfl (fun h => by cases h)) <|
  TOK.cons (TI.of0 (by kernel_rfl) (by kernel_rfl) rfl (fun h => by cases h)) <|
  TOK.cons (TI.of0 (by kernel_rfl) (by kernel_rfl) rfl (fun h => by cases h)) <|
  TOK.cons (TI.of0 (by kernel_rfl) (by kernel_rfl) rfl (fun h => by cases h)) <|
  TOK.cons (TI.of0 (by kernel_rfl) (by kernel_rfl) rfl (fun h => by cases h)) <|
  TOK.cons (TI.of0 (by kernel_rfl) (by kernel_rfl) rfl (fun h => by cases h)) <|
  TOK.cons (TI.of0 (by kernel_rfl) (by kernel_rfl) rfl (fun h => by cases h)) <|
  TOK.cons (TI.of0 (by kernel_rfl) (by kernel_rfl) rfl (fun h => by cases h)) <|
  TOK.cons (TI.of0 (by kernel_rfl) (by kernel_rfl) rfl (fun h => by cases h)) <|
  TOK.cons (TI.of0 (by kernel_rfl) (by kernel_rfl) rfl (fun h => by cases h)) <|
  TOK.cons (TI.of0 (by kernel_rfl) (by kernel_rfl) rfl (fun h => by cases h)) <|
  TOK.cons (TI.of (by kernel_rfl) (by kernel_rfl) (fun v hv => by injection hv with hv; subst hv; rfl) (fun h => by cases h)) <|
  TOK.cons (TI.of0 (by kernel_rfl) (by kernel_rfl) rfl (fun h => by cases h)) <|
  TOK.cons (TI.of0 (by kernel_rfl) (by kernel_rfl) rfl (fun h => by cases h)) <|
  TOK.cons (TI.of0 (by kernel_rfl) (by kernel_rfl) rfl (fun h => by cases h)) <|
  TOK.cons (TI.of0 (by kernel_rfl) (by kernel_rfl) rfl (fun h => by cases h)) <|
  TOK.cons (TI.of0 (by kernel_rfl) (by kernel_rfl) rfl (fun h => by cases h)) <|
  TOK.cons (TI.of0 (by kernel_rfl) (by kernel_rfl) rfl (fun h => by cases h)) <|
  TOK.cons (TI.of0 (by kernel_rfl) (by kernel_rfl) rfl (fun h => by cases h)) <|
  TOK.cons (TI.of0 (by kernel_rfl) (by kernel_rfl) rfl (fun h => by cases h)) <|
  TOK.cons (TI.of0 (by kernel_rfl) (by kernel_rfl) rfl (fun h => by cases h)) <|
  TOK.cons (TI.of0 (by kernel_rfl) (by kernel_rfl) rfl (fun h => by cases h)) <|
  TOK.cons (TI.of0 (by kernel_rfl) (by kernel_rfl) rfl (fun h => by cases h)) <|
  TOK.cons (TI.of (by kernel_rfl) (by kernel_rfl) (fun v hv => by injection hv with hv; subst hv; rfl) (fun h => by cases h)) <|
  TOK.cons (TI.of0 (by kernel_rfl) (by kernel_rfl) rfl (fun h => by cases h)) <|
  TOK.cons (TI.of0 (by kernel_rfl) (by kernel_rfl) rfl (fun h => by cases h)) <|
  TOK.cons (TI.of0 (by kernel_rfl) (by kernel_rfl) rfl (fun h => by cases h)) <|
  TOK.cons (TI.of0 (by kernel_rfl) (by kernel_rfl) rfl (fun h => by cases h)) <|
  TOK.cons (TI.of0 (by kernel_rfl) (by kernel_rfl) rfl (fun h => by cases h)) <|
  TOK.cons (TI.of0 (by kernel_rfl) (by kernel_rfl) rfl (fun h => by cases h)) <|
  TOK.cons (TI.of0 (by kernel_rfl) (by kernel_rfl) rfl (fun h => by cases h)) <|
  TOK.cons (TI.of0 (by kernel_rfl) (by kernel_rfl) rfl (fun h => by cases h)) <|
  TOK.cons (TI.of0 (by kernel_rfl) (by kernel_rfl) rfl (fun h => by cases h)) <|
  TOK.cons (TI.of0 (by kernel_rfl) (by kernel_rfl) rfl (fun h => by cases h)) <|
  TOK.cons (TI.of0 (by kernel_rfl) (by kernel_rfl) rfl (fun h => by cases h)) <|
  TOK.nil
theorem lateOk : Tryd.prog.follows .mixedOrders = true := by kernel_rfl
noncomputable abbrev cx (gl : List (Nat × Nat)) (N : Nat) (D W : List Nat) : Cx := ⟨Tryd.prog, tab, tab_ok, gl, N, D, W⟩
end Go.Proofs.YtlhlnaehfjojiaaDoor
