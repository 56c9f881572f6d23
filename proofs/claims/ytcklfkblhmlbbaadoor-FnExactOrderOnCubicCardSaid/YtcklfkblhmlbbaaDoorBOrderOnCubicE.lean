/- What the last text of OrderOnCubic needs, part 5: contracts of functions and plain mathematics. No conditions beyond those each theorem states. -/
import Derived.Test.YtcklfkblhmlbbaaDoorProg
import Derived.Test.YtcklfkblhmlbbaaDoorBOrderOnCubicD
namespace Go.Proofs.YtcklfkblhmlbbaaDoor
theorem TI.of {P : Program} {t : Nat} {x : TI} (h1 : P.underlying t = some x.d) (h2 : (P.info? t).map (fun i => (i.size, i.bytes, i.zero)) = some (x.size, x.bytes, x.z.map (rv fun b => b))) (h3 : ∀ v, x.z = some v → v.ids = []) (h4 : x.g = true → P.eqGuardType P.depth t = false) : x.ok P t := by
  cases hi : P.info? t with
  | none => simp [hi] at h2
  | some i =>
    simp only [hi, Option.map_some, Option.some.injEq, Prod.mk.injEq] at h2
    exact ⟨h1, ⟨i, hi, h2.1, h2.2.1, fun v hv => ⟨by rw [h2.2.2, hv]; rfl, h3 v hv⟩⟩, h4⟩
theorem TI.of0 {P : Program} {t : Nat} {x : TI} (h1 : P.underlying t = some x.d) (h2 : (P.info? t).map (fun i => (i.size, i.bytes)) = some (x.size, x.bytes)) (h3 : x.z = none) (h4 : x.g = true → P.eqGuardType P.depth t = false) : x.ok P t := by
  cases hi : P.info? t with
  | none => simp [hi] at h2
  | some i =>
    simp only [hi, Option.map_some, Option.some.injEq, Prod.mk.injEq] at h2
    exact ⟨h1, ⟨i, hi, h2.1, h2.2, fun v hv => by rw [h3] at hv; cases hv⟩, h4⟩
def tab : TT := [(1, ⟨.func #[] #[] false, 1, 8, none, false⟩),
  (2, ⟨.int .i64, 1, 8, some (.int 0), false⟩),
  (3, ⟨.int .i64, 1, 8, some (.int 0), false⟩),
  (4, ⟨.bool, 1, 1, some (.bool false), false⟩),
  (22, ⟨.array 10 2, 10, 80, some (.arr [0, 0, 0, 0, 0, 0, 0, 0, 0, 0]), true⟩),
  (23, ⟨.array 3 2, 3, 24, some (.arr [0, 0, 0]), true⟩),
  (24, ⟨.array 3 2, 3, 24, some (.arr [0, 0, 0]), true⟩),
  (26, ⟨.func #[2, 27, 29] #[24, 2] false, 1, 8, none, false⟩),
  (27, ⟨.array 10 2, 10, 80, some (.arr [0, 0, 0, 0, 0, 0, 0, 0, 0, 0]), true⟩),
  (28, ⟨.func #[22] #[27] false, 1, 8, none, false⟩),
  (29, ⟨.array 3 2, 3, 24, some (.arr [0, 0, 0]), true⟩),
  (30, ⟨.func #[23] #[29] false, 1, 8, none, false⟩),
  (31, ⟨.func #[24, 24] #[4] false, 1, 8, none, false⟩),
  (32, ⟨.func #[2, 22, 23] #[4] false, 1, 8, none, false⟩),
  (33, ⟨.slice 29, 1, 24, some (.nilsl), false⟩),
  (35, ⟨.func #[2, 27] #[33, 2] false, 1, 8, none, false⟩),
  (36, ⟨.func #[33, 33] #[4] false, 1, 8, none, false⟩),
  (37, ⟨.func #[33, 3] #[3] false, 1, 8, none, false⟩),
  (38, ⟨.func #[2, 22] #[4] false, 1, 8, none, false⟩),
  (39, ⟨.slice 2, 1, 24, some (.nilsl), false⟩),
  (41, ⟨.func #[2, 27, 24] #[33, 39, 2] false, 1, 8, none, false⟩),
  (42, ⟨.func #[23] #[24] false, 1, 8, none, false⟩),
  (43, ⟨.func #[39, 39] #[4] false, 1, 8, none, false⟩),
  (44, ⟨.func #[39, 3] #[3] false, 1, 8, none, false⟩),
  (46, ⟨.func #[2, 27, 29, 29] #[29, 2] false, 1, 8, none, false⟩),
  (47, ⟨.func #[29, 29] #[4] false, 1, 8, none, false⟩),
  (48, ⟨.func #[2, 22, 23, 23] #[4] false, 1, 8, none, false⟩),
  (49, ⟨.func #[2, 27, 29, 29, 29] #[29, 2] false, 1, 8, none, false⟩),
  (50, ⟨.func #[2, 22, 23, 23, 23] #[4] false, 1, 8, none, false⟩),
  (52, ⟨.func #[2, 27, 29, 29] #[2, 2] false, 1, 8, none, false⟩),
  (53, ⟨.array 3 23, 9, 72, some (.arr [0, 0, 0, 0, 0, 0, 0, 0, 0]), true⟩),
  (55, ⟨.func #[2, 56, 27] #[27, 2] false, 1, 8, none, false⟩),
  (56, ⟨.array 3 23, 9, 72, some (.arr [0, 0, 0, 0, 0, 0, 0, 0, 0]), true⟩),
  (57, ⟨.func #[53] #[56] false, 1, 8, none, false⟩),
  (58, ⟨.func #[27, 27] #[4] false, 1, 8, none, false⟩),
  (59, ⟨.func #[2, 53, 22] #[4] false, 1, 8, none, false⟩),
  (60, ⟨.func #[2, 27, 33] #[2] true, 1, 8, none, false⟩),
  (62, ⟨.func #[2, 27, 29] #[24, 4] false, 1, 8, none, false⟩),
  (63, ⟨.func #[2, 27, 29] #[4] false, 1, 8, none, false⟩),
  (64, ⟨.func #[2, 27, 4] #[2] false, 1, 8, none, false⟩),
  (65, ⟨.func #[2, 33] #[4] true, 1, 8, none, false⟩),
  (66, ⟨.func #[2, 29] #[24, 4] false, 1, 8, none, false⟩),
  (67, ⟨.func #[2, 27] #[33] false, 1, 8, none, false⟩),
  (68, ⟨.func #[2, 70] #[33] false, 1, 8, none, false⟩),
  (69, ⟨.func #[2, 29] #[2] false, 1, 8, none, false⟩),
  (70, ⟨.func #[29] #[4] false, 1, 8, none, false⟩),
  (71, ⟨.func #[2, 29] #[23] false, 1, 8, none, false⟩),
  (73, ⟨.func #[2, 27, 24] #[33, 39, 4] false, 1, 8, none, false⟩),
  (74, ⟨.func #[2, 111] #[4] true, 1, 8, none, false⟩),
  (75, ⟨.func #[2, 24] #[33, 39, 4] false, 1, 8, none, false⟩),
  (76, ⟨.func #[2, 29] #[4] false, 1, 8, none, false⟩),
  (78, ⟨.func #[2, 27, 29, 29] #[29, 4] false, 1, 8, none, false⟩),
  (79, ⟨.func #[2, 29, 29] #[29, 4] false, 1, 8, none, false⟩),
  (80, ⟨.func #[2, 27, 29, 29, 29] #[29, 4] false, 1, 8, none, false⟩),
  (81, ⟨.func #[2, 29, 29, 29] #[29, 4] false, 1, 8, none, false⟩),
  (82, ⟨.func #[2, 116] #[2] true, 1, 8, none, false⟩),
  (83, ⟨.func #[2, 27] #[4] false, 1, 8, none, false⟩),
  (84, ⟨.func #[2, 56, 27] #[27] false, 1, 8, none, false⟩),
  (85, ⟨.func #[23] #[23] false, 1, 8, none, false⟩),
  (86, ⟨.func #[2, 56] #[4] false, 1, 8, none, false⟩),
  (87, ⟨.func #[2] #[56] false, 1, 8, none, false⟩),
  (88, ⟨.array 3 3, 3, 24, some (.arr [0, 0, 0]), true⟩),
  (89, ⟨.array 10 88, 30, 240, some (.arr [0, 0, 0, 0, 0, 0, 0, 0, 0, 0, 0, 0, 0, 0, 0, 0, 0, 0, 0, 0, 0, 0, 0, 0, 0, 0, 0, 0, 0, 0]), true⟩),
  (90, ⟨.slice 3, 1, 24, some (.nilsl), false⟩),
  (91, ⟨.func #[90] #[] false, 1, 8, none, false⟩),
  (92, ⟨.func #[93, 88] #[3] false, 1, 8, none, false⟩),
  (93, ⟨.slice 88, 1, 24, some (.nilsl), false⟩),
  (94, ⟨.func #[2, 2] #[2] false, 1, 8, none, false⟩),
  (95, ⟨.func #[2, 39] #[4] false, 1, 8, none, false⟩),
  (96, ⟨.func #[2] #[4] false, 1, 8, none, false⟩),
  (97, ⟨.func #[2, 33] #[2] true, 1, 8, none, false⟩),
  (98, ⟨.func #[2, 2, 2, 2] #[29, 4] false, 1, 8, none, false⟩),
  (99, ⟨.func #[2, 27, 29, 3] #[2] false, 1, 8, none, false⟩),
  (100, ⟨.func #[2, 101] #[2] false, 1, 8, none, false⟩),
  (101, ⟨.func #[] #[4] false, 1, 8, none, false⟩),
  (102, ⟨.func #[2] #[33] false, 1, 8, none, false⟩),
  (103, ⟨.func #[33, 70] #[33] false, 1, 8, none, false⟩),
  (104, ⟨.array 4 2, 4, 32, some (.arr [0, 0, 0, 0]), true⟩),
  (105, ⟨.func #[2, 29, 29] #[104] false, 1, 8, none, false⟩),
  (106, ⟨.func #[2, 24] #[33] false, 1, 8, none, false⟩),
  (107, ⟨.func #[2, 27, 29, 29] #[39] false, 1, 8, none, false⟩),
  (109, ⟨.func #[2, 29, 29, 29] #[2, 2, 4] false, 1, 8, none, false⟩),
  (110, ⟨.func #[2, 39, 2, 2] #[2] false, 1, 8, none, false⟩),
  (111, ⟨.slice 24, 1, 24, some (.nilsl), false⟩),
  (112, ⟨.func #[2, 24] #[4] false, 1, 8, none, false⟩),
  (113, ⟨.func #[33, 29] #[3] false, 1, 8, none, false⟩),
  (114, ⟨.func #[2, 29, 29] #[24, 4] false, 1, 8, none, false⟩),
  (115, ⟨.func #[2, 29, 29] #[24] false, 1, 8, none, false⟩),
  (116, ⟨.slice 56, 1, 24, some (.nilsl), false⟩),
  (117, ⟨.func #[2, 56] #[56] false, 1, 8, none, false⟩),
  (118, ⟨.array 10 23, 30, 240, some (.arr [0, 0, 0, 0, 0, 0, 0, 0, 0, 0, 0, 0, 0, 0, 0, 0, 0, 0, 0, 0, 0, 0, 0, 0, 0, 0, 0, 0, 0, 0]), true⟩),
  (119, ⟨.func #[] #[118] false, 1, 8, none, false⟩),
  (121, ⟨.func #[2, 39] #[27, 4] false, 1, 8, none, false⟩),
  (122, ⟨.func #[] #[39] false, 1, 8, none, false⟩),
  (123, ⟨.func #[2] #[2] false, 1, 8, none, false⟩),
  (124, ⟨.func #[90, 3, 3, 3] #[] false, 1, 8, none, false⟩),
  (125, ⟨.func #[126] #[3] false, 1, 8, none, false⟩),
  (128, ⟨.func #[2, 39] #[39, 4] false, 1, 8, none, false⟩),
  (129, ⟨.func #[33, 70] #[3] false, 1, 8, none, false⟩),
  (130, ⟨.func #[2, 29, 24] #[4] false, 1, 8, none, false⟩),
  (131, ⟨.func #[2, 29, 29, 2, 2] #[29] false, 1, 8, none, false⟩),
  (132, ⟨.func #[2, 23, 23] #[23] false, 1, 8, none, false⟩),
  (133, ⟨.func #[2, 2, 2] #[4] false, 1, 8, none, false⟩),
  (134, ⟨.func #[2, 56] #[2] false, 1, 8, none, false⟩),
  (135, ⟨.func #[2, 39] #[4] true, 1, 8, none, false⟩),
  (136, ⟨.func #[155] #[39] true, 1, 8, none, false⟩),
  (137, ⟨.func #[2, 23, 23, 23] #[2] false, 1, 8, none, false⟩),
  (138, ⟨.func #[90, 3, 3] #[] false, 1, 8, none, false⟩),
  (139, ⟨.int .i64, 1, 8, some (.int 0), false⟩),
  (141, ⟨.func #[90, 3, 3] #[3, 139] false, 1, 8, none, false⟩),
  (142, ⟨.func #[90, 3, 3] #[4] false, 1, 8, none, false⟩),
  (143, ⟨.func #[3, 3] #[4] false, 1, 8, none, false⟩),
  (144, ⟨.func #[90, 3, 3, 3] #[3] false, 1, 8, none, false⟩),
  (146, ⟨.func #[90, 3, 3, 3] #[3, 4] false, 1, 8, none, false⟩),
  (147, ⟨.func #[148] #[3] false, 1, 8, none, false⟩),
  (149, ⟨.func #[150] #[3] false, 1, 8, none, false⟩),
  (151, ⟨.func #[29] #[39] false, 1, 8, none, false⟩),
  (152, ⟨.func #[2, 23, 23] #[2] false, 1, 8, none, false⟩),
  (153, ⟨.func #[2, 2, 2, 2] #[29] false, 1, 8, none, false⟩),
  (154, ⟨.func #[2, 29, 29, 29] #[2] false, 1, 8, none, false⟩),
  (155, ⟨.slice 39, 1, 24, some (.nilsl), false⟩),
  (156, ⟨.func #[39, 3] #[39] false, 1, 8, none, false⟩),
  (158, ⟨.func #[3] #[126] false, 1, 8, none, false⟩),
  (159, ⟨.func #[] #[150] false, 1, 8, none, false⟩),
  (160, ⟨.func #[90, 3, 161] #[3] false, 1, 8, none, false⟩),
  (162, ⟨.func #[90, 3, 3, 3, 161] #[3] false, 1, 8, none, false⟩),
  (163, ⟨.func #[3] #[4] false, 1, 8, none, false⟩),
  (166, ⟨.func #[90, 3, 3, 161] #[3, 3] false, 1, 8, none, false⟩),
  (167, ⟨.func #[] #[9] false, 1, 8, none, false⟩),
  (170, ⟨.array 0 16, 0, 0, none, false⟩),
  (173, ⟨.func #[] #[3] false, 1, 8, none, false⟩),
  (176, ⟨.func #[182, 182] #[4] false, 1, 8, none, false⟩)]
theorem tab_ok : TOK Tryd.prog tab :=
  TOK.cons (TI.of0 (by kernel_rfl) (by kernel_rfl) rfl (fun h => by cases h)) <|
  TOK.cons (TI.of (by kernel_rfl) (by kernel_rfl) (fun v hv => by injection hv with hv; subst hv; rfl) (fun h => by cases h)) <|
  TOK.cons (TI.of (by kernel_rfl) (by kernel_rfl) (fun v hv => by injection hv with hv; subst hv; rfl) (fun h => by cases h)) <|
  TOK.cons (TI.of (by kernel_rfl) (by kernel_rfl) (fun v hv => by injection hv with hv; subst hv; rfl) (fun h => by cases h)) <|
  TOK.cons (TI.of (by kernel_rfl) (by kernel_rfl) (fun v hv => by injection hv with hv; subst hv; rfl) (fun _ => by kernel_rfl)) <|
  TOK.cons (TI.of (by kernel_rfl) (by kernel_rfl) (fun v hv => by injection hv with hv; subst hv; rfl) (fun _ => by kernel_rfl)) <|
  TOK.cons (TI.of (by kernel_rfl) (by kernel_rfl) (fun v hv => by injection hv with hv; subst hv; rfl) (fun _ => by kernel_rfl)) <|
  TOK.cons (TI.of0 (by kernel_rfl) (by kernel_rfl) rfl (fun h => by cases h)) <|
  TOK.cons (TI.of (by kernel_rfl) (by kernel_rfl) (fun v hv => by injection hv with hv; subst hv; rfl) (fun _ => by kernel_rfl)) <|
  TOK.cons (TI.of0 (by kernel_rfl) (by kernel_rfl) rfl (fun h => by cases h)) <|
  TOK.cons (TI.of (by kernel_rfl) (by kernel_rfl) (fun v hv => by injection hv with hv; subst hv; rfl) (fun _ => by kernel_rfl)) <|
  TOK.cons (TI.of0 (by kernel_rfl) (by kernel_rfl) rfl (fun h => by cases h)) <|
  TOK.cons (TI.of0 (by kernel_rfl) (by kernel_rfl) rfl (fun h => by cases h)) <|
  TOK.cons (TI.of0 (by kernel_rfl) (by kernel_rfl) rfl (fun h => by cases h)) <|
  TOK.cons (TI.of (by kernel_rfl) (by kernel_rfl) (fun v hv => by injection hv with hv; subst hv; rfl) (fun h => by cases h)) <|
  TOK.cons (TI.of0 (by kernel_rfl) (by kernel_rfl) rfl (fun h => by cases h)) <|
  TOK.cons (TI.of0 (by kernel_rfl) (by kernel_rfl) rfl (fun h => by cases h)) <|
  TOK.cons (TI.of0 (by kernel_rfl) (by kernel_rfl) rfl (fun h => by cases h)) <|
  TOK.cons (TI.of0 (by kernel_rfl) (by kernel_rfl) rfl (fun h => by cases h)) <|
  TOK.cons (TI.of (by kernel_rfl) (by kernel_rfl) (fun v hv => by injection hv with hv; subst hv; rfl) (fun h => by cases h)) <|
  TOK.cons (TI.of0 (by kernel_rfl) (by kernel_rfl) rfl (fun h => by cases h)) <|
  TOK.cons (TI.of0 (by kernel_rfl) (by kernel_rfl) rfl (fun h => by cases h)) <|
  TOK.cons (TI.of0 (by kernel_rfl) (by kernel_rfl) rfl (fun h => by cases h)) <|
  TOK.cons (TI.of0 (by kernel_rfl) (by kernel_rfl) rfl (fun h => by cases h)) <|
  TOK.cons (TI.of0 (by kernel_rfl) (by kernel_rfl) rfl (fun h => by cases h)) <|
  TOK.cons (TI.of0 (by kernel_rfl) (by kernel_rfl) rfl (fun h => by cases h)) <|
  TOK.cons (TI.of0 (by kernel_rfl) (by kernel_rfl) rfl (fun h => by cases h)) <|
  TOK.cons (TI.of0 (by kernel_rfl) (by kernel_rfl) rfl (fun h => by cases h)) <|
  TOK.cons (TI.of0 (by kernel_rfl) (by kernel_rfl) rfl (fun h => by cases h)) <|
  TOK.cons (TI.of0 (by kernel_rfl) (by kernel_rfl) rfl (fun h => by cases h)) <|
  TOK.cons (TI.of (by kernel_rfl) (by kernel_rfl) (fun v hv => by injection hv with hv; subst hv; rfl) (fun _ => by kernel_rfl)) <|
  TOK.cons (TI.of0 (by kernel_rfl) (by kernel_rfl) rfl (fun h => by cases h)) <|
  TOK.cons (TI.of (by kernel_rfl) (by kernel_rfl) (fun v hv => by injection hv with hv; subst hv; rfl) (fun _ => by kernel_rfl)) <|
  TOK.cons (TI.of0 (by kernel_rfl) (by kernel_rfl) rfl (fun h => by cases h)) <|
  TOK.cons (TI.of0 (by kernel_rfl) (by kernel_rfl) rfl (fun h => by cases h)) <|
  TOK.cons (TI.of0 (by kernel_rfl) (by kernel_rfl) rfl (fun h => by cases h)) <|
  TOK.cons (TI.of0 (by kernel_rfl) (by kernel_rfl) rfl (fun h => by cases h)) <|
  TOK.cons (TI.of0 (by kernel_rfl) (by kernel_rfl) rfl (fun h => by cases h)) <|
  TOK.cons (TI.of0 (by kernel_rfl) (by kernel_rfl) rfl (fun h => by cases h)) <|
  TOK.cons (TI.of0 (by kernel_rfl) (by kernel_rfl) rfl (fun h => by cases h)) <|
  TOK.cons (TI.of0 (by kernel_rfl) (by kernel_rfl) rfl (fun h => by cases h)) <|
  TOK.cons (TI.of0 (by kernel_rfl) (by kernel_rfl) rfl (fun h => by cases h)) <|
  TOK.cons (TI.of0 (by kernel_rfl) (by kernel_rfl) rfl (fun h => by cases h)) <|
  TOK.cons (TI.of0 (by kernel_rfl) (by kernel_rfl) rfl (fun h => by cases h)) <|
  TOK.cons (TI.of0 (by kernel_rfl) (by kernel_rfl) rfl (fun h => by cases h)) <|
  TOK.cons (TI.of0 (by kernel_rfl) (by kernel_rfl) rfl (fun h => by cases h)) <|
  TOK.cons (TI.of0 (by kernel_rfl) (by kernel_rfl) rfl (fun h => by cases h)) <|
  TOK.cons (TI.of0 (by kernel_rfl) (by kernel_rfl) rfl (fun h => by cases h)) <|
  TOK.cons (TI.of0 (by kernel_rfl) (by kernel_rfl) rfl (fun h => by cases h)) <|
  TOK.cons (TI.of0 (by kernel_rfl) (by kernel_rfl) rfl (fun h => by cases h)) <|
  TOK.cons (TI.of0 (by kernel_rfl) (by kernel_rfl) rfl (fun h => by cases h)) <|
  TOK.cons (TI.of0 (by kernel_rfl) (by kernel_rfl) rfl (fun h => by cases h)) <|
  TOK.cons (TI.of0 (by kernel_rfl) (by kernel_rfl) rfl (fun h => by cases h)) <|
  TOK.cons (TI.of0 (by kernel_rfl) (by kernel_rfl) rfl (fun h => by cases h)) <|
  TOK.cons (TI.of0 (by kernel_rfl) (by kernel_rfl) rfl (fun h => by cases h)) <|
  TOK.cons (TI.of0 (by kernel_rfl) (by kernel_rfl) rfl (fun h => by cases h)) <|
  TOK.cons (TI.of0 (by kernel_rfl) (by kernel_rfl) rfl (fun h => by cases h)) <|
  TOK.cons (TI.of0 (by kernel_rfl) (by kernel_rfl) rfl (fun h => by cases h)) <|
  TOK.cons (TI.of0 (by kernel_rfl) (by kernel_rfl) rfl (fun h => by cases h)) <|
  TOK.cons (TI.of0 (by kernel_rfl) (by kernel_rfl) rfl (fun h => by cases h)) <|
  TOK.cons (TI.of0 (by kernel_rfl) (by kernel_rfl) rfl (fun h => by cases h)) <|
  TOK.cons (TI.of (by kernel_rfl) (by kernel_rfl) (fun v hv => by injection hv with hv; subst hv; rfl) (fun _ => by kernel_rfl)) <|
  TOK.cons (TI.of (by kernel_rfl) (by kernel_rfl) (fun v hv => by injection hv with hv; subst hv; rfl) (fun _ => by kernel_rfl)) <|
  TOK.cons (TI.of (by kernel_rfl) (by kernel_rfl) (fun v hv => by injection hv with hv; subst hv; rfl) (fun h => by cases h)) <|
  TOK.cons (TI.of0 (by kernel_rfl) (by kernel_rfl) rfl (fun h => by cases h)) <|
  TOK.cons (TI.of0 (by kernel_rfl) (by kernel_rfl) rfl (fun h => by cases h)) <|
  TOK.cons (TI.of (by kernel_rfl) (by kernel_rfl) (fun v hv => by injection hv with hv; subst hv; rfl) (fun h => by cases h)) <|
  TOK.cons (TI.of0 (by kernel_rfl) (by kernel_rfl) rfl (fun h => by cases h)) <|
  TOK.cons (TI.of0 (by kernel_rfl) (by kernel_rfl) rfl (fun h => by cases h)) <|
  TOK.cons (TI.of0 (by kernel_rfl) (by kernel_rfl) rfl (fun h => by cases h)) <|
  TOK.cons (TI.of0 (by kernel_rfl) (by kernel_rfl) rfl (fun h => by cases h)) <|
  TOK.cons (TI.of0 (by kernel_rfl) (by kernel_rfl) rfl (fun h => by cases h)) <|
  TOK.cons (TI.of0 (by kernel_rfl) (by kernel_rfl) rfl (fun h => by cases h)) <|
  TOK.cons (TI.of0 (by kernel_rfl) (by kernel_rfl) rfl (fun h => by cases h)) <|
  TOK.cons (TI.of0 (by kernel_rfl) (by kernel_rfl) rfl (fun h => by cases h)) <|
  TOK.cons (TI.of0 (by kernel_rfl) (by kernel_rfl) rfl (fun h => by cases h)) <|
  TOK.cons (TI.of0 (by kernel_rfl) (by kernel_rfl) rfl (fun h => by cases h)) <|
  TOK.cons (TI.of (by kernel_rfl) (by kernel_rfl) (fun v hv => by injection hv with hv; subst hv; rfl) (fun _ => by kernel_rfl)) <|
  TOK.cons (TI.of0 (by kernel_rfl) (by kernel_rfl) rfl (fun h => by cases h)) <|
  TOK.cons (TI.of0 (by kernel_rfl) (by kernel_rfl) rfl (fun h => by cases h)) <|
  TOK.cons (TI.of0 (by kernel_rfl) (by kernel_rfl) rfl (fun h => by cases h)) <|
  TOK.cons (TI.of0 (by kernel_rfl) (by kernel_rfl) rfl (fun h => by cases h)) <|
  TOK.cons (TI.of0 (by kernel_rfl) (by kernel_rfl) rfl (fun h => by cases h)) <|
  TOK.cons (TI.of (by kernel_rfl) (by kernel_rfl) (fun v hv => by injection hv with hv; subst hv; rfl) (fun h => by cases h)) <|
  TOK.cons (TI.of0 (by kernel_rfl) (by kernel_rfl) rfl (fun h => by cases h)) <|
  TOK.cons (TI.of0 (by kernel_rfl) (by kernel_rfl) rfl (fun h => by cases h)) <|
  TOK.cons (TI.of0 (by kernel_rfl) (by kernel_rfl) rfl (fun h => by cases h)) <|
  TOK.cons (TI.of0 (by kernel_rfl) (by kernel_rfl) rfl (fun h => by cases h)) <|
  TOK.cons (TI.of (by kernel_rfl) (by kernel_rfl) (fun v hv => by injection hv with hv; subst hv; rfl) (fun h => by cases h)) <|
  TOK.cons (TI.of0 (by kernel_rfl) (by kernel_rfl) rfl (fun h => by cases h)) <|
  TOK.cons (TI.of (by kernel_rfl) (by kernel_rfl) (fun v hv => by injection hv with hv; subst hv; rfl) (fun _ => by kernel_rfl)) <|
  TOK.cons (TI.of0 (by kernel_rfl) (by kernel_rfl) rfl (fun h => by cases h)) <|
  TOK.cons (TI.of0 (by kernel_rfl) (by kernel_rfl) rfl (fun h => by cases h)) <|
  TOK.cons (TI.of0 (by kernel_rfl) (by kernel_rfl) rfl (fun h => by cases h)) <|
  TOK.cons (TI.of0 (by kernel_rfl) (by kernel_rfl) rfl (fun h => by cases h)) <|
  TOK.cons (TI.of0 (by kernel_rfl) (by kernel_rfl) rfl (fun h => by cases h)) <|
  TOK.cons (TI.of0 (by kernel_rfl) (by kernel_rfl) rfl (fun h => by cases h)) <|
  TOK.cons (TI.of0 (by kernel_rfl) (by kernel_rfl) rfl (fun h => by cases h)) <|
  TOK.cons (TI.of0 (by kernel_rfl) (by kernel_rfl) rfl (fun h => by cases h)) <|
  TOK.cons (TI.of0 (by kernel_rfl) (by kernel_rfl) rfl (fun h => by cases h)) <|
  TOK.cons (TI.of0 (by kernel_rfl) (by kernel_rfl) rfl (fun h => by cases h)) <|
  TOK.cons (TI.of0 (by kernel_rfl) (by kernel_rfl) rfl (fun h => by cases h)) <|
  TOK.cons (TI.of0 (by kernel_rfl) (by kernel_rfl) rfl (fun h => by cases h)) <|
  TOK.cons (TI.of0 (by kernel_rfl) (by kernel_rfl) rfl (fun h => by cases h)) <|
  TOK.cons (TI.of0 (by kernel_rfl) (by kernel_rfl) rfl (fun h => by cases h)) <|
  TOK.cons (TI.of0 (by kernel_rfl) (by kernel_rfl) rfl (fun h => by cases h)) <|
  TOK.cons (TI.of0 (by kernel_rfl) (by kernel_rfl) rfl (fun h => by cases h)) <|
  TOK.cons (TI.of0 (by kernel_rfl) (by kernel_rfl) rfl (fun h => by cases h)) <|
  TOK.cons (TI.of (by kernel_rfl) (by kernel_rfl) (fun v hv => by injection hv with hv; subst hv; rfl) (fun h => by cases h)) <|
  TOK.cons (TI.of0 (by kernel_rfl) (by kernel_rfl) rfl (fun h => by cases h)) <|
  TOK.cons (TI.of0 (by kernel_rfl) (by kernel_rfl) rfl (fun h => by cases h)) <|
  TOK.cons (TI.of0 (by kernel_rfl) (by kernel_rfl) rfl (fun h => by cases h)) <|
  TOK.cons (TI.of0 (by kernel_rfl) (by kernel_rfl) rfl (fun h => by cases h)) <|
  TOK.cons (TI.of0 (by kernel_rfl) (by kernel_rfl) rfl (fun h => by cases h)) <|
  TOK.cons (TI.of0 (by kernel_rfl) (by kernel_rfl) rfl (fun h => by cases h)) <|
  TOK.cons (TI.of0 (by kernel_rfl) (by kernel_rfl) rfl (fun h => by cases h)) <|
  TOK.cons (TI.of0 (by kernel_rfl) (by kernel_rfl) rfl (fun h => by cases h)) <|
  TOK.cons (TI.of0 (by kernel_rfl) (by kernel_rfl) rfl (fun h => by cases h)) <|
  TOK.cons (TI.of0 (by kernel_rfl) (by kernel_rfl) rfl (fun h => by cases h)) <|
  TOK.cons (TI.of0 (by kernel_rfl) (by kernel_rfl) rfl (fun h => by cases h)) <|
  TOK.cons (TI.of (by kernel_rfl) (by kernel_rfl) (fun v hv => by injection hv with hv; subst hv; rfl) (fun h => by cases h)) <|
  TOK.cons (TI.of0 (by kernel_rfl) (by kernel_rfl) rfl (fun h => by cases h)) <|
  TOK.cons (TI.of0 (by kernel_rfl) (by kernel_rfl) rfl (fun h => by cases h)) <|
  TOK.cons (TI.of0 (by kernel_rfl) (by kernel_rfl) rfl (fun h => by cases h)) <|
  TOK.cons (TI.of0 (by kernel_rfl) (by kernel_rfl) rfl (fun h => by cases h)) <|
  TOK.cons (TI.of0 (by kernel_rfl) (by kernel_rfl) rfl (fun h => by cases h)) <|
  TOK.cons (TI.of0 (by kernel_rfl) (by kernel_rfl) rfl (fun h => by cases h)) <|
  TOK.cons (TI.of0 (by kernel_rfl) (by kernel_rfl) rfl (fun h => by cases h)) <|
  TOK.cons (TI.of0 (by kernel_rfl) (by kernel_rfl) rfl (fun h => by cases h)) <|
  TOK.cons (TI.of0 (by kernel_rfl) (by kernel_rfl) rfl (fun h => by cases h)) <|
  TOK.cons (TI.of0 (by kernel_rfl) (by kernel_rfl) rfl (fun h => by cases h)) <|
  TOK.cons (TI.of0 (by kernel_rfl) (by kernel_rfl) rfl (fun h => by cases h)) <|
  TOK.nil
theorem lateOk : Tryd.prog.follows .mixedOrders = true := by kernel_rfl
noncomputable abbrev cx (gl : List (Nat × Nat)) (N : Nat) (D W : List Nat) : Cx := ⟨Tryd.prog, tab, tab_ok, gl, N, D, W⟩
end Go.Proofs.YtcklfkblhmlbbaaDoor
namespace Go.Proofs.YtcklfkblhmlbbaaDoor
/-- the five primes -/
def primeB (p : Int) : Bool := p == 3 || p == 5 || p == 7 || p == 11 || p == 13
theorem prime_cases {p : Int} (h : primeB p = true) : p = 3 ∨ p = 5 ∨ p = 7 ∨ p = 11 ∨ p = 13 := by
  simp [primeB] at h; omega
theorem prime_bd {p : Int} (h : primeB p = true) : 3 ≤ p ∧ p ≤ 13 := by
  have := prime_cases h; omega
theorem tmod_bd {n p : Int} (hp : 0 < p) : -p < n.tmod p ∧ n.tmod p < p := by
  rw [Int.tmod_eq_emod]
  have h1 := Int.emod_nonneg n (show p ≠ 0 by omega)
  have h2 := Int.emod_lt_of_pos n hp
  split
  · omega
  · have : (p.natAbs : Int) = p := Int.natAbs_of_nonneg (by omega)
    have h3 : n % p ≠ 0 := fun h => by rename_i h'; exact h' (.inr (Int.dvd_of_emod_eq_zero h))
    omega
theorem tmod_tmod {n p : Int} (hp : 0 < p) : (n.tmod p + p).tmod p = n % p := by
  have hb := tmod_bd (n := n) hp
  rw [Int.tmod_eq_emod_of_nonneg (by omega)]
  rw [Int.add_emod_right]
  rw [Int.tmod_eq_emod]
  have e : (p.natAbs : Int) = p := Int.natAbs_of_nonneg (by omega)
  split
  · simp
  · rw [e, Int.sub_emod, Int.emod_self, Int.sub_zero, Int.emod_emod_of_dvd _ (Int.dvd_refl p), Int.emod_emod_of_dvd _ (Int.dvd_refl p)]
/-- all numbers of a list are numbers modulo p -/
def modB (p : Int) (l : List Int) : Bool := l.all fun n => decide (0 ≤ n) && decide (n ≤ p - 1)
/-- the first number that is not 0 -/
def fnz : List Int → Int
  | [] => 0
  | a :: r => if a = 0 then fnz r else a
theorem fnz_append (l m : List Int) : fnz (l ++ m) = if fnz l = 0 then fnz m else fnz l := by
  induction l with
  | nil => simp [fnz]
  | cons a r ih =>
    simp only [List.cons_append, fnz]
    split
    · exact ih
    · rfl
/-- a normal list -/
def normB (p : Int) (l : List Int) : Bool := modB p l && (fnz l == 1)
theorem take_snoc {l : List Int} {i : Nat} (h : i < l.length) : l.take (i + 1) = l.take i ++ [l.getD i 0] := by
  rw [List.take_succ_eq_append_getElem h]; simp [List.getD, h]
theorem modB_snoc {p : Int} {l : List Int} {i : Nat} (hi : i < l.length) (h : modB p (l.take i) = true) (h1 : 0 ≤ l.getD i 0) (h2 : l.getD i 0 ≤ p - 1) : modB p (l.take (i + 1)) = true := by
  rw [take_snoc hi]
  simp only [modB, List.all_append, Bool.and_eq_true] at h ⊢
  exact ⟨h, by simp only [List.all_cons, List.all_nil, Bool.and_true, Bool.and_eq_true, decide_eq_true_eq]; exact ⟨h1, h2⟩⟩
theorem modB_fail {p : Int} {l : List Int} {i n : Nat} (hi : i < l.length) (hn : i < n) (h : (decide (0 ≤ l.getD i 0) && decide (l.getD i 0 ≤ p - 1)) = false) : modB p (l.take n) = false := by
  rw [modB, List.all_eq_false]
  refine ⟨l.getD i 0, ?_, by rw [h]; simp⟩
  rw [List.mem_take_iff_getElem]
  exact ⟨i, by omega, by simp [List.getD, hi]⟩
theorem fnz_take {l : List Int} {i : Nat} (h : i < l.length) : fnz (l.take (i + 1)) = if fnz (l.take i) = 0 then l.getD i 0 else fnz (l.take i) := by
  rw [take_snoc h, fnz_append]
  simp only [fnz]
  split
  · split <;> simp_all
  · rfl
theorem fnz_keep {l : List Int} {i n : Nat} (h : i ≤ n) (h0 : fnz (l.take i) ≠ 0) : fnz (l.take n) = fnz (l.take i) := by
  have : l.take n = l.take i ++ (l.take n).drop i := by
    have := (List.take_append_drop i (l.take n)).symm
    rwa [List.take_take, Nat.min_eq_left h] at this
  rw [this, fnz_append, if_neg h0]
theorem fnz_at {l : List Int} {i n : Nat} (h : i < l.length) (hn : i < n) (h0 : fnz (l.take i) = 0) (h1 : l.getD i 0 ≠ 0) : fnz (l.take n) = l.getD i 0 := by
  have e : fnz (l.take (i + 1)) = l.getD i 0 := by rw [fnz_take h, if_pos h0]
  rw [fnz_keep (i := i + 1) (by omega) (by rw [e]; exact h1), e]
end Go.Proofs.YtcklfkblhmlbbaaDoor
namespace Go.Proofs.YtcklfkblhmlbbaaDoor
attribute [local irreducible] CW OW QW QOp Con thenP inBlockP
set_option maxRecDepth 10000
set_option linter.unusedSimpArgs false
set_option linter.unusedVariables false
theorem isPrime_con (p : Int) : ConQ Tryd.prog [] 105 [.int p] [] (.bool (primeB p)) := by
  refine conW tab_ok [(0, .int p)] 0 [] [] Tryd.func105 rfl rfl rfl rfl rfl rfl rfl rfl rfl ?_
  refine cR ?_
  refine oA rfl rfl ?_
  refine oN ?_
  refine cR ?_
  refine oM rfl rfl ?_
  refine oQ (Q_bin rfl rfl rfl) rfl rfl ?_
  refine oM rfl rfl ?_
  all_goals first | refine oT rfl rfl ?_ | refine o1 rfl rfl rfl ?_ | refine o0 rfl rfl rfl ?_ | refine ogP1 rfl rfl rfl (fun hg => ?_) (fun hg => ?_) | refine ogP0 rfl rfl rfl (fun hg => ?_) (fun hg => ?_)
  all_goals try simp only [s1, s2, s3, s4, s5, s6, s7, s8, s9, s10, s11, s12] at hg
  all_goals first | (refine oM rfl rfl ?_) | skip
  all_goals first | refine oT rfl rfl ?_ | refine o1 rfl rfl rfl ?_ | refine o0 rfl rfl rfl ?_ | refine ogP1 rfl rfl rfl (fun hg => ?_) (fun hg => ?_) | refine ogP0 rfl rfl rfl (fun hg => ?_) (fun hg => ?_)
  all_goals try simp only [s1, s2, s3, s4, s5, s6, s7, s8, s9, s10, s11, s12] at hg
  all_goals first | (refine oQ (Q_bin rfl rfl rfl) rfl rfl ?_) | skip
  all_goals first | refine oQ (Q_pick_t rfl (by with_reducible rfl) rfl rfl) rfl rfl ?_ | refine oQ (Q_pick_f rfl (by with_reducible rfl) rfl rfl) rfl rfl ?_
  all_goals first | (refine oM rfl rfl ?_)
  all_goals first | refine oT rfl rfl ?_ | refine o1 rfl rfl rfl ?_ | refine o0 rfl rfl rfl ?_ | refine ogP1 rfl rfl rfl (fun hg => ?_) (fun hg => ?_) | refine ogP0 rfl rfl rfl (fun hg => ?_) (fun hg => ?_)
  all_goals try simp only [s1, s2, s3, s4, s5, s6, s7, s8, s9, s10, s11, s12] at hg
  all_goals first | (refine oM rfl rfl ?_) | skip
  all_goals first | refine oT rfl rfl ?_ | refine o1 rfl rfl rfl ?_ | refine o0 rfl rfl rfl ?_ | refine ogP1 rfl rfl rfl (fun hg => ?_) (fun hg => ?_) | refine ogP0 rfl rfl rfl (fun hg => ?_) (fun hg => ?_)
  all_goals try simp only [s1, s2, s3, s4, s5, s6, s7, s8, s9, s10, s11, s12] at hg
  all_goals first | (refine oQ (Q_bin rfl rfl rfl) rfl rfl ?_) | skip
  all_goals first | refine oQ (Q_pick_t rfl (by with_reducible rfl) rfl rfl) rfl rfl ?_ | refine oQ (Q_pick_f rfl (by with_reducible rfl) rfl rfl) rfl rfl ?_
  all_goals first | (refine oM rfl rfl ?_)
  all_goals first | refine oT rfl rfl ?_ | refine o1 rfl rfl rfl ?_ | refine o0 rfl rfl rfl ?_ | refine ogP1 rfl rfl rfl (fun hg => ?_) (fun hg => ?_) | refine ogP0 rfl rfl rfl (fun hg => ?_) (fun hg => ?_)
  all_goals try simp only [s1, s2, s3, s4, s5, s6, s7, s8, s9, s10, s11, s12] at hg
  all_goals first | (refine oM rfl rfl ?_) | skip
  all_goals first | refine oT rfl rfl ?_ | refine o1 rfl rfl rfl ?_ | refine o0 rfl rfl rfl ?_ | refine ogP1 rfl rfl rfl (fun hg => ?_) (fun hg => ?_) | refine ogP0 rfl rfl rfl (fun hg => ?_) (fun hg => ?_)
  all_goals try simp only [s1, s2, s3, s4, s5, s6, s7, s8, s9, s10, s11, s12] at hg
  all_goals first | (refine oQ (Q_bin rfl rfl rfl) rfl rfl ?_) | skip
  all_goals first | refine oQ (Q_pick_t rfl (by with_reducible rfl) rfl rfl) rfl rfl ?_ | refine oQ (Q_pick_f rfl (by with_reducible rfl) rfl rfl) rfl rfl ?_
  all_goals first | (refine oM rfl rfl ?_)
  all_goals first | refine oT rfl rfl ?_ | refine o1 rfl rfl rfl ?_ | refine o0 rfl rfl rfl ?_ | refine ogP1 rfl rfl rfl (fun hg => ?_) (fun hg => ?_) | refine ogP0 rfl rfl rfl (fun hg => ?_) (fun hg => ?_)
  all_goals try simp only [s1, s2, s3, s4, s5, s6, s7, s8, s9, s10, s11, s12] at hg
  all_goals first | (refine oM rfl rfl ?_) | skip
  all_goals first | refine oT rfl rfl ?_ | refine o1 rfl rfl rfl ?_ | refine o0 rfl rfl rfl ?_ | refine ogP1 rfl rfl rfl (fun hg => ?_) (fun hg => ?_) | refine ogP0 rfl rfl rfl (fun hg => ?_) (fun hg => ?_)
  all_goals try simp only [s1, s2, s3, s4, s5, s6, s7, s8, s9, s10, s11, s12] at hg
  all_goals first | (refine oQ (Q_bin rfl rfl rfl) rfl rfl ?_) | skip
  all_goals first | refine oQ (Q_pick_t rfl (by with_reducible rfl) rfl rfl) rfl rfl ?_ | refine oQ (Q_pick_f rfl (by with_reducible rfl) rfl rfl) rfl rfl ?_
  all_goals first | (refine oA rfl rfl ?_)
  all_goals refine oN ?_
  all_goals (
   refine CW_ret ?_)
  all_goals (
   refine exitQ (.inr rfl) 0 (.cons (.tmp rfl rfl) .nil) ?_ rfl vHn rfl rfl
   simp_all [resV, primeB])
theorem l01Prime_con (p : Int) : ConQ Tryd.prog [] 78 [.int p] [] (.bool (primeB p)) := by
  refine conW tab_ok [(0, .int p)] 0 [] [] Tryd.func78 rfl rfl rfl rfl rfl rfl rfl rfl rfl ?_
  refine cR ?_
  refine oA rfl rfl ?_
  refine oN ?_
  refine cR ?_
  refine oM rfl rfl ?_
  refine oQ (Q_bin rfl rfl rfl) rfl rfl ?_
  refine oM rfl rfl ?_
  all_goals first | refine oT rfl rfl ?_ | refine o1 rfl rfl rfl ?_ | refine o0 rfl rfl rfl ?_ | refine ogP1 rfl rfl rfl (fun hg => ?_) (fun hg => ?_) | refine ogP0 rfl rfl rfl (fun hg => ?_) (fun hg => ?_)
  all_goals try simp only [s1, s2, s3, s4, s5, s6, s7, s8, s9, s10, s11, s12] at hg
  all_goals first | (refine oM rfl rfl ?_) | skip
  all_goals first | refine oT rfl rfl ?_ | refine o1 rfl rfl rfl ?_ | refine o0 rfl rfl rfl ?_ | refine ogP1 rfl rfl rfl (fun hg => ?_) (fun hg => ?_) | refine ogP0 rfl rfl rfl (fun hg => ?_) (fun hg => ?_)
  all_goals try simp only [s1, s2, s3, s4, s5, s6, s7, s8, s9, s10, s11, s12] at hg
  all_goals first | (refine oQ (Q_bin rfl rfl rfl) rfl rfl ?_) | skip
  all_goals first | refine oQ (Q_pick_t rfl (by with_reducible rfl) rfl rfl) rfl rfl ?_ | refine oQ (Q_pick_f rfl (by with_reducible rfl) rfl rfl) rfl rfl ?_
  all_goals first | (refine oM rfl rfl ?_)
  all_goals first | refine oT rfl rfl ?_ | refine o1 rfl rfl rfl ?_ | refine o0 rfl rfl rfl ?_ | refine ogP1 rfl rfl rfl (fun hg => ?_) (fun hg => ?_) | refine ogP0 rfl rfl rfl (fun hg => ?_) (fun hg => ?_)
  all_goals try simp only [s1, s2, s3, s4, s5, s6, s7, s8, s9, s10, s11, s12] at hg
  all_goals first | (refine oM rfl rfl ?_) | skip
  all_goals first | refine oT rfl rfl ?_ | refine o1 rfl rfl rfl ?_ | refine o0 rfl rfl rfl ?_ | refine ogP1 rfl rfl rfl (fun hg => ?_) (fun hg => ?_) | refine ogP0 rfl rfl rfl (fun hg => ?_) (fun hg => ?_)
  all_goals try simp only [s1, s2, s3, s4, s5, s6, s7, s8, s9, s10, s11, s12] at hg
  all_goals first | (refine oQ (Q_bin rfl rfl rfl) rfl rfl ?_) | skip
  all_goals first | refine oQ (Q_pick_t rfl (by with_reducible rfl) rfl rfl) rfl rfl ?_ | refine oQ (Q_pick_f rfl (by with_reducible rfl) rfl rfl) rfl rfl ?_
  all_goals first | (refine oM rfl rfl ?_)
  all_goals first | refine oT rfl rfl ?_ | refine o1 rfl rfl rfl ?_ | refine o0 rfl rfl rfl ?_ | refine ogP1 rfl rfl rfl (fun hg => ?_) (fun hg => ?_) | refine ogP0 rfl rfl rfl (fun hg => ?_) (fun hg => ?_)
  all_goals try simp only [s1, s2, s3, s4, s5, s6, s7, s8, s9, s10, s11, s12] at hg
  all_goals first | (refine oM rfl rfl ?_) | skip
  all_goals first | refine oT rfl rfl ?_ | refine o1 rfl rfl rfl ?_ | refine o0 rfl rfl rfl ?_ | refine ogP1 rfl rfl rfl (fun hg => ?_) (fun hg => ?_) | refine ogP0 rfl rfl rfl (fun hg => ?_) (fun hg => ?_)
  all_goals try simp only [s1, s2, s3, s4, s5, s6, s7, s8, s9, s10, s11, s12] at hg
  all_goals first | (refine oQ (Q_bin rfl rfl rfl) rfl rfl ?_) | skip
  all_goals first | refine oQ (Q_pick_t rfl (by with_reducible rfl) rfl rfl) rfl rfl ?_ | refine oQ (Q_pick_f rfl (by with_reducible rfl) rfl rfl) rfl rfl ?_
  all_goals first | (refine oM rfl rfl ?_)
  all_goals first | refine oT rfl rfl ?_ | refine o1 rfl rfl rfl ?_ | refine o0 rfl rfl rfl ?_ | refine ogP1 rfl rfl rfl (fun hg => ?_) (fun hg => ?_) | refine ogP0 rfl rfl rfl (fun hg => ?_) (fun hg => ?_)
  all_goals try simp only [s1, s2, s3, s4, s5, s6, s7, s8, s9, s10, s11, s12] at hg
  all_goals first | (refine oM rfl rfl ?_) | skip
  all_goals first | refine oT rfl rfl ?_ | refine o1 rfl rfl rfl ?_ | refine o0 rfl rfl rfl ?_ | refine ogP1 rfl rfl rfl (fun hg => ?_) (fun hg => ?_) | refine ogP0 rfl rfl rfl (fun hg => ?_) (fun hg => ?_)
  all_goals try simp only [s1, s2, s3, s4, s5, s6, s7, s8, s9, s10, s11, s12] at hg
  all_goals first | (refine oQ (Q_bin rfl rfl rfl) rfl rfl ?_) | skip
  all_goals first | refine oQ (Q_pick_t rfl (by with_reducible rfl) rfl rfl) rfl rfl ?_ | refine oQ (Q_pick_f rfl (by with_reducible rfl) rfl rfl) rfl rfl ?_
  all_goals first | (refine oA rfl rfl ?_)
  all_goals refine oN ?_
  all_goals (
   refine CW_ret ?_)
  all_goals (
   refine exitQ (.inr rfl) 0 (.cons (.tmp rfl rfl) .nil) ?_ rfl vHn rfl rfl
   simp_all [resV, primeB])
theorem within_con (n l h : Int) : ConQ Tryd.prog [] 145 [.int n, .int l, .int h] [] (.bool (decide (l ≤ n) && decide (n ≤ h))) := by
  refine conW tab_ok [(0, .int n), (1, .int l), (2, .int h)] 0 [] [] Tryd.func145 rfl rfl rfl rfl rfl rfl rfl rfl rfl ?_
  refine cR ?_
  refine oA rfl rfl ?_
  refine oN ?_
  refine cR ?_
  iterate 2 refine oM rfl rfl ?_
  refine oQ (Q_bin rfl rfl rfl) rfl rfl ?_
  refine oM rfl rfl ?_
  all_goals first | refine oT rfl rfl ?_ | refine o1 rfl rfl rfl ?_ | refine o0 rfl rfl rfl ?_ | refine ogP1 rfl rfl rfl (fun hg => ?_) (fun hg => ?_) | refine ogP0 rfl rfl rfl (fun hg => ?_) (fun hg => ?_)
  all_goals try simp only [s1, s2, s3, s4, s5, s6, s7, s8, s9, s10, s11, s12] at hg
  all_goals first | (refine oM rfl rfl ?_) | skip
  all_goals first | refine oT rfl rfl ?_ | refine o1 rfl rfl rfl ?_ | refine o0 rfl rfl rfl ?_ | refine ogP1 rfl rfl rfl (fun hg => ?_) (fun hg => ?_) | refine ogP0 rfl rfl rfl (fun hg => ?_) (fun hg => ?_)
  all_goals try simp only [s1, s2, s3, s4, s5, s6, s7, s8, s9, s10, s11, s12] at hg
  all_goals first | (refine oM rfl rfl ?_) | skip
  all_goals first | refine oT rfl rfl ?_ | refine o1 rfl rfl rfl ?_ | refine o0 rfl rfl rfl ?_ | refine ogP1 rfl rfl rfl (fun hg => ?_) (fun hg => ?_) | refine ogP0 rfl rfl rfl (fun hg => ?_) (fun hg => ?_)
  all_goals try simp only [s1, s2, s3, s4, s5, s6, s7, s8, s9, s10, s11, s12] at hg
  all_goals first | (refine oQ (Q_bin rfl rfl rfl) rfl rfl ?_) | skip
  all_goals first | refine oQ (Q_pick_t rfl (by with_reducible rfl) rfl rfl) rfl rfl ?_ | refine oQ (Q_pick_f rfl (by with_reducible rfl) rfl rfl) rfl rfl ?_
  all_goals first | (refine oA rfl rfl ?_)
  all_goals refine oN ?_
  all_goals (
   refine CW_ret ?_)
  all_goals (
   refine exitQ (.inr rfl) 0 (.cons (.tmp rfl rfl) .nil) ?_ rfl vHn rfl rfl
   (simp_all [resV]) <;> (intros; omega))
theorem l01In_con (n l h : Int) : ConQ Tryd.prog [] 124 [.int n, .int l, .int h] [] (.bool (decide (l ≤ n) && decide (n ≤ h))) := by
  refine conW tab_ok [(0, .int n), (1, .int l), (2, .int h)] 0 [] [] Tryd.func124 rfl rfl rfl rfl rfl rfl rfl rfl rfl ?_
  refine cR ?_
  refine oA rfl rfl ?_
  refine oN ?_
  refine cR ?_
  iterate 2 refine oM rfl rfl ?_
  refine oQ (Q_bin rfl rfl rfl) rfl rfl ?_
  refine oM rfl rfl ?_
  all_goals first | refine oT rfl rfl ?_ | refine o1 rfl rfl rfl ?_ | refine o0 rfl rfl rfl ?_ | refine ogP1 rfl rfl rfl (fun hg => ?_) (fun hg => ?_) | refine ogP0 rfl rfl rfl (fun hg => ?_) (fun hg => ?_)
  all_goals try simp only [s1, s2, s3, s4, s5, s6, s7, s8, s9, s10, s11, s12] at hg
  all_goals first | (refine oM rfl rfl ?_) | skip
  all_goals first | refine oT rfl rfl ?_ | refine o1 rfl rfl rfl ?_ | refine o0 rfl rfl rfl ?_ | refine ogP1 rfl rfl rfl (fun hg => ?_) (fun hg => ?_) | refine ogP0 rfl rfl rfl (fun hg => ?_) (fun hg => ?_)
  all_goals try simp only [s1, s2, s3, s4, s5, s6, s7, s8, s9, s10, s11, s12] at hg
  all_goals first | (refine oM rfl rfl ?_) | skip
  all_goals first | refine oT rfl rfl ?_ | refine o1 rfl rfl rfl ?_ | refine o0 rfl rfl rfl ?_ | refine ogP1 rfl rfl rfl (fun hg => ?_) (fun hg => ?_) | refine ogP0 rfl rfl rfl (fun hg => ?_) (fun hg => ?_)
  all_goals try simp only [s1, s2, s3, s4, s5, s6, s7, s8, s9, s10, s11, s12] at hg
  all_goals first | (refine oQ (Q_bin rfl rfl rfl) rfl rfl ?_) | skip
  all_goals first | refine oQ (Q_pick_t rfl (by with_reducible rfl) rfl rfl) rfl rfl ?_ | refine oQ (Q_pick_f rfl (by with_reducible rfl) rfl rfl) rfl rfl ?_
  all_goals first | (refine oA rfl rfl ?_)
  all_goals refine oN ?_
  all_goals (
   refine CW_ret ?_)
  all_goals (
   refine exitQ (.inr rfl) 0 (.cons (.tmp rfl rfl) .nil) ?_ rfl vHn rfl rfl
   (simp_all [resV]) <;> (intros; omega))
theorem mod_con (n p : Int) (hp : 0 < p) (hp' : p ≤ 1000000) : ConQ Tryd.prog [] 76 [.int n, .int p] [] (.int (n % p)) := by
  have hb := tmod_bd (n := n) hp
  refine conW tab_ok [(0, .int n), (1, .int p)] 0 [] [] Tryd.func76 rfl rfl rfl rfl rfl rfl rfl rfl rfl ?_
  refine cR ?_
  refine oA rfl rfl ?_
  refine oN ?_
  refine cR ?_
  iterate 2 refine oM rfl rfl ?_
  refine oQ (Q_rem rfl rfl (by omega)) rfl rfl ?_
  refine oM rfl rfl ?_
  first | refine oQ (Q_binu rfl rfl rfl (by omega)) rfl rfl ?_ | refine oQ (Q_bin rfl rfl rfl) rfl rfl ?_
  refine oM rfl rfl ?_
  refine oQ (Q_rem rfl rfl (by omega)) rfl rfl ?_
  refine oA rfl rfl ?_
  refine oN ?_
  refine CW_ret ?_
  all_goals (
   refine exitQ (.inr rfl) 0 (.cons (.tmp rfl rfl) .nil) ?_ rfl vHn rfl rfl
   simp [resV, tmod_tmod hp])
theorem l01Mod_con (n p : Int) (hp : 0 < p) (hp' : p ≤ 1000000) : ConQ Tryd.prog [] 119 [.int p, .int n] [] (.int (n % p)) := by
  have hb := tmod_bd (n := n) hp
  refine conW tab_ok [(0, .int p), (1, .int n)] 0 [] [] Tryd.func119 rfl rfl rfl rfl rfl rfl rfl rfl rfl ?_
  refine cR ?_
  refine oA rfl rfl ?_
  refine oN ?_
  refine cR ?_
  iterate 2 refine oM rfl rfl ?_
  refine oQ (Q_rem rfl rfl (by omega)) rfl rfl ?_
  refine oM rfl rfl ?_
  first | refine oQ (Q_binu rfl rfl rfl (by omega)) rfl rfl ?_ | refine oQ (Q_bin rfl rfl rfl) rfl rfl ?_
  refine oM rfl rfl ?_
  refine oQ (Q_rem rfl rfl (by omega)) rfl rfl ?_
  refine oA rfl rfl ?_
  refine oN ?_
  refine CW_ret ?_
  all_goals (
   refine exitQ (.inr rfl) 0 (.cons (.tmp rfl rfl) .nil) ?_ rfl vHn rfl rfl
   simp [resV, tmod_tmod hp])
theorem areNumbers_con (p : Int) (t : TypeId) (L : List Int) (n k : Nat) (hn : n ≤ L.length) (hp : 0 ≤ p ∧ p ≤ 1000) (hL : n ≤ 1000000000) : ConQ Tryd.prog [] 127 [.int p, .slice 0 0 n k] [(0, .ints t L)] (.bool (modB p (L.take n))) := by
  refine conW tab_ok [(0, .int p), (1, .slice 0 0 n k)] 1 [0] [0] Tryd.func127 rfl rfl rfl rfl rfl rfl rfl rfl rfl ?_
  refine cR ?_
  refine oA rfl rfl ?_
  refine oN ?_
  refine CW_seq ?_
  refine cR ?_
  refine oM rfl rfl ?_
  first | refine oQ (Q_len rfl rfl rfl rfl) rfl rfl ?_ | refine oQ (Q_len0 rfl rfl rfl rfl) rfl rfl ?_
  refine oM rfl rfl ?_
  refine oN ?_
  refine CW_block ?_
  refine CW_loop (ι := Nat) (fun i => i ≤ n ∧ modB p (L.take i) = true) (fun i => ⟨[(0, .int p), (7, .slice 0 0 n k), (8, .int n), (9, .int i)], [(0, .ints t L)], 1⟩) (fun i => n - i) 0 ?_ ?_ ?_
  · exact ⟨Nat.zero_le _, rfl⟩
  · refine View.mk' [] rfl rfl rfl ?_ ?_
    repeat' first | exact vFn | refine vFc rfl ?_ | exact vHn | refine vHc rfl ?_ | refine vFc (congrArg (fun z => some (V.int z)) ?_) ?_ | refine vHc (congrArg (fun z => some (Blk.ints _ z)) ?_) ?_ | refine vFc (congrArg (fun z => some (V.bool z)) ?_) ?_ | refine vFs rfl rfl ?_ ?_
  intro i hi
  obtain ⟨hi1, hi2⟩ := hi
  refine cR ?_
  refine oQ (Q_bin rfl rfl rfl) rfl rfl ?_
  refine oN ?_
  refine CW_seq ?_
  first | refine cT rfl ?_ | refine cF rfl ?_ | refine CW_cond rfl (fun hc => ?_) (fun hc => ?_)
  all_goals try simp only [s1, s2, s3, s4, s5, s6, s7, s8, s9, s10, s11, s12] at hc
  all_goals first
    | (
     refine CW_skip ?_)
    | (
     refine CW_exit ?_)
  all_goals first
    | with_reducible refine tR ?_
    | with_reducible refine tE ?_
    | (
     with_reducible refine tN ?_
     refine CW_seq ?_
     refine CW_block ?_
     refine cR ?_
     first | refine oQ (Is0 rfl rfl rfl rfl rfl rfl) rfl rfl ?_ | refine oQ (Is1 rfl rfl rfl rfl rfl rfl) rfl rfl ?_
     refine oQ (Ld rfl rfl rfl rfl) rfl rfl ?_
     refine oA rfl rfl ?_
     refine oN ?_
     refine cR ?_
     iterate 2 refine oM rfl rfl ?_
     first | refine oQ (Q_binu rfl rfl rfl (by omega)) rfl rfl ?_ | refine oQ (Q_bin rfl rfl rfl) rfl rfl ?_
     refine oQ (Q_call0 (within_con _ _ _) rfl rfl rfl) rfl rfl ?_
     refine oQ (Q_not rfl) rfl rfl ?_
     refine oN ?_
     first | refine cT rfl ?_ | refine cF rfl ?_ | refine CW_cond rfl (fun hc => ?_) (fun hc => ?_)
     all_goals try simp only [s1, s2, s3, s4, s5, s6, s7, s8, s9, s10, s11, s12] at hc
     all_goals first
       | (
        refine CW_skip ?_)
       | (
        refine cR ?_
        refine oA rfl rfl ?_
        refine oN ?_
        refine CW_ret ?_)
     all_goals first | with_reducible refine bN ?_ | with_reducible refine bE ?_ | with_reducible refine bR ?_ | refine bX rfl ?_
     all_goals first
       | with_reducible refine tR ?_
       | with_reducible refine tE ?_
       | (
        with_reducible refine tN ?_
        refine CW_region ?_
        first | refine oQ (Q_binu rfl rfl rfl (by omega)) rfl rfl ?_ | refine oQ (Q_bin rfl rfl rfl) rfl rfl ?_
        refine oM rfl rfl ?_
        refine OW_nil ?_))
  all_goals first
    | with_reducible refine tR ?_
    | with_reducible refine tE ?_
    | (
     with_reducible refine tN ?_
     refine ⟨i + 1, ?_, ?_, View.mk' [] rfl rfl rfl ?_ ?_⟩
     · exact ⟨by omega, modB_snoc (by omega) hi2 (by simp_all) (by simp_all)⟩
     · omega
     all_goals (repeat' first | exact vFn | refine vFc rfl ?_ | exact vHn | refine vHc rfl ?_ | refine vFc (congrArg (fun z => some (V.int z)) ?_) ?_ | refine vHc (congrArg (fun z => some (Blk.ints _ z)) ?_) ?_ | refine vFc (congrArg (fun z => some (V.bool z)) ?_) ?_ | refine vFs rfl rfl ?_ ?_))
  all_goals first | with_reducible refine bN ?_ | with_reducible refine bE ?_ | with_reducible refine bR ?_ | refine bX rfl ?_
  all_goals first
    | with_reducible refine tR ?_
    | with_reducible refine tE ?_
    | (
     with_reducible refine tN ?_
     refine cR ?_
     refine oA rfl rfl ?_
     refine oN ?_
     refine CW_ret ?_)
  all_goals (
   refine exitQ (.inr rfl) 1 (.cons (.tmp rfl rfl) .nil) ?_ rfl (vHc rfl vHn) rfl rfl
   simp only [resV, V.bool.injEq]
   first | exact (modB_fail (by omega) (by omega) hc).symm | (have e : i = n := (by omega); subst e; exact hi2.symm))
theorem isNormal_con (p : Int) (t : TypeId) (L : List Int) (n k : Nat) (hn : n ≤ L.length) (hp : 0 ≤ p ∧ p ≤ 1000) (hL : n ≤ 1000000000) : ConQ Tryd.prog [] 106 [.int p, .slice 0 0 n k] [(0, .ints t L)] (.bool (normB p (L.take n))) := by
  refine conW tab_ok [(0, .int p), (1, .slice 0 0 n k)] 1 [0] [0] Tryd.func106 rfl rfl rfl rfl rfl rfl rfl rfl rfl ?_
  refine cR ?_
  refine oA rfl rfl ?_
  refine oN ?_
  refine CW_seq ?_
  refine cR ?_
  refine oM rfl rfl ?_
  first | refine oQ (Q_len rfl rfl rfl rfl) rfl rfl ?_ | refine oQ (Q_len0 rfl rfl rfl rfl) rfl rfl ?_
  refine oM rfl rfl ?_
  refine oN ?_
  refine CW_block ?_
  refine CW_loop (ι := Nat) (fun i => i ≤ n ∧ fnz (L.take i) = 0) (fun i => ⟨[(0, .int p), (1, .slice 0 0 n k), (7, .slice 0 0 n k), (8, .int n), (9, .int i)], [(0, .ints t L)], 1⟩) (fun i => n - i) 0 ?_ ?_ ?_
  · exact ⟨Nat.zero_le _, rfl⟩
  · refine View.mk' [] rfl rfl rfl ?_ ?_
    repeat' first | exact vFn | refine vFc rfl ?_ | exact vHn | refine vHc rfl ?_ | refine vFc (congrArg (fun z => some (V.int z)) ?_) ?_ | refine vHc (congrArg (fun z => some (Blk.ints _ z)) ?_) ?_ | refine vFc (congrArg (fun z => some (V.bool z)) ?_) ?_ | refine vFs rfl rfl ?_ ?_
  intro i hi
  obtain ⟨hi1, hi2⟩ := hi
  refine cR ?_
  refine oQ (Q_bin rfl rfl rfl) rfl rfl ?_
  refine oN ?_
  refine CW_seq ?_
  first | refine cT rfl ?_ | refine cF rfl ?_ | refine CW_cond rfl (fun hc => ?_) (fun hc => ?_)
  all_goals try simp only [s1, s2, s3, s4, s5, s6, s7, s8, s9, s10, s11, s12] at hc
  all_goals first
    | (
     refine CW_skip ?_)
    | (
     refine CW_exit ?_)
  all_goals first
    | with_reducible refine tR ?_
    | with_reducible refine tE ?_
    | (
     with_reducible refine tN ?_
     refine CW_seq ?_
     refine CW_block ?_
     refine cR ?_
     first | refine oQ (Is0 rfl rfl rfl rfl rfl rfl) rfl rfl ?_ | refine oQ (Is1 rfl rfl rfl rfl rfl rfl) rfl rfl ?_
     refine oQ (Ld rfl rfl rfl rfl) rfl rfl ?_
     refine oA rfl rfl ?_
     refine oN ?_
     refine cR ?_
     refine oM rfl rfl ?_
     refine oQ (Q_bin rfl rfl rfl) rfl rfl ?_
     refine oN ?_
     first | refine cT rfl ?_ | refine cF rfl ?_ | refine CW_cond rfl (fun hc => ?_) (fun hc => ?_)
     all_goals try simp only [s1, s2, s3, s4, s5, s6, s7, s8, s9, s10, s11, s12] at hc
     all_goals first
       | (
        refine CW_skip ?_)
       | (
        refine cR ?_
        refine oM rfl rfl ?_
        refine oQ (Q_bin rfl rfl rfl) rfl rfl ?_
        refine oM rfl rfl ?_
        all_goals first | refine oT rfl rfl ?_ | refine o1 rfl rfl rfl ?_ | refine o0 rfl rfl rfl ?_ | refine ogP1 rfl rfl rfl (fun hg => ?_) (fun hg => ?_) | refine ogP0 rfl rfl rfl (fun hg => ?_) (fun hg => ?_)
        all_goals try simp only [s1, s2, s3, s4, s5, s6, s7, s8, s9, s10, s11, s12] at hg
        all_goals first | (refine oM rfl rfl ?_) | skip
        all_goals first | refine oT rfl rfl ?_ | refine o1 rfl rfl rfl ?_ | refine o0 rfl rfl rfl ?_ | refine ogP1 rfl rfl rfl (fun hg => ?_) (fun hg => ?_) | refine ogP0 rfl rfl rfl (fun hg => ?_) (fun hg => ?_)
        all_goals try simp only [s1, s2, s3, s4, s5, s6, s7, s8, s9, s10, s11, s12] at hg
        all_goals first | (refine oM rfl rfl ?_) | skip
        all_goals first | refine oT rfl rfl ?_ | refine o1 rfl rfl rfl ?_ | refine o0 rfl rfl rfl ?_ | refine ogP1 rfl rfl rfl (fun hg => ?_) (fun hg => ?_) | refine ogP0 rfl rfl rfl (fun hg => ?_) (fun hg => ?_)
        all_goals try simp only [s1, s2, s3, s4, s5, s6, s7, s8, s9, s10, s11, s12] at hg
        all_goals first | (refine oQ (Q_call (areNumbers_con p t L n k hn hp hL) [] rfl rfl (Fits.mk' (vHc rfl vHn) rfl rfl (by simp)) rfl rfl) rfl rfl ?_) | skip
        all_goals first | refine oQ (Q_pick_t rfl (by with_reducible rfl) rfl rfl) rfl rfl ?_ | refine oQ (Q_pick_f rfl (by with_reducible rfl) rfl rfl) rfl rfl ?_
        all_goals first | (refine oA rfl rfl ?_)
        all_goals refine oN ?_
        all_goals (
         refine CW_ret ?_))
     all_goals first | with_reducible refine bN ?_ | with_reducible refine bE ?_ | with_reducible refine bR ?_ | refine bX rfl ?_
     all_goals first
       | with_reducible refine tR ?_
       | with_reducible refine tE ?_
       | (
        with_reducible refine tN ?_
        refine CW_region ?_
        first | refine oQ (Q_binu rfl rfl rfl (by omega)) rfl rfl ?_ | refine oQ (Q_bin rfl rfl rfl) rfl rfl ?_
        refine oM rfl rfl ?_
        refine OW_nil ?_))
  all_goals first
    | with_reducible refine tR ?_
    | with_reducible refine tE ?_
    | (
     with_reducible refine tN ?_
     refine ⟨i + 1, ?_, ?_, View.mk' [] rfl rfl rfl ?_ ?_⟩
     · exact ⟨by omega, by rw [fnz_take (by omega), if_pos hi2]; simp_all⟩
     · omega
     all_goals (repeat' first | exact vFn | refine vFc rfl ?_ | exact vHn | refine vHc rfl ?_ | refine vFc (congrArg (fun z => some (V.int z)) ?_) ?_ | refine vHc (congrArg (fun z => some (Blk.ints _ z)) ?_) ?_ | refine vFc (congrArg (fun z => some (V.bool z)) ?_) ?_ | refine vFs rfl rfl ?_ ?_))
  all_goals first | with_reducible refine bN ?_ | with_reducible refine bE ?_ | with_reducible refine bR ?_ | refine bX rfl ?_
  all_goals first
    | with_reducible refine tR ?_
    | with_reducible refine tE ?_
    | (
     with_reducible refine tN ?_
     refine cR ?_
     refine oA rfl rfl ?_
     refine oN ?_
     refine CW_ret ?_)
  all_goals (
   refine exitQ (.inr rfl) 1 (.cons (.tmp rfl rfl) .nil) ?_ rfl (vHc rfl vHn) rfl rfl
   simp only [resV, V.bool.injEq]
   first | (have e : i = n := (by omega); subst e; simp [normB, hi2]; done) | (have hlt : i < n := (by omega); rw [normB, fnz_at (by omega) hlt hi2 (by assumption)]; simp_all [ren]; done) | (have hlt : i < n := (by omega); rw [normB, fnz_at (by omega) hlt hi2 (by assumption)]; cases h1 : modB p (L.take n) <;> simp_all [ren]; done))
theorem l01Normal_con (p : Int) (t : TypeId) (L : List Int) (n k : Nat) (hn : n ≤ L.length) (hp : 0 ≤ p ∧ p ≤ 1000) (hL : n ≤ 1000000000) : ConQ Tryd.prog [] 101 [.int p, .slice 0 0 n k] [(0, .ints t L)] (.bool (normB p (L.take n))) := by
  refine conW tab_ok [(0, .int p), (1, .slice 0 0 n k)] 1 [0] [0] Tryd.func101 rfl rfl rfl rfl rfl rfl rfl rfl rfl ?_
  refine cR ?_
  refine oA rfl rfl ?_
  refine oN ?_
  refine cR ?_
  refine oA rfl rfl ?_
  refine oN ?_
  refine CW_seq ?_
  refine cR ?_
  refine oA rfl rfl ?_
  refine oN ?_
  refine CW_block ?_
  refine CW_loop (ι := Nat) (fun i => i ≤ n ∧ modB p (L.take i) = true) (fun i => ⟨[(0, .int p), (1, .slice 0 0 n k), (5, .int (fnz (L.take i))), (6, .int i)], [(0, .ints t L)], 1⟩) (fun i => n - i) 0 ?_ ?_ ?_
  · exact ⟨Nat.zero_le _, rfl⟩
  · refine View.mk' [] rfl rfl rfl ?_ ?_
    repeat' first | exact vFn | refine vFc rfl ?_ | exact vHn | refine vHc rfl ?_ | refine vFc (congrArg (fun z => some (V.int z)) ?_) ?_ | refine vHc (congrArg (fun z => some (Blk.ints _ z)) ?_) ?_ | refine vFc (congrArg (fun z => some (V.bool z)) ?_) ?_ | refine vFs rfl rfl ?_ ?_
  intro i hi
  obtain ⟨hi1, hi2⟩ := hi
  refine CW_seq ?_
  refine cR ?_
  iterate 2 refine oM rfl rfl ?_
  first | refine oQ (Q_len rfl rfl rfl rfl) rfl rfl ?_ | refine oQ (Q_len0 rfl rfl rfl rfl) rfl rfl ?_
  refine oQ (Q_bin rfl rfl rfl) rfl rfl ?_
  refine oN ?_
  first | refine cT rfl ?_ | refine cF rfl ?_ | refine CW_cond rfl (fun hc => ?_) (fun hc => ?_)
  all_goals try simp only [s1, s2, s3, s4, s5, s6, s7, s8, s9, s10, s11, s12] at hc
  all_goals first
    | (
     refine CW_skip ?_)
    | (
     refine CW_exit ?_)
  all_goals first
    | with_reducible refine tR ?_
    | with_reducible refine tE ?_
    | (
     with_reducible refine tN ?_
     refine CW_seq ?_
     refine CW_block ?_
     refine CW_seq ?_
     refine cR ?_
     iterate 2 refine oM rfl rfl ?_
     first | refine oQ (Is0 rfl rfl rfl rfl rfl rfl) rfl rfl ?_ | refine oQ (Is1 rfl rfl rfl rfl rfl rfl) rfl rfl ?_
     refine oQ (Ld rfl rfl rfl rfl) rfl rfl ?_
     refine oM rfl rfl ?_
     first | refine oQ (Q_binu rfl rfl rfl (by omega)) rfl rfl ?_ | refine oQ (Q_bin rfl rfl rfl) rfl rfl ?_
     refine oQ (Q_call0 (l01In_con _ _ _) rfl rfl rfl) rfl rfl ?_
     refine oQ (Q_not rfl) rfl rfl ?_
     refine oN ?_
     first | refine cT rfl ?_ | refine cF rfl ?_ | refine CW_cond rfl (fun hc => ?_) (fun hc => ?_)
     all_goals try simp only [s1, s2, s3, s4, s5, s6, s7, s8, s9, s10, s11, s12] at hc
     all_goals first
       | (
        refine CW_skip ?_)
       | (
        refine cR ?_
        refine oA rfl rfl ?_
        refine oN ?_
        refine CW_ret ?_)
     all_goals first
       | with_reducible refine tR ?_
       | with_reducible refine tE ?_
       | (
        with_reducible refine tN ?_
        refine cR ?_
        refine oM rfl rfl ?_
        refine oQ (Q_bin rfl rfl rfl) rfl rfl ?_
        refine oN ?_
        first | refine cT rfl ?_ | refine cF rfl ?_ | refine CW_cond rfl (fun hc => ?_) (fun hc => ?_)
        all_goals try simp only [s1, s2, s3, s4, s5, s6, s7, s8, s9, s10, s11, s12] at hc
        all_goals first
          | (
           refine CW_skip ?_)
          | (
           refine CW_region ?_
           iterate 2 refine oM rfl rfl ?_
           first | refine oQ (Is0 rfl rfl rfl rfl rfl rfl) rfl rfl ?_ | refine oQ (Is1 rfl rfl rfl rfl rfl rfl) rfl rfl ?_
           refine oQ (Ld rfl rfl rfl rfl) rfl rfl ?_
           refine oA rfl rfl ?_
           refine OW_nil ?_))
     all_goals first | with_reducible refine bN ?_ | with_reducible refine bE ?_ | with_reducible refine bR ?_ | refine bX rfl ?_
     all_goals first
       | with_reducible refine tR ?_
       | with_reducible refine tE ?_
       | (
        with_reducible refine tN ?_
        refine CW_region ?_
        refine oM rfl rfl ?_
        first | refine oQ (Q_binu rfl rfl rfl (by omega)) rfl rfl ?_ | refine oQ (Q_bin rfl rfl rfl) rfl rfl ?_
        refine oA rfl rfl ?_
        refine OW_nil ?_))
  all_goals first
    | with_reducible refine tR ?_
    | with_reducible refine tE ?_
    | (
     with_reducible refine tN ?_
     refine ⟨i + 1, ?_, ?_, View.mk' [] rfl rfl rfl ?_ ?_⟩
     · exact ⟨by omega, modB_snoc (by omega) hi2 (by simp_all) (by simp_all)⟩
     · omega
     all_goals (repeat' first | exact vFn | refine vFc rfl ?_ | exact vHn | refine vHc rfl ?_ | refine vFc (congrArg (fun z => some (V.int z)) ?_) ?_ | refine vHc (congrArg (fun z => some (Blk.ints _ z)) ?_) ?_ | refine vFc (congrArg (fun z => some (V.bool z)) ?_) ?_ | refine vFs rfl rfl ?_ ?_)
     all_goals (rw [fnz_take (by omega)]; simp_all))
  all_goals first | with_reducible refine bN ?_ | with_reducible refine bE ?_ | with_reducible refine bR ?_ | refine bX rfl ?_
  all_goals first
    | with_reducible refine tR ?_
    | with_reducible refine tE ?_
    | (
     with_reducible refine tN ?_
     refine cR ?_
     refine oM rfl rfl ?_
     refine oQ (Q_bin rfl rfl rfl) rfl rfl ?_
     refine oA rfl rfl ?_
     refine oN ?_
     refine CW_ret ?_)
  all_goals (
   refine exitQ (.inr rfl) 1 (.cons (.tmp rfl rfl) .nil) ?_ rfl (vHc rfl vHn) rfl rfl
   simp only [resV, V.bool.injEq]
   first | (rw [normB, modB_fail (by omega) (by omega) hc]; rfl) | (have e : i = n := (by omega); subst e; rw [normB, hi2]; rfl))
end Go.Proofs.YtcklfkblhmlbbaaDoor
namespace Go.Proofs.YtcklfkblhmlbbaaDoor
attribute [local irreducible] CW OW QW QOp Con thenP inBlockP
set_option maxRecDepth 10000
set_option linter.unusedSimpArgs false
set_option linter.unusedVariables false
theorem fill_set {L : List Int} {i N : Nat} (h : i < N) (hL : L.length = N) : (L.take i ++ List.replicate (N - i) 0).set i (L.getD i 0) = L.take (i + 1) ++ List.replicate (N - (i + 1)) 0 := by
  have e : N - i = (N - (i + 1)) + 1 := by omega
  rw [e, List.replicate_succ, take_snoc (by omega), List.set_append_right _ _ (by simp; omega)]
  have : i - (L.take i).length = 0 := by simp; omega
  rw [this]
  simp
theorem toCubic_con (l : List Int) (hl : l.length = 10) : ConQ Tryd.prog [] 14 [.arr l] [] (.arr l) := by
  refine conW tab_ok [(0, .arr l)] 0 [] [] Tryd.func14 rfl rfl rfl rfl rfl rfl rfl rfl rfl ?_
  refine cR ?_
  refine oBox rfl rfl rfl rfl rfl rfl ?_
  refine oAlloc rfl rfl rfl rfl rfl rfl rfl ?_
  refine oN ?_
  refine cR ?_
  refine oAlloc rfl rfl rfl rfl rfl rfl rfl ?_
  refine oN ?_
  refine CW_seq ?_
  refine cR ?_
  refine oA rfl rfl ?_
  refine oN ?_
  refine CW_block ?_
  refine CW_loop (ι := Nat) (fun i => i ≤ 10) (fun i => ⟨[(1, .ptr 0 0), (2, .ptr 1 0), (3, .ptr 2 0), (4, .int i)], [(0, .ints 22 l), (1, .ints 27 [0, 0, 0, 0, 0, 0, 0, 0, 0, 0]), (2, .ints 27 (l.take i ++ List.replicate (10 - i) 0))], 3⟩) (fun i => 10 - i) 0 ?_ ?_ ?_
  · first | trivial | omega | (simp; done) | (simp; omega)
  · refine View.mk' [] rfl rfl rfl ?_ ?_
    repeat' first | exact vFn | refine vFc rfl ?_ | exact vHn | refine vHc rfl ?_ | refine vFc (congrArg (fun z => some (V.int z)) ?_) ?_ | refine vHc (congrArg (fun z => some (Blk.ints _ z)) ?_) ?_ | refine vFc (congrArg (fun z => some (V.bool z)) ?_) ?_ | refine vFs rfl rfl ?_ ?_
  intro i hi
  refine CW_seq ?_
  refine cR ?_
  refine oM rfl rfl ?_
  refine oQ (Q_bin rfl rfl rfl) rfl rfl ?_
  refine oN ?_
  first | refine cT rfl ?_ | refine cF rfl ?_ | refine CW_cond rfl (fun hc => ?_) (fun hc => ?_)
  all_goals try simp only [s1, s2, s3, s4, s5, s6, s7, s8, s9, s10, s11, s12] at hc
  all_goals first
    | (
     refine CW_skip ?_)
    | (
     refine CW_exit ?_)
  all_goals first
    | with_reducible refine tR ?_
    | with_reducible refine tE ?_
    | (
     with_reducible refine tN ?_
     refine CW_seq ?_
     refine CW_block ?_
     refine CW_region ?_
     iterate 2 refine oM rfl rfl ?_
     first | refine oQ (Ia0 rfl rfl rfl rfl rfl rfl) rfl rfl ?_ | refine oQ (Ia1 rfl rfl rfl rfl rfl rfl) rfl rfl ?_
     refine oQ (Ld rfl rfl rfl rfl) rfl rfl ?_
     first | refine oQ (Ia0 rfl rfl rfl rfl rfl rfl) rfl rfl ?_ | refine oQ (Ia1 rfl rfl rfl rfl rfl rfl) rfl rfl ?_
     refine oS rfl rfl rfl rfl rfl ?_
     refine OW_nil ?_
     all_goals first | with_reducible refine bN ?_ | with_reducible refine bE ?_ | with_reducible refine bR ?_ | refine bX rfl ?_
     all_goals with_reducible refine tN ?_
     all_goals (
      refine CW_region ?_
      refine oM rfl rfl ?_
      first | refine oQ (Q_binu rfl rfl rfl (by omega)) rfl rfl ?_ | refine oQ (Q_bin rfl rfl rfl) rfl rfl ?_
      refine oA rfl rfl ?_
      refine OW_nil ?_))
  all_goals first
    | with_reducible refine tR ?_
    | with_reducible refine tE ?_
    | (
     with_reducible refine tN ?_
     refine ⟨i + 1, ?_, ?_, View.mk' [] rfl rfl rfl ?_ ?_⟩
     · omega
     · omega
     all_goals (repeat' first | exact vFn | refine vFc rfl ?_ | exact vHn | refine vHc rfl ?_ | refine vFc (congrArg (fun z => some (V.int z)) ?_) ?_ | refine vHc (congrArg (fun z => some (Blk.ints _ z)) ?_) ?_ | refine vFc (congrArg (fun z => some (V.bool z)) ?_) ?_ | refine vFs rfl rfl ?_ ?_)
     all_goals exact fill_set (by omega) hl)
  all_goals first | with_reducible refine bN ?_ | with_reducible refine bE ?_ | with_reducible refine bR ?_ | refine bX rfl ?_
  all_goals with_reducible refine tN ?_
  all_goals (
   refine cR ?_
   first | refine oQ (Lw rfl rfl rfl rfl) rfl rfl ?_ | refine oQ (La rfl rfl rfl rfl rfl) rfl rfl ?_
   first | refine oSw rfl rfl rfl rfl ?_ | refine oSa rfl rfl rfl rfl ?_
   refine oN ?_
   refine CW_ret ?_)
  all_goals (
   have e : i = 10 := by omega
   subst e
   refine exitQ (.inr rfl) 0 (.cons (.arr rfl rfl rfl rfl (by simp [hl])) .nil) ?_ rfl vHn rfl rfl
   simp [resV, ← hl])
theorem spec_l06Is_con (p : Int) (l : List Int) (hl : l.length = 10) : ConQ Tryd.prog [] 69 [.int p, .arr l] [] (.bool (primeB p && normB p l)) := by
  refine conW tab_ok [(0, .int p), (1, .arr l)] 0 [] [] Tryd.func69 rfl rfl rfl rfl rfl rfl rfl rfl rfl ?_
  refine cR ?_
  refine oBox rfl rfl rfl rfl rfl rfl ?_
  refine oA rfl rfl ?_
  refine oN ?_
  refine cR ?_
  refine oM rfl rfl ?_
  refine oQ (Q_call0 (l01Prime_con _) rfl rfl rfl) rfl rfl ?_
  refine oM rfl rfl ?_
  all_goals first | refine oT rfl rfl ?_ | refine o1 rfl rfl rfl ?_ | refine o0 rfl rfl rfl ?_ | refine ogP1 rfl rfl rfl (fun hg => ?_) (fun hg => ?_) | refine ogP0 rfl rfl rfl (fun hg => ?_) (fun hg => ?_)
  all_goals try simp only [s1, s2, s3, s4, s5, s6, s7, s8, s9, s10, s11, s12] at hg
  all_goals first | (refine oM rfl rfl ?_) | skip
  all_goals first | refine oT rfl rfl ?_ | refine o1 rfl rfl rfl ?_ | refine o0 rfl rfl rfl ?_ | refine ogP1 rfl rfl rfl (fun hg => ?_) (fun hg => ?_) | refine ogP0 rfl rfl rfl (fun hg => ?_) (fun hg => ?_)
  all_goals try simp only [s1, s2, s3, s4, s5, s6, s7, s8, s9, s10, s11, s12] at hg
  all_goals first | (refine oQ (Q_slaF rfl rfl rfl rfl) rfl rfl ?_) | skip
  all_goals first | refine oT rfl rfl ?_ | refine o1 rfl rfl rfl ?_ | refine o0 rfl rfl rfl ?_ | refine ogP1 rfl rfl rfl (fun hg => ?_) (fun hg => ?_) | refine ogP0 rfl rfl rfl (fun hg => ?_) (fun hg => ?_)
  all_goals try simp only [s1, s2, s3, s4, s5, s6, s7, s8, s9, s10, s11, s12] at hg
  all_goals first | ((have hb := prime_bd hg); refine oQ (Q_call (l01Normal_con p 27 l 10 10 (by omega) (by omega) (by omega)) [] rfl rfl (Fits.mk' (vHc rfl vHn) rfl rfl (by simp)) rfl rfl) rfl rfl ?_) | skip
  all_goals first | refine oQ (Q_pick_t rfl (by with_reducible rfl) rfl rfl) rfl rfl ?_ | refine oQ (Q_pick_f rfl (by with_reducible rfl) rfl rfl) rfl rfl ?_
  all_goals first | (refine oA rfl rfl ?_)
  all_goals refine oN ?_
  all_goals (
   refine CW_ret ?_)
  all_goals (
   refine exitQ (.inr rfl) 0 (.cons (.tmp rfl rfl) .nil) ?_ rfl vHn rfl rfl
   simp only [resV, ren, V.bool.injEq, ← hl, List.take_length]
   simp [hg])
theorem impl_IsCubic_con (p : Int) (l : List Int) (hl : l.length = 10) : ConQ Tryd.prog [] 84 [.int p, .arr l] [] (.bool (primeB p && normB p l)) := by
  refine conW tab_ok [(0, .int p), (1, .arr l)] 0 [] [] Tryd.func84 rfl rfl rfl rfl rfl rfl rfl rfl rfl ?_
  refine cR ?_
  refine oBox rfl rfl rfl rfl rfl rfl ?_
  refine oA rfl rfl ?_
  refine oN ?_
  refine cR ?_
  refine oM rfl rfl ?_
  refine oQ (Q_call0 (isPrime_con _) rfl rfl rfl) rfl rfl ?_
  refine oM rfl rfl ?_
  all_goals first | refine oT rfl rfl ?_ | refine o1 rfl rfl rfl ?_ | refine o0 rfl rfl rfl ?_ | refine ogP1 rfl rfl rfl (fun hg => ?_) (fun hg => ?_) | refine ogP0 rfl rfl rfl (fun hg => ?_) (fun hg => ?_)
  all_goals try simp only [s1, s2, s3, s4, s5, s6, s7, s8, s9, s10, s11, s12] at hg
  all_goals first | (refine oM rfl rfl ?_) | skip
  all_goals first | refine oT rfl rfl ?_ | refine o1 rfl rfl rfl ?_ | refine o0 rfl rfl rfl ?_ | refine ogP1 rfl rfl rfl (fun hg => ?_) (fun hg => ?_) | refine ogP0 rfl rfl rfl (fun hg => ?_) (fun hg => ?_)
  all_goals try simp only [s1, s2, s3, s4, s5, s6, s7, s8, s9, s10, s11, s12] at hg
  all_goals first | (refine oQ (Q_slaF rfl rfl rfl rfl) rfl rfl ?_) | skip
  all_goals first | refine oT rfl rfl ?_ | refine o1 rfl rfl rfl ?_ | refine o0 rfl rfl rfl ?_ | refine ogP1 rfl rfl rfl (fun hg => ?_) (fun hg => ?_) | refine ogP0 rfl rfl rfl (fun hg => ?_) (fun hg => ?_)
  all_goals try simp only [s1, s2, s3, s4, s5, s6, s7, s8, s9, s10, s11, s12] at hg
  all_goals first | ((have hb := prime_bd hg); refine oQ (Q_call (isNormal_con p 27 l 10 10 (by omega) (by omega) (by omega)) [] rfl rfl (Fits.mk' (vHc rfl vHn) rfl rfl (by simp)) rfl rfl) rfl rfl ?_) | skip
  all_goals first | refine oQ (Q_pick_t rfl (by with_reducible rfl) rfl rfl) rfl rfl ?_ | refine oQ (Q_pick_f rfl (by with_reducible rfl) rfl rfl) rfl rfl ?_
  all_goals first | (refine oA rfl rfl ?_)
  all_goals refine oN ?_
  all_goals (
   refine CW_ret ?_)
  all_goals (
   refine exitQ (.inr rfl) 0 (.cons (.tmp rfl rfl) .nil) ?_ rfl vHn rfl rfl
   simp only [resV, ren, V.bool.injEq, ← hl, List.take_length]
   simp [hg])
end Go.Proofs.YtcklfkblhmlbbaaDoor
namespace Go.Proofs.YtcklfkblhmlbbaaDoor
/-- the inverse of a number modulo p; 0 if it has none -/
def invN (p n : Int) : Nat := ((List.range p.toNat).find? fun (k : Nat) => n * (k : Int) % p == 1).getD 0
def invP (p n : Int) : Int := invN p n
theorem inv_zero (p : Int) : invP p 0 = 0 := by
  have : (List.range p.toNat).find? (fun (k : Nat) => (0 : Int) * (k : Int) % p == 1) = none := by
    rw [List.find?_eq_none]
    intro x _
    simp
  unfold invP invN
  rw [this]
  rfl
theorem small_cases {p n : Int} (hp : primeB p = true) (h0 : 0 < n) (h1 : n < p) : (p = 3 ∨ p = 5 ∨ p = 7 ∨ p = 11 ∨ p = 13) ∧ (n = 1 ∨ n = 2 ∨ n = 3 ∨ n = 4 ∨ n = 5 ∨ n = 6 ∨ n = 7 ∨ n = 8 ∨ n = 9 ∨ n = 10 ∨ n = 11 ∨ n = 12) := by
  have := prime_cases hp
  exact ⟨this, by omega⟩
theorem inv_un {p n : Int} (hp : primeB p = true) (h0 : 0 < n) (h1 : n < p) {k k' : Int} (a : 0 ≤ k) (b : k < p) (a' : 0 ≤ k') (b' : k' < p) (e : n * k % p = 1) (e' : n * k' % p = 1) : k = k' := by
  obtain ⟨hp, hn⟩ := small_cases hp h0 h1
  rcases hp with rfl | rfl | rfl | rfl | rfl <;> rcases hn with rfl | rfl | rfl | rfl | rfl | rfl | rfl | rfl | rfl | rfl | rfl | rfl <;> omega
theorem inv_ex {p n : Int} (hp : primeB p = true) (h0 : 0 < n) (h1 : n < p) : ∃ k : Nat, k < p.toNat ∧ n * (k : Int) % p = 1 := by
  obtain ⟨hp, hn⟩ := small_cases hp h0 h1
  rcases hp with rfl | rfl | rfl | rfl | rfl <;> rcases hn with rfl | rfl | rfl | rfl | rfl | rfl | rfl | rfl | rfl | rfl | rfl | rfl <;>
    first | (exfalso; omega) | exact ⟨1, by decide, by decide⟩ | exact ⟨2, by decide, by decide⟩ | exact ⟨3, by decide, by decide⟩ | exact ⟨4, by decide, by decide⟩ | exact ⟨5, by decide, by decide⟩ | exact ⟨6, by decide, by decide⟩ | exact ⟨7, by decide, by decide⟩ | exact ⟨8, by decide, by decide⟩ | exact ⟨9, by decide, by decide⟩ | exact ⟨10, by decide, by decide⟩ | exact ⟨11, by decide, by decide⟩ | exact ⟨12, by decide, by decide⟩
theorem inv_spec {p n : Int} (hp : primeB p = true) (h0 : 0 < n) (h1 : n < p) : 1 ≤ invP p n ∧ invP p n < p ∧ n * invP p n % p = 1 := by
  obtain ⟨k, hk1, hk2⟩ := inv_ex hp h0 h1
  have hb := prime_bd hp
  cases hf : (List.range p.toNat).find? (fun (k : Nat) => n * (k : Int) % p == 1) with
  | none =>
    rw [List.find?_eq_none] at hf
    have := hf k (by simpa using hk1)
    simp [hk2] at this
  | some j =>
    have h2 := List.find?_some hf
    have h3 := List.mem_of_find?_eq_some hf
    simp at h2 h3
    have e : invP p n = (j : Int) := by simp [invP, invN, hf]
    rw [e]
    refine ⟨?_, by omega, h2⟩
    have : (j : Int) ≠ 0 := fun h => by rw [h] at h2; simp at h2
    omega
theorem inv_is {p n k : Int} (hp : primeB p = true) (h0 : 0 < n) (h1 : n < p) (a : 0 ≤ k) (b : k < p) (e : n * k % p = 1) : invP p n = k := by
  have := inv_spec hp h0 h1
  exact inv_un hp h0 h1 (by omega) this.2.1 a b this.2.2 e
/-- the factor that makes a list normal: the inverse of its first number that is not 0 -/
def facP (p : Int) (l : List Int) : Int := invP p (fnz (l.map (· % p)))
def normL (p : Int) (l : List Int) : List Int := l.map fun n => n % p * facP p l % p
theorem normL_length (p : Int) (l : List Int) : (normL p l).length = l.length := by simp [normL]
theorem fnz_mem (l : List Int) : fnz l = 0 ∨ fnz l ∈ l := by
  induction l with
  | nil => simp [fnz]
  | cons a r ih =>
    simp only [fnz]
    split
    · rcases ih with h | h
      · exact .inl h
      · exact .inr (List.mem_cons_of_mem _ h)
    · exact .inr (by simp)
theorem fnz_bd {p : Int} (hp : 0 < p) (l : List Int) : 0 ≤ fnz (l.map (· % p)) ∧ fnz (l.map (· % p)) < p := by
  rcases fnz_mem (l.map (· % p)) with h | h
  · omega
  · obtain ⟨x, _, hx⟩ := List.mem_map.1 h
    have h1 := Int.emod_nonneg x (show p ≠ 0 by omega)
    have h2 := Int.emod_lt_of_pos x hp
    omega
theorem fac_bd {p : Int} (hp : primeB p = true) (l : List Int) : 0 ≤ facP p l ∧ facP p l < p := by
  have hb := prime_bd hp
  have hf := fnz_bd (p := p) (by omega) l
  by_cases h : fnz (l.map (· % p)) = 0
  · rw [facP, h, inv_zero]; omega
  · have := inv_spec hp (n := fnz (l.map (· % p))) (by omega) (by omega)
    simp only [facP]; omega
theorem fac_zero {p : Int} (hp : primeB p = true) (l : List Int) : facP p l = 0 ↔ fnz (l.map (· % p)) = 0 := by
  have hb := prime_bd hp
  have hf := fnz_bd (p := p) (by omega) l
  constructor
  · intro h
    by_cases h' : 0 < fnz (l.map (· % p))
    · have := inv_spec hp h' hf.2
      simp only [facP] at h; omega
    · omega
  · intro h; rw [facP, h, inv_zero]
theorem fac_snoc {p : Int} (hp : primeB p = true) (l : List Int) (x : Int) : facP p (l ++ [x]) = if facP p l = 0 then (if x % p = 0 then 0 else invP p (x % p)) else facP p l := by
  have h0 := fac_zero hp l
  have e : facP p (l ++ [x]) = invP p (if fnz (l.map (· % p)) = 0 then (if x % p = 0 then 0 else x % p) else fnz (l.map (· % p))) := by
    simp only [facP, List.map_append, List.map_cons, List.map_nil, fnz_append, fnz]
  rw [e]
  by_cases h : fnz (l.map (· % p)) = 0
  · rw [if_pos h, if_pos (h0.2 h)]
    split
    · exact inv_zero p
    · rfl
  · rw [if_neg h, if_neg fun e => h (h0.1 e)]
    rfl
theorem norm_snoc {p : Int} (hp : primeB p = true) (l : List Int) (x : Int) : normL p (l ++ [x]) = normL p l ++ [x % p * facP p (l ++ [x]) % p] := by
  simp only [normL, List.map_append, List.map_cons, List.map_nil]
  congr 1
  by_cases h : facP p l = 0
  · have hz := (fac_zero hp l).1 h
    have key : ∀ (m : List Int), fnz (m.map (· % p)) = 0 → ∀ n ∈ m, n % p = 0 := by
      intro m
      induction m with
      | nil => simp
      | cons a r ih =>
        intro h n hn
        simp only [List.map_cons, fnz] at h
        split at h
        · rename_i h'
          rcases List.mem_cons.1 hn with rfl | hn
          · exact h'
          · exact ih h n hn
        · rename_i h'; exact absurd h h'
    apply List.map_congr_left
    intro n hn
    simp [key l hz n hn]
  · rw [fac_snoc hp, if_neg h]
end Go.Proofs.YtcklfkblhmlbbaaDoor
namespace Go.Proofs.YtcklfkblhmlbbaaDoor
section
variable {c : Cx} {Q : Post} {F : Fr} {H : Hp} {n : Nat} {ops : Array Oper} {rest : List Oper} {d : Nat} {ty : TypeId} {pos : String} {af : Array Edge}
/-- append to a row of the call's own: the told part A, what is put behind it -/
theorem oApp {t t2 : TypeId} {ats : Array TypeId} {x y : Operand} {i i2 ie : TI} {e e2 sz b b' m k q q' by_ t' : Nat} {A sp xl : List Int}
    (hat : ats = #[t, t2]) (ht : lkT c.T t = some i) (hd : i.d = .slice e) (ht2 : lkT c.T t2 = some i2) (hd2 : i2.d = .slice e2) (he : lkT c.T e = some ie) (hz : ZI ie sz) (hby : ie.bytes = by_) (hb0 : Nat.blt 0 by_ = true)
    (hx : ev c F x = some (.slice b 0 m k)) (hy : ev c F y = some (.slice b' 0 q q')) (hb : lkB H b = some (.ints e (A ++ sp))) (hb' : lkB H b' = some (.ints t' xl)) (hA : A.length = m * sz) (hxl : xl.length = q * sz) (hroom : k * sz ≤ m * sz + sp.length) (hnk : m ≤ k)
    (hlim : (2 * (m + q) + 192) * by_ ≤ 281474976710656) (h63 : m + q ≤ 1000000000000) (hN : Nat.blt d c.N = true) (hn : Nat.blt n 1000 = true)
    (h : ∀ (k' : Nat) (sp' : List Int), m + q ≤ k' → k' * sz ≤ (m + q) * sz + sp'.length → OW c ops Q rest ⟨(d, .slice n 0 (m + q) k') :: F, (n, .ints e ((A ++ xl) ++ sp')) :: (b, .dead) :: H, n + 1⟩) :
    OW c ops Q (⟨some d, .call ⟨.builtin .append, #[x, y], ats⟩, ty, pos, af, none⟩ :: rest) ⟨F, H, n⟩ := by
  have hv : IsSl H sz (.slice b' 0 q q') q xl := by
    have := IsSl.mk (sz := sz) (k := q') hb' (show 0 + q * sz ≤ xl.length by omega)
    rwa [List.drop_zero, ← hxl, List.take_length] at this
  refine oAppOwn hat ht hd ht2 hd2 he hz hby hb0 hx hy hb hv (by rw [List.length_append, hA]; exact hroom) hnk hlim h63 hN hn fun k' spare h1 h2 => ?_
  have e1 : (A ++ sp).take (m * sz) = A := by rw [← hA]; simp
  rw [e1]
  exact h k' spare h1 h2
theorem putI_all {l : List Int} {sz : Nat} (h : l.length = sz) : putI (List.replicate sz 0) 0 l = l := by
  have key : ∀ (m z pre : List Int), z.length = m.length → putI (pre ++ z) pre.length m = pre ++ m := by
    intro m
    induction m with
    | nil => intro z pre h; simp [putI, List.eq_nil_of_length_eq_zero h]
    | cons x m ih =>
      intro z pre h
      match z, h with
      | y :: z, h =>
        have := ih z (pre ++ [x]) (by simpa using h)
        simp only [List.length_append, List.length_cons, List.length_nil, Nat.zero_add, List.append_assoc, List.cons_append, List.nil_append] at this
        simp only [putI]
        refine Eq.trans ?_ this
        congr 1
        simp
  have := key l (List.replicate sz 0) [] (by simp [h])
  simpa using this
/-- a slice of one array -/
theorem oBsl1 {t : TypeId} {ps : List (Nat × Operand)} {l : List Int} {i ie : TI} {e sz : Nat} (hl : l.length = sz) (ht : lkT c.T t = some i) (hd : i.d = .slice e) (he : lkT c.T e = some ie) (hs : ie.size = sz) (hz : ie.z = some (.arr (List.replicate sz 0))) (h0 : Nat.blt 0 sz = true)
    (hp : evp c F ps = some [(0, .arr l)]) (hlim : Nat.ble sz 16777216 = true) (hN : Nat.blt d c.N = true) (hn : Nat.blt n 1000 = true) (h : OW c ops Q rest ⟨(d, .slice n 0 1 1) :: F, (n, .ints e l) :: H, n + 1⟩) : OW c ops Q (⟨some d, .buildSlice t 1 ps.toArray, ty, pos, af, none⟩ :: rest) ⟨F, H, n⟩ := by
  have e1 : fillI sz (List.replicate (1 * sz) 0) [(0, V.arr l)] = some l := by simp only [fillI, Nat.one_mul, Nat.zero_mul, putI_all hl]
  exact oBsl ht hd he hs (.inr ⟨hz, rfl, by simpa [Nat.blt_eq] using h0⟩) hp e1 (by simp [okParts, hl]) (by simpa using hlim) hN hn h
/-- one number of a written out list -/
theorem Q_ldc {s : S} {dst : Option Tmp} {g : Option (Nat × Bool)} {x : Operand} {t t' : TypeId} {i : TI} {b o : Nat} {l : List Int} {m : Int} (ht : lkT c.T t = some i) (hd : i.d = .int .i64) (hx : ev c s.F x = some (.ptr b o)) (hb : lkB s.H b = some (.ints t' l)) (h : l[o]? = some m) :
    QOp c ⟨dst, .load t x, ty, pos, af, g⟩ s (.int m) := by
  have hl : o < l.length := by
    rcases Nat.lt_or_ge o l.length with h' | h'
    · exact h'
    · rw [List.getElem?_eq_none h'] at h; cases h
  have := Q_ld (c := c) (s := s) (dst := dst) (ty := ty) (pos := pos) (af := af) (g := g) ht hd hx hb hl
  rwa [show l.getD o 0 = m by simp [List.getD, h]] at this
/-- the end of a function whose heap has turned -/
theorem exitH {s : S} {rs : List ResultVar} {R : V → Hp → Prop} {r0 : V} {H0 : Hp} {e : Exit} {vs : List V} (he : e = .normal ∨ e = .ret) (l : List (Nat × Nat)) (n' : Nat) (hvs : RVs c s rs vs) (hr : resV vs = ren (ap l) r0) (hn : nb r0 = true)
    (hD : (c.D.all fun d => Nat.beq (ap l d) d) = true) (hH : vH (ap l) s.H H0) (hwf : wfB c.D ⟨[(0, r0)], H0, n'⟩ = true) (hinj : injB (ap l) (ids H0) = true) (hR : R r0 H0) : exitP c rs R e s :=
  ⟨he, vs, r0, H0, n', hvs, View.mk' l hD hwf hinj ⟨by rw [← hr]; rfl, trivial⟩ hH, hn, hR⟩
/-- a call by a contract, the outcome written out -/
theorem oCall {f : Nat} {xs : List Operand} {ats : Array TypeId} {vs args0 : List V} {gl' : List (Nat × Nat)} {H0 : Hp} {R : V → Hp → Prop}
    (con : Con c.P gl' f args0 H0 R) (σ : List (Nat × Nat)) (M : Nat) (hx : evs c F xs = some vs) (hargs : vs = rens (ap σ) args0) (hfit : Fits c ⟨F, H, n⟩ (ap σ) gl' H0) (hM : Nat.ble (n + M) 1000 = true) (hN : Nat.blt d c.N = true)
    (h : ∀ r H1, R r H1 → ∃ v' Hn, scM H0 M r H1 = true ∧ ren (σ' H0 (ap σ) n) r = v' ∧ (H1.map fun x => (σ' H0 (ap σ) n x.1, x.2.ren (σ' H0 (ap σ) n))) = Hn ∧ OW c ops Q rest ⟨(d, v') :: F, Hn ++ H, n + M⟩) :
    OW c ops Q (⟨some d, .call ⟨.value (.func f), xs.toArray, ats⟩, ty, pos, af, none⟩ :: rest) ⟨F, H, n⟩ := by
  refine OW_call con σ M hx hargs hfit hM hN fun r H1 hR => ?_
  obtain ⟨v', Hn, h1, rfl, rfl, h2⟩ := h r H1 hR
  exact ⟨h1, h2⟩
end
theorem mul_bds {a b A B : Int} (h0 : -A ≤ a) (h1 : a ≤ A) (h2 : -B ≤ b) (h3 : b ≤ B) : -(A * B) ≤ a * b ∧ a * b ≤ A * B := by
  have hA : 0 ≤ A := by omega
  have hB : 0 ≤ B := by omega
  have e : (a * b).natAbs ≤ (A * B).natAbs := by
    rw [Int.natAbs_mul, Int.natAbs_mul]
    exact Nat.mul_le_mul (by omega) (by omega)
  have : 0 ≤ A * B := Int.mul_nonneg hA hB
  omega
section
variable {c : Cx} {Q : Post} {F : Fr} {H : Hp} {n : Nat} {ops : Array Oper} {rest : List Oper} {d : Nat} {ty : TypeId} {pos : String} {af : Array Edge} {K : S → Prop} {t t' : TypeId} {x y : Operand} {m k : Int}
/-- a product that stays in range, under a name of its own -/
theorem oMul (A B : Int) (hx : ev c F x = some (.int m)) (hy : ev c F y = some (.int k)) (ha : -A ≤ m ∧ m ≤ A) (hb : -B ≤ k ∧ k ≤ B) (hAB : A * B ≤ 9223372036854775807) (hN : Nat.blt d c.N = true)
    (h : ∀ z, z = m * k → -(A * B) ≤ z → z ≤ A * B → OW c ops Q rest ⟨(d, .int z) :: F, H, n⟩) : OW c ops Q (⟨some d, .binOp .mul t x y t', ty, pos, af, none⟩ :: rest) ⟨F, H, n⟩ := by
  have hm := mul_bds ha.1 ha.2 hb.1 hb.2
  exact oQ (Q_binu hx hy rfl (by omega)) hN rfl (h _ rfl hm.1 hm.2)
theorem mulN_bds {a b A B : Int} (h0 : 0 ≤ a) (h1 : a ≤ A) (h2 : 0 ≤ b) (h3 : b ≤ B) : 0 ≤ a * b ∧ a * b ≤ A * B :=
  ⟨Int.mul_nonneg h0 h2, Int.mul_le_mul h1 h3 h2 (Int.le_trans h0 h1)⟩
theorem oMulN (A B : Int) (hx : ev c F x = some (.int m)) (hy : ev c F y = some (.int k)) (ha : 0 ≤ m ∧ m ≤ A) (hb : 0 ≤ k ∧ k ≤ B) (hAB : A * B ≤ 9223372036854775807) (hN : Nat.blt d c.N = true)
    (h : ∀ z, z = m * k → 0 ≤ z → z ≤ A * B → OW c ops Q rest ⟨(d, .int z) :: F, H, n⟩) : OW c ops Q (⟨some d, .binOp .mul t x y t', ty, pos, af, none⟩ :: rest) ⟨F, H, n⟩ := by
  have hm := mulN_bds ha.1 ha.2 hb.1 hb.2
  exact oQ (Q_binu hx hy rfl (by omega)) hN rfl (h _ rfl hm.1 hm.2)
theorem qMulN (A B : Int) (hx : ev c F x = some (.int m)) (hy : ev c F y = some (.int k)) (ha : 0 ≤ m ∧ m ≤ A) (hb : 0 ≤ k ∧ k ≤ B) (hAB : A * B ≤ 9223372036854775807) (hN : Nat.blt d c.N = true)
    (h : ∀ z, z = m * k → 0 ≤ z → z ≤ A * B → QW c ops K rest ⟨(d, .int z) :: F, H, n⟩) : QW c ops K (⟨some d, .binOp .mul t x y t', ty, pos, af, none⟩ :: rest) ⟨F, H, n⟩ := by
  have hm := mulN_bds ha.1 ha.2 hb.1 hb.2
  exact qQ (Q_binu hx hy rfl (by omega)) hN rfl (h _ rfl hm.1 hm.2)
theorem oRemN (hx : ev c F x = some (.int m)) (hy : ev c F y = some (.int k)) (h0 : 0 ≤ m) (hk : 0 < k) (hN : Nat.blt d c.N = true)
    (h : ∀ z, z = m % k → 0 ≤ z → z < k → OW c ops Q rest ⟨(d, .int z) :: F, H, n⟩) : OW c ops Q (⟨some d, .binOp .rem t x y t', ty, pos, af, none⟩ :: rest) ⟨F, H, n⟩ := by
  have h1 := Int.emod_nonneg m (show k ≠ 0 by omega)
  have h2 := Int.emod_lt_of_pos m hk
  exact oQ (Q_rem hx hy (by omega)) hN rfl (h _ (Int.tmod_eq_emod_of_nonneg h0) (by rw [Int.tmod_eq_emod_of_nonneg h0]; exact h1) (by rw [Int.tmod_eq_emod_of_nonneg h0]; exact h2))
theorem qRemN (hx : ev c F x = some (.int m)) (hy : ev c F y = some (.int k)) (h0 : 0 ≤ m) (hk : 0 < k) (hN : Nat.blt d c.N = true)
    (h : ∀ z, z = m % k → 0 ≤ z → z < k → QW c ops K rest ⟨(d, .int z) :: F, H, n⟩) : QW c ops K (⟨some d, .binOp .rem t x y t', ty, pos, af, none⟩ :: rest) ⟨F, H, n⟩ := by
  have h1 := Int.emod_nonneg m (show k ≠ 0 by omega)
  have h2 := Int.emod_lt_of_pos m hk
  exact qQ (Q_rem hx hy (by omega)) hN rfl (h _ (Int.tmod_eq_emod_of_nonneg h0) (by rw [Int.tmod_eq_emod_of_nonneg h0]; exact h1) (by rw [Int.tmod_eq_emod_of_nonneg h0]; exact h2))
theorem Q_nrem {dst : Option Tmp} {s : S} {g : Option (Nat × Bool)} {a b : Nat} (hx : ev c s.F x = some (.int (a : Int))) (hy : ev c s.F y = some (.int (b : Int))) (h : b ≠ 0) : QOp c ⟨dst, .binOp .rem t x y t', ty, pos, af, g⟩ s (.int ((a % b : Nat) : Int)) := by
  have := Q_rem (c := c) (s := s) (dst := dst) (ty := ty) (pos := pos) (af := af) (g := g) (t := t) (t' := t') hx hy (by omega)
  rwa [Int.tmod_eq_emod_of_nonneg (by omega), ← Int.natCast_emod] at this
/-- a number gets a name -/
theorem oName {e : Int} {l : List Oper} (h : ∀ z, z = e → OW c ops Q l ⟨(d, .int z) :: F, H, n⟩) : OW c ops Q l ⟨(d, .int e) :: F, H, n⟩ := h _ rfl
end
/-- the numbers of a product stay small -/
theorem mul_bd {a b A B : Int} (h0 : 0 ≤ a) (h1 : a ≤ A) (h2 : 0 ≤ b) (h3 : b ≤ B) : 0 ≤ a * b ∧ a * b ≤ A * B :=
  ⟨Int.mul_nonneg h0 h2, Int.mul_le_mul h1 h3 h2 (Int.le_trans h0 h1)⟩
theorem mul_rng {a b p : Int} (h0 : 0 ≤ a) (h1 : a < p) (h2 : 0 ≤ b) (h3 : b < p) (hp : p ≤ 1000000) : -9223372036854775808 ≤ a * b ∧ a * b ≤ 9223372036854775807 := by
  have := mul_bd h0 (show a ≤ 1000000 by omega) h2 (show b ≤ 1000000 by omega)
  omega
end Go.Proofs.YtcklfkblhmlbbaaDoor
namespace Go.Proofs.YtcklfkblhmlbbaaDoor
attribute [local irreducible] CW OW QW QOp Con thenP inBlockP
set_option maxRecDepth 10000
set_option linter.unusedSimpArgs false
set_option linter.unusedVariables false
theorem mid_get {A L : List Int} {i : Nat} (hA : A.length = i) (h : i < L.length) : (A ++ L.drop i)[i]? = some (L.getD i 0) := by
  rw [List.getElem?_append_right (by omega), List.getElem?_drop]
  have : i + (i - A.length) = i := by omega
  rw [this]
  simp [List.getD, h]
theorem mid_set {A L : List Int} {i : Nat} {x : Int} (hA : A.length = i) (h : i < L.length) : (A ++ L.drop i).set i x = (A ++ [x]) ++ L.drop (i + 1) := by
  have : i - A.length = 0 := by omega
  rw [List.set_append_right _ _ (by omega), this, List.drop_eq_getElem_cons h, List.set_cons_zero, List.append_assoc]
  rfl
theorem mod_bd {p : Int} (hp : primeB p = true) (x : Int) : 0 ≤ x % p ∧ x % p < p := by
  have := prime_bd hp
  exact ⟨Int.emod_nonneg x (by omega), Int.emod_lt_of_pos x (by omega)⟩
theorem invz_bd {p : Int} (hp : primeB p = true) {n : Int} (h0 : 0 ≤ n) (h1 : n < p) : 0 ≤ invP p n ∧ invP p n < p := by
  have hb := prime_bd hp
  by_cases h : n = 0
  · subst h; rw [inv_zero]; omega
  · have := inv_spec hp (n := n) (by omega) h1; omega
theorem mod_mod_self (p x : Int) : x % p % p = x % p := Int.emod_emod_of_dvd x (Int.dvd_refl p)
theorem inverse_con (n p : Int) (hp : primeB p = true) (h0 : 0 < n) (h1 : n < p) : ConQ Tryd.prog [] 111 [.int n, .int p] [] (.int (invP p n)) := by
  have hb := prime_bd hp
  obtain ⟨v1, v2, v3⟩ := inv_spec hp h0 h1
  refine conW tab_ok [(0, .int n), (1, .int p)] 0 [] [] Tryd.func111 rfl rfl rfl rfl rfl rfl rfl rfl rfl ?_
  refine cR ?_
  refine oA rfl rfl ?_
  refine oN ?_
  refine cR ?_
  refine oA rfl rfl ?_
  refine oN ?_
  refine CW_seq ?_
  refine CW_block ?_
  refine CW_loop (ι := Nat) (fun i => 1 ≤ i ∧ (i : Int) ≤ invP p n) (fun i => ⟨[(0, .int n), (1, .int p), (5, .int i)], [], 0⟩) (fun i => (invP p n).toNat - i) 1 ?_ ?_ ?_
  · exact ⟨Nat.le_refl _, by omega⟩
  · refine View.mk' [] rfl rfl rfl ?_ ?_
    repeat' first | exact vFn | refine vFc rfl ?_ | exact vHn | refine vHc rfl ?_ | refine vFc (congrArg (fun z => some (V.int z)) ?_) ?_ | refine vHc (congrArg (fun z => some (Blk.ints _ z)) ?_) ?_ | refine vFc (congrArg (fun z => some (V.bool z)) ?_) ?_ | refine vFs rfl rfl ?_ ?_
  intro i hi
  obtain ⟨hi1, hi2⟩ := hi
  refine CW_seq ?_
  refine cR ?_
  iterate 2 refine oM rfl rfl ?_
  refine oQ (Q_binu rfl rfl rfl (mul_rng (p := p) (by omega) (by omega) (by omega) (by omega) (by omega))) rfl rfl ?_
  refine oM rfl rfl ?_
  refine oQ (Q_call0 (mod_con _ _ (by omega) (by omega)) rfl rfl rfl) rfl rfl ?_
  refine oQ (Q_bin rfl rfl rfl) rfl rfl ?_
  refine oN ?_
  first | refine cT rfl ?_ | refine cF rfl ?_ | refine CW_cond rfl (fun hc => ?_) (fun hc => ?_)
  all_goals try simp only [s1, s2, s3, s4, s5, s6, s7, s8, s9, s10, s11, s12] at hc
  all_goals first
    | (
     refine CW_skip ?_)
    | (
     refine CW_exit ?_)
  all_goals first
    | with_reducible refine tR ?_
    | with_reducible refine tE ?_
    | (
     with_reducible refine tN ?_
     refine CW_block ?_
     refine CW_region ?_
     refine oM rfl rfl ?_
     first | refine oQ (Q_binu rfl rfl rfl (by omega)) rfl rfl ?_ | refine oQ (Q_bin rfl rfl rfl) rfl rfl ?_
     refine oA rfl rfl ?_
     refine OW_nil ?_
     all_goals first | with_reducible refine bN ?_ | with_reducible refine bE ?_ | with_reducible refine bR ?_ | refine bX rfl ?_)
  all_goals first
    | with_reducible refine tR ?_
    | with_reducible refine tE ?_
    | (
     with_reducible refine tN ?_
     refine ⟨i + 1, ?_, ?_, View.mk' [] rfl rfl rfl ?_ ?_⟩
     · have hne : (i : Int) ≠ invP p n := fun e => by rw [e] at hc; exact hc v3
       exact ⟨by omega, by omega⟩
     · (have hne : (i : Int) ≠ invP p n := (fun e => by rw [e] at hc; exact hc v3)); omega
     all_goals (repeat' first | exact vFn | refine vFc rfl ?_ | exact vHn | refine vHc rfl ?_ | refine vFc (congrArg (fun z => some (V.int z)) ?_) ?_ | refine vHc (congrArg (fun z => some (Blk.ints _ z)) ?_) ?_ | refine vFc (congrArg (fun z => some (V.bool z)) ?_) ?_ | refine vFs rfl rfl ?_ ?_))
  all_goals first | with_reducible refine bN ?_ | with_reducible refine bE ?_ | with_reducible refine bR ?_ | refine bX rfl ?_
  all_goals with_reducible refine tN ?_
  all_goals (
   refine cR ?_
   refine oM rfl rfl ?_
   refine oA rfl rfl ?_
   refine oN ?_
   refine CW_ret ?_)
  all_goals (
   refine exitQ (.inr rfl) 0 (.cons (.tmp rfl rfl) .nil) ?_ rfl vHn rfl rfl
   exact congrArg V.int (inv_is hp h0 h1 (by omega) (by omega) hc).symm)
theorem l01Inverse_con (n p : Int) (hp : primeB p = true) : ConQ Tryd.prog [] 118 [.int p, .int n] [] (.int (invP p (n % p))) := by
  have hb := prime_bd hp
  have hm := mod_bd hp n
  have hst : n % p = 0 ∨ ((1 : Nat) : Int) ≤ invP p (n % p) := by
    by_cases h0 : n % p = 0
    · exact .inl h0
    · have := inv_spec hp (n := n % p) (by omega) hm.2
      exact .inr (by omega)
  refine conW tab_ok [(0, .int p), (1, .int n)] 0 [] [] Tryd.func118 rfl rfl rfl rfl rfl rfl rfl rfl rfl ?_
  refine cR ?_
  refine oA rfl rfl ?_
  refine oN ?_
  refine CW_seq ?_
  refine cR ?_
  refine oA rfl rfl ?_
  refine oN ?_
  refine CW_block ?_
  refine CW_loop (ι := Nat) (fun i => 1 ≤ i ∧ (i : Int) ≤ p ∧ (n % p = 0 ∨ (i : Int) ≤ invP p (n % p))) (fun i => ⟨[(0, .int p), (1, .int n), (5, .int i)], [], 0⟩) (fun i => p.toNat - i) 1 ?_ ?_ ?_
  · exact ⟨Nat.le_refl _, by omega, hst⟩
  · refine View.mk' [] rfl rfl rfl ?_ ?_
    repeat' first | exact vFn | refine vFc rfl ?_ | exact vHn | refine vHc rfl ?_ | refine vFc (congrArg (fun z => some (V.int z)) ?_) ?_ | refine vHc (congrArg (fun z => some (Blk.ints _ z)) ?_) ?_ | refine vFc (congrArg (fun z => some (V.bool z)) ?_) ?_ | refine vFs rfl rfl ?_ ?_
  intro i hi
  obtain ⟨hi1, hi2, hi3⟩ := hi
  have hmr : (i : Int) < p → -9223372036854775808 ≤ (i : Int) * (n % p) ∧ (i : Int) * (n % p) ≤ 9223372036854775807 := fun h => mul_rng (by omega) h hm.1 hm.2 (by omega)
  have hm0 : 0 ≤ (i : Int) * (n % p) := Int.mul_nonneg (by omega) hm.1
  refine CW_seq ?_
  refine cR ?_
  iterate 2 refine oM rfl rfl ?_
  refine oQ (Q_bin rfl rfl rfl) rfl rfl ?_
  refine oN ?_
  first | refine cT rfl ?_ | refine cF rfl ?_ | refine CW_cond rfl (fun hc => ?_) (fun hc => ?_)
  all_goals try simp only [s1, s2, s3, s4, s5, s6, s7, s8, s9, s10, s11, s12] at hc
  all_goals first
    | (
     refine CW_skip ?_)
    | (
     refine CW_exit ?_)
  all_goals first
    | with_reducible refine tR ?_
    | with_reducible refine tE ?_
    | (
     with_reducible refine tN ?_
     refine CW_seq ?_
     refine CW_block ?_
     refine cR ?_
     iterate 3 refine oM rfl rfl ?_
     refine oQ (Q_call0 (l01Mod_con _ _ (by omega) (by omega)) rfl rfl rfl) rfl rfl ?_
     first | refine oQ (Q_binu rfl rfl rfl (by omega)) rfl rfl ?_ | refine oQ (Q_bin rfl rfl rfl) rfl rfl ?_
     refine oM rfl rfl ?_
     refine oQ (Q_rem rfl rfl (by omega)) rfl rfl ?_
     refine oQ (Q_bin rfl rfl rfl) rfl rfl ?_
     refine oN ?_
     first | refine cT rfl ?_ | refine cF rfl ?_ | refine CW_cond rfl (fun hc => ?_) (fun hc => ?_)
     all_goals try simp only [s1, s2, s3, s4, s5, s6, s7, s8, s9, s10, s11, s12] at hc
     all_goals first
       | (
        refine CW_skip ?_)
       | (
        refine cR ?_
        refine oM rfl rfl ?_
        refine oA rfl rfl ?_
        refine oN ?_
        refine CW_ret ?_)
     all_goals first | with_reducible refine bN ?_ | with_reducible refine bE ?_ | with_reducible refine bR ?_ | refine bX rfl ?_
     all_goals first
       | with_reducible refine tR ?_
       | with_reducible refine tE ?_
       | (
        with_reducible refine tN ?_
        refine CW_region ?_
        refine oM rfl rfl ?_
        first | refine oQ (Q_binu rfl rfl rfl (by omega)) rfl rfl ?_ | refine oQ (Q_bin rfl rfl rfl) rfl rfl ?_
        refine oA rfl rfl ?_
        refine OW_nil ?_))
  all_goals first
    | with_reducible refine tR ?_
    | with_reducible refine tE ?_
    | (
     with_reducible refine tN ?_
     refine ⟨i + 1, ?_, ?_, View.mk' [] rfl rfl rfl ?_ ?_⟩
     · refine ⟨by omega, by omega, ?_⟩
       rcases hi3 with h0 | h0
       · exact .inl h0
       · refine .inr ?_
         have hpos : 0 < n % p := by
           rcases Int.lt_trichotomy 0 (n % p) with h | h | h
           · exact h
           · rw [← h, inv_zero] at h0; omega
           · omega
         have v := inv_spec hp hpos hm.2
         have hne : (i : Int) ≠ invP p (n % p) := fun e => by apply hc; rw [Int.tmod_eq_emod_of_nonneg hm0, e, Int.mul_comm]; exact v.2.2
         omega
     · omega
     all_goals (repeat' first | exact vFn | refine vFc rfl ?_ | exact vHn | refine vHc rfl ?_ | refine vFc (congrArg (fun z => some (V.int z)) ?_) ?_ | refine vHc (congrArg (fun z => some (Blk.ints _ z)) ?_) ?_ | refine vFc (congrArg (fun z => some (V.bool z)) ?_) ?_ | refine vFs rfl rfl ?_ ?_))
  all_goals first | with_reducible refine bN ?_ | with_reducible refine bE ?_ | with_reducible refine bR ?_ | refine bX rfl ?_
  all_goals first
    | with_reducible refine tR ?_
    | with_reducible refine tE ?_
    | (
     with_reducible refine tN ?_
     refine cR ?_
     refine oA rfl rfl ?_
     refine oN ?_
     refine CW_ret ?_)
  all_goals (
   refine exitQ (.inr rfl) 0 (.cons (.tmp rfl rfl) .nil) ?_ rfl vHn rfl rfl
   refine congrArg V.int ?_
   by_cases h0 : n % p = 0
   · first
       | (rw [h0, inv_zero]; done)
       | (exfalso; rw [h0] at hc; simp at hc)
   · have v := inv_spec hp (n := n % p) (by omega) hm.2
     first
       | (exfalso; omega)
       | (rw [Int.tmod_eq_emod_of_nonneg hm0, Int.mul_comm] at hc
          exact (inv_is hp (n := n % p) (by omega) hm.2 (by omega) (by omega) hc).symm))
theorem norm_mid {p : Int} {L : List Int} {i : Nat} {x : Int} (hp : primeB p = true) (h : i < L.length) (hx : x = L.getD i 0 % p * facP p (L.take (i + 1)) % p) :
    (normL p (L.take i) ++ L.drop i).set i x = normL p (L.take (i + 1)) ++ L.drop (i + 1) := by
  rw [mid_set (by rw [normL_length]; simp; omega) h, take_snoc h, norm_snoc hp, ← take_snoc h, hx]
theorem fac_nil (p : Int) : facP p [] = 0 := by simp [facP, fnz, inv_zero]
theorem fac_step {p : Int} {L : List Int} {i : Nat} (hp : primeB p = true) (h : i < L.length) : facP p (L.take (i + 1)) = if facP p (L.take i) = 0 then (if L.getD i 0 % p = 0 then 0 else invP p (L.getD i 0 % p)) else facP p (L.take i) := by
  rw [take_snoc h, fac_snoc hp]
theorem normal_con (p : Int) (t : TypeId) (L : List Int) (n k : Nat) (hn : n ≤ L.length) (hp : primeB p = true) (hL : n ≤ 1000000000) : Con Tryd.prog [] 77 [.int p, .slice 0 0 n k] [(0, .ints t L)]
    (fun r H' => r = .bool (facP p (L.take n) != 0) ∧ H' = [(0, .ints t (normL p (L.take n) ++ L.drop n))]) := by
  have hb := prime_bd hp
  refine conW tab_ok [(0, .int p), (1, .slice 0 0 n k)] 1 [0] [0] Tryd.func77 rfl rfl rfl rfl rfl rfl rfl rfl rfl ?_
  refine cR ?_
  refine oA rfl rfl ?_
  refine oN ?_
  refine cR ?_
  refine oA rfl rfl ?_
  refine oN ?_
  refine CW_seq ?_
  refine cR ?_
  refine oM rfl rfl ?_
  first | refine oQ (Q_len rfl rfl rfl rfl) rfl rfl ?_ | refine oQ (Q_len0 rfl rfl rfl rfl) rfl rfl ?_
  refine oM rfl rfl ?_
  refine oN ?_
  refine CW_block ?_
  refine CW_loop (ι := Nat) (fun i => i ≤ n) (fun i => ⟨[(0, .int p), (1, .slice 0 0 n k), (5, .int (facP p (L.take i))), (8, .slice 0 0 n k), (9, .int n), (10, .int i)], [(0, .ints t (normL p (L.take i) ++ L.drop i))], 1⟩) (fun i => n - i) 0 ?_ ?_ ?_
  · first | trivial | omega | (simp; done) | (simp; omega)
  · refine View.mk' [] rfl rfl rfl ?_ ?_
    repeat' first | exact vFn | refine vFc rfl ?_ | exact vHn | refine vHc rfl ?_ | refine vFc (congrArg (fun z => some (V.int z)) ?_) ?_ | refine vHc (congrArg (fun z => some (Blk.ints _ z)) ?_) ?_ | refine vFc (congrArg (fun z => some (V.bool z)) ?_) ?_ | refine vFs rfl rfl ?_ ?_
    exact (fac_nil p).symm
  intro i hi
  have hfb := fac_bd hp (L.take i)
  have hxb := mod_bd hp (L.getD i 0)
  have hib := invz_bd hp hxb.1 hxb.2
  have hlen : (normL p (L.take i)).length = min i L.length := by rw [normL_length]; simp
  refine cR ?_
  refine oQ (Q_bin rfl rfl rfl) rfl rfl ?_
  refine oN ?_
  refine CW_seq ?_
  first | refine cT rfl ?_ | refine cF rfl ?_ | refine CW_cond rfl (fun hc => ?_) (fun hc => ?_)
  all_goals try simp only [s1, s2, s3, s4, s5, s6, s7, s8, s9, s10, s11, s12] at hc
  all_goals first
    | (
     refine CW_skip ?_)
    | (
     refine CW_exit ?_)
  all_goals first
    | with_reducible refine tR ?_
    | with_reducible refine tE ?_
    | (
     with_reducible refine tN ?_
     refine CW_seq ?_
     refine CW_block ?_
     refine cR ?_
     refine oM rfl rfl ?_
     first | refine oQ (Is0 rfl rfl rfl rfl rfl rfl) rfl rfl ?_ | refine oQ (Is1 rfl rfl rfl rfl rfl rfl) rfl rfl ?_
     refine oQ (Q_ldc rfl rfl rfl rfl (mid_get (by omega) (by omega))) rfl rfl ?_
     iterate 2 refine oA rfl rfl ?_
     refine oN ?_
     refine cR ?_
     iterate 2 refine oM rfl rfl ?_
     refine oQ (Q_call0 (mod_con _ _ (by omega) (by omega)) rfl rfl rfl) rfl rfl ?_
     refine oA rfl rfl ?_
     refine oN ?_
     refine CW_seq ?_
     refine cR ?_
     refine oM rfl rfl ?_
     refine oQ (Q_bin rfl rfl rfl) rfl rfl ?_
     refine oM rfl rfl ?_
     all_goals first | refine oT rfl rfl ?_ | refine o1 rfl rfl rfl ?_ | refine o0 rfl rfl rfl ?_ | refine ogP1 rfl rfl rfl (fun hg => ?_) (fun hg => ?_) | refine ogP0 rfl rfl rfl (fun hg => ?_) (fun hg => ?_)
     all_goals try simp only [s1, s2, s3, s4, s5, s6, s7, s8, s9, s10, s11, s12] at hg
     all_goals first | (refine oM rfl rfl ?_) | skip
     all_goals first | refine oT rfl rfl ?_ | refine o1 rfl rfl rfl ?_ | refine o0 rfl rfl rfl ?_ | refine ogP1 rfl rfl rfl (fun hg => ?_) (fun hg => ?_) | refine ogP0 rfl rfl rfl (fun hg => ?_) (fun hg => ?_)
     all_goals try simp only [s1, s2, s3, s4, s5, s6, s7, s8, s9, s10, s11, s12] at hg
     all_goals first | (refine oQ (Q_bin rfl rfl rfl) rfl rfl ?_) | skip
     all_goals first | refine oQ (Q_pick_t rfl (by with_reducible rfl) rfl rfl) rfl rfl ?_ | refine oQ (Q_pick_f rfl (by with_reducible rfl) rfl rfl) rfl rfl ?_
     all_goals refine oN ?_
     all_goals (
      first | refine cT rfl ?_ | refine cF rfl ?_ | refine CW_cond rfl (fun hc => ?_) (fun hc => ?_)
      all_goals try simp only [s1, s2, s3, s4, s5, s6, s7, s8, s9, s10, s11, s12] at hc
      all_goals first
        | (
         refine CW_skip ?_)
        | (
         refine CW_region ?_
         iterate 2 refine oM rfl rfl ?_
         (have hc' := hc); refine oQ (Q_call0 (inverse_con _ _ hp (by omega) (by omega)) rfl rfl rfl) rfl rfl ?_
         refine oA rfl rfl ?_
         refine OW_nil ?_))
     all_goals with_reducible refine tN ?_
     all_goals (
      refine CW_region ?_
      iterate 4 refine oM rfl rfl ?_
      refine oQ (Q_binu rfl rfl rfl (mul_rng (p := p) (by omega) (by omega) (by omega) (by omega) (by omega))) rfl rfl ?_
      refine oM rfl rfl ?_
      refine oQ (Q_call0 (mod_con _ _ (by omega) (by omega)) rfl rfl rfl) rfl rfl ?_
      first | refine oQ (Is0 rfl rfl rfl rfl rfl rfl) rfl rfl ?_ | refine oQ (Is1 rfl rfl rfl rfl rfl rfl) rfl rfl ?_
      refine oS rfl rfl rfl rfl rfl ?_
      refine OW_nil ?_)
     all_goals first | with_reducible refine bN ?_ | with_reducible refine bE ?_ | with_reducible refine bR ?_ | refine bX rfl ?_
     all_goals with_reducible refine tN ?_
     all_goals (
      refine CW_region ?_
      first | refine oQ (Q_binu rfl rfl rfl (by omega)) rfl rfl ?_ | refine oQ (Q_bin rfl rfl rfl) rfl rfl ?_
      refine oM rfl rfl ?_
      refine OW_nil ?_))
  all_goals first
    | with_reducible refine tR ?_
    | with_reducible refine tE ?_
    | (
     with_reducible refine tN ?_
     refine ⟨i + 1, ?_, ?_, View.mk' [] rfl rfl rfl ?_ ?_⟩
     · omega
     · omega
     all_goals (repeat' first | exact vFn | refine vFc rfl ?_ | exact vHn | refine vHc rfl ?_ | refine vFc (congrArg (fun z => some (V.int z)) ?_) ?_ | refine vHc (congrArg (fun z => some (Blk.ints _ z)) ?_) ?_ | refine vFc (congrArg (fun z => some (V.bool z)) ?_) ?_ | refine vFs rfl rfl ?_ ?_)
     all_goals (have hfs := fac_step hp (L := L) (i := i) (by omega))
     all_goals first | (refine norm_mid hp (by omega) ?_; congr 2; simp_all; done) | (simp_all; done))
  all_goals first | with_reducible refine bN ?_ | with_reducible refine bE ?_ | with_reducible refine bR ?_ | refine bX rfl ?_
  all_goals with_reducible refine tN ?_
  all_goals (
   refine cR ?_
   refine oM rfl rfl ?_
   refine oQ (Q_bin rfl rfl rfl) rfl rfl ?_
   refine oA rfl rfl ?_
   refine oN ?_
   refine CW_ret ?_)
  all_goals (
   have e : i = n := by omega
   subst e
   exact exitH (.inr rfl) [] 1 (.cons (.tmp rfl rfl) .nil) rfl rfl rfl (vHc rfl vHn) rfl rfl ⟨rfl, rfl⟩)
theorem l01Norm_con (p : Int) (t : TypeId) (L : List Int) (n k : Nat) (hn : n ≤ L.length) (hp : primeB p = true) (hL : n ≤ 1000000000) : Con Tryd.prog [] 113 [.int p, .slice 0 0 n k] [(0, .ints t L)]
    (fun r H' => ∃ k' sp, n ≤ k' ∧ k' ≤ n + sp.length ∧ r = .tuple [.slice 1 0 n k', .bool (facP p (L.take n) != 0)] ∧ H' = [(0, .ints t L), (1, .ints 2 (normL p (L.take n) ++ sp))]) := by
  have hb := prime_bd hp
  refine conW tab_ok [(0, .int p), (1, .slice 0 0 n k)] 1 [0] [0] Tryd.func113 rfl rfl rfl rfl rfl rfl rfl rfl rfl ?_
  refine cR ?_
  iterate 2 refine oA rfl rfl ?_
  refine oN ?_
  refine cR ?_
  refine oBsl (zl := []) rfl rfl rfl rfl (.inl ⟨rfl, rfl⟩) rfl rfl rfl rfl rfl rfl ?_
  iterate 2 refine oA rfl rfl ?_
  refine oN ?_
  refine CW_seq ?_
  refine cR ?_
  refine oA rfl rfl ?_
  refine oN ?_
  refine CW_block ?_
  refine CW_loop (ι := Nat × Nat × List Int) (fun x => x.1 ≤ n ∧ x.1 ≤ x.2.1 ∧ x.2.1 ≤ x.1 + x.2.2.length) (fun x => ⟨[(0, .int p), (1, .slice 0 0 n k), (6, .int (facP p (L.take x.1))), (7, .slice 1 0 x.1 x.2.1), (8, .int x.1)], [(0, .ints t L), (1, .ints 2 (normL p (L.take x.1) ++ x.2.2))], 2⟩) (fun x => n - x.1) (0, 0, []) ?_ ?_ ?_
  · exact ⟨Nat.zero_le _, Nat.le_refl _, Nat.le_refl _⟩
  · refine View.mk' [] rfl rfl rfl ?_ ?_
    repeat' first | exact vFn | refine vFc rfl ?_ | exact vHn | refine vHc rfl ?_ | refine vFc (congrArg (fun z => some (V.int z)) ?_) ?_ | refine vHc (congrArg (fun z => some (Blk.ints _ z)) ?_) ?_ | refine vFc (congrArg (fun z => some (V.bool z)) ?_) ?_ | refine vFs rfl rfl ?_ ?_
    exact (fac_nil p).symm
  rintro ⟨i, k', sp⟩ ⟨hi, hi2, hi3⟩
  dsimp only at hi hi2 hi3 ⊢
  have hfb := fac_bd hp (L.take i)
  have hxb := mod_bd hp (L.getD i 0)
  have hib := invz_bd hp hxb.1 hxb.2
  have hlen : (normL p (L.take i)).length = i * 1 := by rw [normL_length]; simp; omega
  refine CW_seq ?_
  refine cR ?_
  iterate 2 refine oM rfl rfl ?_
  first | refine oQ (Q_len rfl rfl rfl rfl) rfl rfl ?_ | refine oQ (Q_len0 rfl rfl rfl rfl) rfl rfl ?_
  refine oQ (Q_bin rfl rfl rfl) rfl rfl ?_
  refine oN ?_
  first | refine cT rfl ?_ | refine cF rfl ?_ | refine CW_cond rfl (fun hc => ?_) (fun hc => ?_)
  all_goals try simp only [s1, s2, s3, s4, s5, s6, s7, s8, s9, s10, s11, s12] at hc
  all_goals first
    | (
     refine CW_skip ?_)
    | (
     refine CW_exit ?_)
  all_goals first
    | with_reducible refine tR ?_
    | with_reducible refine tE ?_
    | (
     with_reducible refine tN ?_
     refine CW_seq ?_
     refine CW_block ?_
     refine cR ?_
     iterate 3 refine oM rfl rfl ?_
     first | refine oQ (Is0 rfl rfl rfl rfl rfl rfl) rfl rfl ?_ | refine oQ (Is1 rfl rfl rfl rfl rfl rfl) rfl rfl ?_
     refine oQ (Ld rfl rfl rfl rfl) rfl rfl ?_
     refine oQ (Q_call0 (l01Mod_con _ _ (by omega) (by omega)) rfl rfl rfl) rfl rfl ?_
     refine oA rfl rfl ?_
     refine oN ?_
     refine CW_seq ?_
     refine cR ?_
     refine oM rfl rfl ?_
     refine oQ (Q_bin rfl rfl rfl) rfl rfl ?_
     refine oM rfl rfl ?_
     all_goals first | refine oT rfl rfl ?_ | refine o1 rfl rfl rfl ?_ | refine o0 rfl rfl rfl ?_ | refine ogP1 rfl rfl rfl (fun hg => ?_) (fun hg => ?_) | refine ogP0 rfl rfl rfl (fun hg => ?_) (fun hg => ?_)
     all_goals try simp only [s1, s2, s3, s4, s5, s6, s7, s8, s9, s10, s11, s12] at hg
     all_goals first | (refine oM rfl rfl ?_) | skip
     all_goals first | refine oT rfl rfl ?_ | refine o1 rfl rfl rfl ?_ | refine o0 rfl rfl rfl ?_ | refine ogP1 rfl rfl rfl (fun hg => ?_) (fun hg => ?_) | refine ogP0 rfl rfl rfl (fun hg => ?_) (fun hg => ?_)
     all_goals try simp only [s1, s2, s3, s4, s5, s6, s7, s8, s9, s10, s11, s12] at hg
     all_goals first | (refine oQ (Q_bin rfl rfl rfl) rfl rfl ?_) | skip
     all_goals first | refine oQ (Q_pick_t rfl (by with_reducible rfl) rfl rfl) rfl rfl ?_ | refine oQ (Q_pick_f rfl (by with_reducible rfl) rfl rfl) rfl rfl ?_
     all_goals refine oN ?_
     all_goals (
      first | refine cT rfl ?_ | refine cF rfl ?_ | refine CW_cond rfl (fun hc => ?_) (fun hc => ?_)
      all_goals try simp only [s1, s2, s3, s4, s5, s6, s7, s8, s9, s10, s11, s12] at hc
      all_goals first
        | (
         refine CW_skip ?_)
        | (
         refine CW_region ?_
         iterate 2 refine oM rfl rfl ?_
         (have e9 := mod_mod_self p (L.getD i 0))
         refine oQ (Q_call0 (l01Inverse_con _ _ hp) rfl rfl rfl) rfl rfl ?_
         rw [e9]
         refine oA rfl rfl ?_
         refine OW_nil ?_))
     all_goals with_reducible refine tN ?_
     all_goals (
      refine CW_region ?_
      iterate 3 refine oM rfl rfl ?_
      refine oQ (Q_binu rfl rfl rfl (mul_rng (p := p) (by omega) (by omega) (by omega) (by omega) (by omega))) rfl rfl ?_
      refine oM rfl rfl ?_
      refine oQ (Q_rem rfl rfl (by omega)) rfl rfl ?_
      refine oBsl (zl := []) rfl rfl rfl rfl (.inl ⟨rfl, rfl⟩) rfl rfl rfl rfl rfl rfl ?_
      refine oApp (sz := 1) (by_ := 8) rfl rfl rfl rfl rfl rfl ⟨by decide, rfl, .inl ⟨rfl, rfl⟩⟩ rfl rfl rfl rfl rfl rfl hlen rfl (by omega) hi2 (by omega) (by omega) rfl rfl (fun k2 sp2 h1 h2 => ?_)
      refine oA rfl rfl ?_
      refine OW_nil ?_)
     all_goals first | with_reducible refine bN ?_ | with_reducible refine bE ?_ | with_reducible refine bR ?_ | refine bX rfl ?_
     all_goals with_reducible refine tN ?_
     all_goals (
      refine CW_region ?_
      refine oM rfl rfl ?_
      first | refine oQ (Q_binu rfl rfl rfl (by omega)) rfl rfl ?_ | refine oQ (Q_bin rfl rfl rfl) rfl rfl ?_
      refine oA rfl rfl ?_
      refine OW_nil ?_))
  all_goals first
    | with_reducible refine tR ?_
    | with_reducible refine tE ?_
    | (
     with_reducible refine tN ?_
     refine ⟨(i + 1, k2, sp2), ?_, ?_, View.mk' [(1, 3)] rfl rfl rfl ?_ ?_⟩
     · exact ⟨by omega, by simpa using h1, by simpa using h2⟩
     · omega
     all_goals (repeat' first | exact vFn | refine vFc rfl ?_ | exact vHn | refine vHc rfl ?_ | refine vFc (congrArg (fun z => some (V.int z)) ?_) ?_ | refine vHc (congrArg (fun z => some (Blk.ints _ z)) ?_) ?_ | refine vFc (congrArg (fun z => some (V.bool z)) ?_) ?_ | refine vFs rfl rfl ?_ ?_)
     all_goals (have hfs := fac_step hp (L := L) (i := i) (by omega))
     all_goals first | (refine congrArg (fun z => z ++ sp2) ?_; rw [take_snoc (show i < L.length by omega), norm_snoc hp, ← take_snoc (show i < L.length by omega), Int.tmod_eq_emod_of_nonneg (Int.mul_nonneg (by omega) (by omega))]; congr 4; simp_all; done) | (simp_all; done))
  all_goals first | with_reducible refine bN ?_ | with_reducible refine bE ?_ | with_reducible refine bR ?_ | refine bX rfl ?_
  all_goals with_reducible refine tN ?_
  all_goals (
   refine cR ?_
   iterate 2 refine oM rfl rfl ?_
   refine oQ (Q_bin rfl rfl rfl) rfl rfl ?_
   iterate 2 refine oA rfl rfl ?_
   refine oN ?_
   refine CW_ret ?_)
  all_goals (
   have e : i = n := by omega
   subst e
   exact exitH (.inr rfl) [] 2 (.cons (.tmp rfl rfl) (.cons (.tmp rfl rfl) .nil)) rfl rfl rfl (vHc rfl (vHc rfl vHn)) rfl rfl ⟨k', sp, hi2, hi3, rfl, rfl⟩)
end Go.Proofs.YtcklfkblhmlbbaaDoor
namespace Go.Proofs.YtcklfkblhmlbbaaDoor
attribute [local irreducible] CW OW QW QOp Con thenP inBlockP
set_option maxRecDepth 10000
set_option linter.unusedSimpArgs false
set_option linter.unusedVariables false
theorem mod_list {p : Int} {l : List Int} (h : modB p l = true) : ∀ x ∈ l, 0 ≤ x ∧ x < p := by
  intro x hx
  have := List.all_eq_true.1 h x hx
  simp at this
  omega
/-- element number i of a list of arrays -/
abbrev elemAt (sz : Nat) (M : List Int) (i : Nat) : List Int := (M.drop (i * sz)).take sz
theorem elemAt_length {sz : Nat} {M : List Int} {i k : Nat} (h : k * sz ≤ M.length) (hi : i < k) : (elemAt sz M i).length = sz := by
  have : (i + 1) * sz ≤ k * sz := Nat.mul_le_mul_right sz hi
  rw [Nat.add_mul] at this
  simp; omega
theorem injB_id : ∀ l : List Nat, injB (ap []) l = true
  | [] => rfl
  | b :: r => by
    simp only [injB, injB_id r, Bool.and_true, List.all_eq_true, Bool.or_eq_true, Nat.beq_eq_true_eq, Bool.not_eq_true']
    intro b' _
    by_cases h : b = b'
    · exact .inl (by subst h; exact Nat.beq_refl b)
    · right
      show Nat.beq b b' = false
      cases hb : Nat.beq b b'
      · rfl
      · exact absurd (Nat.eq_of_beq_eq_true hb) h
theorem rens_nil (l : List V) : rens (ap []) l = l := rens_id _ _ (fun _ _ => rfl)
/-- the code of a prime and of what a closure says, whatever it has captured -/
theorem planeCode_gen (p : Int) (f : Nat) (b : Bool) (caps : List V) (H0 : Hp) (n : Nat) (hv : vH (ap []) H0 H0) (hl : allLive H0 = true) (hcl : closedB H0 = true) (hwf : wfB (ids H0) ⟨[(0, .int p), (1, .func f [] caps)], H0, n⟩ = true) (hwf2 : wfB (ids H0) ⟨[(0, .int 0)], H0, n⟩ = true)
    (hf : primeB p = true → ConQ Tryd.prog [] f caps H0 (.bool b)) : ConQ Tryd.prog [] 82 [.int p, .func f [] caps] H0 (.int (if primeB p = true then (if b = true then 0 else 1) else 2)) := by
  have hsc : sc n (V.func f [] caps).ids = true := by
    simp only [wfB, Bool.and_eq_true, List.all_cons] at hwf
    exact hwf.2.2.1
  refine conW tab_ok [(0, .int p), (1, .func f [] caps)] n (ids H0) (wids H0) Tryd.func82 rfl rfl rfl rfl rfl rfl rfl rfl hwf ?_
  refine cR ?_
  refine oA rfl rfl ?_
  refine oN ?_
  refine CW_seq ?_
  refine CW_block ?_
  refine cR ?_
  refine oM rfl rfl ?_
  refine oQ (Q_call0 (isPrime_con _) rfl rfl rfl) rfl rfl ?_
  refine oQ (Q_not rfl) rfl rfl ?_
  refine oA rfl rfl ?_
  refine oN ?_
  first | refine cT rfl ?_ | refine cF rfl ?_ | refine CW_cond rfl (fun hc => ?_) (fun hc => ?_)
  all_goals try simp only [s1, s2, s3, s4, s5, s6, s7, s8, s9, s10, s11, s12] at hc
  all_goals first
    | (
     refine cR ?_
     refine oA rfl rfl ?_
     refine oN ?_
     refine CW_ret ?_)
    | (
     refine cR ?_
     refine oQ (Q_move rfl rfl) rfl hsc ?_
     refine oQ (Q_callf (hf hc) [] rfl rfl (rens_nil caps).symm ⟨hv, hl, injB_iff (injB_id _), fun x hx => by simp at hx⟩ rfl hcl) rfl rfl ?_
     refine oQ (Q_not rfl) rfl rfl ?_
     refine oA rfl rfl ?_
     refine oN ?_
     first | refine cT rfl ?_ | refine cF rfl ?_ | refine CW_cond rfl (fun hc => ?_) (fun hc => ?_)
     all_goals try simp only [s1, s2, s3, s4, s5, s6, s7, s8, s9, s10, s11, s12] at hc
     all_goals first
       | (
        refine CW_skip ?_)
       | (
        refine cR ?_
        refine oA rfl rfl ?_
        refine oN ?_
        refine CW_ret ?_))
  all_goals first | with_reducible refine bN ?_ | with_reducible refine bE ?_ | with_reducible refine bR ?_ | refine bX rfl ?_
  all_goals first
    | with_reducible refine tR ?_
    | with_reducible refine tE ?_
    | (
     with_reducible refine tN ?_
     refine cR ?_
     refine oA rfl rfl ?_
     refine oN ?_
     refine CW_ret ?_)
  all_goals (
   refine exitQ (.inr rfl) n (.cons (.tmp rfl rfl) .nil) ?_ rfl hv hwf2 (injB_id _)
   simp_all [resV, ren])
end Go.Proofs.YtcklfkblhmlbbaaDoor
namespace Go.Proofs.YtcklfkblhmlbbaaDoor
attribute [local irreducible] CW OW QW QOp Con thenP inBlockP
set_option maxRecDepth 10000
set_option linter.unusedSimpArgs false
set_option linter.unusedVariables false
/-- three numbers are a point modulo a prime -/
def pointB (p : Int) (l : List Int) : Bool := primeB p && normB p l
theorem l01List_con (a b c : Int) : Con Tryd.prog [] 141 [.arr [a, b, c]] [] (fun r H' => r = .slice 0 0 3 3 ∧ H' = [(0, .ints 2 [a, b, c])]) := by
  refine conW tab_ok [(0, .arr [a, b, c])] 0 [] [] Tryd.func141 rfl rfl rfl rfl rfl rfl rfl rfl rfl ?_
  refine cR ?_
  refine oBox rfl rfl rfl rfl rfl rfl ?_
  refine oA rfl rfl ?_
  refine oN ?_
  refine cR ?_
  first | refine oQ (Ia0 rfl rfl rfl rfl rfl rfl) rfl rfl ?_ | refine oQ (Ia1 rfl rfl rfl rfl rfl rfl) rfl rfl ?_
  first | refine oQ (Q_ldc rfl rfl rfl rfl rfl) rfl rfl ?_ | refine oQ (Ld rfl rfl rfl rfl) rfl rfl ?_
  first | refine oQ (Ia0 rfl rfl rfl rfl rfl rfl) rfl rfl ?_ | refine oQ (Ia1 rfl rfl rfl rfl rfl rfl) rfl rfl ?_
  first | refine oQ (Q_ldc rfl rfl rfl rfl rfl) rfl rfl ?_ | refine oQ (Ld rfl rfl rfl rfl) rfl rfl ?_
  first | refine oQ (Ia0 rfl rfl rfl rfl rfl rfl) rfl rfl ?_ | refine oQ (Ia1 rfl rfl rfl rfl rfl rfl) rfl rfl ?_
  first | refine oQ (Q_ldc rfl rfl rfl rfl rfl) rfl rfl ?_ | refine oQ (Ld rfl rfl rfl rfl) rfl rfl ?_
  refine oBsl (zl := []) rfl rfl rfl rfl (.inl ⟨rfl, rfl⟩) rfl rfl rfl rfl rfl rfl ?_
  refine oA rfl rfl ?_
  refine oN ?_
  refine CW_ret ?_
  all_goals (
   exact exitH (r0 := .slice 0 0 3 3) (H0 := [(0, .ints 2 [a, b, c])]) (.inr rfl) [(0, 1)] 1 (.cons (.tmp rfl rfl) .nil) rfl rfl rfl (vHc rfl vHn) rfl rfl ⟨rfl, rfl⟩)
theorem l01Point_con (p : Int) (l : List Int) (hl : l.length = 3) : ConQ Tryd.prog [] 112 [.int p, .arr l] [] (.bool (pointB p l)) := by
  match l, hl with
  | [a, b, c], _ =>
    refine conW tab_ok [(0, .int p), (1, .arr [a, b, c])] 0 [] [] Tryd.func112 rfl rfl rfl rfl rfl rfl rfl rfl rfl ?_
    refine cR ?_
    refine oBox rfl rfl rfl rfl rfl rfl ?_
    refine oA rfl rfl ?_
    refine oN ?_
    refine cR ?_
    refine oM rfl rfl ?_
    refine oQ (Q_call0 (l01Prime_con _) rfl rfl rfl) rfl rfl ?_
    refine oM rfl rfl ?_
    all_goals first | refine oT rfl rfl ?_ | refine o1 rfl rfl rfl ?_ | refine o0 rfl rfl rfl ?_ | refine ogP1 rfl rfl rfl (fun hg => ?_) (fun hg => ?_) | refine ogP0 rfl rfl rfl (fun hg => ?_) (fun hg => ?_)
    all_goals try simp only [s1, s2, s3, s4, s5, s6, s7, s8, s9, s10, s11, s12] at hg
    all_goals first | (refine oM rfl rfl ?_) | skip
    all_goals first | refine oT rfl rfl ?_ | refine o1 rfl rfl rfl ?_ | refine o0 rfl rfl rfl ?_ | refine ogP1 rfl rfl rfl (fun hg => ?_) (fun hg => ?_) | refine ogP0 rfl rfl rfl (fun hg => ?_) (fun hg => ?_)
    all_goals try simp only [s1, s2, s3, s4, s5, s6, s7, s8, s9, s10, s11, s12] at hg
    all_goals first | refine oQ (Lw rfl rfl rfl rfl) rfl rfl ?_ | refine oQ (La rfl rfl rfl rfl rfl) rfl rfl ?_ | skip
    all_goals first | refine oT rfl rfl ?_ | refine o1 rfl rfl rfl ?_ | refine o0 rfl rfl rfl ?_ | refine ogP1 rfl rfl rfl (fun hg => ?_) (fun hg => ?_) | refine ogP0 rfl rfl rfl (fun hg => ?_) (fun hg => ?_)
    all_goals try simp only [s1, s2, s3, s4, s5, s6, s7, s8, s9, s10, s11, s12] at hg
    all_goals first | (refine oCall (l01List_con a b c) [] 1 rfl rfl (Fits.mk' vHn rfl rfl (by simp)) rfl rfl ?_; rintro r H1 ⟨rfl, rfl⟩; refine ⟨.slice 1 0 3 3, [(1, .ints 2 [a, b, c])], rfl, rfl, rfl, ?_⟩) | skip
    all_goals first | refine oT rfl rfl ?_ | refine o1 rfl rfl rfl ?_ | refine o0 rfl rfl rfl ?_ | refine ogP1 rfl rfl rfl (fun hg => ?_) (fun hg => ?_) | refine ogP0 rfl rfl rfl (fun hg => ?_) (fun hg => ?_)
    all_goals try simp only [s1, s2, s3, s4, s5, s6, s7, s8, s9, s10, s11, s12] at hg
    all_goals first | ((have hb := prime_bd hg); refine oQ (Q_call (l01Normal_con p 2 [a, b, c] 3 3 (Nat.le_refl _) (by omega) (by decide)) [(0, 1)] rfl rfl (Fits.mk' (vHc rfl vHn) rfl rfl (by simp)) rfl rfl) rfl rfl ?_) | skip
    all_goals first | refine oQ (Q_pick_t rfl (by with_reducible rfl) rfl rfl) rfl rfl ?_ | refine oQ (Q_pick_f rfl (by with_reducible rfl) rfl rfl) rfl rfl ?_
    all_goals first | (refine oA rfl rfl ?_)
    all_goals refine oN ?_
    all_goals (
     refine CW_ret ?_)
    all_goals (
     refine exitQ (.inr rfl) 0 (.cons (.tmp rfl rfl) .nil) ?_ rfl vHn rfl rfl
     simp only [resV, ren, pointB, V.bool.injEq, hg, Bool.true_and, Bool.false_and]
     try rfl)
def allF (g : List Int → Bool) (sz : Nat) (M : List Int) (k : Nat) : Bool := (List.range k).all fun i => g (elemAt sz M i)
theorem allF_yes {g : List Int → Bool} {sz : Nat} {M : List Int} {k : Nat} (h : ∀ j, j < k → g (elemAt sz M j) = true) : allF g sz M k = true := by
  unfold allF
  rw [List.all_eq_true]
  intro j hj
  exact h j (by simpa using hj)
theorem allF_no {g : List Int → Bool} {sz : Nat} {M : List Int} {k i : Nat} (hi : i < k) (h : g (elemAt sz M i) = false) : allF g sz M k = false := by
  unfold allF
  rw [List.all_eq_false]
  exact ⟨i, by simpa using hi, by simp [h]⟩
theorem impl_IsPoint_con (p : Int) (l : List Int) (hl : l.length = 3) : ConQ Tryd.prog [] 85 [.int p, .arr l] [] (.bool (pointB p l)) := by
  refine conW tab_ok [(0, .int p), (1, .arr l)] 0 [] [] Tryd.func85 rfl rfl rfl rfl rfl rfl rfl rfl rfl ?_
  refine cR ?_
  refine oBox rfl rfl rfl rfl rfl rfl ?_
  refine oA rfl rfl ?_
  refine oN ?_
  refine cR ?_
  refine oM rfl rfl ?_
  refine oQ (Q_call0 (isPrime_con _) rfl rfl rfl) rfl rfl ?_
  refine oM rfl rfl ?_
  all_goals first | refine oT rfl rfl ?_ | refine o1 rfl rfl rfl ?_ | refine o0 rfl rfl rfl ?_ | refine ogP1 rfl rfl rfl (fun hg => ?_) (fun hg => ?_) | refine ogP0 rfl rfl rfl (fun hg => ?_) (fun hg => ?_)
  all_goals try simp only [s1, s2, s3, s4, s5, s6, s7, s8, s9, s10, s11, s12] at hg
  all_goals first | (refine oM rfl rfl ?_) | skip
  all_goals first | refine oT rfl rfl ?_ | refine o1 rfl rfl rfl ?_ | refine o0 rfl rfl rfl ?_ | refine ogP1 rfl rfl rfl (fun hg => ?_) (fun hg => ?_) | refine ogP0 rfl rfl rfl (fun hg => ?_) (fun hg => ?_)
  all_goals try simp only [s1, s2, s3, s4, s5, s6, s7, s8, s9, s10, s11, s12] at hg
  all_goals first | (refine oQ (Q_slaF rfl rfl rfl rfl) rfl rfl ?_) | skip
  all_goals first | refine oT rfl rfl ?_ | refine o1 rfl rfl rfl ?_ | refine o0 rfl rfl rfl ?_ | refine ogP1 rfl rfl rfl (fun hg => ?_) (fun hg => ?_) | refine ogP0 rfl rfl rfl (fun hg => ?_) (fun hg => ?_)
  all_goals try simp only [s1, s2, s3, s4, s5, s6, s7, s8, s9, s10, s11, s12] at hg
  all_goals first | ((have hb := prime_bd hg); refine oQ (Q_call (isNormal_con p 29 l 3 3 (by omega) (by omega) (by omega)) [] rfl rfl (Fits.mk' (vHc rfl vHn) rfl rfl (by simp)) rfl rfl) rfl rfl ?_) | skip
  all_goals first | refine oQ (Q_pick_t rfl (by with_reducible rfl) rfl rfl) rfl rfl ?_ | refine oQ (Q_pick_f rfl (by with_reducible rfl) rfl rfl) rfl rfl ?_
  all_goals first | (refine oA rfl rfl ?_)
  all_goals refine oN ?_
  all_goals (
   refine CW_ret ?_)
  all_goals (
   refine exitQ (.inr rfl) 0 (.cons (.tmp rfl rfl) .nil) ?_ rfl vHn rfl rfl
   simp only [resV, ren, pointB, V.bool.injEq, ← hl, List.take_length]
   simp [hg])
theorem arePoints_con (p : Int) (tM : TypeId) (M : List Int) (k ck : Nat) (hM : k * 3 ≤ M.length) (hk : k ≤ 1000000000) : ConQ Tryd.prog [] 50 [.int p, .slice 0 0 k ck] [(0, .ints tM M)] (.bool (allF (pointB p) 3 M k)) := by
  refine conW tab_ok [(0, .int p), (1, .slice 0 0 k ck)] 1 [0] [0] Tryd.func50 rfl rfl rfl rfl rfl rfl rfl rfl rfl ?_
  refine cR ?_
  refine oA rfl rfl ?_
  refine oN ?_
  refine CW_seq ?_
  refine cR ?_
  refine oM rfl rfl ?_
  first | refine oQ (Q_len rfl rfl rfl rfl) rfl rfl ?_ | refine oQ (Q_len0 rfl rfl rfl rfl) rfl rfl ?_
  refine oM rfl rfl ?_
  refine oN ?_
  refine CW_block ?_
  refine CW_loop (ι := Nat) (fun i => i ≤ k ∧ ∀ j, j < i → pointB p (elemAt 3 M j) = true) (fun i => ⟨[(0, .int p), (7, .slice 0 0 k ck), (8, .int k), (9, .int i)], [(0, .ints tM M)], 1⟩) (fun i => k - i) 0 ?_ ?_ ?_
  · exact ⟨Nat.zero_le _, fun j h => absurd h (Nat.not_lt_zero _)⟩
  · refine View.mk' [] rfl rfl rfl ?_ ?_
    repeat' first | exact vFn | refine vFc rfl ?_ | exact vHn | refine vHc rfl ?_ | refine vFc (congrArg (fun z => some (V.int z)) ?_) ?_ | refine vHc (congrArg (fun z => some (Blk.ints _ z)) ?_) ?_ | refine vFc (congrArg (fun z => some (V.bool z)) ?_) ?_ | refine vFs rfl rfl ?_ ?_
  rintro i ⟨hi, hi2⟩
  have hel : i < k → (elemAt 3 M i).length = 3 := fun h => elemAt_length hM h
  refine cR ?_
  refine oQ (Q_bin rfl rfl rfl) rfl rfl ?_
  refine oN ?_
  refine CW_seq ?_
  first | refine cT rfl ?_ | refine cF rfl ?_ | refine CW_cond rfl (fun hc => ?_) (fun hc => ?_)
  all_goals try simp only [s1, s2, s3, s4, s5, s6, s7, s8, s9, s10, s11, s12] at hc
  all_goals first
    | (
     refine CW_skip ?_)
    | (
     refine CW_exit ?_)
  all_goals first
    | with_reducible refine tR ?_
    | with_reducible refine tE ?_
    | (
     with_reducible refine tN ?_
     refine CW_seq ?_
     refine CW_block ?_
     refine cR ?_
     first | refine oQ (Q_ixs0z 3 rfl rfl rfl rfl rfl rfl (by first | omega | (dsimp only; omega) | (simp; omega) | (simp; done))) rfl rfl ?_ | refine oQ (Q_ixsz 3 rfl rfl rfl rfl rfl rfl (by first | omega | (dsimp only; omega) | (simp; omega) | (simp; done))) rfl rfl ?_
     first | refine oQ (Lw rfl rfl rfl rfl) rfl rfl ?_ | refine oQ (La rfl rfl rfl rfl rfl) rfl rfl ?_
     refine oAlloc rfl rfl rfl rfl rfl rfl rfl ?_
     first | refine oSw rfl rfl rfl rfl ?_ | refine oSa rfl rfl rfl rfl ?_
     refine oN ?_
     refine cR ?_
     refine oM rfl rfl ?_
     first | refine oQ (Lw rfl rfl rfl rfl) rfl rfl ?_ | refine oQ (La rfl rfl rfl rfl rfl) rfl rfl ?_
     refine oQ (Q_call0 (impl_IsPoint_con p _ (elemAt_length hM (by omega))) rfl rfl rfl) rfl rfl ?_
     refine oQ (Q_not rfl) rfl rfl ?_
     refine oN ?_
     first | refine cT rfl ?_ | refine cF rfl ?_ | refine CW_cond rfl (fun hc => ?_) (fun hc => ?_)
     all_goals try simp only [s1, s2, s3, s4, s5, s6, s7, s8, s9, s10, s11, s12] at hc
     all_goals first
       | (
        refine CW_skip ?_)
       | (
        refine cR ?_
        refine oA rfl rfl ?_
        refine oN ?_
        refine CW_ret ?_)
     all_goals first | with_reducible refine bN ?_ | with_reducible refine bE ?_ | with_reducible refine bR ?_ | refine bX rfl ?_
     all_goals first
       | with_reducible refine tR ?_
       | with_reducible refine tE ?_
       | (
        with_reducible refine tN ?_
        refine CW_region ?_
        first | refine oQ (Q_binu rfl rfl rfl (by omega)) rfl rfl ?_ | refine oQ (Q_bin rfl rfl rfl) rfl rfl ?_
        refine oM rfl rfl ?_
        refine OW_nil ?_))
  all_goals first
    | with_reducible refine tR ?_
    | with_reducible refine tE ?_
    | (
     with_reducible refine tN ?_
     refine ⟨i + 1, ?_, ?_, View.mk' [] rfl rfl rfl ?_ ?_⟩
     · refine ⟨by omega, fun j hj => ?_⟩
       by_cases e : j = i
       · subst e; exact hc
       · exact hi2 j (by omega)
     · omega
     all_goals (repeat' first | exact vFn | refine vFc rfl ?_ | exact vHn | refine vHc rfl ?_ | refine vFc (congrArg (fun z => some (V.int z)) ?_) ?_ | refine vHc (congrArg (fun z => some (Blk.ints _ z)) ?_) ?_ | refine vFc (congrArg (fun z => some (V.bool z)) ?_) ?_ | refine vFs rfl rfl ?_ ?_))
  all_goals first | with_reducible refine bN ?_ | with_reducible refine bE ?_ | with_reducible refine bR ?_ | refine bX rfl ?_
  all_goals first
    | with_reducible refine tR ?_
    | with_reducible refine tE ?_
    | (
     with_reducible refine tN ?_
     refine cR ?_
     refine oA rfl rfl ?_
     refine oN ?_
     refine CW_ret ?_)
  all_goals (
   refine exitQ (.inr rfl) 1 (.cons (.tmp rfl rfl) .nil) ?_ rfl (vHc rfl vHn) rfl rfl
   first
     | exact congrArg V.bool (allF_no (i := i) (by omega) hc).symm
     | exact congrArg V.bool (allF_yes (fun j hj => hi2 j (by omega))).symm)
theorem l01Code_con (p : Int) (tM : TypeId) (M : List Int) (k ck : Nat) (hM : k * 3 ≤ M.length) (hk : k ≤ 1000000000) : ConQ Tryd.prog [] 79 [.int p, .slice 0 0 k ck] [(0, .ints tM M)] (.int (if primeB p = true then (if (allF (pointB p) 3 M k) = true then 0 else 1) else 2)) := by
  refine conW tab_ok [(0, .int p), (1, .slice 0 0 k ck)] 1 [0] [0] Tryd.func79 rfl rfl rfl rfl rfl rfl rfl rfl rfl ?_
  refine cR ?_
  refine oA rfl rfl ?_
  refine oN ?_
  refine CW_seq ?_
  refine cR ?_
  refine oM rfl rfl ?_
  refine oQ (Q_call0 (l01Prime_con _) rfl rfl rfl) rfl rfl ?_
  refine oQ (Q_not rfl) rfl rfl ?_
  refine oN ?_
  first | refine cT rfl ?_ | refine cF rfl ?_ | refine CW_cond rfl (fun hc => ?_) (fun hc => ?_)
  all_goals try simp only [s1, s2, s3, s4, s5, s6, s7, s8, s9, s10, s11, s12] at hc
  all_goals first
    | (
     refine CW_skip ?_)
    | (
     refine cR ?_
     refine oA rfl rfl ?_
     refine oN ?_
     refine CW_ret ?_)
  all_goals first
    | with_reducible refine tR ?_
    | with_reducible refine tE ?_
    | (
     with_reducible refine tN ?_
     refine CW_seq ?_
     refine cR ?_
     refine oA rfl rfl ?_
     refine oN ?_
     refine CW_block ?_
     (have hp : primeB p = true := hc)
     refine CW_loop (ι := Nat) (fun i => i ≤ k ∧ ∀ j, j < i → pointB p (elemAt 3 M j) = true) (fun i => ⟨[(0, .int p), (1, .slice 0 0 k ck), (5, .int i)], [(0, .ints tM M)], 1⟩) (fun i => k - i) 0 ?_ ?_ ?_
     · exact ⟨Nat.zero_le _, fun j h => absurd h (Nat.not_lt_zero _)⟩
     · refine View.mk' [] rfl rfl rfl ?_ ?_
       repeat' first | exact vFn | refine vFc rfl ?_ | exact vHn | refine vHc rfl ?_ | refine vFc (congrArg (fun z => some (V.int z)) ?_) ?_ | refine vHc (congrArg (fun z => some (Blk.ints _ z)) ?_) ?_ | refine vFc (congrArg (fun z => some (V.bool z)) ?_) ?_ | refine vFs rfl rfl ?_ ?_
     rintro i ⟨hi, hi2⟩
     refine CW_seq ?_
     refine cR ?_
     iterate 2 refine oM rfl rfl ?_
     first | refine oQ (Q_len rfl rfl rfl rfl) rfl rfl ?_ | refine oQ (Q_len0 rfl rfl rfl rfl) rfl rfl ?_
     refine oQ (Q_bin rfl rfl rfl) rfl rfl ?_
     refine oN ?_
     first | refine cT rfl ?_ | refine cF rfl ?_ | refine CW_cond rfl (fun hc => ?_) (fun hc => ?_)
     all_goals try simp only [s1, s2, s3, s4, s5, s6, s7, s8, s9, s10, s11, s12] at hc
     all_goals first
       | (
        refine CW_skip ?_)
       | (
        refine CW_exit ?_)
     all_goals first
       | with_reducible refine tR ?_
       | with_reducible refine tE ?_
       | (
        with_reducible refine tN ?_
        refine CW_seq ?_
        refine CW_block ?_
        refine cR ?_
        iterate 3 refine oM rfl rfl ?_
        first | refine oQ (Q_ixs0z 3 rfl rfl rfl rfl rfl rfl (by first | omega | (dsimp only; omega) | (simp; omega) | (simp; done))) rfl rfl ?_ | refine oQ (Q_ixsz 3 rfl rfl rfl rfl rfl rfl (by first | omega | (dsimp only; omega) | (simp; omega) | (simp; done))) rfl rfl ?_
        first | refine oQ (Lw rfl rfl rfl rfl) rfl rfl ?_ | refine oQ (La rfl rfl rfl rfl rfl) rfl rfl ?_
        refine oQ (Q_call0 (l01Point_con p _ (elemAt_length hM (by omega))) rfl rfl rfl) rfl rfl ?_
        refine oQ (Q_not rfl) rfl rfl ?_
        refine oN ?_
        first | refine cT rfl ?_ | refine cF rfl ?_ | refine CW_cond rfl (fun hc => ?_) (fun hc => ?_)
        all_goals try simp only [s1, s2, s3, s4, s5, s6, s7, s8, s9, s10, s11, s12] at hc
        all_goals first
          | (
           refine CW_skip ?_)
          | (
           refine cR ?_
           refine oA rfl rfl ?_
           refine oN ?_
           refine CW_ret ?_)
        all_goals first | with_reducible refine bN ?_ | with_reducible refine bE ?_ | with_reducible refine bR ?_ | refine bX rfl ?_
        all_goals first
          | with_reducible refine tR ?_
          | with_reducible refine tE ?_
          | (
           with_reducible refine tN ?_
           refine CW_region ?_
           refine oM rfl rfl ?_
           first | refine oQ (Q_binu rfl rfl rfl (by omega)) rfl rfl ?_ | refine oQ (Q_bin rfl rfl rfl) rfl rfl ?_
           refine oA rfl rfl ?_
           refine OW_nil ?_))
     all_goals first
       | with_reducible refine tR ?_
       | with_reducible refine tE ?_
       | (
        with_reducible refine tN ?_
        refine ⟨i + 1, ?_, ?_, View.mk' [] rfl rfl rfl ?_ ?_⟩
        · refine ⟨by omega, fun j hj => ?_⟩
          by_cases e : j = i
          · subst e; exact hc
          · exact hi2 j (by omega)
        · omega
        all_goals (repeat' first | exact vFn | refine vFc rfl ?_ | exact vHn | refine vHc rfl ?_ | refine vFc (congrArg (fun z => some (V.int z)) ?_) ?_ | refine vHc (congrArg (fun z => some (Blk.ints _ z)) ?_) ?_ | refine vFc (congrArg (fun z => some (V.bool z)) ?_) ?_ | refine vFs rfl rfl ?_ ?_))
     all_goals first | with_reducible refine bN ?_ | with_reducible refine bE ?_ | with_reducible refine bR ?_ | refine bX rfl ?_
     all_goals first
       | with_reducible refine tR ?_
       | with_reducible refine tE ?_
       | (
        with_reducible refine tN ?_
        refine cR ?_
        refine oA rfl rfl ?_
        refine oN ?_
        refine CW_ret ?_))
  all_goals (
   refine exitQ (.inr rfl) 1 (.cons (.tmp rfl rfl) .nil) ?_ rfl (vHc rfl vHn) rfl rfl
   first
     | (simp [resV, hc]; done)
     | ((have h9 := allF_no (k := k) (i := i) (by omega) hc); simp [resV, hp, h9]; done)
     | ((have h9 : allF (pointB p) 3 M k = true := allF_yes (fun j hj => hi2 j (by omega))); simp [resV, hp, h9]))
end Go.Proofs.YtcklfkblhmlbbaaDoor
namespace Go.Proofs.YtcklfkblhmlbbaaDoor
theorem flat3 {L : List (List Int)} {sz : Nat} (h : ∀ x ∈ L, x.length = sz) : L.flatten.length = L.length * sz := by
  induction L with
  | nil => simp
  | cons a r ih =>
    rw [List.flatten_cons, List.length_append, ih (fun x hx => h x (List.mem_cons_of_mem _ hx)), h a (by simp), List.length_cons, Nat.add_mul, Nat.one_mul, Nat.add_comm]
theorem putI_at : ∀ (m l pre post : List Int), l.length = m.length → putI (pre ++ (l ++ post)) pre.length m = pre ++ (m ++ post)
  | [], l, pre, post, h => by
    have : l = [] := List.eq_nil_of_length_eq_zero h
    simp [putI, this]
  | x :: m, [], pre, post, h => by simp at h
  | x :: m, y :: l, pre, post, h => by
    have ih := putI_at m l (pre ++ [x]) post (by simpa using h)
    simp only [List.length_append, List.length_cons, List.length_nil, Nat.zero_add, List.append_assoc, List.cons_append, List.nil_append] at ih
    simp only [putI]
    refine Eq.trans ?_ ih
    congr 1
    simp
theorem flat_take {L : List (List Int)} {sz : Nat} (h : ∀ x ∈ L, x.length = sz) (i : Nat) (hi : i ≤ L.length) : (L.take i).flatten.length = i * sz := by
  rw [flat3 (fun x hx => h x (List.mem_of_mem_take hx)), List.length_take, Nat.min_eq_left hi]
theorem flat_get {L : List (List Int)} {sz : Nat} {sp : List Int} (h : ∀ x ∈ L, x.length = sz) {i : Nat} (hi : i < L.length) : ((L.flatten ++ sp).drop (i * sz)).take sz = L.getD i [] := by
  have e : L.flatten = (L.take i).flatten ++ (L[i] ++ (L.drop (i + 1)).flatten) := by
    conv => lhs; rw [← List.take_append_drop i L, List.flatten_append, List.drop_eq_getElem_cons hi, List.flatten_cons]
  have hx : L[i].length = sz := h _ (List.getElem_mem hi)
  rw [e, ← flat_take h i (by omega), List.append_assoc, List.drop_left, List.append_assoc, ← hx, List.take_left]
  simp [List.getD, hi]
theorem getD_mem {L : List (List Int)} {i : Nat} (hi : i < L.length) : L.getD i [] ∈ L := by
  have : L.getD i [] = L[i] := by simp [List.getD, hi]
  rw [this]; exact List.getElem_mem hi
theorem takeL_snoc {L : List (List Int)} {i : Nat} (hi : i < L.length) : L.take (i + 1) = L.take i ++ [L.getD i []] := by
  rw [List.take_succ_eq_append_getElem hi]
  simp [List.getD, hi]
/-- the place of the first element for which something is so, or -1 -/
def idxL (g : List Int → Bool) (L : List (List Int)) : Int := match L.findIdx? g with
  | some i => (i : Int)
  | none => -1
theorem idxL_found {g : List Int → Bool} {L : List (List Int)} {i : Nat} (hi : i < L.length) (h0 : ∀ j, j < i → g (L.getD j []) = false) (h1 : g (L.getD i []) = true) : idxL g L = (i : Int) := by
  have : L.findIdx? g = some i := by
    rw [List.findIdx?_eq_some_iff_getElem]
    have key : ∀ j (hj : j < L.length), L.getD j [] = L[j] := fun j hj => by simp [List.getD, hj]
    refine ⟨hi, by rw [← key i hi]; exact h1, fun j hj => ?_⟩
    have := h0 j hj
    rw [key j (by omega)] at this
    simp [this]
  simp [idxL, this]
theorem idxL_none {g : List Int → Bool} {L : List (List Int)} (h0 : ∀ j, j < L.length → g (L.getD j []) = false) : idxL g L = -1 := by
  have : L.findIdx? g = none := by
    rw [List.findIdx?_eq_none_iff]
    intro x hx
    obtain ⟨j, hj, rfl⟩ := List.getElem_of_mem hx
    have := h0 j hj
    simpa [List.getD, hj] using this
  simp [idxL, this]
theorem idxL_cases (g : List Int → Bool) (L : List (List Int)) : (idxL g L = -1 ∧ ∀ x ∈ L, g x = false) ∨ ∃ i : Nat, idxL g L = (i : Int) ∧ i < L.length ∧ g (L.getD i []) = true ∧ ∀ x ∈ L.take i, g x = false := by
  unfold idxL
  cases h : L.findIdx? g with
  | none => left; exact ⟨rfl, by simpa using h⟩
  | some i =>
    right
    rw [List.findIdx?_eq_some_iff_getElem] at h
    obtain ⟨hi, h1, h2⟩ := h
    refine ⟨i, rfl, hi, by simpa [List.getD, hi] using h1, fun x hx => ?_⟩
    obtain ⟨j, hj, rfl⟩ := List.getElem_of_mem hx
    simp only [List.length_take] at hj
    have := h2 j (by omega)
    simpa using this
theorem filter_snoc {g : List Int → Bool} {L : List (List Int)} {i : Nat} (hi : i < L.length) (h : g (L.getD i []) = true) : (L.take (i + 1)).filter g = (L.take i).filter g ++ [L.getD i []] := by
  rw [takeL_snoc hi, List.filter_append]; simp only [List.filter_cons, h, List.filter_nil, if_true]
theorem filter_skip {g : List Int → Bool} {L : List (List Int)} {i : Nat} (hi : i < L.length) (h : g (L.getD i []) = false) : (L.take (i + 1)).filter g = (L.take i).filter g := by
  rw [takeL_snoc hi, List.filter_append]; simp only [List.filter_cons, h, List.filter_nil, Bool.false_eq_true, if_false, List.append_nil]
theorem filter_len {g : List Int → Bool} {L : List (List Int)} (i : Nat) (hi : i ≤ L.length) : ((L.take i).filter g).length ≤ i := by
  have := List.length_filter_le g (L.take i)
  rw [List.length_take] at this; omega
theorem filter_three {g : List Int → Bool} {L : List (List Int)} {sz : Nat} (h : ∀ x ∈ L, x.length = sz) (i : Nat) : ∀ x ∈ (L.take i).filter g, x.length = sz := fun x hx => h x (List.mem_of_mem_take (List.mem_filter.1 hx).1)
/-- the list while elements are struck: those kept, what is no more wanted, those to come -/
def delM (sz : Nat) (g : List Int → Bool) (L : List (List Int)) (j : Nat) (junk sp : List Int) : List Int := ((L.take j).filter fun x => !g x).flatten ++ (junk ++ ((L.drop j).flatten ++ sp))
theorem delM_get {sz : Nat} {g : List Int → Bool} {L : List (List Int)} {j : Nat} {junk sp : List Int} (h : ∀ x ∈ L, x.length = sz) (hj : j < L.length) (hjunk : junk.length + ((L.take j).filter fun x => !g x).length * sz = j * sz) : ((delM sz g L j junk sp).drop (j * sz)).take sz = L.getD j [] := by
  have h1 := flat3 (filter_three (g := fun x => !g x) h j)
  have hx : L[j].length = sz := h _ (List.getElem_mem hj)
  unfold delM
  have : (((L.take j).filter fun x => !g x).flatten ++ junk).length = j * sz := by rw [List.length_append, h1]; omega
  rw [← List.append_assoc, List.drop_left' this, List.drop_eq_getElem_cons hj, List.flatten_cons, List.append_assoc, List.take_left' hx]
  simp [List.getD, hj]
theorem delM_skip {sz : Nat} {g : List Int → Bool} {L : List (List Int)} {j : Nat} {junk sp : List Int} (hj : j < L.length) (hg : g (L.getD j []) = true) : delM sz g L j junk sp = delM sz g L (j + 1) (junk ++ L.getD j []) sp := by
  have e : L.getD j [] = L[j] := by simp [List.getD, hj]
  unfold delM
  rw [filter_skip hj (by rw [hg]; rfl), List.drop_eq_getElem_cons hj, List.flatten_cons, e]
  simp
theorem delM_keep {sz : Nat} {g : List Int → Bool} {L : List (List Int)} {j : Nat} {junk sp : List Int} (h : ∀ x ∈ L, x.length = sz) (hj : j < L.length) (hg : g (L.getD j []) = false) (hjunk : junk.length + ((L.take j).filter fun x => !g x).length * sz = j * sz) :
    putI (delM sz g L j junk sp) (((L.take j).filter fun x => !g x).length * sz) (L.getD j []) = delM sz g L (j + 1) ((junk ++ L.getD j []).drop sz) sp := by
  have e : L.getD j [] = L[j] := by simp [List.getD, hj]
  have h1 := flat3 (filter_three (g := fun x => !g x) h j)
  have hx : (L.getD j []).length = sz := h _ (getD_mem hj)
  have hs : (junk ++ L.getD j []).take sz ++ (junk ++ L.getD j []).drop sz = junk ++ L.getD j [] := List.take_append_drop _ _
  unfold delM
  rw [← h1]
  have e2 : junk ++ ((L.drop j).flatten ++ sp) = (junk ++ L.getD j []).take sz ++ ((junk ++ L.getD j []).drop sz ++ ((L.drop (j + 1)).flatten ++ sp)) := by
    rw [← List.append_assoc (List.take _ _), hs, List.drop_eq_getElem_cons hj, List.flatten_cons, e]; simp
  rw [e2, putI_at _ _ _ _ (by rw [List.length_take, List.length_append, hx]; omega), filter_snoc hj (by rw [hg]; rfl), List.flatten_append]
  simp
theorem delM_len {sz : Nat} {g : List Int → Bool} {L : List (List Int)} {j : Nat} {junk sp : List Int} (h : ∀ x ∈ L, x.length = sz) (hj : j ≤ L.length) (hjunk : junk.length + ((L.take j).filter fun x => !g x).length * sz = j * sz) : (delM sz g L j junk sp).length = L.length * sz + sp.length := by
  have h1 := flat3 (filter_three (g := fun x => !g x) h j)
  have h2 : (L.drop j).flatten.length = (L.length - j) * sz := by rw [flat3 (fun x hx => h x (List.mem_of_mem_drop hx)), List.length_drop]
  unfold delM
  rw [List.length_append, List.length_append, List.length_append, h1, h2, Nat.sub_mul]
  have : j * sz ≤ L.length * sz := Nat.mul_le_mul_right sz hj
  omega
theorem delM_end {sz : Nat} {g : List Int → Bool} {L : List (List Int)} {junk sp : List Int} (h : ∀ x ∈ L, x.length = sz) (hjunk : junk.length + ((L.take L.length).filter fun x => !g x).length * sz = L.length * sz) :
    putI (delM sz g L L.length junk sp) (((L.take L.length).filter fun x => !g x).length * sz) (List.replicate ((L.length - ((L.take L.length).filter fun x => !g x).length) * sz) 0) = (L.filter fun x => !g x).flatten ++ (List.replicate ((L.length - (L.filter fun x => !g x).length) * sz) 0 ++ sp) := by
  have h1 := flat3 (filter_three (g := fun x => !g x) h L.length)
  unfold delM
  rw [← h1]
  rw [putI_at _ _ _ _ (by rw [List.length_replicate, Nat.sub_mul]; omega)]
  simp
end Go.Proofs.YtcklfkblhmlbbaaDoor
namespace Go.Proofs.YtcklfkblhmlbbaaDoor
attribute [local irreducible] CW OW QW QOp Con thenP inBlockP
set_option maxRecDepth 10000
set_option linter.unusedSimpArgs false
set_option linter.unusedVariables false
def row1 (n : Nat) : List (List Int) := (List.range n).map fun (z : Nat) => [0, 1, (z : Int)]
def row2 (y n : Nat) : List (List Int) := (List.range n).map fun (z : Nat) => [1, (y : Int), (z : Int)]
def rows2 (n m : Nat) : List (List Int) := (List.range m).flatMap fun y => row2 y n
def allPts (p : Int) : List (List Int) := [[0, 0, 1]] ++ row1 p.toNat ++ rows2 p.toNat p.toNat
theorem row1_snoc (n : Nat) : row1 (n + 1) = row1 n ++ [[0, 1, (n : Int)]] := by simp [row1, List.range_succ]
theorem row2_snoc (y n : Nat) : row2 y (n + 1) = row2 y n ++ [[1, (y : Int), (n : Int)]] := by simp [row2, List.range_succ]
theorem rows2_snoc (n m : Nat) : rows2 n (m + 1) = rows2 n m ++ row2 m n := by simp [rows2, List.range_succ]
theorem row1_length (n : Nat) : (row1 n).length = n := by simp [row1]
theorem row2_length (y n : Nat) : (row2 y n).length = n := by simp [row2]
theorem rows2_length (n m : Nat) : (rows2 n m).length = m * n := by
  induction m with
  | zero => simp [rows2]
  | succ m ih => rw [rows2_snoc, List.length_append, ih, row2_length, Nat.add_mul, Nat.one_mul]
theorem allPts_three {p : Int} {x : List Int} (h : x ∈ allPts p) : x.length = 3 := by
  simp only [allPts, row1, rows2, row2, List.mem_append, List.mem_map, List.mem_flatMap, List.mem_singleton] at h
  rcases h with (rfl | ⟨_, _, rfl⟩) | ⟨_, _, _, _, rfl⟩ <;> rfl
/-- an own row of arrays: the told ones, and room behind them -/
def ownR (sz : Nat) (T : TypeId) (H0 : Hp) (b : Nat) (L : List (List Int)) (r : V) (H' : Hp) : Prop :=
  ∃ (k : Nat) (sp : List Int), L.length ≤ k ∧ k * sz ≤ L.length * sz + sp.length ∧ r = .slice b 0 L.length k ∧ H' = H0 ++ [(b, .ints T (L.flatten ++ sp))]
def ptsTo (n y z : Nat) : List (List Int) := [[0, 0, 1]] ++ row1 n ++ rows2 n y ++ row2 y z
theorem ptsTo_next (n y z : Nat) : ptsTo n y (z + 1) = ptsTo n y z ++ [[1, (y : Int), (z : Int)]] := by simp [ptsTo, row2_snoc]
theorem ptsTo_row (n y : Nat) : ptsTo n y n = ptsTo n (y + 1) 0 := by simp [ptsTo, rows2_snoc]; simp [row2]
theorem ptsTo_start (n : Nat) : [[0, 0, 1]] ++ row1 n = ptsTo n 0 0 := by simp [ptsTo, rows2, row2]
theorem ptsTo_all {p : Int} {n : Nat} (h : p = (n : Int)) : ptsTo n n 0 = allPts p := by subst h; simp [ptsTo, allPts, row2]
theorem ptsTo_three {n y z : Nat} {x : List Int} (h : x ∈ ptsTo n y z) : x.length = 3 := by
  simp only [ptsTo, row1, rows2, row2, List.mem_append, List.mem_map, List.mem_flatMap, List.mem_singleton] at h
  rcases h with ((rfl | ⟨_, _, rfl⟩) | ⟨_, _, _, _, rfl⟩) | ⟨_, _, rfl⟩ <;> rfl
theorem row1_three {n : Nat} {x : List Int} (h : x ∈ [[0, 0, 1]] ++ row1 n) : x.length = 3 := by
  simp only [row1, List.mem_append, List.mem_map, List.mem_singleton] at h
  rcases h with rfl | ⟨_, _, rfl⟩ <;> rfl
theorem ptsTo_length (n y z : Nat) : (ptsTo n y z).length = 1 + n + y * n + z := by simp [ptsTo, row1_length, rows2_length, row2_length]; omega
theorem sq_bound {n y : Nat} (hn : n ≤ 13) (hy : y ≤ n) : y * n ≤ 169 := Nat.le_trans (Nat.mul_le_mul hy hn) (Nat.mul_le_mul hn (Nat.le_refl 13))
theorem allPoints_n (n : Nat) (hn : n ≤ 13) : Con Tryd.prog [] 88 [.int (n : Int)] [] (ownR 3 29 [] 0 (ptsTo n n 0)) := by
  refine conW tab_ok [(0, .int (n : Int))] 0 [] [] Tryd.func88 rfl rfl rfl rfl rfl rfl rfl rfl rfl ?_
  refine cR ?_
  refine oA rfl rfl ?_
  refine oN ?_
  refine cR ?_
  refine oQ (Q_build rfl rfl rfl rfl rfl rfl rfl rfl) rfl rfl ?_
  refine oBsl rfl rfl rfl rfl (.inr ⟨rfl, rfl, by decide⟩) rfl rfl rfl rfl rfl rfl ?_
  refine oA rfl rfl ?_
  refine oN ?_
  refine CW_seq ?_
  refine cR ?_
  iterate 2 refine oM rfl rfl ?_
  refine oN ?_
  refine CW_block ?_
  refine CW_loop (ι := Nat × Nat × List Int) (fun x => x.1 ≤ n ∧ 1 + x.1 ≤ x.2.1 ∧ x.2.1 * 3 ≤ (1 + x.1) * 3 + x.2.2.length) (fun x => ⟨[(0, .int (n : Int)), (3, .slice 0 0 (1 + x.1) x.2.1), (10, .int (x.1 : Int)), (9, .int (n : Int))], [(0, .ints 29 (([[0, 0, 1]] ++ row1 x.1).flatten ++ x.2.2))], 1⟩) (fun x => n - x.1) (0, 1, []) ?_ ?_ ?_
  · first | trivial | omega | (simp; done) | (simp; omega)
  · refine View.mk' [] rfl rfl rfl ?_ ?_
    repeat' first | exact vFn | refine vFc rfl ?_ | exact vHn | refine vHc rfl ?_ | refine vFc (congrArg (fun z => some (V.int z)) ?_) ?_ | refine vHc (congrArg (fun z => some (Blk.ints _ z)) ?_) ?_ | refine vFc (congrArg (fun z => some (V.bool z)) ?_) ?_ | refine vFs rfl rfl ?_ ?_
    skip
  rintro ⟨i, k, sp⟩ ⟨hi, hk, hsp⟩
  dsimp only at hi hk hsp ⊢
  have hlen : ([[0, 0, 1]] ++ row1 i).flatten.length = (1 + i) * 3 := by rw [flat3 (sz := 3) (fun x hx => row1_three hx)]; simp [row1_length]; omega
  refine cR ?_
  refine oQ (Q_bin rfl rfl rfl) rfl rfl ?_
  refine oN ?_
  refine CW_seq ?_
  first | refine cT rfl ?_ | refine cF rfl ?_ | refine CW_cond rfl (fun hc => ?_) (fun hc => ?_)
  all_goals try simp only [s1, s2, s3, s4, s5, s6, s7, s8, s9, s10, s11, s12] at hc
  all_goals first
    | (
     refine CW_skip ?_)
    | (
     refine CW_exit ?_)
  all_goals first
    | with_reducible refine tR ?_
    | with_reducible refine tE ?_
    | (
     with_reducible refine tN ?_
     refine CW_seq ?_
     refine CW_block ?_
     refine cR ?_
     refine oM rfl rfl ?_
     refine oA rfl rfl ?_
     refine oN ?_
     refine CW_region ?_
     iterate 2 refine oM rfl rfl ?_
     refine oQ (Q_build rfl rfl rfl rfl rfl rfl rfl rfl) rfl rfl ?_
     refine oBsl rfl rfl rfl rfl (.inr ⟨rfl, rfl, by decide⟩) rfl rfl rfl rfl rfl rfl ?_
     refine oApp (sz := 3) (by_ := 24) (xl := [0, 1, (i : Int)]) rfl rfl rfl rfl rfl rfl ⟨by decide, rfl, .inr rfl⟩ rfl rfl rfl rfl rfl rfl hlen rfl (by omega) (by omega) (by omega) (by omega) rfl rfl (fun k2 sp2 h1 h2 => ?_)
     refine oA rfl rfl ?_
     refine OW_nil ?_
     all_goals first | with_reducible refine bN ?_ | with_reducible refine bE ?_ | with_reducible refine bR ?_ | refine bX rfl ?_
     all_goals with_reducible refine tN ?_
     all_goals (
      refine CW_region ?_
      first | refine oQ (Q_binu rfl rfl rfl (by omega)) rfl rfl ?_ | refine oQ (Q_bin rfl rfl rfl) rfl rfl ?_
      refine oM rfl rfl ?_
      refine OW_nil ?_))
  all_goals first
    | with_reducible refine tR ?_
    | with_reducible refine tE ?_
    | (
     with_reducible refine tN ?_
     refine ⟨(i + 1, k2, sp2), ?_, ?_, View.mk' [(0, 2)] rfl rfl rfl ?_ ?_⟩
     · exact ⟨by omega, by omega, by omega⟩
     · omega
     all_goals (repeat' first | exact vFn | refine vFc rfl ?_ | exact vHn | refine vHc rfl ?_ | refine vFc (congrArg (fun z => some (V.int z)) ?_) ?_ | refine vHc (congrArg (fun z => some (Blk.ints _ z)) ?_) ?_ | refine vFc (congrArg (fun z => some (V.bool z)) ?_) ?_ | refine vFs rfl rfl ?_ ?_)
     all_goals first | (rw [row1_snoc]; simp; done) | fail
     all_goals simp)
  all_goals first | with_reducible refine bN ?_ | with_reducible refine bE ?_ | with_reducible refine bR ?_ | refine bX rfl ?_
  all_goals with_reducible refine tN ?_
  all_goals (
   refine CW_seq ?_
   refine cR ?_
   iterate 2 refine oM rfl rfl ?_
   refine oN ?_
   refine CW_block ?_
   refine CW_loop (ι := Nat × Nat × List Int) (fun x => x.1 ≤ n ∧ (ptsTo n x.1 0).length ≤ x.2.1 ∧ x.2.1 * 3 ≤ (ptsTo n x.1 0).length * 3 + x.2.2.length) (fun x => ⟨[(0, .int (n : Int)), (3, .slice 0 0 (ptsTo n x.1 0).length x.2.1), (20, .int (x.1 : Int)), (19, .int (n : Int))], [(0, .ints 29 ((ptsTo n x.1 0).flatten ++ x.2.2))], 1⟩) (fun x => n - x.1) (0, k, sp) ?_ ?_ ?_
   · (have e : i = n := by omega); subst e; simp only [ptsTo_length]; exact ⟨Nat.zero_le _, by omega, by omega⟩
   · refine View.mk' [] rfl rfl rfl ?_ ?_
     repeat' first | exact vFn | refine vFc rfl ?_ | exact vHn | refine vHc rfl ?_ | refine vFc (congrArg (fun z => some (V.int z)) ?_) ?_ | refine vHc (congrArg (fun z => some (Blk.ints _ z)) ?_) ?_ | refine vFc (congrArg (fun z => some (V.bool z)) ?_) ?_ | refine vFs rfl rfl ?_ ?_
     all_goals (have e : i = n := by omega)
     all_goals subst e
     all_goals first | (rw [ptsTo_length]; omega) | (rw [← ptsTo_start])
   rintro ⟨y, k, sp⟩ ⟨hy, hk, hsp⟩
   dsimp only at hy hk hsp ⊢
   have hq := sq_bound hn hy
   refine cR ?_
   refine oQ (Q_bin rfl rfl rfl) rfl rfl ?_
   refine oN ?_
   refine CW_seq ?_
   first | refine cT rfl ?_ | refine cF rfl ?_ | refine CW_cond rfl (fun hc => ?_) (fun hc => ?_)
   all_goals try simp only [s1, s2, s3, s4, s5, s6, s7, s8, s9, s10, s11, s12] at hc
   all_goals first
     | (
      refine CW_skip ?_)
     | (
      refine CW_exit ?_)
   all_goals first
     | with_reducible refine tR ?_
     | with_reducible refine tE ?_
     | (
      with_reducible refine tN ?_
      refine CW_seq ?_
      refine CW_block ?_
      refine cR ?_
      refine oM rfl rfl ?_
      refine oA rfl rfl ?_
      refine oN ?_
      refine cR ?_
      iterate 2 refine oM rfl rfl ?_
      refine oN ?_
      refine CW_block ?_
      refine CW_loop (ι := Nat × Nat × List Int) (fun x => x.1 ≤ n ∧ (ptsTo n y x.1).length ≤ x.2.1 ∧ x.2.1 * 3 ≤ (ptsTo n y x.1).length * 3 + x.2.2.length) (fun x => ⟨[(0, .int (n : Int)), (3, .slice 0 0 (ptsTo n y x.1).length x.2.1), (5, .int (y : Int)), (24, .int (x.1 : Int)), (19, .int (n : Int)), (20, .int (y : Int)), (23, .int (n : Int))], [(0, .ints 29 ((ptsTo n y x.1).flatten ++ x.2.2))], 1⟩) (fun x => n - x.1) (0, k, sp) ?_ ?_ ?_
      · exact ⟨Nat.zero_le _, hk, hsp⟩
      · refine View.mk' [] rfl rfl rfl ?_ ?_
        repeat' first | exact vFn | refine vFc rfl ?_ | exact vHn | refine vHc rfl ?_ | refine vFc (congrArg (fun z => some (V.int z)) ?_) ?_ | refine vHc (congrArg (fun z => some (Blk.ints _ z)) ?_) ?_ | refine vFc (congrArg (fun z => some (V.bool z)) ?_) ?_ | refine vFs rfl rfl ?_ ?_
      rintro ⟨z, k, sp⟩ ⟨hz, hk, hsp⟩
      dsimp only at hz hk hsp ⊢
      have hl2 := ptsTo_length n y z
      have hlen := flat3 (sz := 3) (L := ptsTo n y z) (fun x hx => ptsTo_three hx)
      refine cR ?_
      refine oQ (Q_bin rfl rfl rfl) rfl rfl ?_
      refine oN ?_
      refine CW_seq ?_
      first | refine cT rfl ?_ | refine cF rfl ?_ | refine CW_cond rfl (fun hc => ?_) (fun hc => ?_)
      all_goals try simp only [s1, s2, s3, s4, s5, s6, s7, s8, s9, s10, s11, s12] at hc
      all_goals first
        | (
         refine CW_skip ?_)
        | (
         refine CW_exit ?_)
      all_goals first
        | with_reducible refine tR ?_
        | with_reducible refine tE ?_
        | (
         with_reducible refine tN ?_
         refine CW_seq ?_
         refine CW_block ?_
         refine cR ?_
         refine oM rfl rfl ?_
         refine oA rfl rfl ?_
         refine oN ?_
         refine CW_region ?_
         iterate 3 refine oM rfl rfl ?_
         refine oQ (Q_build rfl rfl rfl rfl rfl rfl rfl rfl) rfl rfl ?_
         refine oBsl rfl rfl rfl rfl (.inr ⟨rfl, rfl, by decide⟩) rfl rfl rfl rfl rfl rfl ?_
         refine oApp (sz := 3) (by_ := 24) (xl := [1, (y : Int), (z : Int)]) rfl rfl rfl rfl rfl rfl ⟨by decide, rfl, .inr rfl⟩ rfl rfl rfl rfl rfl rfl hlen rfl (by omega) (by omega) (by omega) (by omega) rfl rfl (fun k2 sp2 h1 h2 => ?_)
         refine oA rfl rfl ?_
         refine OW_nil ?_
         all_goals first | with_reducible refine bN ?_ | with_reducible refine bE ?_ | with_reducible refine bR ?_ | refine bX rfl ?_
         all_goals with_reducible refine tN ?_
         all_goals (
          refine CW_region ?_
          first | refine oQ (Q_binu rfl rfl rfl (by omega)) rfl rfl ?_ | refine oQ (Q_bin rfl rfl rfl) rfl rfl ?_
          refine oM rfl rfl ?_
          refine OW_nil ?_))
      all_goals first
        | with_reducible refine tR ?_
        | with_reducible refine tE ?_
        | (
         with_reducible refine tN ?_
         refine ⟨(z + 1, k2, sp2), ?_, ?_, View.mk' [(0, 2)] rfl rfl rfl ?_ ?_⟩
         · rw [ptsTo_length] at h1 h2 ⊢; exact ⟨by omega, by dsimp only; omega, by dsimp only; omega⟩
         · omega
         all_goals (repeat' first | exact vFn | refine vFc rfl ?_ | exact vHn | refine vHc rfl ?_ | refine vFc (congrArg (fun z => some (V.int z)) ?_) ?_ | refine vHc (congrArg (fun z => some (Blk.ints _ z)) ?_) ?_ | refine vFc (congrArg (fun z => some (V.bool z)) ?_) ?_ | refine vFs rfl rfl ?_ ?_)
         all_goals rw [ptsTo_next]
         all_goals simp)
      all_goals first | with_reducible refine bN ?_ | with_reducible refine bE ?_ | with_reducible refine bR ?_ | refine bX rfl ?_
      all_goals first | with_reducible refine bN ?_ | with_reducible refine bE ?_ | with_reducible refine bR ?_ | refine bX rfl ?_
      all_goals with_reducible refine tN ?_
      all_goals (
       refine CW_region ?_
       first | refine oQ (Q_binu rfl rfl rfl (by omega)) rfl rfl ?_ | refine oQ (Q_bin rfl rfl rfl) rfl rfl ?_
       refine oM rfl rfl ?_
       refine OW_nil ?_))
   all_goals first
     | with_reducible refine tR ?_
     | with_reducible refine tE ?_
     | (
      with_reducible refine tN ?_
      refine ⟨(y + 1, k, sp), ?_, ?_, View.mk' [] rfl rfl rfl ?_ ?_⟩
      · (have e : z = n := by omega); subst e; dsimp only; rw [← ptsTo_row]; exact ⟨by omega, hk, hsp⟩
      · omega
      all_goals (repeat' first | exact vFn | refine vFc rfl ?_ | exact vHn | refine vHc rfl ?_ | refine vFc (congrArg (fun z => some (V.int z)) ?_) ?_ | refine vHc (congrArg (fun z => some (Blk.ints _ z)) ?_) ?_ | refine vFc (congrArg (fun z => some (V.bool z)) ?_) ?_ | refine vFs rfl rfl ?_ ?_)
      all_goals (have e : z = n := by omega)
      all_goals subst e
      all_goals rw [ptsTo_row])
   all_goals first | with_reducible refine bN ?_ | with_reducible refine bE ?_ | with_reducible refine bR ?_ | refine bX rfl ?_
   all_goals with_reducible refine tN ?_
   all_goals (
    refine cR ?_
    refine oM rfl rfl ?_
    refine oA rfl rfl ?_
    refine oN ?_
    refine CW_ret ?_))
  all_goals (
   have e : y = n := by omega
   subst e
   exact exitH (.inr rfl) [] 1 (.cons (.tmp rfl rfl) .nil) rfl rfl rfl (vHc rfl vHn) rfl rfl ⟨k, sp, hk, hsp, rfl, rfl⟩)
theorem l01Points_n (n : Nat) (hn : n ≤ 13) : Con Tryd.prog [] 86 [.int (n : Int)] [] (ownR 3 29 [] 0 (ptsTo n n 0)) := by
  refine conW tab_ok [(0, .int (n : Int))] 0 [] [] Tryd.func86 rfl rfl rfl rfl rfl rfl rfl rfl rfl ?_
  refine cR ?_
  refine oA rfl rfl ?_
  refine oN ?_
  refine cR ?_
  refine oQ (Q_build rfl rfl rfl rfl rfl rfl rfl rfl) rfl rfl ?_
  refine oBsl rfl rfl rfl rfl (.inr ⟨rfl, rfl, by decide⟩) rfl rfl rfl rfl rfl rfl ?_
  refine oA rfl rfl ?_
  refine oN ?_
  refine CW_seq ?_
  refine cR ?_
  refine oA rfl rfl ?_
  refine oN ?_
  refine CW_block ?_
  refine CW_loop (ι := Nat × Nat × List Int) (fun x => x.1 ≤ n ∧ 1 + x.1 ≤ x.2.1 ∧ x.2.1 * 3 ≤ (1 + x.1) * 3 + x.2.2.length) (fun x => ⟨[(0, .int (n : Int)), (3, .slice 0 0 (1 + x.1) x.2.1), (4, .int (x.1 : Int))], [(0, .ints 29 (([[0, 0, 1]] ++ row1 x.1).flatten ++ x.2.2))], 1⟩) (fun x => n - x.1) (0, 1, []) ?_ ?_ ?_
  · first | trivial | omega | (simp; done) | (simp; omega)
  · refine View.mk' [] rfl rfl rfl ?_ ?_
    repeat' first | exact vFn | refine vFc rfl ?_ | exact vHn | refine vHc rfl ?_ | refine vFc (congrArg (fun z => some (V.int z)) ?_) ?_ | refine vHc (congrArg (fun z => some (Blk.ints _ z)) ?_) ?_ | refine vFc (congrArg (fun z => some (V.bool z)) ?_) ?_ | refine vFs rfl rfl ?_ ?_
    skip
  rintro ⟨i, k, sp⟩ ⟨hi, hk, hsp⟩
  dsimp only at hi hk hsp ⊢
  have hlen : ([[0, 0, 1]] ++ row1 i).flatten.length = (1 + i) * 3 := by rw [flat3 (sz := 3) (fun x hx => row1_three hx)]; simp [row1_length]; omega
  refine CW_seq ?_
  refine cR ?_
  iterate 2 refine oM rfl rfl ?_
  refine oQ (Q_bin rfl rfl rfl) rfl rfl ?_
  refine oN ?_
  first | refine cT rfl ?_ | refine cF rfl ?_ | refine CW_cond rfl (fun hc => ?_) (fun hc => ?_)
  all_goals try simp only [s1, s2, s3, s4, s5, s6, s7, s8, s9, s10, s11, s12] at hc
  all_goals first
    | (
     refine CW_skip ?_)
    | (
     refine CW_exit ?_)
  all_goals first
    | with_reducible refine tR ?_
    | with_reducible refine tE ?_
    | (
     with_reducible refine tN ?_
     refine CW_seq ?_
     refine CW_block ?_
     refine CW_region ?_
     iterate 2 refine oM rfl rfl ?_
     refine oQ (Q_build rfl rfl rfl rfl rfl rfl rfl rfl) rfl rfl ?_
     refine oBsl rfl rfl rfl rfl (.inr ⟨rfl, rfl, by decide⟩) rfl rfl rfl rfl rfl rfl ?_
     refine oApp (sz := 3) (by_ := 24) (xl := [0, 1, (i : Int)]) rfl rfl rfl rfl rfl rfl ⟨by decide, rfl, .inr rfl⟩ rfl rfl rfl rfl rfl rfl hlen rfl (by omega) (by omega) (by omega) (by omega) rfl rfl (fun k2 sp2 h1 h2 => ?_)
     refine oA rfl rfl ?_
     refine OW_nil ?_
     all_goals first | with_reducible refine bN ?_ | with_reducible refine bE ?_ | with_reducible refine bR ?_ | refine bX rfl ?_
     all_goals with_reducible refine tN ?_
     all_goals (
      refine CW_region ?_
      refine oM rfl rfl ?_
      first | refine oQ (Q_binu rfl rfl rfl (by omega)) rfl rfl ?_ | refine oQ (Q_bin rfl rfl rfl) rfl rfl ?_
      refine oA rfl rfl ?_
      refine OW_nil ?_))
  all_goals first
    | with_reducible refine tR ?_
    | with_reducible refine tE ?_
    | (
     with_reducible refine tN ?_
     refine ⟨(i + 1, k2, sp2), ?_, ?_, View.mk' [(0, 2)] rfl rfl rfl ?_ ?_⟩
     · exact ⟨by omega, by omega, by omega⟩
     · omega
     all_goals (repeat' first | exact vFn | refine vFc rfl ?_ | exact vHn | refine vHc rfl ?_ | refine vFc (congrArg (fun z => some (V.int z)) ?_) ?_ | refine vHc (congrArg (fun z => some (Blk.ints _ z)) ?_) ?_ | refine vFc (congrArg (fun z => some (V.bool z)) ?_) ?_ | refine vFs rfl rfl ?_ ?_)
     all_goals first | (rw [row1_snoc]; simp; done) | fail
     all_goals simp)
  all_goals first | with_reducible refine bN ?_ | with_reducible refine bE ?_ | with_reducible refine bR ?_ | refine bX rfl ?_
  all_goals with_reducible refine tN ?_
  all_goals (
   refine CW_seq ?_
   refine cR ?_
   refine oA rfl rfl ?_
   refine oN ?_
   refine CW_block ?_
   refine CW_loop (ι := Nat × Nat × List Int) (fun x => x.1 ≤ n ∧ (ptsTo n x.1 0).length ≤ x.2.1 ∧ x.2.1 * 3 ≤ (ptsTo n x.1 0).length * 3 + x.2.2.length) (fun x => ⟨[(0, .int (n : Int)), (3, .slice 0 0 (ptsTo n x.1 0).length x.2.1), (5, .int (x.1 : Int))], [(0, .ints 29 ((ptsTo n x.1 0).flatten ++ x.2.2))], 1⟩) (fun x => n - x.1) (0, k, sp) ?_ ?_ ?_
   · (have e : i = n := by omega); subst e; simp only [ptsTo_length]; exact ⟨Nat.zero_le _, by omega, by omega⟩
   · refine View.mk' [] rfl rfl rfl ?_ ?_
     repeat' first | exact vFn | refine vFc rfl ?_ | exact vHn | refine vHc rfl ?_ | refine vFc (congrArg (fun z => some (V.int z)) ?_) ?_ | refine vHc (congrArg (fun z => some (Blk.ints _ z)) ?_) ?_ | refine vFc (congrArg (fun z => some (V.bool z)) ?_) ?_ | refine vFs rfl rfl ?_ ?_
     all_goals (have e : i = n := by omega)
     all_goals subst e
     all_goals first | (rw [ptsTo_length]; omega) | (rw [← ptsTo_start])
   rintro ⟨y, k, sp⟩ ⟨hy, hk, hsp⟩
   dsimp only at hy hk hsp ⊢
   have hq := sq_bound hn hy
   refine CW_seq ?_
   refine cR ?_
   iterate 2 refine oM rfl rfl ?_
   refine oQ (Q_bin rfl rfl rfl) rfl rfl ?_
   refine oN ?_
   first | refine cT rfl ?_ | refine cF rfl ?_ | refine CW_cond rfl (fun hc => ?_) (fun hc => ?_)
   all_goals try simp only [s1, s2, s3, s4, s5, s6, s7, s8, s9, s10, s11, s12] at hc
   all_goals first
     | (
      refine CW_skip ?_)
     | (
      refine CW_exit ?_)
   all_goals first
     | with_reducible refine tR ?_
     | with_reducible refine tE ?_
     | (
      with_reducible refine tN ?_
      refine CW_seq ?_
      refine CW_block ?_
      refine cR ?_
      refine oA rfl rfl ?_
      refine oN ?_
      refine CW_block ?_
      refine CW_loop (ι := Nat × Nat × List Int) (fun x => x.1 ≤ n ∧ (ptsTo n y x.1).length ≤ x.2.1 ∧ x.2.1 * 3 ≤ (ptsTo n y x.1).length * 3 + x.2.2.length) (fun x => ⟨[(0, .int (n : Int)), (3, .slice 0 0 (ptsTo n y x.1).length x.2.1), (5, .int (y : Int)), (6, .int (x.1 : Int))], [(0, .ints 29 ((ptsTo n y x.1).flatten ++ x.2.2))], 1⟩) (fun x => n - x.1) (0, k, sp) ?_ ?_ ?_
      · exact ⟨Nat.zero_le _, hk, hsp⟩
      · refine View.mk' [] rfl rfl rfl ?_ ?_
        repeat' first | exact vFn | refine vFc rfl ?_ | exact vHn | refine vHc rfl ?_ | refine vFc (congrArg (fun z => some (V.int z)) ?_) ?_ | refine vHc (congrArg (fun z => some (Blk.ints _ z)) ?_) ?_ | refine vFc (congrArg (fun z => some (V.bool z)) ?_) ?_ | refine vFs rfl rfl ?_ ?_
      rintro ⟨z, k, sp⟩ ⟨hz, hk, hsp⟩
      dsimp only at hz hk hsp ⊢
      have hl2 := ptsTo_length n y z
      have hlen := flat3 (sz := 3) (L := ptsTo n y z) (fun x hx => ptsTo_three hx)
      refine CW_seq ?_
      refine cR ?_
      iterate 2 refine oM rfl rfl ?_
      refine oQ (Q_bin rfl rfl rfl) rfl rfl ?_
      refine oN ?_
      first | refine cT rfl ?_ | refine cF rfl ?_ | refine CW_cond rfl (fun hc => ?_) (fun hc => ?_)
      all_goals try simp only [s1, s2, s3, s4, s5, s6, s7, s8, s9, s10, s11, s12] at hc
      all_goals first
        | (
         refine CW_skip ?_)
        | (
         refine CW_exit ?_)
      all_goals first
        | with_reducible refine tR ?_
        | with_reducible refine tE ?_
        | (
         with_reducible refine tN ?_
         refine CW_seq ?_
         refine CW_block ?_
         refine CW_region ?_
         iterate 3 refine oM rfl rfl ?_
         refine oQ (Q_build rfl rfl rfl rfl rfl rfl rfl rfl) rfl rfl ?_
         refine oBsl rfl rfl rfl rfl (.inr ⟨rfl, rfl, by decide⟩) rfl rfl rfl rfl rfl rfl ?_
         refine oApp (sz := 3) (by_ := 24) (xl := [1, (y : Int), (z : Int)]) rfl rfl rfl rfl rfl rfl ⟨by decide, rfl, .inr rfl⟩ rfl rfl rfl rfl rfl rfl hlen rfl (by omega) (by omega) (by omega) (by omega) rfl rfl (fun k2 sp2 h1 h2 => ?_)
         refine oA rfl rfl ?_
         refine OW_nil ?_
         all_goals first | with_reducible refine bN ?_ | with_reducible refine bE ?_ | with_reducible refine bR ?_ | refine bX rfl ?_
         all_goals with_reducible refine tN ?_
         all_goals (
          refine CW_region ?_
          refine oM rfl rfl ?_
          first | refine oQ (Q_binu rfl rfl rfl (by omega)) rfl rfl ?_ | refine oQ (Q_bin rfl rfl rfl) rfl rfl ?_
          refine oA rfl rfl ?_
          refine OW_nil ?_))
      all_goals first
        | with_reducible refine tR ?_
        | with_reducible refine tE ?_
        | (
         with_reducible refine tN ?_
         refine ⟨(z + 1, k2, sp2), ?_, ?_, View.mk' [(0, 2)] rfl rfl rfl ?_ ?_⟩
         · rw [ptsTo_length] at h1 h2 ⊢; exact ⟨by omega, by dsimp only; omega, by dsimp only; omega⟩
         · omega
         all_goals (repeat' first | exact vFn | refine vFc rfl ?_ | exact vHn | refine vHc rfl ?_ | refine vFc (congrArg (fun z => some (V.int z)) ?_) ?_ | refine vHc (congrArg (fun z => some (Blk.ints _ z)) ?_) ?_ | refine vFc (congrArg (fun z => some (V.bool z)) ?_) ?_ | refine vFs rfl rfl ?_ ?_)
         all_goals rw [ptsTo_next]
         all_goals simp)
      all_goals first | with_reducible refine bN ?_ | with_reducible refine bE ?_ | with_reducible refine bR ?_ | refine bX rfl ?_
      all_goals first | with_reducible refine bN ?_ | with_reducible refine bE ?_ | with_reducible refine bR ?_ | refine bX rfl ?_
      all_goals with_reducible refine tN ?_
      all_goals (
       refine CW_region ?_
       refine oM rfl rfl ?_
       first | refine oQ (Q_binu rfl rfl rfl (by omega)) rfl rfl ?_ | refine oQ (Q_bin rfl rfl rfl) rfl rfl ?_
       refine oA rfl rfl ?_
       refine OW_nil ?_))
   all_goals first
     | with_reducible refine tR ?_
     | with_reducible refine tE ?_
     | (
      with_reducible refine tN ?_
      refine ⟨(y + 1, k, sp), ?_, ?_, View.mk' [] rfl rfl rfl ?_ ?_⟩
      · (have e : z = n := by omega); subst e; dsimp only; rw [← ptsTo_row]; exact ⟨by omega, hk, hsp⟩
      · omega
      all_goals (repeat' first | exact vFn | refine vFc rfl ?_ | exact vHn | refine vHc rfl ?_ | refine vFc (congrArg (fun z => some (V.int z)) ?_) ?_ | refine vHc (congrArg (fun z => some (Blk.ints _ z)) ?_) ?_ | refine vFc (congrArg (fun z => some (V.bool z)) ?_) ?_ | refine vFs rfl rfl ?_ ?_)
      all_goals (have e : z = n := by omega)
      all_goals subst e
      all_goals rw [ptsTo_row])
   all_goals first | with_reducible refine bN ?_ | with_reducible refine bE ?_ | with_reducible refine bR ?_ | refine bX rfl ?_
   all_goals with_reducible refine tN ?_
   all_goals (
    refine cR ?_
    refine oM rfl rfl ?_
    refine oA rfl rfl ?_
    refine oN ?_
    refine CW_ret ?_))
  all_goals (
   have e : y = n := by omega
   subst e
   exact exitH (.inr rfl) [] 1 (.cons (.tmp rfl rfl) .nil) rfl rfl rfl (vHc rfl vHn) rfl rfl ⟨k, sp, hk, hsp, rfl, rfl⟩)
theorem of_prime {p : Int} (hp : primeB p = true) : ∃ n : Nat, p = (n : Int) ∧ n ≤ 13 := by
  have := prime_bd hp
  exact ⟨p.toNat, by omega, by omega⟩
theorem allPoints_con (p : Int) (hp : primeB p = true) : Con Tryd.prog [] 88 [.int p] [] (ownR 3 29 [] 0 (allPts p)) := by
  obtain ⟨n, e, hn⟩ := of_prime hp
  rw [← ptsTo_all e, e]
  exact allPoints_n n hn
theorem l01Points_con (p : Int) (hp : primeB p = true) : Con Tryd.prog [] 86 [.int p] [] (ownR 3 29 [] 0 (allPts p)) := by
  obtain ⟨n, e, hn⟩ := of_prime hp
  rw [← ptsTo_all e, e]
  exact l01Points_n n hn
end Go.Proofs.YtcklfkblhmlbbaaDoor
namespace Go.Proofs.YtcklfkblhmlbbaaDoor
attribute [local irreducible] CW OW QW QOp Con thenP inBlockP
set_option maxRecDepth 10000
set_option linter.unusedSimpArgs false
set_option linter.unusedVariables false
theorem notnot {L : List (List Int)} {g : List Int → Bool} : (L.filter fun x => !(fun x => !g x) x) = L.filter g := by congr 1; funext x; simp
theorem allPts_len {p : Int} (hp : primeB p = true) : (allPts p).length ≤ 183 ∧ 13 ≤ (allPts p).length := by
  obtain ⟨n, rfl, hn⟩ := of_prime hp
  have hb := prime_bd hp
  rw [← ptsTo_all rfl, ptsTo_length]
  have h1 : n * n ≤ 13 * 13 := Nat.mul_le_mul hn hn
  have h2 : 3 * 3 ≤ n * n := Nat.mul_le_mul (by omega) (by omega)
  omega
theorem idxPointD2 (f : Nat) (t0 : TypeId) (L0 : List Int) (t1 : TypeId) (L1 : List Int) (g : List Int → Bool) (tM : TypeId) (L : List (List Int)) (sp : List Int) (k ck : Nat) (hk : k = L.length) (h3 : ∀ x ∈ L, x.length = 3) (hk9 : L.length ≤ 1000000000) (hf : ∀ m, m ∈ L → ConQ Tryd.prog [] 89 [.arr m, .ptr 1002 0] [(1000, .ints t0 L0), (1001, .ints t1 L1), (1002, .vals 70 [.func f [] [.ptr 1000 0, .ptr 1001 0]])] (.bool (g m))) : ConQ Tryd.prog [] 115 [.slice 0 0 k ck, .func 89 [] [.ptr 1002 0]] [(0, .ints tM (L.flatten ++ sp)), (1000, .ints t0 L0), (1001, .ints t1 L1), (1002, .vals 70 [.func f [] [.ptr 1000 0, .ptr 1001 0]])] (.int (idxL g L)) := by
  have hfl := flat3 h3
  refine conW tab_ok [(0, .slice 0 0 k ck), (1, .func 89 [] [.ptr 1002 0])] 1 [0, 1000, 1001, 1002] [0, 1000, 1001, 1002] Tryd.func115 rfl rfl rfl rfl rfl rfl rfl rfl rfl ?_
  refine cR ?_
  refine oA rfl rfl ?_
  refine oN ?_
  refine CW_seq ?_
  refine cR ?_
  refine oM rfl rfl ?_
  first | refine oQ (Q_len rfl rfl rfl rfl) rfl rfl ?_ | refine oQ (Q_len0 rfl rfl rfl rfl) rfl rfl ?_
  refine oM rfl rfl ?_
  refine oN ?_
  refine CW_block ?_
  refine CW_loop (ι := Nat) (fun i => i ≤ L.length ∧ ∀ j, j < i → g (L.getD j []) = false) (fun i => ⟨[(0, .slice 0 0 k ck), (1, .func 89 [] [.ptr 1002 0]), (7, .int k), (8, .int i)], [(0, .ints tM (L.flatten ++ sp)), (1000, .ints t0 L0), (1001, .ints t1 L1), (1002, .vals 70 [.func f [] [.ptr 1000 0, .ptr 1001 0]])], 1⟩) (fun i => L.length - i) 0 ?_ ?_ ?_
  · exact ⟨Nat.zero_le _, fun j h => absurd h (Nat.not_lt_zero _)⟩
  · refine View.mk' [] rfl rfl rfl ?_ ?_
    repeat' first | exact vFn | refine vFc rfl ?_ | exact vHn | refine vHc rfl ?_ | refine vFc (congrArg (fun z => some (V.int z)) ?_) ?_ | refine vHc (congrArg (fun z => some (Blk.ints _ z)) ?_) ?_ | refine vFc (congrArg (fun z => some (V.bool z)) ?_) ?_ | refine vFs rfl rfl ?_ ?_
  rintro i ⟨hi, hi2⟩
  refine cR ?_
  refine oQ (Q_bin rfl rfl rfl) rfl rfl ?_
  refine oN ?_
  refine CW_seq ?_
  first | refine cT rfl ?_ | refine cF rfl ?_ | refine CW_cond rfl (fun hc => ?_) (fun hc => ?_)
  all_goals try simp only [s1, s2, s3, s4, s5, s6, s7, s8, s9, s10, s11, s12] at hc
  all_goals first
    | (
     refine CW_skip ?_)
    | (
     refine CW_exit ?_)
  all_goals first
    | with_reducible refine tR ?_
    | with_reducible refine tE ?_
    | (
     with_reducible refine tN ?_
     refine CW_seq ?_
     refine CW_block ?_
     refine cR ?_
     refine oM rfl rfl ?_
     refine oA rfl rfl ?_
     refine oN ?_
     refine cR ?_
     iterate 3 refine oM rfl rfl ?_
     first | refine oQ (Q_ixs0z 3 rfl rfl rfl rfl rfl rfl (by first | omega | (dsimp only; omega) | (simp; omega) | (simp; done))) rfl rfl ?_ | refine oQ (Q_ixsz 3 rfl rfl rfl rfl rfl rfl (by first | omega | (dsimp only; omega) | (simp; omega) | (simp; done))) rfl rfl ?_
     refine oQ (Q_lda (n := 3) rfl rfl rfl rfl rfl (by rw [List.length_append, hfl]; omega)) rfl rfl ?_; rw [flat_get h3 (show i < L.length by omega)]
     refine oQ (Q_callf (hf _ (getD_mem (by omega))) [] rfl rfl rfl (Fits.mk' (vHc rfl (vHc rfl (vHc rfl vHn))) rfl rfl (by first | (simp; done) | exact glOk rfl rfl rfl)) rfl rfl) rfl rfl ?_
     refine oN ?_
     first | refine cT rfl ?_ | refine cF rfl ?_ | refine CW_cond rfl (fun hc => ?_) (fun hc => ?_)
     all_goals try simp only [s1, s2, s3, s4, s5, s6, s7, s8, s9, s10, s11, s12] at hc
     all_goals first
       | (
        refine CW_skip ?_)
       | (
        refine cR ?_
        refine oM rfl rfl ?_
        refine oA rfl rfl ?_
        refine oN ?_
        refine CW_ret ?_)
     all_goals first | with_reducible refine bN ?_ | with_reducible refine bE ?_ | with_reducible refine bR ?_ | refine bX rfl ?_
     all_goals first
       | with_reducible refine tR ?_
       | with_reducible refine tE ?_
       | (
        with_reducible refine tN ?_
        refine CW_region ?_
        first | refine oQ (Q_binu rfl rfl rfl (by omega)) rfl rfl ?_ | refine oQ (Q_bin rfl rfl rfl) rfl rfl ?_
        refine oM rfl rfl ?_
        refine OW_nil ?_))
  all_goals first
    | with_reducible refine tR ?_
    | with_reducible refine tE ?_
    | (
     with_reducible refine tN ?_
     refine ⟨i + 1, ?_, ?_, View.mk' [] rfl rfl rfl ?_ ?_⟩
     · refine ⟨by omega, fun j hj => ?_⟩
       by_cases e : j = i
       · subst e; exact hc
       · exact hi2 j (by omega)
     · omega
     all_goals (repeat' first | exact vFn | refine vFc rfl ?_ | exact vHn | refine vHc rfl ?_ | refine vFc (congrArg (fun z => some (V.int z)) ?_) ?_ | refine vHc (congrArg (fun z => some (Blk.ints _ z)) ?_) ?_ | refine vFc (congrArg (fun z => some (V.bool z)) ?_) ?_ | refine vFs rfl rfl ?_ ?_))
  all_goals first | with_reducible refine bN ?_ | with_reducible refine bE ?_ | with_reducible refine bR ?_ | refine bX rfl ?_
  all_goals first
    | with_reducible refine tR ?_
    | with_reducible refine tE ?_
    | (
     with_reducible refine tN ?_
     refine cR ?_
     refine oA rfl rfl ?_
     refine oN ?_
     refine CW_ret ?_)
  all_goals (
   refine exitQ (.inr rfl) 1 (.cons (.tmp rfl rfl) .nil) ?_ rfl (vHc rfl (vHc rfl (vHc rfl (vHc rfl vHn)))) rfl rfl
   first
     | exact congrArg V.int (idxL_found (by omega) hi2 hc).symm
     | exact congrArg V.int (idxL_none (fun j hj => hi2 j (by omega))).symm)
theorem delPointD2 (f : Nat) (t0 : TypeId) (L0 : List Int) (t1 : TypeId) (L1 : List Int) (g : List Int → Bool) (tM : TypeId) (L : List (List Int)) (sp : List Int) (ck : Nat) (h3 : ∀ x ∈ L, x.length = 3) (hk9 : L.length ≤ 1000000000) (hck : L.length ≤ ck) (hf : ∀ m, m ∈ L → ConQ Tryd.prog [] 89 [.arr m, .ptr 1002 0] [(1000, .ints t0 L0), (1001, .ints t1 L1), (1002, .vals 70 [.func f [] [.ptr 1000 0, .ptr 1001 0]])] (.bool (g m))) : Con Tryd.prog [] 87 [.slice 0 0 L.length ck, .func 89 [] [.ptr 1002 0]] [(0, .ints tM (L.flatten ++ sp)), (1000, .ints t0 L0), (1001, .ints t1 L1), (1002, .vals 70 [.func f [] [.ptr 1000 0, .ptr 1001 0]])] (fun r H' => ∃ z, z.length = (L.length - (L.filter fun x => !g x).length) * 3 ∧ r = .slice 0 0 (L.filter fun x => !g x).length ck ∧ H' = [(0, .ints tM ((L.filter fun x => !g x).flatten ++ (z ++ sp))), (1000, .ints t0 L0), (1001, .ints t1 L1), (1002, .vals 70 [.func f [] [.ptr 1000 0, .ptr 1001 0]])]) := by
  have hfl := flat3 h3
  rcases idxL_cases g L with ⟨hix, hix1⟩ | ⟨a, hix, ha, ha1, ha2⟩
  · have hall : (L.filter fun x => !g x) = L := by rw [List.filter_eq_self]; intro x hx; simp [hix1 x hx]
    rw [hall]
    refine conW tab_ok [(0, .slice 0 0 L.length ck), (1, .func 89 [] [.ptr 1002 0])] 1 [0, 1000, 1001, 1002] [0, 1000, 1001, 1002] Tryd.func87 rfl rfl rfl rfl rfl rfl rfl rfl rfl ?_
    refine cR ?_
    refine oA rfl rfl ?_
    refine oN ?_
    refine cR ?_
    iterate 2 refine oM rfl rfl ?_
    refine oQ (Q_call (idxPointD2 f t0 L0 t1 L1 g tM L sp L.length ck rfl h3 hk9 hf) [] rfl rfl (Fits.mk' (vHc rfl (vHc rfl (vHc rfl (vHc rfl vHn)))) rfl rfl (by first | (simp; done) | exact glOk rfl rfl rfl)) rfl rfl) rfl rfl ?_
    refine oA rfl rfl ?_
    refine oN ?_
    refine CW_seq ?_
    refine cR ?_
    refine oM rfl rfl ?_
    refine oQ (Q_bin rfl rfl rfl) rfl rfl ?_; rw [hix]
    refine oN ?_
    first | refine cT rfl ?_ | refine cF rfl ?_ | refine CW_cond rfl (fun hc => ?_) (fun hc => ?_)
    all_goals try simp only [s1, s2, s3, s4, s5, s6, s7, s8, s9, s10, s11, s12] at hc
    all_goals try (exfalso; first | omega | (simp at hc); done)
    all_goals first
      | (
       refine CW_skip ?_)
      | (
       refine cR ?_
       refine oM rfl rfl ?_
       refine oA rfl rfl ?_
       refine oN ?_
       refine CW_ret ?_)
    all_goals first
      | with_reducible refine tR ?_
      | with_reducible refine tE ?_
      | (
       with_reducible refine tN ?_
       refine CW_seq ?_
       refine cR ?_
       refine oM rfl rfl ?_
       first | refine oQ (Q_binu rfl rfl rfl (by omega)) rfl rfl ?_ | refine oQ (Q_bin rfl rfl rfl) rfl rfl ?_
       refine oA rfl rfl ?_
       refine oN ?_
       refine CW_block ?_
       exfalso; simp at hc
       · first | trivial | omega | (simp; done) | (simp; omega)
       · refine View.mk' [] rfl rfl rfl ?_ ?_
         repeat' first | exact vFn | refine vFc rfl ?_ | exact vHn | refine vHc rfl ?_ | refine vFc (congrArg (fun z => some (V.int z)) ?_) ?_ | refine vHc (congrArg (fun z => some (Blk.ints _ z)) ?_) ?_ | refine vFc (congrArg (fun z => some (V.bool z)) ?_) ?_ | refine vFs rfl rfl ?_ ?_
       intro i hi
       refine CW_seq ?_
       refine cR ?_
       iterate 2 refine oM rfl rfl ?_
       first | refine oQ (Q_len rfl rfl rfl rfl) rfl rfl ?_ | refine oQ (Q_len0 rfl rfl rfl rfl) rfl rfl ?_
       refine oQ (Q_bin rfl rfl rfl) rfl rfl ?_
       refine oN ?_
       first | refine cT rfl ?_ | refine cF rfl ?_ | refine CW_cond rfl (fun hc => ?_) (fun hc => ?_)
       all_goals try simp only [s1, s2, s3, s4, s5, s6, s7, s8, s9, s10, s11, s12] at hc
       all_goals try (exfalso; first | omega | (simp at hc); done)
       all_goals first
         | (
          refine CW_skip ?_)
         | (
          refine CW_exit ?_)
       all_goals first
         | with_reducible refine tR ?_
         | with_reducible refine tE ?_
         | (
          with_reducible refine tN ?_
          refine CW_seq ?_
          refine CW_block ?_
          refine cR ?_
          iterate 2 refine oM rfl rfl ?_
          first | refine oQ (Q_ixs0z 3 rfl rfl rfl rfl rfl rfl (by first | omega | (dsimp only; omega) | (simp; omega) | (simp; done))) rfl rfl ?_ | refine oQ (Q_ixsz 3 rfl rfl rfl rfl rfl rfl (by first | omega | (dsimp only; omega) | (simp; omega) | (simp; done))) rfl rfl ?_
          first | refine oQ (Lw rfl rfl rfl rfl) rfl rfl ?_ | refine oQ (La rfl rfl rfl rfl rfl) rfl rfl ?_
          refine oAlloc rfl rfl rfl rfl rfl rfl rfl ?_
          first | refine oSw rfl rfl rfl rfl ?_ | refine oSa rfl rfl rfl rfl ?_
          refine oN ?_
          refine cR ?_
          refine oM rfl rfl ?_
          first | refine oQ (Lw rfl rfl rfl rfl) rfl rfl ?_ | refine oQ (La rfl rfl rfl rfl rfl) rfl rfl ?_
          fail "call of a value at slot 28"
          refine oQ (Q_not rfl) rfl rfl ?_
          refine oN ?_
          first | refine cT rfl ?_ | refine cF rfl ?_ | refine CW_cond rfl (fun hc => ?_) (fun hc => ?_)
          all_goals try simp only [s1, s2, s3, s4, s5, s6, s7, s8, s9, s10, s11, s12] at hc
          all_goals try (exfalso; first | omega | (simp at hc); done)
          all_goals first
            | (
             refine CW_skip ?_)
            | (
             refine cR ?_
             iterate 2 refine oM rfl rfl ?_
             first | refine oQ (Lw rfl rfl rfl rfl) rfl rfl ?_ | refine oQ (La rfl rfl rfl rfl rfl) rfl rfl ?_
             first | refine oQ (Q_ixs0z 3 rfl rfl rfl rfl rfl rfl (by first | omega | (dsimp only; omega) | (simp; omega) | (simp; done))) rfl rfl ?_ | refine oQ (Q_ixsz 3 rfl rfl rfl rfl rfl rfl (by first | omega | (dsimp only; omega) | (simp; omega) | (simp; done))) rfl rfl ?_
             first | refine oSw rfl rfl rfl rfl ?_ | refine oSa rfl rfl rfl rfl ?_
             refine oN ?_
             refine CW_region ?_
             refine oM rfl rfl ?_
             first | refine oQ (Q_binu rfl rfl rfl (by omega)) rfl rfl ?_ | refine oQ (Q_bin rfl rfl rfl) rfl rfl ?_
             refine oA rfl rfl ?_
             refine OW_nil ?_)
          all_goals first | with_reducible refine bN ?_ | with_reducible refine bE ?_ | with_reducible refine bR ?_ | refine bX rfl ?_
          all_goals with_reducible refine tN ?_
          all_goals (
           refine CW_region ?_
           refine oM rfl rfl ?_
           first | refine oQ (Q_binu rfl rfl rfl (by omega)) rfl rfl ?_ | refine oQ (Q_bin rfl rfl rfl) rfl rfl ?_
           refine oA rfl rfl ?_
           refine OW_nil ?_))
       all_goals first
         | with_reducible refine tR ?_
         | with_reducible refine tE ?_
         | (
          with_reducible refine tN ?_
          fail "again 0")
       all_goals first | with_reducible refine bN ?_ | with_reducible refine bE ?_ | with_reducible refine bR ?_ | refine bX rfl ?_
       all_goals with_reducible refine tN ?_
       all_goals (
        refine cR ?_
        iterate 2 refine oM rfl rfl ?_
        refine oQ (Q_slsL 3 rfl rfl rfl rfl rfl rfl (by first | omega | (dsimp only; omega) | (simp; omega) | (simp; done)) (by first | omega | (dsimp only; omega) | (simp; omega) | (simp; done))) rfl rfl ?_
        fail "builtin clear at slot None"
        refine oN ?_
        refine cR ?_
        iterate 2 refine oM rfl rfl ?_
        refine oQ (Q_slsH rfl rfl rfl rfl rfl (by first | omega | (dsimp only; omega) | (simp; omega) | (simp; done))) rfl rfl ?_
        refine oA rfl rfl ?_
        refine oN ?_
        refine CW_ret ?_))
    all_goals (
     exact exitH (r0 := .slice 0 0 L.length ck) (.inr rfl) [] 1 (.cons (.tmp rfl rfl) .nil) rfl rfl rfl (vHc rfl (vHc rfl (vHc rfl (vHc rfl vHn)))) rfl rfl ⟨[], by simp, rfl, rfl⟩)
  · have hall : ((L.take a).filter fun x => !g x) = L.take a := by rw [List.filter_eq_self]; intro x hx; simp [ha2 x hx]
    refine conW tab_ok [(0, .slice 0 0 L.length ck), (1, .func 89 [] [.ptr 1002 0])] 1 [0, 1000, 1001, 1002] [0, 1000, 1001, 1002] Tryd.func87 rfl rfl rfl rfl rfl rfl rfl rfl rfl ?_
    refine cR ?_
    refine oA rfl rfl ?_
    refine oN ?_
    refine cR ?_
    iterate 2 refine oM rfl rfl ?_
    refine oQ (Q_call (idxPointD2 f t0 L0 t1 L1 g tM L sp L.length ck rfl h3 hk9 hf) [] rfl rfl (Fits.mk' (vHc rfl (vHc rfl (vHc rfl (vHc rfl vHn)))) rfl rfl (by first | (simp; done) | exact glOk rfl rfl rfl)) rfl rfl) rfl rfl ?_
    refine oA rfl rfl ?_
    refine oN ?_
    refine CW_seq ?_
    refine cR ?_
    refine oM rfl rfl ?_
    refine oQ (Q_bin rfl rfl rfl) rfl rfl ?_
    refine oN ?_
    first | refine cT rfl ?_ | refine cF rfl ?_ | refine CW_cond rfl (fun hc => ?_) (fun hc => ?_)
    all_goals try simp only [s1, s2, s3, s4, s5, s6, s7, s8, s9, s10, s11, s12] at hc
    all_goals try (exfalso; first | omega | (simp at hc); done)
    all_goals first
      | (
       refine CW_skip ?_)
      | (
       refine cR ?_
       refine oM rfl rfl ?_
       refine oA rfl rfl ?_
       refine oN ?_
       refine CW_ret ?_)
    all_goals first
      | with_reducible refine tR ?_
      | with_reducible refine tE ?_
      | (
       with_reducible refine tN ?_
       refine CW_seq ?_
       refine cR ?_
       refine oM rfl rfl ?_
       first | refine oQ (Q_binu rfl rfl rfl (by omega)) rfl rfl ?_ | refine oQ (Q_bin rfl rfl rfl) rfl rfl ?_
       refine oA rfl rfl ?_
       refine oN ?_
       refine CW_block ?_
       refine CW_loop (ι := Nat × List Int) (fun x => x.1 ≤ L.length ∧ x.2.length + ((L.take x.1).filter fun x => !g x).length * 3 = x.1 * 3 ∧ ((L.take x.1).filter fun x => !g x).length < x.1) (fun x => ⟨[(0, .slice 0 0 L.length ck), (1, .func 89 [] [.ptr 1002 0]), (5, .int (((L.take x.1).filter fun x => !g x).length : Nat)), (6, .int (x.1 : Int))], [(0, .ints tM (delM 3 g L x.1 x.2 sp)), (1000, .ints t0 L0), (1001, .ints t1 L1), (1002, .vals 70 [.func f [] [.ptr 1000 0, .ptr 1001 0]])], 1⟩) (fun x => L.length - x.1) (a + 1, L.getD a []) ?_ ?_ ?_
       · refine ⟨ha, ?_⟩; rw [filter_skip ha (by rw [ha1]; rfl), hall, List.length_take, h3 _ (getD_mem ha)]; exact ⟨by omega, by dsimp only; omega⟩
       · refine View.mk' [] rfl rfl rfl ?_ ?_
         repeat' first | exact vFn | refine vFc rfl ?_ | exact vHn | refine vHc rfl ?_ | refine vFc (congrArg (fun z => some (V.int z)) ?_) ?_ | refine vHc (congrArg (fun z => some (Blk.ints _ z)) ?_) ?_ | refine vFc (congrArg (fun z => some (V.bool z)) ?_) ?_ | refine vFs rfl rfl ?_ ?_
         · rw [hix, filter_skip ha (by rw [ha1]; rfl), hall, List.length_take, Nat.min_eq_left (by omega)]
         · rw [hix]; rfl
         · have hd := delM_skip (sz := 3) (junk := []) (sp := sp) ha ha1; rw [List.nil_append] at hd; dsimp only; rw [← hd]; unfold delM; rw [hall, List.nil_append, ← List.append_assoc, ← List.flatten_append, List.take_append_drop]
       rintro ⟨j, junk⟩ ⟨hj, hju, hlt⟩
       dsimp only at hj hju hlt ⊢
       have hfn := filter_len (g := fun x => !g x) j hj
       have hdl := delM_len (sp := sp) h3 hj hju
       have hdl2 := fun h : j < L.length => h3 _ (getD_mem h)
       refine CW_seq ?_
       refine cR ?_
       iterate 2 refine oM rfl rfl ?_
       first | refine oQ (Q_len rfl rfl rfl rfl) rfl rfl ?_ | refine oQ (Q_len0 rfl rfl rfl rfl) rfl rfl ?_
       refine oQ (Q_bin rfl rfl rfl) rfl rfl ?_
       refine oN ?_
       first | refine cT rfl ?_ | refine cF rfl ?_ | refine CW_cond rfl (fun hc => ?_) (fun hc => ?_)
       all_goals try simp only [s1, s2, s3, s4, s5, s6, s7, s8, s9, s10, s11, s12] at hc
       all_goals try (exfalso; first | omega | (simp at hc); done)
       all_goals first
         | (
          refine CW_skip ?_)
         | (
          refine CW_exit ?_)
       all_goals first
         | with_reducible refine tR ?_
         | with_reducible refine tE ?_
         | (
          with_reducible refine tN ?_
          refine CW_seq ?_
          refine CW_block ?_
          refine cR ?_
          iterate 2 refine oM rfl rfl ?_
          first | refine oQ (Q_ixs0z 3 rfl rfl rfl rfl rfl rfl (by first | omega | (dsimp only; omega) | (simp; omega) | (simp; done))) rfl rfl ?_ | refine oQ (Q_ixsz 3 rfl rfl rfl rfl rfl rfl (by first | omega | (dsimp only; omega) | (simp; omega) | (simp; done))) rfl rfl ?_
          refine oQ (Q_lda (n := 3) rfl rfl rfl rfl rfl (by rw [hdl]; omega)) rfl rfl ?_; rw [delM_get h3 (show j < L.length by omega) hju]
          refine oAlloc rfl rfl rfl rfl rfl rfl rfl ?_
          first | refine oSw rfl rfl rfl rfl ?_ | refine oSa rfl rfl rfl rfl ?_
          refine oN ?_
          refine cR ?_
          refine oM rfl rfl ?_
          first | refine oQ (Lw rfl rfl rfl rfl) rfl rfl ?_ | refine oQ (La rfl rfl rfl rfl rfl) rfl rfl ?_
          refine oQ (Q_callf (hf _ (getD_mem (by omega))) [] rfl rfl rfl (Fits.mk' (vHc rfl (vHc rfl (vHc rfl vHn))) rfl rfl (by first | (simp; done) | exact glOk rfl rfl rfl)) rfl rfl) rfl rfl ?_
          refine oQ (Q_not rfl) rfl rfl ?_
          refine oN ?_
          first | refine cT rfl ?_ | refine cF rfl ?_ | refine CW_cond rfl (fun hc => ?_) (fun hc => ?_)
          all_goals try simp only [s1, s2, s3, s4, s5, s6, s7, s8, s9, s10, s11, s12] at hc
          all_goals try (exfalso; first | omega | (simp at hc); done)
          all_goals first
            | (
             refine CW_skip ?_)
            | (
             refine cR ?_
             iterate 2 refine oM rfl rfl ?_
             first | refine oQ (Lw rfl rfl rfl rfl) rfl rfl ?_ | refine oQ (La rfl rfl rfl rfl rfl) rfl rfl ?_
             refine oQ (Q_ixs0z 3 rfl rfl rfl rfl rfl rfl (by omega)) rfl rfl ?_
             first | refine oSw rfl rfl rfl rfl ?_ | refine oSa rfl rfl rfl rfl ?_
             refine oN ?_
             refine CW_region ?_
             refine oM rfl rfl ?_
             first | refine oQ (Q_binu rfl rfl rfl (by omega)) rfl rfl ?_ | refine oQ (Q_bin rfl rfl rfl) rfl rfl ?_
             refine oA rfl rfl ?_
             refine OW_nil ?_)
          all_goals first | with_reducible refine bN ?_ | with_reducible refine bE ?_ | with_reducible refine bR ?_ | refine bX rfl ?_
          all_goals with_reducible refine tN ?_
          all_goals (
           refine CW_region ?_
           refine oM rfl rfl ?_
           first | refine oQ (Q_binu rfl rfl rfl (by omega)) rfl rfl ?_ | refine oQ (Q_bin rfl rfl rfl) rfl rfl ?_
           refine oA rfl rfl ?_
           refine OW_nil ?_))
       all_goals first
         | with_reducible refine tR ?_
         | with_reducible refine tE ?_
         | (
          with_reducible refine tN ?_
          refine ⟨(j + 1, if g (L.getD j []) = true then junk ++ L.getD j [] else (junk ++ L.getD j []).drop 3), ?_, ?_, View.mk' [] rfl rfl rfl ?_ ?_⟩
          · have e3 := h3 _ (getD_mem (show j < L.length by omega))
            refine ⟨by dsimp only; omega, ?_⟩
            dsimp only
            cases hg : g (L.getD j [])
            · rw [filter_snoc (by omega) (by rw [hg]; rfl)]; simp only [Bool.false_eq_true, if_false, List.length_drop, List.length_append, List.length_cons, List.length_nil, e3]; exact ⟨by omega, by omega⟩
            · rw [filter_skip (by omega) (by rw [hg]; rfl)]; simp only [if_true, List.length_append, e3]; exact ⟨by omega, by omega⟩
          · omega
          all_goals (repeat' first | exact vFn | refine vFc rfl ?_ | exact vHn | refine vHc rfl ?_ | refine vFc (congrArg (fun z => some (V.int z)) ?_) ?_ | refine vHc (congrArg (fun z => some (Blk.ints _ z)) ?_) ?_ | refine vFc (congrArg (fun z => some (V.bool z)) ?_) ?_ | refine vFs rfl rfl ?_ ?_)
          all_goals dsimp only
          all_goals first
            | (rw [filter_snoc (by omega) (by rw [hc]; rfl)]; simp; done)
            | (rw [filter_skip (by omega) (by rw [hc]; rfl)]; done)
            | (rw [if_pos hc]; exact delM_skip (by omega) hc)
            | (rw [if_neg (by rw [hc]; exact Bool.false_ne_true)]; exact delM_keep h3 (by omega) hc hju))
       all_goals first | with_reducible refine bN ?_ | with_reducible refine bE ?_ | with_reducible refine bR ?_ | refine bX rfl ?_
       all_goals with_reducible refine tN ?_
       all_goals (
        refine cR ?_
        iterate 2 refine oM rfl rfl ?_
        refine oQ (Q_slsL 3 rfl rfl rfl rfl rfl rfl (by omega) (by omega)) rfl rfl ?_; rw [if_neg (show ¬ ck = ((L.take j).filter fun x => !g x).length by omega), Nat.zero_add]
        refine oClear (sz := 3) rfl rfl rfl rfl ⟨by decide, rfl, .inr rfl⟩ rfl rfl (by rw [hdl]; omega) ?_
        refine oN ?_
        refine cR ?_
        iterate 2 refine oM rfl rfl ?_
        refine oQ (Q_slsH rfl rfl rfl rfl rfl (by first | omega | (dsimp only; omega) | (simp; omega) | (simp; done))) rfl rfl ?_
        refine oA rfl rfl ?_
        refine oN ?_
        refine CW_ret ?_))
    all_goals (
     have e : j = L.length := by omega
     subst e
     refine exitH (r0 := .slice 0 0 (L.filter fun x => !g x).length ck) (H0 := [(0, .ints tM ((L.filter fun x => !g x).flatten ++ (List.replicate ((L.length - (L.filter fun x => !g x).length) * 3) 0 ++ sp))), (1000, .ints t0 L0), (1001, .ints t1 L1), (1002, .vals 70 [.func f [] [.ptr 1000 0, .ptr 1001 0]])]) (.inr rfl) [] 1 (.cons (.tmp rfl rfl) .nil) ?_ rfl rfl ?_ rfl rfl ⟨_, by simp, rfl, rfl⟩
     · simp [resV, ren, ap]
     · refine vHc (congrArg (fun z => some (Blk.ints _ z)) ?_) (vHc rfl (vHc rfl (vHc rfl vHn)))
       exact delM_end h3 hju)
theorem pointsThat1_2 (f : Nat) (t0 : TypeId) (L0 : List Int) (t1 : TypeId) (L1 : List Int) (g : List Int → Bool) (m0 : List Int) (hm : m0.length = 3) (hf : ∀ m, m = m0 → ConQ Tryd.prog [] f [.arr m, .ptr 1000 0, .ptr 1001 0] [(1000, .ints t0 L0), (1001, .ints t1 L1)] (.bool (g m))) : ConQ Tryd.prog [] 89 [.arr m0, .ptr 1002 0] [(1000, .ints t0 L0), (1001, .ints t1 L1), (1002, .vals 70 [.func f [] [.ptr 1000 0, .ptr 1001 0]])] (.bool (!(g m0))) := by
  refine conW tab_ok [(0, .arr m0), (1, .ptr 1002 0)] 0 [1000, 1001, 1002] [1000, 1001, 1002] Tryd.func89 rfl rfl rfl rfl rfl rfl rfl rfl rfl ?_
  refine cR ?_
  refine oBox rfl rfl rfl rfl rfl rfl ?_
  refine oA rfl rfl ?_
  refine oN ?_
  refine cR ?_
  refine oQ (Q_ldv rfl rfl rfl rfl rfl rfl) rfl rfl ?_
  refine oQ (Q_ldw rfl rfl rfl rfl hm) rfl rfl ?_
  refine oQ (Q_callf (hf m0 rfl) [] rfl rfl rfl (Fits.mk' (vHc rfl (vHc rfl vHn)) rfl rfl (by first | (simp; done) | exact glOk rfl rfl rfl)) rfl rfl) rfl rfl ?_
  refine oQ (Q_not rfl) rfl rfl ?_
  refine oA rfl rfl ?_
  refine oN ?_
  refine CW_ret ?_
  all_goals (
   ((refine exitQ (.inr rfl) 0 (.cons (.tmp rfl rfl) .nil) ?_ rfl (vHc rfl (vHc rfl (vHc rfl vHn))) rfl rfl); rfl))
theorem pointsThat_2 (f : Nat) (t0 : TypeId) (L0 : List Int) (t1 : TypeId) (L1 : List Int) (g : List Int → Bool) (p : Int) (hp : primeB p = true) (hf : ∀ m, m ∈ allPts p → ConQ Tryd.prog [] f [.arr m, .ptr 1000 0, .ptr 1001 0] [(1000, .ints t0 L0), (1001, .ints t1 L1)] (.bool (g m))) : Con Tryd.prog [] 53 [.int p, .func f [] [.ptr 1000 0, .ptr 1001 0]] [(1000, .ints t0 L0), (1001, .ints t1 L1)] (ownR 3 29 [(1000, .ints t0 L0), (1001, .ints t1 L1)] 0 ((allPts p).filter g)) := by
  have hb := prime_bd hp
  have hal := allPts_len hp
  refine conW tab_ok [(0, .int p), (1, .func f [] [.ptr 1000 0, .ptr 1001 0])] 0 [1000, 1001] [1000, 1001] Tryd.func53 rfl rfl rfl rfl rfl rfl rfl rfl rfl ?_
  refine cR ?_
  refine oBox rfl rfl rfl rfl rfl rfl ?_
  refine oA rfl rfl ?_
  refine oN ?_
  refine cR ?_
  refine oM rfl rfl ?_
  refine oCall (allPoints_con p hp) [] 1 rfl rfl (Fits.mk' vHn rfl rfl (by first | (simp; done) | exact glOk rfl rfl rfl)) rfl rfl ?_
  rintro r H1 ⟨k, sp, hk, hsp, rfl, rfl⟩
  refine ⟨.slice 1 0 (allPts p).length k, [(1, .ints 29 ((allPts p).flatten ++ sp))], rfl, rfl, rfl, ?_⟩
  refine oQ (Q_makeFunc rfl rfl) rfl rfl ?_
  refine oCall (delPointD2 f t0 L0 t1 L1 (fun x => !g x) 29 (allPts p) sp k (fun x hx => allPts_three hx) (by omega) hk (fun m hm => pointsThat1_2 f t0 L0 t1 L1 g m (allPts_three hm) (fun _ e => e ▸ hf m hm))) [(0, 1), (1002, 0)] 0 rfl rfl (Fits.mk' (vHc rfl (vHc rfl (vHc rfl (vHc rfl vHn)))) rfl rfl (by first | (simp; done) | exact glOk rfl rfl rfl)) rfl rfl ?_
  rintro r H1 ⟨z, hz, rfl, rfl⟩
  rw [notnot] at hz ⊢
  refine ⟨.slice 1 0 ((allPts p).filter g).length k, [(1, .ints 29 (((allPts p).filter g).flatten ++ (z ++ sp))), (1000, .ints t0 L0), (1001, .ints t1 L1), (0, .vals 70 [.func f [] [.ptr 1000 0, .ptr 1001 0]])], rfl, rfl, rfl, ?_⟩
  refine oA rfl rfl ?_
  refine oN ?_
  refine CW_ret ?_
  all_goals (
   have hfl := List.length_filter_le g (allPts p)
   exact exitH (r0 := .slice 0 0 ((allPts p).filter g).length k) (.inr rfl) [(0, 1)] 1 (.cons (.tmp rfl rfl) .nil) rfl rfl rfl (vHc rfl (vHc rfl (vHc rfl vHn))) rfl rfl ⟨k, z ++ sp, by omega, by rw [List.length_append, hz]; omega, rfl, rfl⟩)
end Go.Proofs.YtcklfkblhmlbbaaDoor
namespace Go.Proofs.YtcklfkblhmlbbaaDoor
attribute [local irreducible] CW OW QW QOp Con thenP inBlockP
set_option maxRecDepth 10000
set_option linter.unusedSimpArgs false
set_option linter.unusedVariables false
/-- small numbers -/
def sm (B : Int) (l : List Int) : Prop := ∀ x ∈ l, -B ≤ x ∧ x ≤ B
theorem allPts_mod {p : Int} (hp : primeB p = true) {x : List Int} (h : x ∈ allPts p) : ∀ z ∈ x, 0 ≤ z ∧ z < p := by
  have hb := prime_bd hp
  simp only [allPts, row1, rows2, row2, List.mem_append, List.mem_map, List.mem_flatMap, List.mem_singleton, List.mem_range] at h
  rcases h with (rfl | ⟨a, ha, rfl⟩) | ⟨a, ha, b, hb, rfl⟩ <;> intro z hz <;> simp only [List.mem_cons, List.not_mem_nil, or_false] at hz <;> omega
theorem allPts_sm {p : Int} (hp : primeB p = true) {x : List Int} (h : x ∈ allPts p) : sm 13 x := fun z hz => by
  have := allPts_mod hp h z hz
  have := prime_bd hp
  omega
/-- the sum of the products of the first i numbers -/
def dotT (c w : List Int) : Nat → Int
  | 0 => 0
  | i + 1 => dotT c w i + c.getD i 0 * w.getD i 0
def dotV (a b : List Int) : Int := dotT a b 3
def onB (p : Int) (a l : List Int) : Bool := dotV a l % p == 0
def pw : List Int → List Int
  | [x, y, z] => [x * x, y * y, z * z, x * y, x * z, y * z]
  | _ => []
theorem sm3 {B a b c : Int} : sm B [a, b, c] ↔ (-B ≤ a ∧ a ≤ B) ∧ (-B ≤ b ∧ b ≤ B) ∧ (-B ≤ c ∧ c ≤ B) := by simp [sm]
theorem tmod_zero (x p : Int) : (x.tmod p = 0) ↔ (x % p = 0) := by
  rw [← Int.dvd_iff_tmod_eq_zero, Int.dvd_iff_emod_eq_zero]
theorem dot_con3 (p a b c x y z : Int) (hp : primeB p = true) (h1 : sm 13 [a, b, c]) (h2 : sm 13 [x, y, z]) : ConQ Tryd.prog [] 142 [.int p, .arr [a, b, c], .arr [x, y, z]] [] (.int (dotV [a, b, c] [x, y, z] % p)) := by
  obtain ⟨ha, hb, hc⟩ := sm3.1 h1
  obtain ⟨hx, hy, hz⟩ := sm3.1 h2
  have hpb := prime_bd hp
  refine conW tab_ok [(0, .int p), (1, .arr [a, b, c]), (2, .arr [x, y, z])] 0 [] [] Tryd.func142 rfl rfl rfl rfl rfl rfl rfl rfl rfl ?_
  refine cR ?_
  iterate 2 refine oBox rfl rfl rfl rfl rfl rfl ?_
  refine oA rfl rfl ?_
  refine oN ?_
  refine cR ?_
  first | refine oQ (Ia0 rfl rfl rfl rfl rfl rfl) rfl rfl ?_ | refine oQ (Ia1 rfl rfl rfl rfl rfl rfl) rfl rfl ?_
  first | refine oQ (Q_ldc rfl rfl rfl rfl rfl) rfl rfl ?_ | refine oQ (Ld rfl rfl rfl rfl) rfl rfl ?_
  first | refine oQ (Ia0 rfl rfl rfl rfl rfl rfl) rfl rfl ?_ | refine oQ (Ia1 rfl rfl rfl rfl rfl rfl) rfl rfl ?_
  first | refine oQ (Q_ldc rfl rfl rfl rfl rfl) rfl rfl ?_ | refine oQ (Ld rfl rfl rfl rfl) rfl rfl ?_
  refine oMul 13 13 rfl rfl (by omega) (by omega) (by decide) rfl (fun z11 hz11 hl11 hu11 => ?_)
  first | refine oQ (Ia0 rfl rfl rfl rfl rfl rfl) rfl rfl ?_ | refine oQ (Ia1 rfl rfl rfl rfl rfl rfl) rfl rfl ?_
  first | refine oQ (Q_ldc rfl rfl rfl rfl rfl) rfl rfl ?_ | refine oQ (Ld rfl rfl rfl rfl) rfl rfl ?_
  first | refine oQ (Ia0 rfl rfl rfl rfl rfl rfl) rfl rfl ?_ | refine oQ (Ia1 rfl rfl rfl rfl rfl rfl) rfl rfl ?_
  first | refine oQ (Q_ldc rfl rfl rfl rfl rfl) rfl rfl ?_ | refine oQ (Ld rfl rfl rfl rfl) rfl rfl ?_
  refine oMul 13 13 rfl rfl (by omega) (by omega) (by decide) rfl (fun z16 hz16 hl16 hu16 => ?_)
  first | refine oQ (Q_binu rfl rfl rfl (by omega)) rfl rfl ?_ | refine oQ (Q_bin rfl rfl rfl) rfl rfl ?_
  first | refine oQ (Ia0 rfl rfl rfl rfl rfl rfl) rfl rfl ?_ | refine oQ (Ia1 rfl rfl rfl rfl rfl rfl) rfl rfl ?_
  first | refine oQ (Q_ldc rfl rfl rfl rfl rfl) rfl rfl ?_ | refine oQ (Ld rfl rfl rfl rfl) rfl rfl ?_
  first | refine oQ (Ia0 rfl rfl rfl rfl rfl rfl) rfl rfl ?_ | refine oQ (Ia1 rfl rfl rfl rfl rfl rfl) rfl rfl ?_
  first | refine oQ (Q_ldc rfl rfl rfl rfl rfl) rfl rfl ?_ | refine oQ (Ld rfl rfl rfl rfl) rfl rfl ?_
  refine oMul 13 13 rfl rfl (by omega) (by omega) (by decide) rfl (fun z22 hz22 hl22 hu22 => ?_)
  first | refine oQ (Q_binu rfl rfl rfl (by omega)) rfl rfl ?_ | refine oQ (Q_bin rfl rfl rfl) rfl rfl ?_
  refine oM rfl rfl ?_
  refine oQ (Q_call0 (mod_con _ _ (by omega) (by omega)) rfl rfl rfl) rfl rfl ?_
  refine oA rfl rfl ?_
  refine oN ?_
  refine CW_ret ?_
  all_goals (
   subst hz11 hz16 hz22
   refine exitQ (.inr rfl) 0 (.cons (.tmp rfl rfl) .nil) ?_ rfl vHn rfl rfl
   simp [resV, dotV, dotT])
theorem dot_con (p : Int) (a b : List Int) (hp : primeB p = true) (ha : a.length = 3) (hb : b.length = 3) (h1 : sm 13 a) (h2 : sm 13 b) : ConQ Tryd.prog [] 142 [.int p, .arr a, .arr b] [] (.int (dotV a b % p)) := by
  match a, ha, b, hb with
  | [a, b, c], _, [x, y, z], _ => exact dot_con3 p a b c x y z hp h1 h2
theorem isOn_con (p : Int) (a l : List Int) (hp : primeB p = true) (ha : a.length = 3) (hl : l.length = 3) (h1 : sm 13 a) (h2 : sm 13 l) : ConQ Tryd.prog [] 121 [.int p, .arr a, .arr l] [] (.bool (onB p a l)) := by
  refine conW tab_ok [(0, .int p), (1, .arr a), (2, .arr l)] 0 [] [] Tryd.func121 rfl rfl rfl rfl rfl rfl rfl rfl rfl ?_
  refine cR ?_
  iterate 2 refine oBox rfl rfl rfl rfl rfl rfl ?_
  refine oA rfl rfl ?_
  refine oN ?_
  refine cR ?_
  refine oM rfl rfl ?_
  refine oQ (Q_ldw rfl rfl rfl rfl ha) rfl rfl ?_
  refine oQ (Q_ldw rfl rfl rfl rfl hl) rfl rfl ?_
  refine oQ (Q_call0 (dot_con p a l hp ha hl h1 h2) rfl rfl rfl) rfl rfl ?_
  refine oQ (Q_bin rfl rfl rfl) rfl rfl ?_
  refine oA rfl rfl ?_
  refine oN ?_
  refine CW_ret ?_
  all_goals (
   ((refine exitQ (.inr rfl) 0 (.cons (.tmp rfl rfl) .nil) ?_ rfl vHn rfl rfl); rfl))
theorem l01On_con3 (p a b c x y z : Int) (hp : primeB p = true) (h1 : sm 13 [a, b, c]) (h2 : sm 13 [x, y, z]) : ConQ Tryd.prog [] 116 [.int p, .arr [a, b, c], .arr [x, y, z]] [] (.bool (onB p [a, b, c] [x, y, z])) := by
  obtain ⟨ha, hb, hc⟩ := sm3.1 h1
  obtain ⟨hx, hy, hz⟩ := sm3.1 h2
  have hpb := prime_bd hp
  refine conW tab_ok [(0, .int p), (1, .arr [a, b, c]), (2, .arr [x, y, z])] 0 [] [] Tryd.func116 rfl rfl rfl rfl rfl rfl rfl rfl rfl ?_
  refine cR ?_
  iterate 2 refine oBox rfl rfl rfl rfl rfl rfl ?_
  refine oA rfl rfl ?_
  refine oN ?_
  refine cR ?_
  first | refine oQ (Ia0 rfl rfl rfl rfl rfl rfl) rfl rfl ?_ | refine oQ (Ia1 rfl rfl rfl rfl rfl rfl) rfl rfl ?_
  first | refine oQ (Q_ldc rfl rfl rfl rfl rfl) rfl rfl ?_ | refine oQ (Ld rfl rfl rfl rfl) rfl rfl ?_
  first | refine oQ (Ia0 rfl rfl rfl rfl rfl rfl) rfl rfl ?_ | refine oQ (Ia1 rfl rfl rfl rfl rfl rfl) rfl rfl ?_
  first | refine oQ (Q_ldc rfl rfl rfl rfl rfl) rfl rfl ?_ | refine oQ (Ld rfl rfl rfl rfl) rfl rfl ?_
  refine oMul 13 13 rfl rfl (by omega) (by omega) (by decide) rfl (fun z11 hz11 hl11 hu11 => ?_)
  first | refine oQ (Ia0 rfl rfl rfl rfl rfl rfl) rfl rfl ?_ | refine oQ (Ia1 rfl rfl rfl rfl rfl rfl) rfl rfl ?_
  first | refine oQ (Q_ldc rfl rfl rfl rfl rfl) rfl rfl ?_ | refine oQ (Ld rfl rfl rfl rfl) rfl rfl ?_
  first | refine oQ (Ia0 rfl rfl rfl rfl rfl rfl) rfl rfl ?_ | refine oQ (Ia1 rfl rfl rfl rfl rfl rfl) rfl rfl ?_
  first | refine oQ (Q_ldc rfl rfl rfl rfl rfl) rfl rfl ?_ | refine oQ (Ld rfl rfl rfl rfl) rfl rfl ?_
  refine oMul 13 13 rfl rfl (by omega) (by omega) (by decide) rfl (fun z16 hz16 hl16 hu16 => ?_)
  first | refine oQ (Q_binu rfl rfl rfl (by omega)) rfl rfl ?_ | refine oQ (Q_bin rfl rfl rfl) rfl rfl ?_
  first | refine oQ (Ia0 rfl rfl rfl rfl rfl rfl) rfl rfl ?_ | refine oQ (Ia1 rfl rfl rfl rfl rfl rfl) rfl rfl ?_
  first | refine oQ (Q_ldc rfl rfl rfl rfl rfl) rfl rfl ?_ | refine oQ (Ld rfl rfl rfl rfl) rfl rfl ?_
  first | refine oQ (Ia0 rfl rfl rfl rfl rfl rfl) rfl rfl ?_ | refine oQ (Ia1 rfl rfl rfl rfl rfl rfl) rfl rfl ?_
  first | refine oQ (Q_ldc rfl rfl rfl rfl rfl) rfl rfl ?_ | refine oQ (Ld rfl rfl rfl rfl) rfl rfl ?_
  refine oMul 13 13 rfl rfl (by omega) (by omega) (by decide) rfl (fun z22 hz22 hl22 hu22 => ?_)
  first | refine oQ (Q_binu rfl rfl rfl (by omega)) rfl rfl ?_ | refine oQ (Q_bin rfl rfl rfl) rfl rfl ?_
  refine oM rfl rfl ?_
  refine oQ (Q_rem rfl rfl (by omega)) rfl rfl ?_
  refine oQ (Q_bin rfl rfl rfl) rfl rfl ?_
  refine oA rfl rfl ?_
  refine oN ?_
  refine CW_ret ?_
  all_goals (
   subst hz11 hz16 hz22
   refine exitQ (.inr rfl) 0 (.cons (.tmp rfl rfl) .nil) ?_ rfl vHn rfl rfl
   simp only [resV, onB, dotV, dotT, V.bool.injEq]
   rw [Bool.eq_iff_iff]
   simp only [beq_iff_eq, tmod_zero]
   simp)
theorem l01On_con (p : Int) (a l : List Int) (hp : primeB p = true) (ha : a.length = 3) (hl : l.length = 3) (h1 : sm 13 a) (h2 : sm 13 l) : ConQ Tryd.prog [] 116 [.int p, .arr a, .arr l] [] (.bool (onB p a l)) := by
  match a, ha, l, hl with
  | [a, b, c], _, [x, y, z], _ => exact l01On_con3 p a b c x y z hp h1 h2
theorem l01PointsOn_con (p : Int) (l : List Int) (hp : primeB p = true) (hll : l.length = 3) (hls : sm 13 l) : Con Tryd.prog [] 91 [.int p, .arr l] [] (ownR 3 29 [] 0 ((allPts p).filter fun m => onB p m l)) := by
  have hb := prime_bd hp
  have hal := allPts_len hp
  have h3 : ∀ x ∈ (allPts p), x.length = 3 := fun x hx => allPts_three hx
  have hf3 := flat3 h3

  refine conW tab_ok [(0, .int p), (1, .arr l)] 0 [] [] Tryd.func91 rfl rfl rfl rfl rfl rfl rfl rfl rfl ?_
  refine cR ?_
  refine oBox rfl rfl rfl rfl rfl rfl ?_
  refine oA rfl rfl ?_
  refine oN ?_
  refine cR ?_
  refine oM rfl rfl ?_
  refine oCall (l01Points_con p hp) [] 1 rfl rfl (Fits.mk' vHn rfl rfl (by first | (simp; done) | exact glOk rfl rfl rfl)) rfl rfl ?_
  rintro r H1 ⟨k0, sp0, hk0, hsp0, rfl, rfl⟩
  refine ⟨.slice 1 0 (allPts p).length k0, [(1, .ints 29 ((allPts p).flatten ++ sp0))], rfl, rfl, rfl, ?_⟩
  refine oBsl rfl rfl rfl rfl (.inr ⟨rfl, rfl, by decide⟩) rfl rfl rfl rfl rfl rfl ?_
  iterate 2 refine oA rfl rfl ?_
  refine oN ?_
  refine CW_seq ?_
  refine cR ?_
  refine oA rfl rfl ?_
  refine oN ?_
  refine CW_block ?_
  refine CW_loop (ι := Nat × Nat × List Int) (fun x => x.1 ≤ (allPts p).length ∧ (((allPts p).take x.1).filter fun m => onB p m l).length ≤ x.2.1 ∧ x.2.1 * 3 ≤ (((allPts p).take x.1).filter fun m => onB p m l).length * 3 + x.2.2.length) (fun x => ⟨[(0, .int p), (3, .ptr 0 0), (5, .slice 1 0 (allPts p).length k0), (6, .slice 2 0 (((allPts p).take x.1).filter fun m => onB p m l).length x.2.1), (7, .int x.1)], [(0, .ints 24 l), (1, .ints 29 ((allPts p).flatten ++ sp0)), (2, .ints 29 ((((allPts p).take x.1).filter fun m => onB p m l).flatten ++ x.2.2))], 3⟩) (fun x => (allPts p).length - x.1) (0, 0, []) ?_ ?_ ?_
  · exact ⟨Nat.zero_le _, Nat.le_refl _, Nat.le_refl _⟩
  · refine View.mk' [] rfl rfl rfl ?_ ?_
    repeat' first | exact vFn | refine vFc rfl ?_ | exact vHn | refine vHc rfl ?_ | refine vFc (congrArg (fun z => some (V.int z)) ?_) ?_ | refine vHc (congrArg (fun z => some (Blk.ints _ z)) ?_) ?_ | refine vFc (congrArg (fun z => some (V.bool z)) ?_) ?_ | refine vFs rfl rfl ?_ ?_
  rintro ⟨i, k, sp⟩ ⟨hi, hk, hsp⟩
  dsimp only at hi hk hsp ⊢
  have hfn := filter_len (g := fun m => onB p m l) i hi
  have hlen := flat3 (filter_three (g := fun m => onB p m l) h3 i)
  have hmem := fun h : i < (allPts p).length => getD_mem h
  have h3i := fun h : i < (allPts p).length => h3 _ (getD_mem h)
  refine CW_seq ?_
  refine cR ?_
  iterate 2 refine oM rfl rfl ?_
  first | refine oQ (Q_len rfl rfl rfl rfl) rfl rfl ?_ | refine oQ (Q_len0 rfl rfl rfl rfl) rfl rfl ?_
  refine oQ (Q_bin rfl rfl rfl) rfl rfl ?_
  refine oN ?_
  first | refine cT rfl ?_ | refine cF rfl ?_ | refine CW_cond rfl (fun hc => ?_) (fun hc => ?_)
  all_goals try simp only [s1, s2, s3, s4, s5, s6, s7, s8, s9, s10, s11, s12] at hc
  all_goals first
    | (
     refine CW_skip ?_)
    | (
     refine CW_exit ?_)
  all_goals first
    | with_reducible refine tR ?_
    | with_reducible refine tE ?_
    | (
     with_reducible refine tN ?_
     refine CW_seq ?_
     refine CW_block ?_
     refine CW_seq ?_
     refine CW_draw lateOk (by decide +kernel) ?_
     iterate 3 refine qM rfl rfl ?_
     (have h3i := h3i (by omega)); (have hmem := hmem (by omega)); refine qQ (Q_ixs0z 3 rfl rfl rfl rfl rfl rfl (by omega)) rfl rfl ?_
     refine qQ (Q_lda (n := 3) rfl rfl rfl rfl rfl (by rw [List.length_append, hf3]; omega)) rfl rfl ?_; rw [flat_get h3 (show i < (allPts p).length by omega)]
     refine qQ (Q_ldw rfl rfl rfl rfl hll) rfl rfl ?_
     refine qQ (Q_call0 (l01On_con p _ l hp h3i hll (allPts_sm hp hmem) hls) rfl rfl rfl) rfl rfl ?_
     refine QW_nil ?_
     all_goals with_reducible refine tN ?_
     all_goals (
      first | refine cT rfl ?_ | refine cF rfl ?_ | refine CW_cond rfl (fun hc => ?_) (fun hc => ?_)
      all_goals try simp only [s1, s2, s3, s4, s5, s6, s7, s8, s9, s10, s11, s12] at hc
      all_goals first
        | (
         refine CW_skip ?_)
        | (
         refine CW_region ?_
         iterate 3 refine oM rfl rfl ?_
         first | refine oQ (Q_ixs0z 3 rfl rfl rfl rfl rfl rfl (by first | omega | (dsimp only; omega) | (simp; omega) | (simp; done))) rfl rfl ?_ | refine oQ (Q_ixsz 3 rfl rfl rfl rfl rfl rfl (by first | omega | (dsimp only; omega) | (simp; omega) | (simp; done))) rfl rfl ?_
         refine oQ (Q_lda (n := 3) rfl rfl rfl rfl rfl (by rw [List.length_append, hf3]; omega)) rfl rfl ?_; rw [flat_get h3 (show i < (allPts p).length by omega)]
         refine oBsl1 h3i rfl rfl rfl rfl rfl rfl rfl rfl rfl rfl ?_
         refine oApp (sz := 3) (by_ := 24) (xl := (allPts p).getD i []) rfl rfl rfl rfl rfl rfl ⟨by decide, rfl, .inr rfl⟩ rfl rfl rfl rfl rfl rfl hlen (by rw [h3i]) (by omega) (by omega) (by omega) (by omega) rfl rfl (fun k2 sp2 h1 h2 => ?_)
         refine oA rfl rfl ?_
         refine OW_nil ?_))
     all_goals first | with_reducible refine bN ?_ | with_reducible refine bE ?_ | with_reducible refine bR ?_ | refine bX rfl ?_
     all_goals with_reducible refine tN ?_
     all_goals (
      refine CW_region ?_
      refine oM rfl rfl ?_
      first | refine oQ (Q_binu rfl rfl rfl (by omega)) rfl rfl ?_ | refine oQ (Q_bin rfl rfl rfl) rfl rfl ?_
      refine oA rfl rfl ?_
      refine OW_nil ?_))
  all_goals first
    | with_reducible refine tR ?_
    | with_reducible refine tE ?_
    | (
     with_reducible refine tN ?_
     first
       | (
        refine ⟨(i + 1, k2, sp2), ?_, ?_, View.mk' [(2, 4)] rfl rfl rfl ?_ ?_⟩
        · dsimp only
          first
            | (rw [filter_snoc (by omega) (by first | exact hc | exact beq_iff_eq.2 hc), List.length_append, List.length_singleton]; exact ⟨by omega, h1, h2⟩)
            | (rw [filter_skip (by omega) (by first | exact hc | exact beq_eq_false_iff_ne.2 hc)]; exact ⟨by omega, hk, hsp⟩)
        · omega
        all_goals (repeat' first | exact vFn | refine vFc rfl ?_ | exact vHn | refine vHc rfl ?_ | refine vFc (congrArg (fun z => some (V.int z)) ?_) ?_ | refine vHc (congrArg (fun z => some (Blk.ints _ z)) ?_) ?_ | refine vFc (congrArg (fun z => some (V.bool z)) ?_) ?_ | refine vFs rfl rfl ?_ ?_)
        all_goals dsimp only
        all_goals first
          | (rw [filter_snoc (by omega) (by first | exact hc | exact beq_iff_eq.2 hc)]; simp; done)
          | (rw [filter_skip (by omega) (by first | exact hc | exact beq_eq_false_iff_ne.2 hc)]; done))
       | (
        refine ⟨(i + 1, k, sp), ?_, ?_, View.mk' [] rfl rfl rfl ?_ ?_⟩
        · dsimp only
          first
            | (rw [filter_snoc (by omega) (by first | exact hc | exact beq_iff_eq.2 hc), List.length_append, List.length_singleton]; exact ⟨by omega, h1, h2⟩)
            | (rw [filter_skip (by omega) (by first | exact hc | exact beq_eq_false_iff_ne.2 hc)]; exact ⟨by omega, hk, hsp⟩)
        · omega
        all_goals (repeat' first | exact vFn | refine vFc rfl ?_ | exact vHn | refine vHc rfl ?_ | refine vFc (congrArg (fun z => some (V.int z)) ?_) ?_ | refine vHc (congrArg (fun z => some (Blk.ints _ z)) ?_) ?_ | refine vFc (congrArg (fun z => some (V.bool z)) ?_) ?_ | refine vFs rfl rfl ?_ ?_)
        all_goals dsimp only
        all_goals first
          | (rw [filter_snoc (by omega) (by first | exact hc | exact beq_iff_eq.2 hc)]; simp; done)
          | (rw [filter_skip (by omega) (by first | exact hc | exact beq_eq_false_iff_ne.2 hc)]; done)))
  all_goals first | with_reducible refine bN ?_ | with_reducible refine bE ?_ | with_reducible refine bR ?_ | refine bX rfl ?_
  all_goals with_reducible refine tN ?_
  all_goals (
   refine cR ?_
   refine oM rfl rfl ?_
   refine oA rfl rfl ?_
   refine oN ?_
   refine CW_ret ?_)
  all_goals (
   have e : i = (allPts p).length := by omega
   subst e
   rw [List.take_length] at hk hsp
   exact exitH (r0 := .slice 0 0 ((allPts p).filter fun m => onB p m l).length k) (H0 := [(0, .ints 29 (((allPts p).filter fun m => onB p m l).flatten ++ sp))]) (.inr rfl) [(0, 2)] 1 (.cons (.tmp rfl rfl) .nil) (by simp only [List.take_length]; rfl) rfl rfl (vHc (by simp only [List.take_length]; rfl) vHn) rfl rfl ⟨k, sp, hk, hsp, rfl, rfl⟩)
end Go.Proofs.YtcklfkblhmlbbaaDoor
