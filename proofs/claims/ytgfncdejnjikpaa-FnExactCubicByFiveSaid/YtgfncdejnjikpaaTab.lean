/- The table of types of the seat. Printed by gentab.py. -/
import Derived.Test.YtgfncdejnjikpaaEngG
import Derived.Test.YtgfncdejnjikpaaProg
namespace Go.Proofs.Ytgfncdejnjikpaa
theorem TI.of {P : Program} {t : Nat} {x : TI} (h1 : P.underlying t = some x.d) (h2 : (P.info? t).map (fun i => (i.size, i.bytes, i.zero)) = some (x.size, x.bytes, x.z.map (rv fun b => b))) (h3 : ∀ v, x.z = some v → v.ids = []) (h4 : x.g = true → P.eqGuardType P.depth t = false) : x.ok P t := by
  cases hi : P.info? t with
  | none => simp [hi] at h2
  | some i =>
    simp only [hi, Option.map_some, Option.some.injEq, Prod.mk.injEq] at h2
    exact ⟨h1, ⟨i, hi, h2.1, h2.2.1, fun v hv => ⟨by rw [h2.2.2, hv]; rfl, h3 v hv⟩⟩, h4⟩
theorem TI.of0 {P : Program} {t : Nat} {x : TI} (h1 : P.underlying t = some x.d) (h2 : (P.info? t).map (fun i => (i.size, i.bytes)) = some (x.size, x.bytes)) (h3 : x.z = none) (h4 : x.g = true → P.eqGuardType P.depth t = false) : x.ok P t := by
  cases hi : P.info? t with
  | none => simp [hi] at h2
  | some i =>
    simp only [hi, Option.map_some, Option.some.injEq, Prod.mk.injEq] at h2
    exact ⟨h1, ⟨i, hi, h2.1, h2.2, fun v hv => by rw [h3] at hv; cases hv⟩, h4⟩
def tab : TT := [(1, ⟨.func #[] #[] false, 1, 8, none, false⟩),
  (2, ⟨.int .i64, 1, 8, some (.int 0), false⟩),
  (3, ⟨.int .i64, 1, 8, some (.int 0), false⟩),
  (4, ⟨.bool, 1, 1, some (.bool false), false⟩),
  (22, ⟨.slice 2, 1, 24, some (.nilsl), false⟩),
  (23, ⟨.array 10 2, 10, 80, some (.arr [0, 0, 0, 0, 0, 0, 0, 0, 0, 0]), true⟩),
  (24, ⟨.array 10 2, 10, 80, some (.arr [0, 0, 0, 0, 0, 0, 0, 0, 0, 0]), true⟩),
  (26, ⟨.func #[2, 22] #[24, 2] false, 1, 8, none, false⟩),
  (27, ⟨.func #[22, 4] #[22] false, 1, 8, none, false⟩),
  (28, ⟨.func #[24, 24] #[4] false, 1, 8, none, false⟩),
  (29, ⟨.func #[22, 22] #[4] false, 1, 8, none, false⟩),
  (30, ⟨.func #[2, 22] #[4] false, 1, 8, none, false⟩),
  (31, ⟨.array 4 2, 4, 32, some (.arr [0, 0, 0, 0]), true⟩),
  (33, ⟨.func #[2, 34, 2] #[2, 2] false, 1, 8, none, false⟩),
  (34, ⟨.array 4 2, 4, 32, some (.arr [0, 0, 0, 0]), true⟩),
  (35, ⟨.func #[31] #[34] false, 1, 8, none, false⟩),
  (36, ⟨.func #[2, 31, 2] #[4] false, 1, 8, none, false⟩),
  (38, ⟨.func #[2, 2, 2, 2, 2] #[34, 2] false, 1, 8, none, false⟩),
  (39, ⟨.func #[34, 34] #[4] false, 1, 8, none, false⟩),
  (40, ⟨.func #[2, 2, 2, 2, 2] #[4] false, 1, 8, none, false⟩),
  (42, ⟨.func #[2, 34] #[22, 2] false, 1, 8, none, false⟩),
  (43, ⟨.func #[22, 3] #[3] false, 1, 8, none, false⟩),
  (44, ⟨.func #[2, 31] #[4] false, 1, 8, none, false⟩),
  (45, ⟨.slice 60, 1, 24, some (.nilsl), false⟩),
  (46, ⟨.func #[45, 3] #[3] false, 1, 8, none, false⟩),
  (48, ⟨.func #[2, 49] #[4, 2] false, 1, 8, none, false⟩),
  (49, ⟨.slice 64, 1, 24, some (.nilsl), false⟩),
  (50, ⟨.func #[45, 4] #[49] false, 1, 8, none, false⟩),
  (51, ⟨.func #[49, 49] #[4] false, 1, 8, none, false⟩),
  (52, ⟨.func #[2, 45] #[4] false, 1, 8, none, false⟩),
  (53, ⟨.array 6 2, 6, 48, some (.arr [0, 0, 0, 0, 0, 0]), true⟩),
  (55, ⟨.func #[2, 56] #[49, 2] false, 1, 8, none, false⟩),
  (56, ⟨.array 6 2, 6, 48, some (.arr [0, 0, 0, 0, 0, 0]), true⟩),
  (57, ⟨.func #[53] #[56] false, 1, 8, none, false⟩),
  (58, ⟨.func #[49, 3] #[3] false, 1, 8, none, false⟩),
  (59, ⟨.func #[2, 53] #[4] false, 1, 8, none, false⟩),
  (60, ⟨.array 3 2, 3, 24, some (.arr [0, 0, 0]), true⟩),
  (61, ⟨.array 3 2, 3, 24, some (.arr [0, 0, 0]), true⟩),
  (63, ⟨.func #[2, 56, 64] #[61, 2] false, 1, 8, none, false⟩),
  (64, ⟨.array 3 2, 3, 24, some (.arr [0, 0, 0]), true⟩),
  (65, ⟨.func #[60] #[64] false, 1, 8, none, false⟩),
  (66, ⟨.func #[61, 61] #[4] false, 1, 8, none, false⟩),
  (67, ⟨.func #[2, 53, 60] #[4] false, 1, 8, none, false⟩),
  (68, ⟨.slice 61, 1, 24, some (.nilsl), false⟩),
  (70, ⟨.func #[2, 56] #[68, 2] false, 1, 8, none, false⟩),
  (71, ⟨.func #[68, 68] #[4] false, 1, 8, none, false⟩),
  (72, ⟨.func #[68, 3] #[3] false, 1, 8, none, false⟩),
  (74, ⟨.func #[2, 56, 56, 64] #[56, 2] false, 1, 8, none, false⟩),
  (75, ⟨.func #[56, 56] #[4] false, 1, 8, none, false⟩),
  (76, ⟨.func #[2, 53, 53, 60] #[4] false, 1, 8, none, false⟩),
  (77, ⟨.func #[2, 22, 22] #[34, 2] false, 1, 8, none, false⟩),
  (78, ⟨.func #[2, 22, 22] #[4] false, 1, 8, none, false⟩),
  (79, ⟨.func #[2, 56, 61] #[49, 2] false, 1, 8, none, false⟩),
  (80, ⟨.func #[60] #[61] false, 1, 8, none, false⟩),
  (81, ⟨.func #[2, 56, 56] #[49, 2] false, 1, 8, none, false⟩),
  (82, ⟨.func #[2, 53, 53] #[4] false, 1, 8, none, false⟩),
  (83, ⟨.func #[2, 22] #[24] false, 1, 8, none, false⟩),
  (84, ⟨.func #[3] #[3] false, 1, 8, none, false⟩),
  (85, ⟨.func #[2, 86, 22] #[2] true, 1, 8, none, false⟩),
  (86, ⟨.slice 34, 1, 24, some (.nilsl), false⟩),
  (87, ⟨.func #[2, 34, 2] #[2] false, 1, 8, none, false⟩),
  (88, ⟨.func #[2, 2] #[2] false, 1, 8, none, false⟩),
  (89, ⟨.func #[2] #[86] false, 1, 8, none, false⟩),
  (90, ⟨.func #[2] #[4] false, 1, 8, none, false⟩),
  (91, ⟨.func #[2, 22] #[4] true, 1, 8, none, false⟩),
  (93, ⟨.func #[2, 95] #[34, 4] false, 1, 8, none, false⟩),
  (94, ⟨.func #[2] #[2] false, 1, 8, none, false⟩),
  (95, ⟨.func #[34] #[4] false, 1, 8, none, false⟩),
  (96, ⟨.func #[2, 49] #[2] true, 1, 8, none, false⟩),
  (97, ⟨.func #[49] #[4] false, 1, 8, none, false⟩),
  (98, ⟨.func #[2, 56, 49] #[2] true, 1, 8, none, false⟩),
  (99, ⟨.func #[2, 56] #[49] false, 1, 8, none, false⟩),
  (100, ⟨.func #[2, 4, 138] #[2] true, 1, 8, none, false⟩),
  (101, ⟨.func #[2] #[49] false, 1, 8, none, false⟩),
  (102, ⟨.func #[64, 64] #[4] false, 1, 8, none, false⟩),
  (104, ⟨.func #[2, 56, 64] #[61, 4] false, 1, 8, none, false⟩),
  (105, ⟨.func #[2, 56, 64] #[2] false, 1, 8, none, false⟩),
  (106, ⟨.func #[2, 49] #[4] true, 1, 8, none, false⟩),
  (107, ⟨.func #[2, 64] #[61, 4] false, 1, 8, none, false⟩),
  (108, ⟨.func #[2, 64] #[2] false, 1, 8, none, false⟩),
  (109, ⟨.func #[2, 61] #[49] false, 1, 8, none, false⟩),
  (110, ⟨.func #[2, 111] #[68] false, 1, 8, none, false⟩),
  (111, ⟨.func #[61] #[4] false, 1, 8, none, false⟩),
  (112, ⟨.func #[2, 56, 56, 49] #[2] true, 1, 8, none, false⟩),
  (113, ⟨.func #[2, 56, 56, 2, 2] #[56] false, 1, 8, none, false⟩),
  (114, ⟨.func #[2, 4, 56, 56] #[2] false, 1, 8, none, false⟩),
  (115, ⟨.func #[2, 56, 56, 64] #[4] false, 1, 8, none, false⟩),
  (116, ⟨.func #[22] #[22] false, 1, 8, none, false⟩),
  (117, ⟨.func #[22] #[4] true, 1, 8, none, false⟩),
  (118, ⟨.func #[2, 34, 34] #[34] false, 1, 8, none, false⟩),
  (119, ⟨.func #[2, 2, 2, 2] #[34] false, 1, 8, none, false⟩),
  (120, ⟨.func #[2, 34] #[34] false, 1, 8, none, false⟩),
  (121, ⟨.func #[2, 68] #[4] true, 1, 8, none, false⟩),
  (122, ⟨.func #[2, 56, 56] #[49] false, 1, 8, none, false⟩),
  (123, ⟨.func #[2, 124] #[49] false, 1, 8, none, false⟩),
  (124, ⟨.func #[64] #[4] false, 1, 8, none, false⟩),
  (125, ⟨.func #[2, 2, 2] #[4] false, 1, 8, none, false⟩),
  (127, ⟨.func #[2, 22] #[24, 4] false, 1, 8, none, false⟩),
  (128, ⟨.func #[2, 34] #[4] false, 1, 8, none, false⟩),
  (129, ⟨.func #[2, 2, 2] #[2] false, 1, 8, none, false⟩),
  (130, ⟨.func #[2, 132] #[2] false, 1, 8, none, false⟩),
  (131, ⟨.func #[86, 95] #[4] false, 1, 8, none, false⟩),
  (132, ⟨.func #[] #[4] false, 1, 8, none, false⟩),
  (133, ⟨.array 2 2, 2, 16, some (.arr [0, 0]), true⟩),
  (134, ⟨.func #[2, 2] #[133] false, 1, 8, none, false⟩),
  (135, ⟨.func #[2, 64] #[4] false, 1, 8, none, false⟩),
  (136, ⟨.func #[64, 64] #[3] false, 1, 8, none, false⟩),
  (137, ⟨.func #[2, 56] #[4] false, 1, 8, none, false⟩),
  (138, ⟨.slice 56, 1, 24, some (.nilsl), false⟩),
  (139, ⟨.func #[138, 140] #[4] false, 1, 8, none, false⟩),
  (140, ⟨.func #[56] #[4] false, 1, 8, none, false⟩),
  (141, ⟨.slice 22, 1, 24, some (.nilsl), false⟩),
  (142, ⟨.func #[2, 56] #[141] false, 1, 8, none, false⟩),
  (144, ⟨.func #[2, 2, 2, 2] #[64, 4] false, 1, 8, none, false⟩),
  (145, ⟨.array 3 60, 9, 72, some (.arr [0, 0, 0, 0, 0, 0, 0, 0, 0]), true⟩),
  (146, ⟨.array 3 60, 9, 72, some (.arr [0, 0, 0, 0, 0, 0, 0, 0, 0]), true⟩),
  (147, ⟨.func #[2] #[146] false, 1, 8, none, false⟩),
  (148, ⟨.func #[2, 60, 60] #[2] false, 1, 8, none, false⟩),
  (149, ⟨.func #[64] #[53] false, 1, 8, none, false⟩),
  (150, ⟨.func #[2, 64, 61] #[4] false, 1, 8, none, false⟩),
  (152, ⟨.func #[2, 22] #[56, 4] false, 1, 8, none, false⟩),
  (153, ⟨.func #[2, 2, 2, 2, 2] #[34] false, 1, 8, none, false⟩),
  (154, ⟨.func #[2, 2] #[2, 2] false, 1, 8, none, false⟩),
  (155, ⟨.func #[22, 2] #[4] false, 1, 8, none, false⟩),
  (156, ⟨.func #[2, 61] #[4] false, 1, 8, none, false⟩),
  (157, ⟨.func #[49, 124] #[49] false, 1, 8, none, false⟩),
  (159, ⟨.func #[2, 22] #[22, 4] false, 1, 8, none, false⟩),
  (160, ⟨.func #[86, 95] #[3] false, 1, 8, none, false⟩),
  (161, ⟨.func #[64] #[22] false, 1, 8, none, false⟩),
  (162, ⟨.func #[22, 22] #[3] false, 1, 8, none, false⟩),
  (163, ⟨.func #[138, 140] #[3] false, 1, 8, none, false⟩),
  (164, ⟨.func #[22, 2] #[3] false, 1, 8, none, false⟩),
  (165, ⟨.func #[49, 124] #[3] false, 1, 8, none, false⟩),
  (166, ⟨.func #[2, 2] #[3] false, 1, 8, none, false⟩),
  (167, ⟨.func #[] #[9] false, 1, 8, none, false⟩),
  (170, ⟨.array 0 16, 0, 0, none, false⟩),
  (173, ⟨.func #[] #[3] false, 1, 8, none, false⟩),
  (177, ⟨.func #[183, 183] #[4] false, 1, 8, none, false⟩)]
theorem tab_ok : TOK Try.prog tab :=
  TOK.cons (TI.of0 (by kernel_rfl) (by kernel_rfl) rfl (fun h => by cases h)) <|
  TOK.cons (TI.of (by kernel_rfl) (by kernel_rfl) (fun v hv => by injection hv with hv; subst hv; rfl) (fun h => by cases h)) <|
  TOK.cons (TI.of (by kernel_rfl) (by kernel_rfl) (fun v hv => by injection hv with hv; subst hv; rfl) (fun h => by cases h)) <|
  TOK.cons (TI.of (by kernel_rfl) (by kernel_rfl) (fun v hv => by injection hv with hv; subst hv; rfl) (fun h => by cases h)) <|
  TOK.cons (TI.of (by kernel_rfl) (by kernel_rfl) (fun v hv => by injection hv with hv; subst hv; rfl) (fun h => by cases h)) <|
  TOK.cons (TI.of (by kernel_rfl) (by kernel_rfl) (fun v hv => by injection hv with hv; subst hv; rfl) (fun _ => by kernel_rfl)) <|
  TOK.cons (TI.of (by kernel_rfl) (by kernel_rfl) (fun v hv => by injection hv with hv; subst hv; rfl) (fun _ => by kernel_rfl)) <|
  TOK.cons (TI.of0 (by kernel_rfl) (by kernel_rfl) rfl (fun h => by cases h)) <|
  TOK.cons (TI.of0 (by kernel_rfl) (by kernel_rfl) rfl (fun h => by cases h)) <|
  TOK.cons (TI.of0 (by kernel_rfl) (by kernel_rfl) rfl (fun h => by cases h)) <|
  TOK.cons (TI.of0 (by kernel_rfl) (by kernel_rfl) rfl (fun h => by cases h)) <|
  TOK.cons (TI.of0 (by kernel_rfl) (by kernel_rfl) rfl (fun h => by cases h)) <|
  TOK.cons (TI.of (by kernel_rfl) (by kernel_rfl) (fun v hv => by injection hv with hv; subst hv; rfl) (fun _ => by kernel_rfl)) <|
  TOK.cons (TI.of0 (by kernel_rfl) (by kernel_rfl) rfl (fun h => by cases h)) <|
  TOK.cons (TI.of (by kernel_rfl) (by kernel_rfl) (fun v hv => by injection hv with hv; subst hv; rfl) (fun _ => by kernel_rfl)) <|
  TOK.cons (TI.of0 (by kernel_rfl) (by kernel_rfl) rfl (fun h => by cases h)) <|
  TOK.cons (TI.of0 (by kernel_rfl) (by kernel_rfl) rfl (fun h => by cases h)) <|
  TOK.cons (TI.of0 (by kernel_rfl) (by kernel_rfl) rfl (fun h => by cases h)) <|
  TOK.cons (TI.of0 (by kernel_rfl) (by kernel_rfl) rfl (fun h => by cases h)) <|
  TOK.cons (TI.of0 (by kernel_rfl) (by kernel_rfl) rfl (fun h => by cases h)) <|
  TOK.cons (TI.of0 (by kernel_rfl) (by kernel_rfl) rfl (fun h => by cases h)) <|
  TOK.cons (TI.of0 (by kernel_rfl) (by kernel_rfl) rfl (fun h => by cases h)) <|
  TOK.cons (TI.of0 (by kernel_rfl) (by kernel_rfl) rfl (fun h => by cases h)) <|
  TOK.cons (TI.of (by kernel_rfl) (by kernel_rfl) (fun v hv => by injection hv with hv; subst hv; rfl) (fun h => by cases h)) <|
  TOK.cons (TI.of0 (by kernel_rfl) (by kernel_rfl) rfl (fun h => by cases h)) <|
  TOK.cons (TI.of0 (by kernel_rfl) (by kernel_rfl) rfl (fun h => by cases h)) <|
  TOK.cons (TI.of (by kernel_rfl) (by kernel_rfl) (fun v hv => by injection hv with hv; subst hv; rfl) (fun h => by cases h)) <|
  TOK.cons (TI.of0 (by kernel_rfl) (by kernel_rfl) rfl (fun h => by cases h)) <|
  TOK.cons (TI.of0 (by kernel_rfl) (by kernel_rfl) rfl (fun h => by cases h)) <|
  TOK.cons (TI.of0 (by kernel_rfl) (by kernel_rfl) rfl (fun h => by cases h)) <|
  TOK.cons (TI.of (by kernel_rfl) (by kernel_rfl) (fun v hv => by injection hv with hv; subst hv; rfl) (fun _ => by kernel_rfl)) <|
  TOK.cons (TI.of0 (by kernel_rfl) (by kernel_rfl) rfl (fun h => by cases h)) <|
  TOK.cons (TI.of (by kernel_rfl) (by kernel_rfl) (fun v hv => by injection hv with hv; subst hv; rfl) (fun _ => by kernel_rfl)) <|
  TOK.cons (TI.of0 (by kernel_rfl) (by kernel_rfl) rfl (fun h => by cases h)) <|
  TOK.cons (TI.of0 (by kernel_rfl) (by kernel_rfl) rfl (fun h => by cases h)) <|
  TOK.cons (TI.of0 (by kernel_rfl) (by kernel_rfl) rfl (fun h => by cases h)) <|
  TOK.cons (TI.of (by kernel_rfl) (by kernel_rfl) (fun v hv => by injection hv with hv; subst hv; rfl) (fun _ => by kernel_rfl)) <|
  TOK.cons (TI.of (by kernel_rfl) (by kernel_rfl) (fun v hv => by injection hv with hv; subst hv; rfl) (fun _ => by kernel_rfl)) <|
  TOK.cons (TI.of0 (by kernel_rfl) (by kernel_rfl) rfl (fun h => by cases h)) <|
  TOK.cons (TI.of (by kernel_rfl) (by kernel_rfl) (fun v hv => by injection hv with hv; subst hv; rfl) (fun _ => by kernel_rfl)) <|
  TOK.cons (TI.of0 (by kernel_rfl) (by kernel_rfl) rfl (fun h => by cases h)) <|
  TOK.cons (TI.of0 (by kernel_rfl) (by kernel_rfl) rfl (fun h => by cases h)) <|
  TOK.cons (TI.of0 (by kernel_rfl) (by kernel_rfl) rfl (fun h => by cases h)) <|
  TOK.cons (TI.of (by kernel_rfl) (by kernel_rfl) (fun v hv => by injection hv with hv; subst hv; rfl) (fun h => by cases h)) <|
  TOK.cons (TI.of0 (by kernel_rfl) (by kernel_rfl) rfl (fun h => by cases h)) <|
  TOK.cons (TI.of0 (by kernel_rfl) (by kernel_rfl) rfl (fun h => by cases h)) <|
  TOK.cons (TI.of0 (by kernel_rfl) (by kernel_rfl) rfl (fun h => by cases h)) <|
  TOK.cons (TI.of0 (by kernel_rfl) (by kernel_rfl) rfl (fun h => by cases h)) <|
  TOK.cons (TI.of0 (by kernel_rfl) (by kernel_rfl) rfl (fun h => by cases h)) <|
  TOK.cons (TI.of0 (by kernel_rfl) (by kernel_rfl) rfl (fun h => by cases h)) <|
  TOK.cons (TI.of0 (by kernel_rfl) (by kernel_rfl) rfl (fun h => by cases h)) <|
  TOK.cons (TI.of0 (by kernel_rfl) (by kernel_rfl) rfl (fun h => by cases h)) <|
  TOK.cons (TI.of0 (by kernel_rfl) (by kernel_rfl) rfl (fun h => by cases h)) <|
  TOK.cons (TI.of0 (by kernel_rfl) (by kernel_rfl) rfl (fun h => by cases h)) <|
  TOK.cons (TI.of0 (by kernel_rfl) (by kernel_rfl) rfl (fun h => by cases h)) <|
  TOK.cons (TI.of0 (by kernel_rfl) (by kernel_rfl) rfl (fun h => by cases h)) <|
  TOK.cons (TI.of0 (by kernel_rfl) (by kernel_rfl) rfl (fun h => by cases h)) <|
  TOK.cons (TI.of0 (by kernel_rfl) (by kernel_rfl) rfl (fun h => by cases h)) <|
  TOK.cons (TI.of0 (by kernel_rfl) (by kernel_rfl) rfl (fun h => by cases h)) <|
  TOK.cons (TI.of (by kernel_rfl) (by kernel_rfl) (fun v hv => by injection hv with hv; subst hv; rfl) (fun h => by cases h)) <|
  TOK.cons (TI.of0 (by kernel_rfl) (by kernel_rfl) rfl (fun h => by cases h)) <|
  TOK.cons (TI.of0 (by kernel_rfl) (by kernel_rfl) rfl (fun h => by cases h)) <|
  TOK.cons (TI.of0 (by kernel_rfl) (by kernel_rfl) rfl (fun h => by cases h)) <|
  TOK.cons (TI.of0 (by kernel_rfl) (by kernel_rfl) rfl (fun h => by cases h)) <|
  TOK.cons (TI.of0 (by kernel_rfl) (by kernel_rfl) rfl (fun h => by cases h)) <|
  TOK.cons (TI.of0 (by kernel_rfl) (by kernel_rfl) rfl (fun h => by cases h)) <|
  TOK.cons (TI.of0 (by kernel_rfl) (by kernel_rfl) rfl (fun h => by cases h)) <|
  TOK.cons (TI.of0 (by kernel_rfl) (by kernel_rfl) rfl (fun h => by cases h)) <|
  TOK.cons (TI.of0 (by kernel_rfl) (by kernel_rfl) rfl (fun h => by cases h)) <|
  TOK.cons (TI.of0 (by kernel_rfl) (by kernel_rfl) rfl (fun h => by cases h)) <|
  TOK.cons (TI.of0 (by kernel_rfl) (by kernel_rfl) rfl (fun h => by cases h)) <|
  TOK.cons (TI.of0 (by kernel_rfl) (by kernel_rfl) rfl (fun h => by cases h)) <|
  TOK.cons (TI.of0 (by kernel_rfl) (by kernel_rfl) rfl (fun h => by cases h)) <|
  TOK.cons (TI.of0 (by kernel_rfl) (by kernel_rfl) rfl (fun h => by cases h)) <|
  TOK.cons (TI.of0 (by kernel_rfl) (by kernel_rfl) rfl (fun h => by cases h)) <|
  TOK.cons (TI.of0 (by kernel_rfl) (by kernel_rfl) rfl (fun h => by cases h)) <|
  TOK.cons (TI.of0 (by kernel_rfl) (by kernel_rfl) rfl (fun h => by cases h)) <|
  TOK.cons (TI.of0 (by kernel_rfl) (by kernel_rfl) rfl (fun h => by cases h)) <|
  TOK.cons (TI.of0 (by kernel_rfl) (by kernel_rfl) rfl (fun h => by cases h)) <|
  TOK.cons (TI.of0 (by kernel_rfl) (by kernel_rfl) rfl (fun h => by cases h)) <|
  TOK.cons (TI.of0 (by kernel_rfl) (by kernel_rfl) rfl (fun h => by cases h)) <|
  TOK.cons (TI.of0 (by kernel_rfl) (by kernel_rfl) rfl (fun h => by cases h)) <|
  TOK.cons (TI.of0 (by kernel_rfl) (by kernel_rfl) rfl (fun h => by cases h)) <|
  TOK.cons (TI.of0 (by kernel_rfl) (by kernel_rfl) rfl (fun h => by cases h)) <|
  TOK.cons (TI.of0 (by kernel_rfl) (by kernel_rfl) rfl (fun h => by cases h)) <|
  TOK.cons (TI.of0 (by kernel_rfl) (by kernel_rfl) rfl (fun h => by cases h)) <|
  TOK.cons (TI.of0 (by kernel_rfl) (by kernel_rfl) rfl (fun h => by cases h)) <|
  TOK.cons (TI.of0 (by kernel_rfl) (by kernel_rfl) rfl (fun h => by cases h)) <|
  TOK.cons (TI.of0 (by kernel_rfl) (by kernel_rfl) rfl (fun h => by cases h)) <|
  TOK.cons (TI.of0 (by kernel_rfl) (by kernel_rfl) rfl (fun h => by cases h)) <|
  TOK.cons (TI.of0 (by kernel_rfl) (by kernel_rfl) rfl (fun h => by cases h)) <|
  TOK.cons (TI.of0 (by kernel_rfl) (by kernel_rfl) rfl (fun h => by cases h)) <|
  TOK.cons (TI.of0 (by kernel_rfl) (by kernel_rfl) rfl (fun h => by cases h)) <|
  TOK.cons (TI.of0 (by kernel_rfl) (by kernel_rfl) rfl (fun h => by cases h)) <|
  TOK.cons (TI.of0 (by kernel_rfl) (by kernel_rfl) rfl (fun h => by cases h)) <|
  TOK.cons (TI.of0 (by kernel_rfl) (by kernel_rfl) rfl (fun h => by cases h)) <|
  TOK.cons (TI.of0 (by kernel_rfl) (by kernel_rfl) rfl (fun h => by cases h)) <|
  TOK.cons (TI.of0 (by kernel_rfl) (by kernel_rfl) rfl (fun h => by cases h)) <|
  TOK.cons (TI.of0 (by kernel_rfl) (by kernel_rfl) rfl (fun h => by cases h)) <|
  TOK.cons (TI.of0 (by kernel_rfl) (by kernel_rfl) rfl (fun h => by cases h)) <|
  TOK.cons (TI.of0 (by kernel_rfl) (by kernel_rfl) rfl (fun h => by cases h)) <|
  TOK.cons (TI.of0 (by kernel_rfl) (by kernel_rfl) rfl (fun h => by cases h)) <|
  TOK.cons (TI.of0 (by kernel_rfl) (by kernel_rfl) rfl (fun h => by cases h)) <|
  TOK.cons (TI.of (by kernel_rfl) (by kernel_rfl) (fun v hv => by injection hv with hv; subst hv; rfl) (fun _ => by kernel_rfl)) <|
  TOK.cons (TI.of0 (by kernel_rfl) (by kernel_rfl) rfl (fun h => by cases h)) <|
  TOK.cons (TI.of0 (by kernel_rfl) (by kernel_rfl) rfl (fun h => by cases h)) <|
  TOK.cons (TI.of0 (by kernel_rfl) (by kernel_rfl) rfl (fun h => by cases h)) <|
  TOK.cons (TI.of0 (by kernel_rfl) (by kernel_rfl) rfl (fun h => by cases h)) <|
  TOK.cons (TI.of (by kernel_rfl) (by kernel_rfl) (fun v hv => by injection hv with hv; subst hv; rfl) (fun h => by cases h)) <|
  TOK.cons (TI.of0 (by kernel_rfl) (by kernel_rfl) rfl (fun h => by cases h)) <|
  TOK.cons (TI.of0 (by kernel_rfl) (by kernel_rfl) rfl (fun h => by cases h)) <|
  TOK.cons (TI.of (by kernel_rfl) (by kernel_rfl) (fun v hv => by injection hv with hv; subst hv; rfl) (fun h => by cases h)) <|
  TOK.cons (TI.of0 (by kernel_rfl) (by kernel_rfl) rfl (fun h => by cases h)) <|
  TOK.cons (TI.of0 (by kernel_rfl) (by kernel_rfl) rfl (fun h => by cases h)) <|
  TOK.cons (TI.of (by kernel_rfl) (by kernel_rfl) (fun v hv => by injection hv with hv; subst hv; rfl) (fun _ => by kernel_rfl)) <|
  TOK.cons (TI.of (by kernel_rfl) (by kernel_rfl) (fun v hv => by injection hv with hv; subst hv; rfl) (fun _ => by kernel_rfl)) <|
  TOK.cons (TI.of0 (by kernel_rfl) (by kernel_rfl) rfl (fun h => by cases h)) <|
  TOK.cons (TI.of0 (by kernel_rfl) (by kernel_rfl) rfl (fun h => by cases h)) <|
  TOK.cons (TI.of0 (by kernel_rfl) (by kernel_rfl) rfl (fun h => by cases h)) <|
  TOK.cons (TI.of0 (by kernel_rfl) (by kernel_rfl) rfl (fun h => by cases h)) <|
  TOK.cons (TI.of0 (by kernel_rfl) (by kernel_rfl) rfl (fun h => by cases h)) <|
  TOK.cons (TI.of0 (by kernel_rfl) (by kernel_rfl) rfl (fun h => by cases h)) <|
  TOK.cons (TI.of0 (by kernel_rfl) (by kernel_rfl) rfl (fun h => by cases h)) <|
  TOK.cons (TI.of0 (by kernel_rfl) (by kernel_rfl) rfl (fun h => by cases h)) <|
  TOK.cons (TI.of0 (by kernel_rfl) (by kernel_rfl) rfl (fun h => by cases h)) <|
  TOK.cons (TI.of0 (by kernel_rfl) (by kernel_rfl) rfl (fun h => by cases h)) <|
  TOK.cons (TI.of0 (by kernel_rfl) (by kernel_rfl) rfl (fun h => by cases h)) <|
  TOK.cons (TI.of0 (by kernel_rfl) (by kernel_rfl) rfl (fun h => by cases h)) <|
  TOK.cons (TI.of0 (by kernel_rfl) (by kernel_rfl) rfl (fun h => by cases h)) <|
  TOK.cons (TI.of0 (by kernel_rfl) (by kernel_rfl) rfl (fun h => by cases h)) <|
  TOK.cons (TI.of0 (by kernel_rfl) (by kernel_rfl) rfl (fun h => by cases h)) <|
  TOK.cons (TI.of0 (by kernel_rfl) (by kernel_rfl) rfl (fun h => by cases h)) <|
  TOK.cons (TI.of0 (by kernel_rfl) (by kernel_rfl) rfl (fun h => by cases h)) <|
  TOK.cons (TI.of0 (by kernel_rfl) (by kernel_rfl) rfl (fun h => by cases h)) <|
  TOK.cons (TI.of0 (by kernel_rfl) (by kernel_rfl) rfl (fun h => by cases h)) <|
  TOK.cons (TI.of0 (by kernel_rfl) (by kernel_rfl) rfl (fun h => by cases h)) <|
  TOK.cons (TI.of0 (by kernel_rfl) (by kernel_rfl) rfl (fun h => by cases h)) <|
  TOK.cons (TI.of0 (by kernel_rfl) (by kernel_rfl) rfl (fun h => by cases h)) <|
  TOK.nil
theorem lateOk : Try.prog.follows .mixedOrders = true := by kernel_rfl
noncomputable abbrev cx (gl : List (Nat × Nat)) (N : Nat) (D W : List Nat) : Cx := ⟨Try.prog, tab, tab_ok, gl, N, D, W⟩
end Go.Proofs.Ytgfncdejnjikpaa
