/- The table of types of the seat. Printed by gentab.py. -/
import Derived.Test.YtendffbpmpobnaaDoorEngG
import Derived.Test.YtendffbpmpobnaaDoorProg
namespace Go.Proofs.YtendffbpmpobnaaDoor
theorem TI.of {P : Program} {t : Nat} {x : TI} (h1 : P.underlying t = some x.d) (h2 : (P.info? t).map (fun i => (i.size, i.bytes, i.zero)) = some (x.size, x.bytes, x.z.map (rv fun b => b))) (h3 : ∀ v, x.z = some v → v.ids = []) (h4 : x.g = true → P.eqGuardType P.depth t = false) : x.ok P t := by
  cases hi : P.info? t with
  | none => simp [hi] at h2
  | some i =>
    simp only [hi, Option.map_some, Option.some.injEq, Prod.mk.injEq] at h2
    exact ⟨h1, ⟨i, hi, h2.1, h2.2.1, fun v hv => ⟨by rw [h2.2.2, hv]; rfl, h3 v hv⟩⟩, h4⟩
theorem TI.of0 {P : Program} {t : Nat} {x : TI} (h1 : P.underlying t = some x.d) (h2 : (P.info? t).map (fun i => (i.size, i.bytes)) = some (x.size, x.bytes)) (h3 : x.z = none) (h4 : x.g = true → P.eqGuardType P.depth t = false) : x.ok P t := by
  cases hi : P.info? t with
  | none => simp [hi] at h2
  | some i =>
    simp only [hi, Option.map_some, Option.some.injEq, Prod.mk.injEq] at h2
    exact ⟨h1, ⟨i, hi, h2.1, h2.2, fun v hv => by rw [h3] at hv; cases hv⟩, h4⟩
def tab : TT := [(1, ⟨.func #[] #[] false, 1, 8, none, false⟩),
  (2, ⟨.int .i64, 1, 8, some (.int 0), false⟩),
  (3, ⟨.int .i64, 1, 8, some (.int 0), false⟩),
  (4, ⟨.bool, 1, 1, some (.bool false), false⟩),
  (22, ⟨.array 10 2, 10, 80, some (.arr [0, 0, 0, 0, 0, 0, 0, 0, 0, 0]), true⟩),
  (23, ⟨.array 4 2, 4, 32, some (.arr [0, 0, 0, 0]), true⟩),
  (25, ⟨.func #[2, 26, 28] #[4, 2] false, 1, 8, none, false⟩),
  (26, ⟨.array 10 2, 10, 80, some (.arr [0, 0, 0, 0, 0, 0, 0, 0, 0, 0]), true⟩),
  (27, ⟨.func #[22] #[26] false, 1, 8, none, false⟩),
  (28, ⟨.array 4 2, 4, 32, some (.arr [0, 0, 0, 0]), true⟩),
  (29, ⟨.func #[23] #[28] false, 1, 8, none, false⟩),
  (30, ⟨.func #[2, 22, 23] #[4] false, 1, 8, none, false⟩),
  (32, ⟨.func #[2, 26] #[2, 2] false, 1, 8, none, false⟩),
  (33, ⟨.func #[2, 22] #[4] false, 1, 8, none, false⟩),
  (34, ⟨.slice 28, 1, 24, some (.nilsl), false⟩),
  (36, ⟨.func #[2, 26] #[34, 2] false, 1, 8, none, false⟩),
  (37, ⟨.func #[34, 34] #[4] false, 1, 8, none, false⟩),
  (38, ⟨.func #[34, 3] #[3] false, 1, 8, none, false⟩),
  (40, ⟨.func #[2, 26, 28] #[28, 2] false, 1, 8, none, false⟩),
  (41, ⟨.func #[28, 28] #[4] false, 1, 8, none, false⟩),
  (43, ⟨.func #[2, 26] #[2, 2, 2] false, 1, 8, none, false⟩),
  (44, ⟨.slice 2, 1, 24, some (.nilsl), false⟩),
  (46, ⟨.func #[2, 26, 44] #[44, 2] false, 1, 8, none, false⟩),
  (47, ⟨.func #[44, 4] #[44] false, 1, 8, none, false⟩),
  (48, ⟨.func #[44, 44] #[4] false, 1, 8, none, false⟩),
  (49, ⟨.func #[44, 3] #[3] false, 1, 8, none, false⟩),
  (50, ⟨.func #[2, 22, 44] #[4] false, 1, 8, none, false⟩),
  (51, ⟨.slice 23, 1, 24, some (.nilsl), false⟩),
  (52, ⟨.func #[51, 3] #[3] false, 1, 8, none, false⟩),
  (53, ⟨.slice 44, 1, 24, some (.nilsl), false⟩),
  (55, ⟨.func #[2, 34] #[53, 2] false, 1, 8, none, false⟩),
  (56, ⟨.func #[51, 4] #[34] false, 1, 8, none, false⟩),
  (57, ⟨.func #[53, 53] #[4] false, 1, 8, none, false⟩),
  (58, ⟨.func #[53, 3] #[3] false, 1, 8, none, false⟩),
  (59, ⟨.func #[2, 51] #[4] false, 1, 8, none, false⟩),
  (61, ⟨.func #[2, 34] #[26, 2] false, 1, 8, none, false⟩),
  (62, ⟨.func #[26, 26] #[4] false, 1, 8, none, false⟩),
  (63, ⟨.func #[2, 26, 34] #[2] true, 1, 8, none, false⟩),
  (64, ⟨.func #[2, 26, 28] #[2] false, 1, 8, none, false⟩),
  (65, ⟨.func #[2, 23] #[2] false, 1, 8, none, false⟩),
  (66, ⟨.func #[2, 26] #[34] false, 1, 8, none, false⟩),
  (67, ⟨.func #[2] #[34] false, 1, 8, none, false⟩),
  (69, ⟨.func #[2, 26, 28] #[28, 4] false, 1, 8, none, false⟩),
  (70, ⟨.func #[2, 23] #[28] false, 1, 8, none, false⟩),
  (71, ⟨.func #[2, 44] #[4] false, 1, 8, none, false⟩),
  (72, ⟨.func #[2, 73] #[34] false, 1, 8, none, false⟩),
  (73, ⟨.func #[28] #[4] false, 1, 8, none, false⟩),
  (74, ⟨.func #[2, 53] #[44] false, 1, 8, none, false⟩),
  (75, ⟨.func #[2, 26] #[53] false, 1, 8, none, false⟩),
  (76, ⟨.func #[2, 2] #[2] false, 1, 8, none, false⟩),
  (77, ⟨.func #[78] #[53] false, 1, 8, none, false⟩),
  (78, ⟨.array 4 23, 16, 128, some (.arr [0, 0, 0, 0, 0, 0, 0, 0, 0, 0, 0, 0, 0, 0, 0, 0]), true⟩),
  (79, ⟨.func #[2] #[78] false, 1, 8, none, false⟩),
  (80, ⟨.func #[2, 53] #[53] false, 1, 8, none, false⟩),
  (81, ⟨.func #[2, 53] #[2] false, 1, 8, none, false⟩),
  (82, ⟨.func #[2, 2, 53] #[53] false, 1, 8, none, false⟩),
  (83, ⟨.array 3 2, 3, 24, some (.arr [0, 0, 0]), true⟩),
  (84, ⟨.array 3 83, 9, 72, some (.arr [0, 0, 0, 0, 0, 0, 0, 0, 0]), true⟩),
  (86, ⟨.func #[2, 44] #[44, 4] false, 1, 8, none, false⟩),
  (87, ⟨.func #[3] #[3] false, 1, 8, none, false⟩),
  (88, ⟨.func #[2, 53, 3] #[53] false, 1, 8, none, false⟩),
  (89, ⟨.func #[2, 23, 23] #[2] false, 1, 8, none, false⟩),
  (90, ⟨.func #[2, 34] #[2] false, 1, 8, none, false⟩),
  (91, ⟨.func #[2, 34] #[53] false, 1, 8, none, false⟩),
  (92, ⟨.func #[44] #[44] false, 1, 8, none, false⟩),
  (93, ⟨.func #[2, 28, 28] #[28] false, 1, 8, none, false⟩),
  (95, ⟨.func #[2, 44] #[26, 4] false, 1, 8, none, false⟩),
  (96, ⟨.func #[34] #[34] false, 1, 8, none, false⟩),
  (97, ⟨.func #[2] #[4] false, 1, 8, none, false⟩),
  (98, ⟨.func #[2, 26] #[4] false, 1, 8, none, false⟩),
  (99, ⟨.func #[2, 28] #[4] false, 1, 8, none, false⟩),
  (100, ⟨.func #[2, 28] #[44] false, 1, 8, none, false⟩),
  (101, ⟨.func #[2, 103] #[2] false, 1, 8, none, false⟩),
  (102, ⟨.func #[2, 34] #[4] true, 1, 8, none, false⟩),
  (103, ⟨.func #[] #[4] false, 1, 8, none, false⟩),
  (104, ⟨.array 2 3, 2, 16, some (.arr [0, 0]), true⟩),
  (105, ⟨.array 10 104, 20, 160, some (.arr [0, 0, 0, 0, 0, 0, 0, 0, 0, 0, 0, 0, 0, 0, 0, 0, 0, 0, 0, 0]), true⟩),
  (106, ⟨.func #[2, 26, 28] #[44] false, 1, 8, none, false⟩),
  (107, ⟨.func #[] #[105] false, 1, 8, none, false⟩),
  (108, ⟨.func #[53] #[44] true, 1, 8, none, false⟩),
  (109, ⟨.func #[2, 2, 2] #[4] false, 1, 8, none, false⟩),
  (110, ⟨.func #[2, 44, 44, 2] #[44] false, 1, 8, none, false⟩),
  (111, ⟨.func #[44] #[3] false, 1, 8, none, false⟩),
  (112, ⟨.func #[2, 44] #[4] true, 1, 8, none, false⟩),
  (113, ⟨.slice 3, 1, 24, some (.nilsl), false⟩),
  (114, ⟨.func #[44, 97] #[3] false, 1, 8, none, false⟩),
  (115, ⟨.func #[113, 3] #[4] false, 1, 8, none, false⟩),
  (116, ⟨.func #[34, 73] #[4] false, 1, 8, none, false⟩),
  (117, ⟨.func #[44, 3] #[44] false, 1, 8, none, false⟩),
  (118, ⟨.func #[113, 3] #[3] false, 1, 8, none, false⟩),
  (119, ⟨.func #[34, 73] #[3] false, 1, 8, none, false⟩),
  (120, ⟨.func #[] #[9] false, 1, 8, none, false⟩),
  (123, ⟨.array 0 16, 0, 0, none, false⟩),
  (126, ⟨.func #[] #[3] false, 1, 8, none, false⟩),
  (130, ⟨.func #[136, 136] #[4] false, 1, 8, none, false⟩)]
theorem tab_ok : TOK Tryd.prog tab :=
  TOK.cons (TI.of0 (by kernel_rfl) (by kernel_rfl) rfl (fun h => by cases h)) <|
  TOK.cons (TI.of (by kernel_rfl) (by kernel_rfl) (fun v hv => by injection hv with hv; subst hv; rfl) (fun h => by cases h)) <|
  TOK.cons (TI.of (by kernel_rfl) (by kernel_rfl) (fun v hv => by injection hv with hv; subst hv; rfl) (fun h => by cases h)) <|
  TOK.cons (TI.of (by kernel_rfl) (by kernel_rfl) (fun v hv => by injection hv with hv; subst hv; rfl) (fun h => by cases h)) <|
  TOK.cons (TI.of (by kernel_rfl) (by kernel_rfl) (fun v hv => by injection hv with hv; subst hv; rfl) (fun _ => by kernel_rfl)) <|
  TOK.cons (TI.of (by kernel_rfl) (by kernel_rfl) (fun v hv => by injection hv with hv; subst hv; rfl) (fun _ => by kernel_rfl)) <|
  TOK.cons (TI.of0 (by kernel_rfl) (by kernel_rfl) rfl (fun h => by cases h)) <|
  TOK.cons (TI.of (by kernel_rfl) (by kernel_rfl) (fun v hv => by injection hv with hv; subst hv; rfl) (fun _ => by kernel_rfl)) <|
  TOK.cons (TI.of0 (by kernel_rfl) (by kernel_rfl) rfl (fun h => by cases h)) <|
  TOK.cons (TI.of (by kernel_rfl) (by kernel_rfl) (fun v hv => by injection hv with hv; subst hv; rfl) (fun _ => by kernel_rfl)) <|
  TOK.cons (TI.of0 (by kernel_rfl) (by kernel_rfl) rfl (fun h => by cases h)) <|
  TOK.cons (TI.of0 (by kernel_rfl) (by kernel_rfl) rfl (fun h => by cases h)) <|
  TOK.cons (TI.of0 (by kernel_rfl) (by kernel_rfl) rfl (fun h => by cases h)) <|
  TOK.cons (TI.of0 (by kernel_rfl) (by kernel_rfl) rfl (fun h => by cases h)) <|
  TOK.cons (TI.of (by kernel_rfl) (by kernel_rfl) (fun v hv => by injection hv with hv; subst hv; rfl) (fun h => by cases h)) <|
  TOK.cons (TI.of0 (by kernel_rfl) (by kernel_rfl) rfl (fun h => by cases h)) <|
  TOK.cons (TI.of0 (by kernel_rfl) (by kernel_rfl) rfl (fun h => by cases h)) <|
  TOK.cons (TI.of0 (by kernel_rfl) (by kernel_rfl) rfl (fun h => by cases h)) <|
  TOK.cons (TI.of0 (by kernel_rfl) (by kernel_rfl) rfl (fun h => by cases h)) <|
  TOK.cons (TI.of0 (by kernel_rfl) (by kernel_rfl) rfl (fun h => by cases h)) <|
  TOK.cons (TI.of0 (by kernel_rfl) (by kernel_rfl) rfl (fun h => by cases h)) <|
  TOK.cons (TI.of (by kernel_rfl) (by kernel_rfl) (fun v hv => by injection hv with hv; subst hv; rfl) (fun h => by cases h)) <|
  TOK.cons (TI.of0 (by kernel_rfl) (by kernel_rfl) rfl (fun h => by cases h)) <|
  TOK.cons (TI.of0 (by kernel_rfl) (by kernel_rfl) rfl (fun h => by cases h)) <|
  TOK.cons (TI.of0 (by kernel_rfl) (by kernel_rfl) rfl (fun h => by cases h)) <|
  TOK.cons (TI.of0 (by kernel_rfl) (by kernel_rfl) rfl (fun h => by cases h)) <|
  TOK.cons (TI.of0 (by kernel_rfl) (by kernel_rfl) rfl (fun h => by cases h)) <|
  TOK.cons (TI.of (by kernel_rfl) (by kernel_rfl) (fun v hv => by injection hv with hv; subst hv; rfl) (fun h => by cases h)) <|
  TOK.cons (TI.of0 (by kernel_rfl) (by kernel_rfl) rfl (fun h => by cases h)) <|
  TOK.cons (TI.of (by kernel_rfl) (by kernel_rfl) (fun v hv => by injection hv with hv; subst hv; rfl) (fun h => by cases h)) <|
  TOK.cons (TI.of0 (by kernel_rfl) (by kernel_rfl) rfl (fun h => by cases h)) <|
  TOK.cons (TI.of0 (by kernel_rfl) (by kernel_rfl) rfl (fun h => by cases h)) <|
  TOK.cons (TI.of0 (by kernel_rfl) (by kernel_rfl) rfl (fun h => by cases h)) <|
  TOK.cons (TI.of0 (by kernel_rfl) (by kernel_rfl) rfl (fun h => by cases h)) <|
  TOK.cons (TI.of0 (by kernel_rfl) (by kernel_rfl) rfl (fun h => by cases h)) <|
  TOK.cons (TI.of0 (by kernel_rfl) (by kernel_rfl) rfl (fun h => by cases h)) <|
  TOK.cons (TI.of0 (by kernel_rfl) (by kernel_rfl) rfl (fun h => by cases h)) <|
  TOK.cons (TI.of0 (by kernel_rfl) (by kernel_rfl) rfl (fun h => by cases h)) <|
  TOK.cons (TI.of0 (by kernel_rfl) (by kernel_rfl) rfl (fun h => by cases h)) <|
  TOK.cons (TI.of0 (by kernel_rfl) (by kernel_rfl) rfl (fun h => by cases h)) <|
  TOK.cons (TI.of0 (by kernel_rfl) (by kernel_rfl) rfl (fun h => by cases h)) <|
  TOK.cons (TI.of0 (by kernel_rfl) (by kernel_rfl) rfl (fun h => by cases h)) <|
  TOK.cons (TI.of0 (by kernel_rfl) (by kernel_rfl) rfl (fun h => by cases h)) <|
  TOK.cons (TI.of0 (by kernel_rfl) (by kernel_rfl) rfl (fun h => by cases h)) <|
  TOK.cons (TI.of0 (by kernel_rfl) (by kernel_rfl) rfl (fun h => by cases h)) <|
  TOK.cons (TI.of0 (by kernel_rfl) (by kernel_rfl) rfl (fun h => by cases h)) <|
  TOK.cons (TI.of0 (by kernel_rfl) (by kernel_rfl) rfl (fun h => by cases h)) <|
  TOK.cons (TI.of0 (by kernel_rfl) (by kernel_rfl) rfl (fun h => by cases h)) <|
  TOK.cons (TI.of0 (by kernel_rfl) (by kernel_rfl) rfl (fun h => by cases h)) <|
  TOK.cons (TI.of0 (by kernel_rfl) (by kernel_rfl) rfl (fun h => by cases h)) <|
  TOK.cons (TI.of0 (by kernel_rfl) (by kernel_rfl) rfl (fun h => by cases h)) <|
  TOK.cons (TI.of (by kernel_rfl) (by kernel_rfl) (fun v hv => by injection hv with hv; subst hv; rfl) (fun _ => by kernel_rfl)) <|
  TOK.cons (TI.of0 (by kernel_rfl) (by kernel_rfl) rfl (fun h => by cases h)) <|
  TOK.cons (TI.of0 (by kernel_rfl) (by kernel_rfl) rfl (fun h => by cases h)) <|
  TOK.cons (TI.of0 (by kernel_rfl) (by kernel_rfl) rfl (fun h => by cases h)) <|
  TOK.cons (TI.of0 (by kernel_rfl) (by kernel_rfl) rfl (fun h => by cases h)) <|
  TOK.cons (TI.of (by kernel_rfl) (by kernel_rfl) (fun v hv => by injection hv with hv; subst hv; rfl) (fun _ => by kernel_rfl)) <|
  TOK.cons (TI.of (by kernel_rfl) (by kernel_rfl) (fun v hv => by injection hv with hv; subst hv; rfl) (fun _ => by kernel_rfl)) <|
  TOK.cons (TI.of0 (by kernel_rfl) (by kernel_rfl) rfl (fun h => by cases h)) <|
  TOK.cons (TI.of0 (by kernel_rfl) (by kernel_rfl) rfl (fun h => by cases h)) <|
  TOK.cons (TI.of0 (by kernel_rfl) (by kernel_rfl) rfl (fun h => by cases h)) <|
  TOK.cons (TI.of0 (by kernel_rfl) (by kernel_rfl) rfl (fun h => by cases h)) <|
  TOK.cons (TI.of0 (by kernel_rfl) (by kernel_rfl) rfl (fun h => by cases h)) <|
  TOK.cons (TI.of0 (by kernel_rfl) (by kernel_rfl) rfl (fun h => by cases h)) <|
  TOK.cons (TI.of0 (by kernel_rfl) (by kernel_rfl) rfl (fun h => by cases h)) <|
  TOK.cons (TI.of0 (by kernel_rfl) (by kernel_rfl) rfl (fun h => by cases h)) <|
  TOK.cons (TI.of0 (by kernel_rfl) (by kernel_rfl) rfl (fun h => by cases h)) <|
  TOK.cons (TI.of0 (by kernel_rfl) (by kernel_rfl) rfl (fun h => by cases h)) <|
  TOK.cons (TI.of0 (by kernel_rfl) (by kernel_rfl) rfl (fun h => by cases h)) <|
  TOK.cons (TI.of0 (by kernel_rfl) (by kernel_rfl) rfl (fun h => by cases h)) <|
  TOK.cons (TI.of0 (by kernel_rfl) (by kernel_rfl) rfl (fun h => by cases h)) <|
  TOK.cons (TI.of0 (by kernel_rfl) (by kernel_rfl) rfl (fun h => by cases h)) <|
  TOK.cons (TI.of0 (by kernel_rfl) (by kernel_rfl) rfl (fun h => by cases h)) <|
  TOK.cons (TI.of0 (by kernel_rfl) (by kernel_rfl) rfl (fun h => by cases h)) <|
  TOK.cons (TI.of0 (by kernel_rfl) (by kernel_rfl) rfl (fun h => by cases h)) <|
  TOK.cons (TI.of (by kernel_rfl) (by kernel_rfl) (fun v hv => by injection hv with hv; subst hv; rfl) (fun _ => by kernel_rfl)) <|
  TOK.cons (TI.of (by kernel_rfl) (by kernel_rfl) (fun v hv => by injection hv with hv; subst hv; rfl) (fun _ => by kernel_rfl)) <|
  TOK.cons (TI.of0 (by kernel_rfl) (by kernel_rfl) rfl (fun h => by cases h)) <|
  TOK.cons (TI.of0 (by kernel_rfl) (by kernel_rfl) rfl (fun h => by cases h)) <|
  TOK.cons (TI.of0 (by kernel_rfl) (by kernel_rfl) rfl (fun h => by cases h)) <|
  TOK.cons (TI.of0 (by kernel_rfl) (by kernel_rfl) rfl (fun h => by cases h)) <|
  TOK.cons (TI.of0 (by kernel_rfl) (by kernel_rfl) rfl (fun h => by cases h)) <|
  TOK.cons (TI.of0 (by kernel_rfl) (by kernel_rfl) rfl (fun h => by cases h)) <|
  TOK.cons (TI.of0 (by kernel_rfl) (by kernel_rfl) rfl (fun h => by cases h)) <|
  TOK.cons (TI.of (by kernel_rfl) (by kernel_rfl) (fun v hv => by injection hv with hv; subst hv; rfl) (fun h => by cases h)) <|
  TOK.cons (TI.of0 (by kernel_rfl) (by kernel_rfl) rfl (fun h => by cases h)) <|
  TOK.cons (TI.of0 (by kernel_rfl) (by kernel_rfl) rfl (fun h => by cases h)) <|
  TOK.cons (TI.of0 (by kernel_rfl) (by kernel_rfl) rfl (fun h => by cases h)) <|
  TOK.cons (TI.of0 (by kernel_rfl) (by kernel_rfl) rfl (fun h => by cases h)) <|
  TOK.cons (TI.of0 (by kernel_rfl) (by kernel_rfl) rfl (fun h => by cases h)) <|
  TOK.cons (TI.of0 (by kernel_rfl) (by kernel_rfl) rfl (fun h => by cases h)) <|
  TOK.cons (TI.of0 (by kernel_rfl) (by kernel_rfl) rfl (fun h => by cases h)) <|
  TOK.cons (TI.of0 (by kernel_rfl) (by kernel_rfl) rfl (fun h => by cases h)) <|
  TOK.cons (TI.of0 (by kernel_rfl) (by kernel_rfl) rfl (fun h => by cases h)) <|
  TOK.cons (TI.of0 (by kernel_rfl) (by kernel_rfl) rfl (fun h => by cases h)) <|
  TOK.nil
theorem lateOk : Tryd.prog.follows .mixedOrders = true := by kernel_rfl
noncomputable abbrev cx (gl : List (Nat × Nat)) (N : Nat) (D W : List Nat) : Cx := ⟨Tryd.prog, tab, tab_ok, gl, N, D, W⟩
end Go.Proofs.YtendffbpmpobnaaDoor
