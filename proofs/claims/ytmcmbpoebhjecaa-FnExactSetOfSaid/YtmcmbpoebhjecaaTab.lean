/- The table of types of the seat. Printed by gentab.py. -/
import Derived.Test.YtmcmbpoebhjecaaEngG
import Derived.Test.YtmcmbpoebhjecaaProg
namespace Go.Proofs.Ytmcmbpoebhjecaa
theorem TI.of {P : Program} {t : Nat} {x : TI} (h1 : P.underlying t = some x.d) (h2 : (P.info? t).map (fun i => (i.size, i.bytes, i.zero)) = some (x.size, x.bytes, x.z.map (rv fun b => b))) (h3 : ∀ v, x.z = some v → v.ids = []) (h4 : x.g = true → P.eqGuardType P.depth t = false) : x.ok P t := by
  cases hi : P.info? t with
  | none => simp [hi] at h2
  | some i =>
    simp only [hi, Option.map_some, Option.some.injEq, Prod.mk.injEq] at h2
    exact ⟨h1, ⟨i, hi, h2.1, h2.2.1, fun v hv => ⟨by rw [h2.2.2, hv]; rfl, h3 v hv⟩⟩, h4⟩
theorem TI.of0 {P : Program} {t : Nat} {x : TI} (h1 : P.underlying t = some x.d) (h2 : (P.info? t).map (fun i => (i.size, i.bytes)) = some (x.size, x.bytes)) (h3 : x.z = none) (h4 : x.g = true → P.eqGuardType P.depth t = false) : x.ok P t := by
  cases hi : P.info? t with
  | none => simp [hi] at h2
  | some i =>
    simp only [hi, Option.map_some, Option.some.injEq, Prod.mk.injEq] at h2
    exact ⟨h1, ⟨i, hi, h2.1, h2.2, fun v hv => by rw [h3] at hv; cases hv⟩, h4⟩
def tab : TT := [(1, ⟨.func #[] #[] false, 1, 8, none, false⟩),
  (2, ⟨.int .i64, 1, 8, some (.int 0), false⟩),
  (3, ⟨.int .i64, 1, 8, some (.int 0), false⟩),
  (4, ⟨.bool, 1, 1, some (.bool false), false⟩),
  (22, ⟨.slice 48, 1, 24, some (.nilsl), false⟩),
  (23, ⟨.func #[22, 3] #[3] false, 1, 8, none, false⟩),
  (24, ⟨.slice 49, 1, 24, some (.nilsl), false⟩),
  (26, ⟨.func #[2, 24] #[24, 2] false, 1, 8, none, false⟩),
  (27, ⟨.func #[22, 4] #[24] false, 1, 8, none, false⟩),
  (28, ⟨.func #[24, 24] #[4] false, 1, 8, none, false⟩),
  (29, ⟨.func #[24, 3] #[3] false, 1, 8, none, false⟩),
  (30, ⟨.func #[2, 22] #[4] false, 1, 8, none, false⟩),
  (32, ⟨.func #[2, 24] #[4, 2] false, 1, 8, none, false⟩),
  (33, ⟨.slice 2, 1, 24, some (.nilsl), false⟩),
  (35, ⟨.func #[2, 24] #[33, 2] false, 1, 8, none, false⟩),
  (36, ⟨.func #[33, 33] #[4] false, 1, 8, none, false⟩),
  (37, ⟨.func #[33, 3] #[3] false, 1, 8, none, false⟩),
  (38, ⟨.slice 55, 1, 24, some (.nilsl), false⟩),
  (40, ⟨.func #[2, 24] #[38, 2] false, 1, 8, none, false⟩),
  (41, ⟨.func #[38, 38] #[4] false, 1, 8, none, false⟩),
  (42, ⟨.func #[38, 3] #[3] false, 1, 8, none, false⟩),
  (43, ⟨.func #[2, 2] #[24, 2] false, 1, 8, none, false⟩),
  (44, ⟨.func #[2, 2] #[4] false, 1, 8, none, false⟩),
  (45, ⟨.func #[2, 24] #[2] false, 1, 8, none, false⟩),
  (46, ⟨.func #[2, 24] #[24] false, 1, 8, none, false⟩),
  (47, ⟨.func #[3] #[3] false, 1, 8, none, false⟩),
  (48, ⟨.array 3 2, 3, 24, some (.arr [0, 0, 0]), true⟩),
  (49, ⟨.array 3 2, 3, 24, some (.arr [0, 0, 0]), true⟩),
  (50, ⟨.func #[48] #[49] false, 1, 8, none, false⟩),
  (51, ⟨.func #[49, 49] #[4] false, 1, 8, none, false⟩),
  (52, ⟨.func #[2, 24] #[4] false, 1, 8, none, false⟩),
  (53, ⟨.func #[2, 24] #[33] false, 1, 8, none, false⟩),
  (54, ⟨.func #[2] #[24] false, 1, 8, none, false⟩),
  (55, ⟨.array 3 2, 3, 24, some (.arr [0, 0, 0]), true⟩),
  (56, ⟨.func #[2, 24, 55] #[2] false, 1, 8, none, false⟩),
  (57, ⟨.func #[2, 59] #[38] false, 1, 8, none, false⟩),
  (58, ⟨.func #[2, 24, 55] #[3] false, 1, 8, none, false⟩),
  (59, ⟨.func #[55] #[4] false, 1, 8, none, false⟩),
  (60, ⟨.func #[55, 55] #[4] false, 1, 8, none, false⟩),
  (61, ⟨.func #[24, 3] #[24] false, 1, 8, none, false⟩),
  (62, ⟨.func #[2, 24] #[2] true, 1, 8, none, false⟩),
  (63, ⟨.func #[24, 49] #[24] false, 1, 8, none, false⟩),
  (64, ⟨.func #[24] #[24] false, 1, 8, none, false⟩),
  (65, ⟨.func #[2] #[4] false, 1, 8, none, false⟩),
  (66, ⟨.func #[2, 2, 2] #[4] false, 1, 8, none, false⟩),
  (68, ⟨.func #[2, 49, 49] #[55] false, 1, 8, none, false⟩),
  (69, ⟨.func #[2, 55, 55] #[49] false, 1, 8, none, false⟩),
  (70, ⟨.func #[24] #[4] false, 1, 8, none, false⟩),
  (71, ⟨.func #[2, 49, 49, 49] #[2] false, 1, 8, none, false⟩),
  (72, ⟨.func #[2, 49, 55] #[4] false, 1, 8, none, false⟩),
  (73, ⟨.func #[24, 74] #[24] false, 1, 8, none, false⟩),
  (74, ⟨.func #[49] #[4] false, 1, 8, none, false⟩),
  (75, ⟨.func #[24, 49] #[4] false, 1, 8, none, false⟩),
  (76, ⟨.func #[2, 74] #[24] false, 1, 8, none, false⟩),
  (77, ⟨.func #[38, 59] #[4] false, 1, 8, none, false⟩),
  (78, ⟨.func #[2, 49] #[4] false, 1, 8, none, false⟩),
  (79, ⟨.func #[2, 81] #[2] false, 1, 8, none, false⟩),
  (80, ⟨.func #[2, 24] #[4] true, 1, 8, none, false⟩),
  (81, ⟨.func #[] #[4] false, 1, 8, none, false⟩),
  (82, ⟨.func #[24, 83] #[] false, 1, 8, none, false⟩),
  (83, ⟨.func #[49, 49] #[3] false, 1, 8, none, false⟩),
  (85, ⟨.func #[2, 49, 49] #[55, 4] false, 1, 8, none, false⟩),
  (86, ⟨.func #[2, 48, 48] #[48] false, 1, 8, none, false⟩),
  (87, ⟨.func #[2, 2] #[2] false, 1, 8, none, false⟩),
  (88, ⟨.func #[2, 48, 48] #[2] false, 1, 8, none, false⟩),
  (89, ⟨.func #[24, 74] #[3] false, 1, 8, none, false⟩),
  (90, ⟨.func #[24, 49] #[3] false, 1, 8, none, false⟩),
  (91, ⟨.func #[38, 59] #[3] false, 1, 8, none, false⟩),
  (92, ⟨.func #[2, 33] #[4] false, 1, 8, none, false⟩),
  (93, ⟨.func #[49] #[33] false, 1, 8, none, false⟩),
  (94, ⟨.func #[24, 3, 3, 3, 83] #[] false, 1, 8, none, false⟩),
  (95, ⟨.func #[96] #[3] false, 1, 8, none, false⟩),
  (97, ⟨.func #[33, 33] #[3] false, 1, 8, none, false⟩),
  (99, ⟨.func #[2, 49, 49] #[49, 4] false, 1, 8, none, false⟩),
  (100, ⟨.func #[2, 2, 2, 2] #[49] false, 1, 8, none, false⟩),
  (101, ⟨.func #[24, 3, 3, 83] #[] false, 1, 8, none, false⟩),
  (102, ⟨.int .i64, 1, 8, some (.int 0), false⟩),
  (104, ⟨.func #[24, 3, 3, 83] #[3, 102] false, 1, 8, none, false⟩),
  (105, ⟨.func #[24, 3, 3, 83] #[4] false, 1, 8, none, false⟩),
  (106, ⟨.func #[24, 3, 3, 3, 83] #[3] false, 1, 8, none, false⟩),
  (108, ⟨.func #[24, 3, 3, 3, 83] #[3, 4] false, 1, 8, none, false⟩),
  (109, ⟨.func #[110] #[3] false, 1, 8, none, false⟩),
  (111, ⟨.func #[112] #[3] false, 1, 8, none, false⟩),
  (113, ⟨.func #[2, 2] #[3] false, 1, 8, none, false⟩),
  (114, ⟨.func #[2, 2, 2, 2] #[49, 4] false, 1, 8, none, false⟩),
  (115, ⟨.func #[2, 33] #[4] true, 1, 8, none, false⟩),
  (117, ⟨.func #[3] #[96] false, 1, 8, none, false⟩),
  (118, ⟨.func #[] #[112] false, 1, 8, none, false⟩),
  (119, ⟨.func #[24, 3, 120, 83] #[3] false, 1, 8, none, false⟩),
  (121, ⟨.func #[24, 3, 3, 3, 120, 83] #[3] false, 1, 8, none, false⟩),
  (123, ⟨.func #[2, 33] #[33, 4] false, 1, 8, none, false⟩),
  (126, ⟨.func #[24, 3, 3, 120, 83] #[3, 3] false, 1, 8, none, false⟩),
  (127, ⟨.func #[] #[9] false, 1, 8, none, false⟩),
  (130, ⟨.array 0 16, 0, 0, none, false⟩),
  (133, ⟨.func #[] #[3] false, 1, 8, none, false⟩),
  (136, ⟨.func #[142, 142] #[4] false, 1, 8, none, false⟩)]
theorem tab_ok : TOK Try.prog tab :=
  TOK.cons (TI.of0 (by kernel_rfl) (by kernel_rfl) rfl (fun h => by cases h)) <|
  TOK.cons (TI.of (by kernel_rfl) (by kernel_rfl) (fun v hv => by injection hv with hv; subst hv; rfl) (fun h => by cases h)) <|
  TOK.cons (TI.of (by kernel_rfl) (by kernel_rfl) (fun v hv => by injection hv with hv; subst hv; rfl) (fun h => by cases h)) <|
  TOK.cons (TI.of (by kernel_rfl) (by kernel_rfl) (fun v hv => by injection hv with hv; subst hv; rfl) (fun h => by cases h)) <|
  TOK.cons (TI.of (by kernel_rfl) (by kernel_rfl) (fun v hv => by injection hv with hv; subst hv; rfl) (fun h => by cases h)) <|
  TOK.cons (TI.of0 (by kernel_rfl) (by kernel_rfl) rfl (fun h => by cases h)) <|
  TOK.cons (TI.of (by kernel_rfl) (by kernel_rfl) (fun v hv => by injection hv with hv; subst hv; rfl) (fun h => by cases h)) <|
  TOK.cons (TI.of0 (by kernel_rfl) (by kernel_rfl) rfl (fun h => by cases h)) <|
  TOK.cons (TI.of0 (by kernel_rfl) (by kernel_rfl) rfl (fun h => by cases h)) <|
  TOK.cons (TI.of0 (by kernel_rfl) (by kernel_rfl) rfl (fun h => by cases h)) <|
  TOK.cons (TI.of0 (by kernel_rfl) (by kernel_rfl) rfl (fun h => by cases h)) <|
  TOK.cons (TI.of0 (by kernel_rfl) (by kernel_rfl) rfl (fun h => by cases h)) <|
  TOK.cons (TI.of0 (by kernel_rfl) (by kernel_rfl) rfl (fun h => by cases h)) <|
  TOK.cons (TI.of (by kernel_rfl) (by kernel_rfl) (fun v hv => by injection hv with hv; subst hv; rfl) (fun h => by cases h)) <|
  TOK.cons (TI.of0 (by kernel_rfl) (by kernel_rfl) rfl (fun h => by cases h)) <|
  TOK.cons (TI.of0 (by kernel_rfl) (by kernel_rfl) rfl (fun h => by cases h)) <|
  TOK.cons (TI.of0 (by kernel_rfl) (by kernel_rfl) rfl (fun h => by cases h)) <|
  TOK.cons (TI.of (by kernel_rfl) (by kernel_rfl) (fun v hv => by injection hv with hv; subst hv; rfl) (fun h => by cases h)) <|
  TOK.cons (TI.of0 (by kernel_rfl) (by kernel_rfl) rfl (fun h => by cases h)) <|
  TOK.cons (TI.of0 (by kernel_rfl) (by kernel_rfl) rfl (fun h => by cases h)) <|
  TOK.cons (TI.of0 (by kernel_rfl) (by kernel_rfl) rfl (fun h => by cases h)) <|
  TOK.cons (TI.of0 (by kernel_rfl) (by kernel_rfl) rfl (fun h => by cases h)) <|
  TOK.cons (TI.of0 (by kernel_rfl) (by kernel_rfl) rfl (fun h => by cases h)) <|
  TOK.cons (TI.of0 (by kernel_rfl) (by kernel_rfl) rfl (fun h => by cases h)) <|
  TOK.cons (TI.of0 (by kernel_rfl) (by kernel_rfl) rfl (fun h => by cases h)) <|
  TOK.cons (TI.of0 (by kernel_rfl) (by kernel_rfl) rfl (fun h => by cases h)) <|
  TOK.cons (TI.of (by kernel_rfl) (by kernel_rfl) (fun v hv => by injection hv with hv; subst hv; rfl) (fun _ => by kernel_rfl)) <|
  TOK.cons (TI.of (by kernel_rfl) (by kernel_rfl) (fun v hv => by injection hv with hv; subst hv; rfl) (fun _ => by kernel_rfl)) <|
  TOK.cons (TI.of0 (by kernel_rfl) (by kernel_rfl) rfl (fun h => by cases h)) <|
  TOK.cons (TI.of0 (by kernel_rfl) (by kernel_rfl) rfl (fun h => by cases h)) <|
  TOK.cons (TI.of0 (by kernel_rfl) (by kernel_rfl) rfl (fun h => by cases h)) <|
  TOK.cons (TI.of0 (by kernel_rfl) (by kernel_rfl) rfl (fun h => by cases h)) <|
  TOK.cons (TI.of0 (by kernel_rfl) (by kernel_rfl) rfl (fun h => by cases h)) <|
  TOK.cons (TI.of (by kernel_rfl) (by kernel_rfl) (fun v hv => by injection hv with hv; subst hv; rfl) (fun _ => by kernel_rfl)) <|
  TOK.cons (TI.of0 (by kernel_rfl) (by kernel_rfl) rfl (fun h => by cases h)) <|
  TOK.cons (TI.of0 (by kernel_rfl) (by kernel_rfl) rfl (fun h => by cases h)) <|
  TOK.cons (TI.of0 (by kernel_rfl) (by kernel_rfl) rfl (fun h => by cases h)) <|
  TOK.cons (TI.of0 (by kernel_rfl) (by kernel_rfl) rfl (fun h => by cases h)) <|
  TOK.cons (TI.of0 (by kernel_rfl) (by kernel_rfl) rfl (fun h => by cases h)) <|
  TOK.cons (TI.of0 (by kernel_rfl) (by kernel_rfl) rfl (fun h => by cases h)) <|
  TOK.cons (TI.of0 (by kernel_rfl) (by kernel_rfl) rfl (fun h => by cases h)) <|
  TOK.cons (TI.of0 (by kernel_rfl) (by kernel_rfl) rfl (fun h => by cases h)) <|
  TOK.cons (TI.of0 (by kernel_rfl) (by kernel_rfl) rfl (fun h => by cases h)) <|
  TOK.cons (TI.of0 (by kernel_rfl) (by kernel_rfl) rfl (fun h => by cases h)) <|
  TOK.cons (TI.of0 (by kernel_rfl) (by kernel_rfl) rfl (fun h => by cases h)) <|
  TOK.cons (TI.of0 (by kernel_rfl) (by kernel_rfl) rfl (fun h => by cases h)) <|
  TOK.cons (TI.of0 (by kernel_rfl) (by kernel_rfl) rfl (fun h => by cases h)) <|
  TOK.cons (TI.of0 (by kernel_rfl) (by kernel_rfl) rfl (fun h => by cases h)) <|
  TOK.cons (TI.of0 (by kernel_rfl) (by kernel_rfl) rfl (fun h => by cases h)) <|
  TOK.cons (TI.of0 (by kernel_rfl) (by kernel_rfl) rfl (fun h => by cases h)) <|
  TOK.cons (TI.of0 (by kernel_rfl) (by kernel_rfl) rfl (fun h => by cases h)) <|
  TOK.cons (TI.of0 (by kernel_rfl) (by kernel_rfl) rfl (fun h => by cases h)) <|
  TOK.cons (TI.of0 (by kernel_rfl) (by kernel_rfl) rfl (fun h => by cases h)) <|
  TOK.cons (TI.of0 (by kernel_rfl) (by kernel_rfl) rfl (fun h => by cases h)) <|
  TOK.cons (TI.of0 (by kernel_rfl) (by kernel_rfl) rfl (fun h => by cases h)) <|
  TOK.cons (TI.of0 (by kernel_rfl) (by kernel_rfl) rfl (fun h => by cases h)) <|
  TOK.cons (TI.of0 (by kernel_rfl) (by kernel_rfl) rfl (fun h => by cases h)) <|
  TOK.cons (TI.of0 (by kernel_rfl) (by kernel_rfl) rfl (fun h => by cases h)) <|
  TOK.cons (TI.of0 (by kernel_rfl) (by kernel_rfl) rfl (fun h => by cases h)) <|
  TOK.cons (TI.of0 (by kernel_rfl) (by kernel_rfl) rfl (fun h => by cases h)) <|
  TOK.cons (TI.of0 (by kernel_rfl) (by kernel_rfl) rfl (fun h => by cases h)) <|
  TOK.cons (TI.of0 (by kernel_rfl) (by kernel_rfl) rfl (fun h => by cases h)) <|
  TOK.cons (TI.of0 (by kernel_rfl) (by kernel_rfl) rfl (fun h => by cases h)) <|
  TOK.cons (TI.of0 (by kernel_rfl) (by kernel_rfl) rfl (fun h => by cases h)) <|
  TOK.cons (TI.of0 (by kernel_rfl) (by kernel_rfl) rfl (fun h => by cases h)) <|
  TOK.cons (TI.of0 (by kernel_rfl) (by kernel_rfl) rfl (fun h => by cases h)) <|
  TOK.cons (TI.of0 (by kernel_rfl) (by kernel_rfl) rfl (fun h => by cases h)) <|
  TOK.cons (TI.of0 (by kernel_rfl) (by kernel_rfl) rfl (fun h => by cases h)) <|
  TOK.cons (TI.of0 (by kernel_rfl) (by kernel_rfl) rfl (fun h => by cases h)) <|
  TOK.cons (TI.of0 (by kernel_rfl) (by kernel_rfl) rfl (fun h => by cases h)) <|
  TOK.cons (TI.of0 (by kernel_rfl) (by kernel_rfl) rfl (fun h => by cases h)) <|
  TOK.cons (TI.of0 (by kernel_rfl) (by kernel_rfl) rfl (fun h => by cases h)) <|
  TOK.cons (TI.of0 (by kernel_rfl) (by kernel_rfl) rfl (fun h => by cases h)) <|
  TOK.cons (TI.of0 (by kernel_rfl) (by kernel_rfl) rfl (fun h => by cases h)) <|
  TOK.cons (TI.of0 (by kernel_rfl) (by kernel_rfl) rfl (fun h => by cases h)) <|
  TOK.cons (TI.of0 (by kernel_rfl) (by kernel_rfl) rfl (fun h => by cases h)) <|
  TOK.cons (TI.of (by kernel_rfl) (by kernel_rfl) (fun v hv => by injection hv with hv; subst hv; rfl) (fun h => by cases h)) <|
  TOK.cons (TI.of0 (by kernel_rfl) (by kernel_rfl) rfl (fun h => by cases h)) <|
  TOK.cons (TI.of0 (by kernel_rfl) (by kernel_rfl) rfl (fun h => by cases h)) <|
  TOK.cons (TI.of0 (by kernel_rfl) (by kernel_rfl) rfl (fun h => by cases h)) <|
  TOK.cons (TI.of0 (by kernel_rfl) (by kernel_rfl) rfl (fun h => by cases h)) <|
  TOK.cons (TI.of0 (by kernel_rfl) (by kernel_rfl) rfl (fun h => by cases h)) <|
  TOK.cons (TI.of0 (by kernel_rfl) (by kernel_rfl) rfl (fun h => by cases h)) <|
  TOK.cons (TI.of0 (by kernel_rfl) (by kernel_rfl) rfl (fun h => by cases h)) <|
  TOK.cons (TI.of0 (by kernel_rfl) (by kernel_rfl) rfl (fun h => by cases h)) <|
  TOK.cons (TI.of0 (by kernel_rfl) (by kernel_rfl) rfl (fun h => by cases h)) <|
  TOK.cons (TI.of0 (by kernel_rfl) (by kernel_rfl) rfl (fun h => by cases h)) <|
  TOK.cons (TI.of0 (by kernel_rfl) (by kernel_rfl) rfl (fun h => by cases h)) <|
  TOK.cons (TI.of0 (by kernel_rfl) (by kernel_rfl) rfl (fun h => by cases h)) <|
  TOK.cons (TI.of0 (by kernel_rfl) (by kernel_rfl) rfl (fun h => by cases h)) <|
  TOK.cons (TI.of0 (by kernel_rfl) (by kernel_rfl) rfl (fun h => by cases h)) <|
  TOK.cons (TI.of0 (by kernel_rfl) (by kernel_rfl) rfl (fun h => by cases h)) <|
  TOK.cons (TI.of0 (by kernel_rfl) (by kernel_rfl) rfl (fun h => by cases h)) <|
  TOK.cons (TI.of0 (by kernel_rfl) (by kernel_rfl) rfl (fun h => by cases h)) <|
  TOK.cons (TI.of0 (by kernel_rfl) (by kernel_rfl) rfl (fun h => by cases h)) <|
  TOK.cons (TI.of0 (by kernel_rfl) (by kernel_rfl) rfl (fun h => by cases h)) <|
  TOK.nil
theorem lateOk : Try.prog.follows .mixedOrders = true := by kernel_rfl
noncomputable abbrev cx (gl : List (Nat × Nat)) (N : Nat) (D W : List Nat) : Cx := ⟨Try.prog, tab, tab_ok, gl, N, D, W⟩
end Go.Proofs.Ytmcmbpoebhjecaa
