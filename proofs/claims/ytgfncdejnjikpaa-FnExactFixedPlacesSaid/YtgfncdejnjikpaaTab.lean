/- The table of types of the seat. Printed by gentab.py. -/
import Derived.Test.YtgfncdejnjikpaaEngG
import Derived.Test.YtgfncdejnjikpaaProg
namespace Go.Proofs.Ytgfncdejnjikpaa
theorem TI.of {P : Program} {t : Nat} {x : TI} (h1 : P.underlying t = some x.d) (h2 : (P.info? t).map (fun i => (i.size, i.bytes, i.zero)) = some (x.size, x.bytes, x.z.map (rv fun b => b))) (h3 : ∀ v, x.z = some v → v.ids = []) (h4 : x.g = true → P.eqGuardType P.depth t = false) : x.ok P t := by
  cases hi : P.info? t with
  | none => simp [hi] at h2
  | some i =>
    simp only [hi, Option.map_some, Option.some.injEq, Prod.mk.injEq] at h2
    exact ⟨h1, ⟨i, hi, h2.1, h2.2.1, fun v hv => ⟨by rw [h2.2.2, hv]; rfl, h3 v hv⟩⟩, h4⟩
theorem TI.of0 {P : Program} {t : Nat} {x : TI} (h1 : P.underlying t = some x.d) (h2 : (P.info? t).map (fun i => (i.size, i.bytes)) = some (x.size, x.bytes)) (h3 : x.z = none) (h4 : x.g = true → P.eqGuardType P.depth t = false) : x.ok P t := by
  cases hi : P.info? t with
  | none => simp [hi] at h2
  | some i =>
    simp only [hi, Option.map_some, Option.some.injEq, Prod.mk.injEq] at h2
    exact ⟨h1, ⟨i, hi, h2.1, h2.2, fun v hv => by rw [h3] at hv; cases hv⟩, h4⟩
def tab : TT := [(2, ⟨.int .i64, 1, 8, some (.int 0), false⟩),
  (3, ⟨.int .i64, 1, 8, some (.int 0), false⟩),
  (4, ⟨.bool, 1, 1, some (.bool false), false⟩),
  (22, ⟨.slice 2, 1, 24, some (.nilsl), false⟩),
  (23, ⟨.array 10 2, 10, 80, some (.arr [0, 0, 0, 0, 0, 0, 0, 0, 0, 0]), true⟩),
  (24, ⟨.array 10 2, 10, 80, some (.arr [0, 0, 0, 0, 0, 0, 0, 0, 0, 0]), true⟩),
  (31, ⟨.array 4 2, 4, 32, some (.arr [0, 0, 0, 0]), true⟩),
  (34, ⟨.array 4 2, 4, 32, some (.arr [0, 0, 0, 0]), true⟩),
  (45, ⟨.slice 60, 1, 24, some (.nilsl), false⟩),
  (49, ⟨.slice 64, 1, 24, some (.nilsl), false⟩),
  (53, ⟨.array 6 2, 6, 48, some (.arr [0, 0, 0, 0, 0, 0]), true⟩),
  (56, ⟨.array 6 2, 6, 48, some (.arr [0, 0, 0, 0, 0, 0]), true⟩),
  (60, ⟨.array 3 2, 3, 24, some (.arr [0, 0, 0]), true⟩),
  (61, ⟨.array 3 2, 3, 24, some (.arr [0, 0, 0]), true⟩),
  (64, ⟨.array 3 2, 3, 24, some (.arr [0, 0, 0]), true⟩),
  (68, ⟨.slice 61, 1, 24, some (.nilsl), false⟩),
  (86, ⟨.slice 34, 1, 24, some (.nilsl), false⟩),
  (133, ⟨.array 2 2, 2, 16, some (.arr [0, 0]), true⟩),
  (138, ⟨.slice 56, 1, 24, some (.nilsl), false⟩),
  (141, ⟨.slice 22, 1, 24, some (.nilsl), false⟩),
  (145, ⟨.array 3 60, 9, 72, some (.arr [0, 0, 0, 0, 0, 0, 0, 0, 0]), true⟩),
  (146, ⟨.array 3 60, 9, 72, some (.arr [0, 0, 0, 0, 0, 0, 0, 0, 0]), true⟩),
  (170, ⟨.array 0 16, 0, 0, none, false⟩)]
theorem tab_ok : TOK Try.prog tab :=
  TOK.cons (TI.of (by kernel_rfl) (by kernel_rfl) (fun v hv => by injection hv with hv; subst hv; rfl) (fun h => by cases h)) <|
  TOK.cons (TI.of (by kernel_rfl) (by kernel_rfl) (fun v hv => by injection hv with hv; subst hv; rfl) (fun h => by cases h)) <|
  TOK.cons (TI.of (by kernel_rfl) (by kernel_rfl) (fun v hv => by injection hv with hv; subst hv; rfl) (fun h => by cases h)) <|
  TOK.cons (TI.of (by kernel_rfl) (by kernel_rfl) (fun v hv => by injection hv with hv; subst hv; rfl) (fun h => by cases h)) <|
  TOK.cons (TI.of (by kernel_rfl) (by kernel_rfl) (fun v hv => by injection hv with hv; subst hv; rfl) (fun _ => by kernel_rfl)) <|
  TOK.cons (TI.of (by kernel_rfl) (by kernel_rfl) (fun v hv => by injection hv with hv; subst hv; rfl) (fun _ => by kernel_rfl)) <|
  TOK.cons (TI.of (by kernel_rfl) (by kernel_rfl) (fun v hv => by injection hv with hv; subst hv; rfl) (fun _ => by kernel_rfl)) <|
  TOK.cons (TI.of (by kernel_rfl) (by kernel_rfl) (fun v hv => by injection hv with hv; subst hv; rfl) (fun _ => by kernel_rfl)) <|
  TOK.cons (TI.of (by kernel_rfl) (by kernel_rfl) (fun v hv => by injection hv with hv; subst hv; rfl) (fun h => by cases h)) <|
  TOK.cons (TI.of (by kernel_rfl) (by kernel_rfl) (fun v hv => by injection hv with hv; subst hv; rfl) (fun h => by cases h)) <|
  TOK.cons (TI.of (by kernel_rfl) (by kernel_rfl) (fun v hv => by injection hv with hv; subst hv; rfl) (fun _ => by kernel_rfl)) <|
  TOK.cons (TI.of (by kernel_rfl) (by kernel_rfl) (fun v hv => by injection hv with hv; subst hv; rfl) (fun _ => by kernel_rfl)) <|
  TOK.cons (TI.of (by kernel_rfl) (by kernel_rfl) (fun v hv => by injection hv with hv; subst hv; rfl) (fun _ => by kernel_rfl)) <|
  TOK.cons (TI.of (by kernel_rfl) (by kernel_rfl) (fun v hv => by injection hv with hv; subst hv; rfl) (fun _ => by kernel_rfl)) <|
  TOK.cons (TI.of (by kernel_rfl) (by kernel_rfl) (fun v hv => by injection hv with hv; subst hv; rfl) (fun _ => by kernel_rfl)) <|
  TOK.cons (TI.of (by kernel_rfl) (by kernel_rfl) (fun v hv => by injection hv with hv; subst hv; rfl) (fun h => by cases h)) <|
  TOK.cons (TI.of (by kernel_rfl) (by kernel_rfl) (fun v hv => by injection hv with hv; subst hv; rfl) (fun h => by cases h)) <|
  TOK.cons (TI.of (by kernel_rfl) (by kernel_rfl) (fun v hv => by injection hv with hv; subst hv; rfl) (fun _ => by kernel_rfl)) <|
  TOK.cons (TI.of (by kernel_rfl) (by kernel_rfl) (fun v hv => by injection hv with hv; subst hv; rfl) (fun h => by cases h)) <|
  TOK.cons (TI.of (by kernel_rfl) (by kernel_rfl) (fun v hv => by injection hv with hv; subst hv; rfl) (fun h => by cases h)) <|
  TOK.cons (TI.of (by kernel_rfl) (by kernel_rfl) (fun v hv => by injection hv with hv; subst hv; rfl) (fun _ => by kernel_rfl)) <|
  TOK.cons (TI.of (by kernel_rfl) (by kernel_rfl) (fun v hv => by injection hv with hv; subst hv; rfl) (fun _ => by kernel_rfl)) <|
  TOK.cons (TI.of0 (by kernel_rfl) (by kernel_rfl) rfl (fun h => by cases h)) <|
  TOK.nil
theorem lateOk : Try.prog.follows .mixedOrders = true := by kernel_rfl
noncomputable abbrev cx (gl : List (Nat × Nat)) (N : Nat) (D W : List Nat) : Cx := ⟨Try.prog, tab, tab_ok, gl, N, D, W⟩
end Go.Proofs.Ytgfncdejnjikpaa
