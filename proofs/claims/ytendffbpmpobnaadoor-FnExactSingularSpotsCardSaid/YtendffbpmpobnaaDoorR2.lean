/- SecantNumbers. Printed by gen_r2.py. -/
import Derived.Test.YtendffbpmpobnaaDoorR1
namespace Go.Proofs.YtendffbpmpobnaaDoor
attribute [local irreducible] CW OW QW QOp Con thenP inBlockP
set_option maxRecDepth 10000
set_option linter.unusedSimpArgs false
set_option linter.unusedVariables false
/-- a list of n things, its numbers R, and a code -/
def listO (T : TypeId) (H0 : Hp) (b : Nat) (code : Int) (R : List Int) (n : Nat) (r : V) (H' : Hp) : Prop :=
  if code = 0 then ∃ (k : Nat) (sp : List Int), n ≤ k ∧ r = .tuple [.slice b 0 n k, .int 0] ∧ H' = H0 ++ [(b, .ints T (R ++ sp))]
  else r = .tuple [.nilsl, .int code] ∧ H' = H0
theorem listO_ok {T : TypeId} {H0 : Hp} {b : Nat} {code : Int} {R : List Int} {n k : Nat} {sp : List Int} (hc : code = 0) (hk : n ≤ k) : listO T H0 b code R n (.tuple [.slice b 0 n k, .int 0]) (H0 ++ [(b, .ints T (R ++ sp))]) := by
  unfold listO; rw [if_pos hc]; exact ⟨k, sp, hk, rfl, rfl⟩
theorem listO_ok0 {T : TypeId} {H0 : Hp} {b : Nat} {code : Int} {R : List Int} {n : Nat} (hc : code = 0) : listO T H0 b code R n (.tuple [.slice b 0 n n, .int 0]) (H0 ++ [(b, .ints T R)]) := by
  have := listO_ok (T := T) (H0 := H0) (b := b) (R := R) (sp := []) hc (Nat.le_refl n)
  rwa [List.append_nil] at this
theorem listO_no {T : TypeId} {H0 : Hp} {b : Nat} {code : Int} {R : List Int} {n : Nat} (hc : ¬ code = 0) : listO T H0 b code R n (.tuple [.nilsl, .int code]) H0 := by
  unfold listO; rw [if_neg hc]; exact ⟨rfl, rfl⟩
theorem listO_pos {T : TypeId} {H0 : Hp} {b : Nat} {code : Int} {R : List Int} {n : Nat} {r : V} {H' : Hp} (hc : code = 0) (h : listO T H0 b code R n r H') : ∃ (k : Nat) (sp : List Int), n ≤ k ∧ r = .tuple [.slice b 0 n k, .int 0] ∧ H' = H0 ++ [(b, .ints T (R ++ sp))] := by
  unfold listO at h; rwa [if_pos hc] at h
theorem listO_neg {T : TypeId} {H0 : Hp} {b : Nat} {code : Int} {R : List Int} {n : Nat} {r : V} {H' : Hp} (hc : ¬ code = 0) (h : listO T H0 b code R n r H') : r = .tuple [.nilsl, .int code] ∧ H' = H0 := by
  unfold listO at h; rwa [if_neg hc] at h
def secM (p : Int) (M : List Int) (n : Nat) : List Int := secV p (chunk M n)

end Go.Proofs.YtendffbpmpobnaaDoor
