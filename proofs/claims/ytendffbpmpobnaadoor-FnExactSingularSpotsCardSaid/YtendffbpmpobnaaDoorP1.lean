/- Contracts of points and lines. Printed by gen_p1.py. -/
import Derived.Test.YtendffbpmpobnaaDoorM0
namespace Go.Proofs.YtendffbpmpobnaaDoor
attribute [local irreducible] CW OW QW QOp Con thenP inBlockP
set_option maxRecDepth 10000
set_option linter.unusedSimpArgs false
set_option linter.unusedVariables false
/-- three numbers are a point modulo a prime -/
def pointB (p : Int) (l : List Int) : Bool := primeB p && normB p l
def allF (g : List Int → Bool) (sz : Nat) (M : List Int) (k : Nat) : Bool := (List.range k).all fun i => g (elemAt sz M i)
theorem allF_yes {g : List Int → Bool} {sz : Nat} {M : List Int} {k : Nat} (h : ∀ j, j < k → g (elemAt sz M j) = true) : allF g sz M k = true := by
  unfold allF
  rw [List.all_eq_true]
  intro j hj
  exact h j (by simpa using hj)
theorem allF_no {g : List Int → Bool} {sz : Nat} {M : List Int} {k i : Nat} (hi : i < k) (h : g (elemAt sz M i) = false) : allF g sz M k = false := by
  unfold allF
  rw [List.all_eq_false]
  exact ⟨i, by simpa using hi, by simp [h]⟩
end Go.Proofs.YtendffbpmpobnaaDoor
