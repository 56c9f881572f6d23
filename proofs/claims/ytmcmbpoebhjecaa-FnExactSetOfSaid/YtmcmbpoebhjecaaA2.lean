/- Conversions of arrays, and whether an array is normal. Printed by gen_a2.py. -/
import Derived.Test.YtmcmbpoebhjecaaA1
namespace Go.Proofs.Ytmcmbpoebhjecaa
attribute [local irreducible] CW OW QW QOp Con thenP inBlockP
set_option maxRecDepth 10000
set_option linter.unusedSimpArgs false
set_option linter.unusedVariables false
theorem fill_set {L : List Int} {i N : Nat} (h : i < N) (hL : L.length = N) : (L.take i ++ List.replicate (N - i) 0).set i (L.getD i 0) = L.take (i + 1) ++ List.replicate (N - (i + 1)) 0 := by
  have e : N - i = (N - (i + 1)) + 1 := by omega
  rw [e, List.replicate_succ, take_snoc (by omega), List.set_append_right _ _ (by simp; omega)]
  have : i - (L.take i).length = 0 := by simp; omega
  rw [this]
  simp
end Go.Proofs.Ytmcmbpoebhjecaa
