/- IsSet of both sides. -/
import Derived.Test.YtendffbpmpobnaaDoorP2
namespace Go.Proofs.YtendffbpmpobnaaDoor
attribute [local irreducible] CW OW QW QOp Con thenP inBlockP
set_option maxRecDepth 10000
set_option linter.unusedSimpArgs false
set_option linter.unusedVariables false
def ptsC (p : Int) (M : List Int) (k : Nat) : Int := if primeB p = true then (if (allF (pointB p) 3 M k) = true then 0 else 1) else 2
def setV (p : Int) (M : List Int) (n : Nat) : Bool := if ptsC p M n = 0 then (growsB M n && decide ((n : Int) ≤ 60)) else false
theorem ptsC_zero (p : Int) (M : List Int) : ptsC p M 0 = ptsC p [] 0 := rfl
theorem setV_zero (p : Int) (M : List Int) : setV p M 0 = setV p [] 0 := rfl
theorem set_tup {p : Int} {M : List Int} {n : Nat} {v : Bool} (h : v = setV p M n) : V.tuple [.bool v, .int (ptsC p M n)] = V.tuple [.bool (setV p M n), .int (ptsC p M n)] := by rw [h]
end Go.Proofs.YtendffbpmpobnaaDoor
