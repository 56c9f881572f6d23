/- Lists of arrays, searched by closures; the points, and lines, for which something is so. Printed by gen_q2.py. -/
import Derived.Test.YtendffbpmpobnaaDoorQ1
import Derived.Test.YtendffbpmpobnaaDoorPq
namespace Go.Proofs.YtendffbpmpobnaaDoor
attribute [local irreducible] CW OW QW QOp Con thenP inBlockP
set_option maxRecDepth 10000
set_option linter.unusedSimpArgs false
set_option linter.unusedVariables false

theorem notnot {L : List (List Int)} {g : List Int → Bool} : (L.filter fun x => !(fun x => !g x) x) = L.filter g := by congr 1; funext x; simp
theorem allPts_len {p : Int} (hp : primeB p = true) : (allPts p).length ≤ 183 ∧ 13 ≤ (allPts p).length := by
  obtain ⟨n, rfl, hn⟩ := of_prime hp
  have hb := prime_bd hp
  rw [← ptsTo_all rfl, ptsTo_length]
  have h1 : n * n ≤ 13 * 13 := Nat.mul_le_mul hn hn
  have h2 : 3 * 3 ≤ n * n := Nat.mul_le_mul (by omega) (by omega)
  omega
end Go.Proofs.YtendffbpmpobnaaDoor
