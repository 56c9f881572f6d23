/- Plain laws of normal lists, matrices and polars. -/
import Derived.Test.YtlhlnaehfjojiaaDoorPf
import Derived.Test.YtlhlnaehfjojiaaDoorQ4
namespace Go.Proofs.YtlhlnaehfjojiaaDoor
/-- the matrix of a conic, row by row -/
def matV (p : Int) : List Int → List Int
  | [a, b, c, d, e, f] => [2 * a % p, d % p, e % p, d % p, 2 * b % p, f % p, e % p, f % p, 2 * c % p]
  | _ => []
def matRaw : List Int → List Int
  | [a, b, c, d, e, f] => [2 * a, d, e, d, 2 * b, f, e, f, 2 * c]
  | _ => []
theorem matRaw_mod (p a b c d e f : Int) : (matRaw [a, b, c, d, e, f]).map (· % p) = matV p [a, b, c, d, e, f] := rfl
/-- what the matrix makes of a point -/
def polX (p : Int) (c a : List Int) : List Int := [dotV ((matV p c).take 3) a, dotV (((matV p c).drop 3).take 3) a, dotV (((matV p c).drop 6).take 3) a]
/-- sums of multiples of two lists -/
def memL (c d : List Int) (s t : Int) : List Int := (List.range 6).map fun i => s * c.getD i 0 + t * d.getD i 0
theorem memL_length (c d : List Int) (s t : Int) : (memL c d s t).length = 6 := by simp [memL]
theorem memL_get (c d : List Int) (s t : Int) {i : Nat} (h : i < 6) : (memL c d s t).getD i 0 = s * c.getD i 0 + t * d.getD i 0 := by
  simp [memL, List.getD, h]
theorem memL_mod {p : Int} {c d : List Int} {s t s' t' : Int} (hs : s % p = s' % p) (ht : t % p = t' % p) : (memL c d s t).map (· % p) = (memL c d s' t').map (· % p) := by
  unfold memL
  rw [List.map_map, List.map_map]
  apply List.map_congr_left
  intro i _
  simp only [Function.comp_apply]
  rw [Int.add_emod, Int.mul_emod, hs, ← Int.mul_emod, Int.mul_emod t, ht, ← Int.mul_emod, ← Int.add_emod]
/-- the tangent, or polar, at a point and its code -/
def tanC (p : Int) (c a : List Int) : Int := if codeB p (pointB p a && pointB p c) = 0 then (if facP p (polX p c a) ≠ 0 ∧ conV p c a = 0 then 0 else 5) else codeB p (pointB p a && pointB p c)
def zero3 : List Int := [0, 0, 0]
def tanV (p : Int) (c a : List Int) : List Int := if tanC p c a = 0 then normL p (polX p c a) else zero3
theorem conV_bd {p : Int} (hp : primeB p = true) (c a : List Int) : 0 ≤ conV p c a ∧ conV p c a < p := mod_bd hp _
theorem arr_code {a b : List Int} {c d : Int} (h1 : a = b) (h2 : c = d) : V.tuple [.arr a, .int c] = V.tuple [.arr b, .int d] := by rw [h1, h2]
end Go.Proofs.YtlhlnaehfjojiaaDoor
