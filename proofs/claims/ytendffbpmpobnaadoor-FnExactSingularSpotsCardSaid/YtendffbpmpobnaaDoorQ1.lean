/- All points of a plane, on both sides. -/
import Derived.Test.YtendffbpmpobnaaDoorP1
import Derived.Test.YtendffbpmpobnaaDoorPq
namespace Go.Proofs.YtendffbpmpobnaaDoor
attribute [local irreducible] CW OW QW QOp Con thenP inBlockP
set_option maxRecDepth 10000
set_option linter.unusedSimpArgs false
set_option linter.unusedVariables false
def row1 (n : Nat) : List (List Int) := (List.range n).map fun (z : Nat) => [0, 1, (z : Int)]
def row2 (y n : Nat) : List (List Int) := (List.range n).map fun (z : Nat) => [1, (y : Int), (z : Int)]
def rows2 (n m : Nat) : List (List Int) := (List.range m).flatMap fun y => row2 y n
def allPts (p : Int) : List (List Int) := [[0, 0, 1]] ++ row1 p.toNat ++ rows2 p.toNat p.toNat
theorem row1_snoc (n : Nat) : row1 (n + 1) = row1 n ++ [[0, 1, (n : Int)]] := by simp [row1, List.range_succ]
theorem row2_snoc (y n : Nat) : row2 y (n + 1) = row2 y n ++ [[1, (y : Int), (n : Int)]] := by simp [row2, List.range_succ]
theorem rows2_snoc (n m : Nat) : rows2 n (m + 1) = rows2 n m ++ row2 m n := by simp [rows2, List.range_succ]
theorem row1_length (n : Nat) : (row1 n).length = n := by simp [row1]
theorem row2_length (y n : Nat) : (row2 y n).length = n := by simp [row2]
theorem rows2_length (n m : Nat) : (rows2 n m).length = m * n := by
  induction m with
  | zero => simp [rows2]
  | succ m ih => rw [rows2_snoc, List.length_append, ih, row2_length, Nat.add_mul, Nat.one_mul]
theorem allPts_three {p : Int} {x : List Int} (h : x ∈ allPts p) : x.length = 3 := by
  simp only [allPts, row1, rows2, row2, List.mem_append, List.mem_map, List.mem_flatMap, List.mem_singleton] at h
  rcases h with (rfl | ⟨_, _, rfl⟩) | ⟨_, _, _, _, rfl⟩ <;> rfl
/-- an own row of arrays: the told ones, and room behind them -/
def ownR (sz : Nat) (T : TypeId) (H0 : Hp) (b : Nat) (L : List (List Int)) (r : V) (H' : Hp) : Prop :=
  ∃ (k : Nat) (sp : List Int), L.length ≤ k ∧ k * sz ≤ L.length * sz + sp.length ∧ r = .slice b 0 L.length k ∧ H' = H0 ++ [(b, .ints T (L.flatten ++ sp))]
def ptsTo (n y z : Nat) : List (List Int) := [[0, 0, 1]] ++ row1 n ++ rows2 n y ++ row2 y z
theorem ptsTo_next (n y z : Nat) : ptsTo n y (z + 1) = ptsTo n y z ++ [[1, (y : Int), (z : Int)]] := by simp [ptsTo, row2_snoc]
theorem ptsTo_row (n y : Nat) : ptsTo n y n = ptsTo n (y + 1) 0 := by simp [ptsTo, rows2_snoc]; simp [row2]
theorem ptsTo_start (n : Nat) : [[0, 0, 1]] ++ row1 n = ptsTo n 0 0 := by simp [ptsTo, rows2, row2]
theorem ptsTo_all {p : Int} {n : Nat} (h : p = (n : Int)) : ptsTo n n 0 = allPts p := by subst h; simp [ptsTo, allPts, row2]
theorem ptsTo_three {n y z : Nat} {x : List Int} (h : x ∈ ptsTo n y z) : x.length = 3 := by
  simp only [ptsTo, row1, rows2, row2, List.mem_append, List.mem_map, List.mem_flatMap, List.mem_singleton] at h
  rcases h with ((rfl | ⟨_, _, rfl⟩) | ⟨_, _, _, _, rfl⟩) | ⟨_, _, rfl⟩ <;> rfl
theorem row1_three {n : Nat} {x : List Int} (h : x ∈ [[0, 0, 1]] ++ row1 n) : x.length = 3 := by
  simp only [row1, List.mem_append, List.mem_map, List.mem_singleton] at h
  rcases h with rfl | ⟨_, _, rfl⟩ <;> rfl
theorem ptsTo_length (n y z : Nat) : (ptsTo n y z).length = 1 + n + y * n + z := by simp [ptsTo, row1_length, rows2_length, row2_length]; omega
theorem sq_bound {n y : Nat} (hn : n ≤ 13) (hy : y ≤ n) : y * n ≤ 169 := Nat.le_trans (Nat.mul_le_mul hy hn) (Nat.mul_le_mul hn (Nat.le_refl 13))

theorem of_prime {p : Int} (hp : primeB p = true) : ∃ n : Nat, p = (n : Int) ∧ n ≤ 13 := by
  have := prime_bd hp
  exact ⟨p.toNat, by omega, by omega⟩
end Go.Proofs.YtendffbpmpobnaaDoor
