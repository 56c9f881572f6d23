/- Secant numbers, blocking sets. Printed by gen_r1.py. -/
import Derived.Test.YtendffbpmpobnaaDoorPr
namespace Go.Proofs.YtendffbpmpobnaaDoor
attribute [local irreducible] CW OW QW QOp Con thenP inBlockP
set_option maxRecDepth 10000
set_option linter.unusedSimpArgs false
set_option linter.unusedVariables false
theorem secTo_le {p : Int} {L K : List (List Int)} (k : Nat) : 0 ≤ (secTo p L K).getD k 0 ∧ (secTo p L K).getD k 0 ≤ (K.length : Int) := by
  by_cases h : k < (p + 2).toNat
  · rw [secTo_get h]
    have := List.length_filter_le (fun l => cntOn p L l == k) K
    omega
  · have : (secTo p L K).getD k 0 = 0 := by rw [List.getD, List.getElem?_eq_none (by rw [secTo_length]; omega)]; rfl
    omega
theorem takeS {L : List (List Int)} {i : Nat} (hi : i < L.length) : L.take i ++ [L.getD i []] = L.take (i + 1) := by
  rw [getD_lt hi, List.take_append_getElem hi]
theorem tup_bv {a b : Bool} {c : Int} (h : a = b) : V.tuple [.bool a, .int c] = V.tuple [.bool b, .int c] := by rw [h]
def blkB (p : Int) (L : List (List Int)) : Bool := decide ((secV p L).getD 0 0 = 0)
def blkV (p : Int) (L : List (List Int)) : Bool := if setC p L = 0 then blkB p L else false
def chunk (M : List Int) (n : Nat) : List (List Int) := (List.range n).map (elemAt 3 M)
theorem chunk_split {M : List Int} : ∀ {n : Nat}, n * 3 ≤ M.length → M = (chunk M n).flatten ++ M.drop (n * 3)
  | 0, _ => by simp [chunk]
  | n + 1, h => by
    have ih := chunk_split (M := M) (n := n) (by omega)
    have e : chunk M (n + 1) = chunk M n ++ [elemAt 3 M n] := by simp [chunk, List.range_succ]
    rw [e, List.flatten_append, List.append_assoc]
    have e2 : [elemAt 3 M n].flatten ++ M.drop ((n + 1) * 3) = M.drop (n * 3) := by
      have e3 : (n + 1) * 3 = n * 3 + 3 := by omega
      rw [e3, ← List.drop_drop]
      simp only [List.flatten_cons, List.flatten_nil, List.append_nil, elemAt]
      exact List.take_append_drop 3 _
    rw [e2]
    exact ih
def blkM (p : Int) (M : List Int) (n : Nat) : Bool := blkV p (chunk M n)
def setM (p : Int) (M : List Int) (n : Nat) : Int := setC p (chunk M n)
theorem blkM_zero (p : Int) (M : List Int) : blkM p M 0 = blkV p [] := rfl
theorem setM_zero (p : Int) (M : List Int) : setM p M 0 = setC p [] := rfl
theorem chunk_length (M : List Int) (n : Nat) : (chunk M n).length = n := by simp [chunk]
theorem chunk_three {M : List Int} {n : Nat} (h : n * 3 ≤ M.length) : ∀ x ∈ chunk M n, x.length = 3 := by
  intro x hx
  obtain ⟨i, hi, rfl⟩ := List.mem_map.1 hx
  have : i < n := by simpa using hi
  simp only [elemAt, List.length_take, List.length_drop]
  omega

end Go.Proofs.YtendffbpmpobnaaDoor
