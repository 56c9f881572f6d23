/- Contracts of the laws' helpers for lists of arrays of numbers. Printed by gen_b5.py. -/
import Derived.Test.YtendffbpmpobnaaDoorB1
namespace Go.Proofs.YtendffbpmpobnaaDoor
attribute [local irreducible] CW OW QW QOp Con thenP inBlockP
set_option maxRecDepth 10000
set_option linter.unusedSimpArgs false
set_option linter.unusedVariables false
theorem putI_mid : ∀ (m l pre post : List Int), l.length = m.length → putI (pre ++ (l ++ post)) pre.length m = pre ++ (m ++ post)
  | [], l, pre, post, h => by
    have : l = [] := List.eq_nil_of_length_eq_zero h
    simp [putI, this]
  | x :: m, [], pre, post, h => by simp at h
  | x :: m, y :: l, pre, post, h => by
    have ih := putI_mid m l (pre ++ [x]) post (by simpa using h)
    simp only [List.length_append, List.length_cons, List.length_nil, Nat.zero_add, List.append_assoc, List.cons_append, List.nil_append] at ih
    simp only [putI]
    refine Eq.trans ?_ ih
    congr 1
    simp
theorem put_fill {L : List Int} {sz i n N : Nat} (h : i < n) (hL : L.length = n * sz) (hN : n ≤ N) :
    putI (L.take (i * sz) ++ List.replicate ((N - i) * sz) 0) (i * sz) ((L.drop (i * sz)).take sz) = L.take ((i + 1) * sz) ++ List.replicate ((N - (i + 1)) * sz) 0 := by
  have h1 : (i + 1) * sz ≤ n * sz := Nat.mul_le_mul_right sz h
  have e0 : (i + 1) * sz = i * sz + sz := by rw [Nat.add_mul, Nat.one_mul]
  have e1 : (N - i) * sz = sz + (N - (i + 1)) * sz := by
    rw [show N - i = (N - (i + 1)) + 1 by omega, Nat.add_mul, Nat.one_mul, Nat.add_comm]
  have hl : (L.take (i * sz)).length = i * sz := by simp; omega
  rw [e1, ← List.replicate_append_replicate]
  have := putI_mid ((L.drop (i * sz)).take sz) (List.replicate sz 0) (L.take (i * sz)) (List.replicate ((N - (i + 1)) * sz) 0) (by simp; omega)
  rw [hl] at this
  rw [this, e0, List.take_add, List.append_assoc]
theorem take_elem {A B : List Int} {sz i n : Nat} (hi : i < n) (h : A.take (n * sz) = B.take (n * sz)) : (A.drop (i * sz)).take sz = (B.drop (i * sz)).take sz := by
  have h1 : (i + 1) * sz ≤ n * sz := Nat.mul_le_mul_right sz hi
  rw [Nat.add_mul, Nat.one_mul] at h1
  have := congrArg (fun l => (l.drop (i * sz)).take sz) h
  simp only [List.drop_take, List.take_take] at this
  rwa [Nat.min_eq_left (by omega)] at this
def padS (sz j : Nat) : List Int := (List.replicate j (mark :: List.replicate (sz - 1) 0)).flatten
theorem padS_length (sz j : Nat) (h : 0 < sz) : (padS sz j).length = j * sz := by
  simp [padS]
  rw [Nat.sub_add_cancel h]
theorem padS_snoc (sz j : Nat) : padS sz (j + 1) = padS sz j ++ (mark :: List.replicate (sz - 1) 0) := by
  simp [padS, List.replicate_succ']
theorem put_pad {L : List Int} {sz j n N : Nat} (hs : 0 < sz) (h : n + j < N) (hL : L.length = n * sz) :
    putI (L ++ padS sz j ++ List.replicate ((N - n - j) * sz) 0) ((n + j) * sz) (mark :: List.replicate (sz - 1) 0) = L ++ padS sz (j + 1) ++ List.replicate ((N - n - (j + 1)) * sz) 0 := by
  have e1 : (N - n - j) * sz = sz + (N - n - (j + 1)) * sz := by
    rw [show N - n - j = (N - n - (j + 1)) + 1 by omega, Nat.add_mul, Nat.one_mul, Nat.add_comm]
  have hl : (L ++ padS sz j).length = (n + j) * sz := by rw [List.length_append, hL, padS_length sz j hs, Nat.add_mul]
  rw [e1, ← List.replicate_append_replicate]
  have := putI_mid (mark :: List.replicate (sz - 1) 0) (List.replicate sz 0) (L ++ padS sz j) (List.replicate ((N - n - (j + 1)) * sz) 0) (by simp; omega)
  rw [hl] at this
  rw [this, padS_snoc]
  simp

end Go.Proofs.YtendffbpmpobnaaDoor
