/- Contracts: comparing, sorted sets of points. -/
import Derived.Test.YtendffbpmpobnaaDoorP1
import Derived.Test.YtendffbpmpobnaaDoorB1
namespace Go.Proofs.YtendffbpmpobnaaDoor
attribute [local irreducible] CW OW QW QOp Con thenP inBlockP
set_option maxRecDepth 10000
set_option linter.unusedSimpArgs false
set_option linter.unusedVariables false
def cmpI (a b : Int) : Int := if a < b then -1 else if b < a then 1 else 0
def lexC : List Int → List Int → Int
  | a :: r, b :: s => if a = b then lexC r s else cmpI a b
  | _, _ => 0
theorem lexC_drop : ∀ (i : Nat) (a b : List Int), a.take i = b.take i → i ≤ a.length → i ≤ b.length → lexC a b = lexC (a.drop i) (b.drop i)
  | 0, a, b, _, _, _ => by simp
  | i + 1, a :: r, b :: s, h, h1, h2 => by
    simp only [List.take_succ_cons, List.cons.injEq] at h
    simp only [List.length_cons] at h1 h2
    rw [lexC, if_pos h.1, lexC_drop i r s h.2 (by omega) (by omega)]
    rfl
  | i + 1, [], _, _, h, _ => by simp at h
  | i + 1, _ :: _, [], _, _, h => by simp at h
theorem lexC_at {a b : List Int} {i : Nat} (ha : i < a.length) (hb : i < b.length) (h : a.take i = b.take i) (hne : cmpI (a.getD i 0) (b.getD i 0) ≠ 0) : lexC a b = cmpI (a.getD i 0) (b.getD i 0) := by
  rw [lexC_drop i a b h (by omega) (by omega), List.drop_eq_getElem_cons ha, List.drop_eq_getElem_cons hb]
  have e1 : a.getD i 0 = a[i] := by simp [List.getD, ha]
  have e2 : b.getD i 0 = b[i] := by simp [List.getD, hb]
  rw [e1, e2] at hne ⊢
  have : a[i] ≠ b[i] := fun h => by rw [h] at hne; simp [cmpI] at hne
  rw [lexC, if_neg this]
theorem lexC_self (a : List Int) : lexC a a = 0 := by
  induction a with
  | nil => rfl
  | cons x r ih => rw [lexC, if_pos rfl, ih]
theorem cmpI_zero {a b : Int} (h : cmpI a b = 0) : a = b := by
  unfold cmpI at h
  split at h
  · cases h
  · split at h
    · cases h
    · omega
/-- a list of triples grows from place to place, up to place n -/
def growsB (M : List Int) (n : Nat) : Bool := (List.range (n - 1)).all fun i => decide (lexC (elemAt 3 M i) (elemAt 3 M (i + 1)) < 0)
theorem grows_no {M : List Int} {n i : Nat} (hi : i + 1 < n) (h : ¬ lexC (elemAt 3 M i) (elemAt 3 M (i + 1)) < 0) : growsB M n = false := by
  unfold growsB
  rw [List.all_eq_false]
  exact ⟨i, by simp; omega, by simp [h]⟩
theorem grows_yes {M : List Int} {n : Nat} (h : ∀ i, i + 1 < n → lexC (elemAt 3 M i) (elemAt 3 M (i + 1)) < 0) : growsB M n = true := by
  unfold growsB
  rw [List.all_eq_true]
  intro i hi
  simp only [List.mem_range] at hi
  simpa using h i (by omega)
end Go.Proofs.YtendffbpmpobnaaDoor
