/- Plain mathematics: numbers modulo a small prime, normal lists. -/
import Derived.Test.YtendffbpmpobnaaDoorEngG
namespace Go.Proofs.YtendffbpmpobnaaDoor

/-- the five primes -/
def primeB (p : Int) : Bool := p == 3 || p == 5 || p == 7 || p == 11 || p == 13
theorem prime_cases {p : Int} (h : primeB p = true) : p = 3 ∨ p = 5 ∨ p = 7 ∨ p = 11 ∨ p = 13 := by
  simp [primeB] at h; omega
theorem prime_bd {p : Int} (h : primeB p = true) : 3 ≤ p ∧ p ≤ 13 := by
  have := prime_cases h; omega
theorem tmod_bd {n p : Int} (hp : 0 < p) : -p < n.tmod p ∧ n.tmod p < p := by
  rw [Int.tmod_eq_emod]
  have h1 := Int.emod_nonneg n (show p ≠ 0 by omega)
  have h2 := Int.emod_lt_of_pos n hp
  split
  · omega
  · have : (p.natAbs : Int) = p := Int.natAbs_of_nonneg (by omega)
    have h3 : n % p ≠ 0 := fun h => by rename_i h'; exact h' (.inr (Int.dvd_of_emod_eq_zero h))
    omega
theorem tmod_tmod {n p : Int} (hp : 0 < p) : (n.tmod p + p).tmod p = n % p := by
  have hb := tmod_bd (n := n) hp
  rw [Int.tmod_eq_emod_of_nonneg (by omega)]
  rw [Int.add_emod_right]
  rw [Int.tmod_eq_emod]
  have e : (p.natAbs : Int) = p := Int.natAbs_of_nonneg (by omega)
  split
  · simp
  · rw [e, Int.sub_emod, Int.emod_self, Int.sub_zero, Int.emod_emod_of_dvd _ (Int.dvd_refl p), Int.emod_emod_of_dvd _ (Int.dvd_refl p)]
/-- all numbers of a list are numbers modulo p -/
def modB (p : Int) (l : List Int) : Bool := l.all fun n => decide (0 ≤ n) && decide (n ≤ p - 1)
/-- the first number that is not 0 -/
def fnz : List Int → Int
  | [] => 0
  | a :: r => if a = 0 then fnz r else a
theorem fnz_append (l m : List Int) : fnz (l ++ m) = if fnz l = 0 then fnz m else fnz l := by
  induction l with
  | nil => simp [fnz]
  | cons a r ih =>
    simp only [List.cons_append, fnz]
    split
    · exact ih
    · rfl
/-- a normal list -/
def normB (p : Int) (l : List Int) : Bool := modB p l && (fnz l == 1)

theorem take_snoc {l : List Int} {i : Nat} (h : i < l.length) : l.take (i + 1) = l.take i ++ [l.getD i 0] := by
  rw [List.take_succ_eq_append_getElem h]; simp [List.getD, h]
theorem modB_snoc {p : Int} {l : List Int} {i : Nat} (hi : i < l.length) (h : modB p (l.take i) = true) (h1 : 0 ≤ l.getD i 0) (h2 : l.getD i 0 ≤ p - 1) : modB p (l.take (i + 1)) = true := by
  rw [take_snoc hi]
  simp only [modB, List.all_append, Bool.and_eq_true] at h ⊢
  exact ⟨h, by simp only [List.all_cons, List.all_nil, Bool.and_true, Bool.and_eq_true, decide_eq_true_eq]; exact ⟨h1, h2⟩⟩
theorem modB_fail {p : Int} {l : List Int} {i n : Nat} (hi : i < l.length) (hn : i < n) (h : (decide (0 ≤ l.getD i 0) && decide (l.getD i 0 ≤ p - 1)) = false) : modB p (l.take n) = false := by
  rw [modB, List.all_eq_false]
  refine ⟨l.getD i 0, ?_, by rw [h]; simp⟩
  rw [List.mem_take_iff_getElem]
  exact ⟨i, by omega, by simp [List.getD, hi]⟩
theorem fnz_take {l : List Int} {i : Nat} (h : i < l.length) : fnz (l.take (i + 1)) = if fnz (l.take i) = 0 then l.getD i 0 else fnz (l.take i) := by
  rw [take_snoc h, fnz_append]
  simp only [fnz]
  split
  · split <;> simp_all
  · rfl
theorem fnz_keep {l : List Int} {i n : Nat} (h : i ≤ n) (h0 : fnz (l.take i) ≠ 0) : fnz (l.take n) = fnz (l.take i) := by
  have : l.take n = l.take i ++ (l.take n).drop i := by
    have := (List.take_append_drop i (l.take n)).symm
    rwa [List.take_take, Nat.min_eq_left h] at this
  rw [this, fnz_append, if_neg h0]
theorem fnz_at {l : List Int} {i n : Nat} (h : i < l.length) (hn : i < n) (h0 : fnz (l.take i) = 0) (h1 : l.getD i 0 ≠ 0) : fnz (l.take n) = l.getD i 0 := by
  have e : fnz (l.take (i + 1)) = l.getD i 0 := by rw [fnz_take h, if_pos h0]
  rw [fnz_keep (i := i + 1) (by omega) (by rw [e]; exact h1), e]
end Go.Proofs.YtendffbpmpobnaaDoor
