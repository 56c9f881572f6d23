/- Plain mathematics: inverses modulo a small prime; the normal list of a list. -/
import Derived.Test.YtendffbpmpobnaaDoorPl
namespace Go.Proofs.YtendffbpmpobnaaDoor
/-- the inverse of a number modulo p; 0 if it has none -/
def invN (p n : Int) : Nat := ((List.range p.toNat).find? fun (k : Nat) => n * (k : Int) % p == 1).getD 0
def invP (p n : Int) : Int := invN p n
theorem inv_zero (p : Int) : invP p 0 = 0 := by
  have : (List.range p.toNat).find? (fun (k : Nat) => (0 : Int) * (k : Int) % p == 1) = none := by
    rw [List.find?_eq_none]
    intro x _
    simp
  unfold invP invN
  rw [this]
  rfl
theorem small_cases {p n : Int} (hp : primeB p = true) (h0 : 0 < n) (h1 : n < p) : (p = 3 ∨ p = 5 ∨ p = 7 ∨ p = 11 ∨ p = 13) ∧ (n = 1 ∨ n = 2 ∨ n = 3 ∨ n = 4 ∨ n = 5 ∨ n = 6 ∨ n = 7 ∨ n = 8 ∨ n = 9 ∨ n = 10 ∨ n = 11 ∨ n = 12) := by
  have := prime_cases hp
  exact ⟨this, by omega⟩
theorem inv_un {p n : Int} (hp : primeB p = true) (h0 : 0 < n) (h1 : n < p) {k k' : Int} (a : 0 ≤ k) (b : k < p) (a' : 0 ≤ k') (b' : k' < p) (e : n * k % p = 1) (e' : n * k' % p = 1) : k = k' := by
  obtain ⟨hp, hn⟩ := small_cases hp h0 h1
  rcases hp with rfl | rfl | rfl | rfl | rfl <;> rcases hn with rfl | rfl | rfl | rfl | rfl | rfl | rfl | rfl | rfl | rfl | rfl | rfl <;> omega
theorem inv_ex {p n : Int} (hp : primeB p = true) (h0 : 0 < n) (h1 : n < p) : ∃ k : Nat, k < p.toNat ∧ n * (k : Int) % p = 1 := by
  obtain ⟨hp, hn⟩ := small_cases hp h0 h1
  rcases hp with rfl | rfl | rfl | rfl | rfl <;> rcases hn with rfl | rfl | rfl | rfl | rfl | rfl | rfl | rfl | rfl | rfl | rfl | rfl <;>
    first | (exfalso; omega) | exact ⟨1, by decide, by decide⟩ | exact ⟨2, by decide, by decide⟩ | exact ⟨3, by decide, by decide⟩ | exact ⟨4, by decide, by decide⟩ | exact ⟨5, by decide, by decide⟩ | exact ⟨6, by decide, by decide⟩ | exact ⟨7, by decide, by decide⟩ | exact ⟨8, by decide, by decide⟩ | exact ⟨9, by decide, by decide⟩ | exact ⟨10, by decide, by decide⟩ | exact ⟨11, by decide, by decide⟩ | exact ⟨12, by decide, by decide⟩
theorem inv_spec {p n : Int} (hp : primeB p = true) (h0 : 0 < n) (h1 : n < p) : 1 ≤ invP p n ∧ invP p n < p ∧ n * invP p n % p = 1 := by
  obtain ⟨k, hk1, hk2⟩ := inv_ex hp h0 h1
  have hb := prime_bd hp
  cases hf : (List.range p.toNat).find? (fun (k : Nat) => n * (k : Int) % p == 1) with
  | none =>
    rw [List.find?_eq_none] at hf
    have := hf k (by simpa using hk1)
    simp [hk2] at this
  | some j =>
    have h2 := List.find?_some hf
    have h3 := List.mem_of_find?_eq_some hf
    simp at h2 h3
    have e : invP p n = (j : Int) := by simp [invP, invN, hf]
    rw [e]
    refine ⟨?_, by omega, h2⟩
    have : (j : Int) ≠ 0 := fun h => by rw [h] at h2; simp at h2
    omega
theorem inv_is {p n k : Int} (hp : primeB p = true) (h0 : 0 < n) (h1 : n < p) (a : 0 ≤ k) (b : k < p) (e : n * k % p = 1) : invP p n = k := by
  have := inv_spec hp h0 h1
  exact inv_un hp h0 h1 (by omega) this.2.1 a b this.2.2 e
/-- the factor that makes a list normal: the inverse of its first number that is not 0 -/
def facP (p : Int) (l : List Int) : Int := invP p (fnz (l.map (· % p)))
def normL (p : Int) (l : List Int) : List Int := l.map fun n => n % p * facP p l % p
theorem normL_length (p : Int) (l : List Int) : (normL p l).length = l.length := by simp [normL]
theorem fnz_mem (l : List Int) : fnz l = 0 ∨ fnz l ∈ l := by
  induction l with
  | nil => simp [fnz]
  | cons a r ih =>
    simp only [fnz]
    split
    · rcases ih with h | h
      · exact .inl h
      · exact .inr (List.mem_cons_of_mem _ h)
    · exact .inr (by simp)
theorem fnz_bd {p : Int} (hp : 0 < p) (l : List Int) : 0 ≤ fnz (l.map (· % p)) ∧ fnz (l.map (· % p)) < p := by
  rcases fnz_mem (l.map (· % p)) with h | h
  · omega
  · obtain ⟨x, _, hx⟩ := List.mem_map.1 h
    have h1 := Int.emod_nonneg x (show p ≠ 0 by omega)
    have h2 := Int.emod_lt_of_pos x hp
    omega
theorem fac_bd {p : Int} (hp : primeB p = true) (l : List Int) : 0 ≤ facP p l ∧ facP p l < p := by
  have hb := prime_bd hp
  have hf := fnz_bd (p := p) (by omega) l
  by_cases h : fnz (l.map (· % p)) = 0
  · rw [facP, h, inv_zero]; omega
  · have := inv_spec hp (n := fnz (l.map (· % p))) (by omega) (by omega)
    simp only [facP]; omega
theorem fac_zero {p : Int} (hp : primeB p = true) (l : List Int) : facP p l = 0 ↔ fnz (l.map (· % p)) = 0 := by
  have hb := prime_bd hp
  have hf := fnz_bd (p := p) (by omega) l
  constructor
  · intro h
    by_cases h' : 0 < fnz (l.map (· % p))
    · have := inv_spec hp h' hf.2
      simp only [facP] at h; omega
    · omega
  · intro h; rw [facP, h, inv_zero]
theorem fac_snoc {p : Int} (hp : primeB p = true) (l : List Int) (x : Int) : facP p (l ++ [x]) = if facP p l = 0 then (if x % p = 0 then 0 else invP p (x % p)) else facP p l := by
  have h0 := fac_zero hp l
  have e : facP p (l ++ [x]) = invP p (if fnz (l.map (· % p)) = 0 then (if x % p = 0 then 0 else x % p) else fnz (l.map (· % p))) := by
    simp only [facP, List.map_append, List.map_cons, List.map_nil, fnz_append, fnz]
  rw [e]
  by_cases h : fnz (l.map (· % p)) = 0
  · rw [if_pos h, if_pos (h0.2 h)]
    split
    · exact inv_zero p
    · rfl
  · rw [if_neg h, if_neg fun e => h (h0.1 e)]
    rfl
theorem norm_snoc {p : Int} (hp : primeB p = true) (l : List Int) (x : Int) : normL p (l ++ [x]) = normL p l ++ [x % p * facP p (l ++ [x]) % p] := by
  simp only [normL, List.map_append, List.map_cons, List.map_nil]
  congr 1
  by_cases h : facP p l = 0
  · have hz := (fac_zero hp l).1 h
    have key : ∀ (m : List Int), fnz (m.map (· % p)) = 0 → ∀ n ∈ m, n % p = 0 := by
      intro m
      induction m with
      | nil => simp
      | cons a r ih =>
        intro h n hn
        simp only [List.map_cons, fnz] at h
        split at h
        · rename_i h'
          rcases List.mem_cons.1 hn with rfl | hn
          · exact h'
          · exact ih h n hn
        · rename_i h'; exact absurd h h'
    apply List.map_congr_left
    intro n hn
    simp [key l hz n hn]
  · rw [fac_snoc hp, if_neg h]
end Go.Proofs.YtendffbpmpobnaaDoor
