/- Plain laws: a normal form lies on the same points. -/
import Derived.Test.YtmcmbpoebhjecaaPt
namespace Go.Proofs.Ytmcmbpoebhjecaa
set_option linter.unusedVariables false
theorem scale_mod (p s v : Int) : ∃ k : Int, v % p * s % p = v * s - p * k := by
  refine ⟨v / p * s + v % p * s / p, ?_⟩
  have h1 := Int.emod_def v p
  have h2 := Int.emod_def (v % p * s) p
  grind
theorem on_norm {p m0 m1 m2 v0 v1 v2 t : Int} (ht : t * facP p [v0, v1, v2] % p = 1) : onB p [m0, m1, m2] (normL p [v0, v1, v2]) = true ↔ (m0 * v0 + m1 * v1 + m2 * v2) % p = 0 := by
  have e : normL p [v0, v1, v2] = [v0 % p * facP p [v0, v1, v2] % p, v1 % p * facP p [v0, v1, v2] % p, v2 % p * facP p [v0, v1, v2] % p] := rfl
  rw [e, onB_iff]
  generalize facP p [v0, v1, v2] = s at ht
  obtain ⟨k0, h0⟩ := scale_mod p s v0
  obtain ⟨k1, h1⟩ := scale_mod p s v1
  obtain ⟨k2, h2⟩ := scale_mod p s v2
  rw [h0, h1, h2]
  have h3 := Int.emod_def (t * s) p
  constructor
  · intro h
    obtain ⟨q, hq⟩ := Int.dvd_of_emod_eq_zero h
    refine Int.emod_eq_zero_of_dvd ⟨t * (q + m0 * k0 + m1 * k1 + m2 * k2) - (t * s / p) * (m0 * v0 + m1 * v1 + m2 * v2), ?_⟩
    grind
  · intro h
    obtain ⟨q, hq⟩ := Int.dvd_of_emod_eq_zero h
    refine Int.emod_eq_zero_of_dvd ⟨q * s - (m0 * k0 + m1 * k1 + m2 * k2), ?_⟩
    grind
theorem fac_inv {p : Int} (hp : primeB p = true) {l : List Int} (h : fnz (l.map (· % p)) ≠ 0) : fnz (l.map (· % p)) * facP p l % p = 1 := by
  have hb := prime_bd hp
  rcases fnz_mem (l.map (· % p)) with h0 | h0
  · exact absurd h0 h
  · obtain ⟨x, _, hx⟩ := List.mem_map.1 h0
    have h1 := Int.emod_nonneg x (show p ≠ 0 by omega)
    have h2 := Int.emod_lt_of_pos x (show 0 < p by omega)
    exact (inv_spec hp (by omega) (by omega)).2.2
theorem cross_nz {p : Int} (hp : primeB p = true) {a b : List Int} (ha : a ∈ allPts p) (hb : b ∈ allPts p) (hne : a ≠ b) : ∃ x ∈ [a.getD 1 0 * b.getD 2 0 - a.getD 2 0 * b.getD 1 0, a.getD 2 0 * b.getD 0 0 - a.getD 0 0 * b.getD 2 0, a.getD 0 0 * b.getD 1 0 - a.getD 1 0 * b.getD 0 0], ¬ x % p = 0 := by
  obtain ⟨n, rfl, hn1, hn0⟩ : ∃ n : Nat, p = (n : Int) ∧ crossN n = true ∧ 1 ≤ n := by
    rcases prime_cases hp with h | h | h | h | h
    · exact ⟨3, h, crossN_3, by decide⟩
    · exact ⟨5, h, crossN_5, by decide⟩
    · exact ⟨7, h, crossN_7, by decide⟩
    · exact ⟨11, h, crossN_11, by decide⟩
    · exact ⟨13, h, crossN_13, by decide⟩
  rw [allN_eq] at ha hb
  obtain ⟨x, hx, rfl⟩ := List.mem_map.1 ha
  obtain ⟨y, hy, rfl⟩ := List.mem_map.1 hb
  have h1 := List.all_eq_true.1 (List.all_eq_true.1 hn1 x hx) y hy
  have hxy : eqN x y = false := by
    rw [Bool.eq_false_iff]
    intro h
    apply hne
    obtain ⟨x0, x1, x2⟩ := x
    obtain ⟨y0, y1, y2⟩ := y
    simp only [eqN, Bool.and_eq_true, beq_iff_eq] at h
    obtain ⟨⟨rfl, rfl⟩, rfl⟩ := h
    rfl
  rw [hxy, Bool.false_or] at h1
  obtain ⟨x0, x1, x2⟩ := x
  obtain ⟨y0, y1, y2⟩ := y
  have key : ∀ u v : Nat, ((u + (n - 1) * v) % n == 0) = false → ¬ ((u : Int) - v) % (n : Int) = 0 := by
    intro u v h hz
    have h' : ¬ (u + (n - 1) * v) % n = 0 := by simpa using h
    apply h'
    obtain ⟨m, rfl⟩ : ∃ m, n = m + 1 := ⟨n - 1, by omega⟩
    rw [Nat.add_sub_cancel]
    obtain ⟨q, hq⟩ := Int.dvd_of_emod_eq_zero hz
    have : (((u + m * v : Nat) : Int)) % ((m + 1 : Nat) : Int) = 0 := by
      refine Int.emod_eq_zero_of_dvd ⟨q + v, ?_⟩
      simp only [Int.natCast_add, Int.natCast_mul] at hq ⊢
      grind
    exact_mod_cast this
  simp only [toL, List.getD_cons_zero, List.getD_cons_succ]
  simp only [nzN, crN, Bool.not_eq_true', Bool.and_eq_false_iff] at h1
  rcases h1 with (h1 | h1) | h1
  · exact ⟨_, List.mem_cons_self, by have := key _ _ h1; simpa only [Int.natCast_mul] using this⟩
  · exact ⟨_, List.mem_cons_of_mem _ List.mem_cons_self, by have := key _ _ h1; simpa only [Int.natCast_mul] using this⟩
  · exact ⟨_, List.mem_cons_of_mem _ (List.mem_cons_of_mem _ List.mem_cons_self), by have := key _ _ h1; simpa only [Int.natCast_mul] using this⟩
theorem fnz_ne {p : Int} : ∀ {l : List Int}, (∃ x ∈ l, ¬ x % p = 0) → fnz (l.map (· % p)) ≠ 0
  | [], h => by obtain ⟨x, hx, _⟩ := h; cases hx
  | a :: r, h => by
    rw [List.map_cons, fnz]
    split
    · rename_i ha
      obtain ⟨x, hx, hn⟩ := h
      rcases List.mem_cons.1 hx with rfl | hx'
      · exact absurd ha hn
      · exact fnz_ne ⟨x, hx', hn⟩
    · assumption
/-- a point is on the join of two points as their determinant tells -/
theorem join_on {p : Int} (hp : primeB p = true) {a b m : List Int} (ha : a ∈ allPts p) (hb : b ∈ allPts p) (hne : a ≠ b) (hm : m.length = 3) : onB p m (normL p [a.getD 1 0 * b.getD 2 0 - a.getD 2 0 * b.getD 1 0, a.getD 2 0 * b.getD 0 0 - a.getD 0 0 * b.getD 2 0, a.getD 0 0 * b.getD 1 0 - a.getD 1 0 * b.getD 0 0]) = true ↔ detT m a b % p = 0 := by
  match m, hm with
  | [m0, m1, m2], _ =>
    rw [on_norm (fac_inv hp (fnz_ne (cross_nz hp ha hb hne)))]
    have e : detT [m0, m1, m2] a b = m0 * (a.getD 1 0 * b.getD 2 0 - a.getD 2 0 * b.getD 1 0) + m1 * (a.getD 2 0 * b.getD 0 0 - a.getD 0 0 * b.getD 2 0) + m2 * (a.getD 0 0 * b.getD 1 0 - a.getD 1 0 * b.getD 0 0) := by
      simp only [detT, List.getD_cons_zero, List.getD_cons_succ]
    rw [e]
end Go.Proofs.Ytmcmbpoebhjecaa
