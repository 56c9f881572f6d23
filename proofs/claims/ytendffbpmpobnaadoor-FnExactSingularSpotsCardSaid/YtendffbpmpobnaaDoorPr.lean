/- Plain laws of sets of points. -/
import Derived.Test.YtendffbpmpobnaaDoorP3
import Derived.Test.YtendffbpmpobnaaDoorPg
namespace Go.Proofs.YtendffbpmpobnaaDoor
theorem flatAt {L : List (List Int)} {sp : List Int} (h : ∀ x ∈ L, x.length = 3) {i : Nat} (hi : i < L.length) : elemAt 3 (L.flatten ++ sp) i = L.getD i [] := flat_get h hi
theorem getD_lt {L : List (List Int)} {i : Nat} (hi : i < L.length) : L.getD i [] = L[i] := by simp [List.getD, hi]
theorem allF_flat {g : List Int → Bool} {L : List (List Int)} {sp : List Int} (h : ∀ x ∈ L, x.length = 3) : allF g 3 (L.flatten ++ sp) L.length = L.all g := by
  rw [Bool.eq_iff_iff, allF, List.all_eq_true, List.all_eq_true]
  constructor
  · intro h1 x hx
    obtain ⟨i, hi, rfl⟩ := List.getElem_of_mem hx
    have := h1 i (by simpa using hi)
    rwa [flatAt h hi, getD_lt hi] at this
  · intro h1 i hi
    have hi' : i < L.length := by simpa using hi
    rw [flatAt h hi']
    exact h1 _ (getD_mem hi')
/-- a list that grows -/
def growL : List (List Int) → Bool
  | a :: b :: r => decide (lexC a b < 0) && growL (b :: r)
  | _ => true
theorem growL_iff : ∀ L : List (List Int), growL L = true ↔ ∀ i, i + 1 < L.length → lexC (L.getD i []) (L.getD (i + 1) []) < 0
  | [] => by simp [growL]
  | [a] => by simp [growL]
  | a :: b :: r => by
    rw [growL, Bool.and_eq_true, growL_iff (b :: r), decide_eq_true_eq]
    constructor
    · rintro ⟨h1, h2⟩ i hi
      cases i with
      | zero => exact h1
      | succ i => exact h2 i (by simpa using hi)
    · intro h
      exact ⟨h 0 (by simp), fun i hi => h (i + 1) (by simpa using hi)⟩
theorem grows_flat {L : List (List Int)} {sp : List Int} (h : ∀ x ∈ L, x.length = 3) : growsB (L.flatten ++ sp) L.length = growL L := by
  rw [Bool.eq_iff_iff, growL_iff, growsB, List.all_eq_true]
  constructor
  · intro h1 i hi
    have := h1 i (by simp; omega)
    rwa [decide_eq_true_eq, flatAt h (by omega), flatAt h hi] at this
  · intro h1 i hi
    have hi' : i + 1 < L.length := by simp at hi; omega
    rw [decide_eq_true_eq, flatAt h (by omega), flatAt h hi']
    exact h1 i hi'
theorem cmpI_neg {a b : Int} : cmpI a b < 0 ↔ a < b := by unfold cmpI; split <;> (try split) <;> omega
theorem lexC_trans : ∀ {a b c : List Int}, a.length = b.length → b.length = c.length → lexC a b < 0 → lexC b c < 0 → lexC a c < 0
  | [], _, _, _, _, h, _ => by simp [lexC] at h
  | _ :: _, [], _, h, _, _, _ => by simp at h
  | _ :: _, _ :: _, [], _, h, _, _ => by simp at h
  | x :: a, y :: b, z :: c, h1, h2, h3, h4 => by
    simp only [lexC] at h3 h4 ⊢
    split at h3 <;> split at h4
    · rename_i e1 e2; subst e1; subst e2; rw [if_pos rfl]; exact lexC_trans (by simpa using h1) (by simpa using h2) h3 h4
    · rename_i e1 e2; subst e1; rw [if_neg e2]; exact h4
    · rename_i e1 e2; subst e2; rw [if_neg e1]; exact h3
    · rw [cmpI_neg] at h3 h4
      rw [if_neg (by omega), cmpI_neg]; omega
theorem grow_pair : ∀ {L : List (List Int)}, (∀ x ∈ L, x.length = 3) → growL L = true → L.Pairwise fun a b => lexC a b < 0
  | [], _, _ => List.Pairwise.nil
  | [a], _, _ => by simp
  | a :: b :: r, h, hg => by
    rw [growL, Bool.and_eq_true, decide_eq_true_eq] at hg
    have ih := grow_pair (fun x hx => h x (List.mem_cons_of_mem _ hx)) hg.2
    refine List.Pairwise.cons (fun x hx => ?_) ih
    rcases List.mem_cons.1 hx with rfl | hx'
    · exact hg.1
    · have h1 := (List.pairwise_cons.1 ih).1 x hx'
      exact lexC_trans (by rw [h a (by simp), h b (by simp)]) (by rw [h b (by simp), h x (by simp [hx'])]) hg.1 h1
theorem grow_nodup {L : List (List Int)} (h : ∀ x ∈ L, x.length = 3) (hg : growL L = true) : L.Nodup := by
  refine List.Pairwise.imp ?_ (grow_pair h hg)
  intro a b hab e
  subst e
  rw [lexC_self] at hab
  omega
theorem nodup_len : ∀ (A B : List (List Int)), A.Nodup → (∀ x ∈ A, x ∈ B) → A.length ≤ B.length
  | [], _, _, _ => by simp
  | a :: r, B, hn, h => by
    have hn' := List.nodup_cons.1 hn
    have hb : a ∈ B := h a (by simp)
    have ih := nodup_len r (B.erase a) hn'.2 (fun x hx => (List.mem_erase_of_ne (fun e => by subst e; exact hn'.1 hx)).2 (h x (List.mem_cons_of_mem _ hx)))
    rw [List.length_erase_of_mem hb] at ih
    have := List.length_pos_of_mem hb
    simp only [List.length_cons]
    omega
theorem filter_le {A B : List (List Int)} (hn : A.Nodup) (h : ∀ x ∈ A, x ∈ B) (f : List Int → Bool) : (A.filter f).length ≤ (B.filter f).length :=
  nodup_len _ _ (List.Pairwise.filter f hn) fun x hx => by
    have := List.mem_filter.1 hx
    exact List.mem_filter.2 ⟨h x this.1, this.2⟩
theorem point_mem {p : Int} {a : List Int} (ha : a.length = 3) (h : pointB p a = true) : a ∈ allPts p := by
  match a, ha with
  | [x, y, z], _ =>
    have hp := pointB_prime h
    have hb := prime_bd hp
    have hm := mod_list (pointB_mod h)
    simp only [pointB, normB, Bool.and_eq_true, beq_iff_eq] at h
    have hf := h.2.2
    have hx := hm x (by simp)
    have hy := hm y (by simp)
    have hz := hm z (by simp)
    have hof : ∀ w : Int, 0 ≤ w → w < p → ∃ k : Nat, k < p.toNat ∧ w = (k : Int) := fun w h0 h1 => ⟨w.toNat, by omega, by omega⟩
    simp only [allPts, row1, rows2, row2, List.mem_append, List.mem_map, List.mem_flatMap, List.mem_singleton, List.mem_range]
    simp only [fnz] at hf
    by_cases h1 : x = 0
    · subst h1
      by_cases h2 : y = 0
      · subst h2
        by_cases h3 : z = 0
        · subst h3; simp at hf
        · left; left
          simp at hf
          simp_all
      · left; right
        simp [h2] at hf
        subst hf
        obtain ⟨k, hk, rfl⟩ := hof z hz.1 hz.2
        exact ⟨k, hk, rfl⟩
    · right
      simp [h1] at hf
      subst hf
      obtain ⟨j, hj, rfl⟩ := hof y hy.1 hy.2
      obtain ⟨k, hk, rfl⟩ := hof z hz.1 hz.2
      exact ⟨j, hj, k, hk, rfl⟩
/-! ### secant numbers -/
def cntOn (p : Int) (L : List (List Int)) (l : List Int) : Nat := (L.filter fun a => onB p a l).length
def secTo (p : Int) (L K : List (List Int)) : List Int := (List.range (p + 2).toNat).map fun k => (((K.filter fun l => cntOn p L l == k).length : Nat) : Int)
def secV (p : Int) (L : List (List Int)) : List Int := secTo p L (allPts p)
theorem secTo_length (p : Int) (L K : List (List Int)) : (secTo p L K).length = (p + 2).toNat := by simp [secTo]
theorem secTo_nil (p : Int) (L : List (List Int)) : secTo p L [] = List.replicate (p + 2).toNat 0 := by
  apply List.ext_getElem (by simp [secTo])
  intro i h1 h2
  simp [secTo]
theorem secTo_get {p : Int} {L K : List (List Int)} {k : Nat} (hk : k < (p + 2).toNat) : (secTo p L K).getD k 0 = (((K.filter fun l => cntOn p L l == k).length : Nat) : Int) := by
  simp [secTo, List.getD, hk]
theorem secTo_snoc {p : Int} {L K : List (List Int)} {l : List Int} (h : cntOn p L l < (p + 2).toNat) : (secTo p L K).set (cntOn p L l) ((secTo p L K).getD (cntOn p L l) 0 + 1) = secTo p L (K ++ [l]) := by
  apply List.ext_getElem (by simp [secTo])
  intro i h1 h2
  have hi : i < (p + 2).toNat := by simpa [secTo] using h2
  rw [List.getElem_set]
  split
  · rename_i e
    subst e
    rw [secTo_get h]
    simp [secTo, List.filter_append]
  · rename_i e
    have : (cntOn p L l == i) = false := by simpa using e
    simp [secTo, List.filter_append, this]
/-- a set of points -/
def setOk (p : Int) (L : List (List Int)) : Bool := L.all (pointB p) && (growL L && decide ((L.length : Int) ≤ 60))
def setC (p : Int) (L : List (List Int)) : Int := if codeB p (L.all (pointB p)) = 0 then (if (growL L && decide ((L.length : Int) ≤ 60)) = true then 0 else 2) else codeB p (L.all (pointB p))
theorem setC_zero {p : Int} {L : List (List Int)} (h : setC p L = 0) : primeB p = true ∧ (∀ x ∈ L, pointB p x = true) ∧ growL L = true ∧ L.length ≤ 60 := by
  unfold setC at h
  split at h
  · rename_i h0
    obtain ⟨h1, h2⟩ := codeB_zero.1 h0
    split at h
    · rename_i h3
      simp only [Bool.and_eq_true, decide_eq_true_eq] at h3
      exact ⟨h1, List.all_eq_true.1 h2, h3.1, by omega⟩
    · cases h
  · exact absurd h (by assumption)
theorem set_count {p : Int} {L : List (List Int)} (h3 : ∀ x ∈ L, x.length = 3) (h : setC p L = 0) {l : List Int} (hl : l ∈ allPts p) : cntOn p L l ≤ (p + 1).toNat := by
  obtain ⟨hp, hv, hg, _⟩ := setC_zero h
  have := filter_le (grow_nodup h3 hg) (fun x hx => point_mem (h3 x hx) (hv x hx)) fun a => onB p a l
  have hc := line_count hp hl
  unfold cntOn
  have hb := prime_bd hp
  omega
end Go.Proofs.YtendffbpmpobnaaDoor
