/- Plain laws: three points of a set on a line. -/
import Derived.Test.YtmcmbpoebhjecaaPr
namespace Go.Proofs.Ytmcmbpoebhjecaa
set_option linter.unusedVariables false
set_option linter.unusedSimpArgs false
def detT (a b c : List Int) : Int := a.getD 0 0 * (b.getD 1 0 * c.getD 2 0 - b.getD 2 0 * c.getD 1 0) + a.getD 1 0 * (b.getD 2 0 * c.getD 0 0 - b.getD 0 0 * c.getD 2 0) + a.getD 2 0 * (b.getD 0 0 * c.getD 1 0 - b.getD 1 0 * c.getD 0 0)
theorem onB_iff {p : Int} {a b c x y z : Int} : onB p [a, b, c] [x, y, z] = true ↔ (a * x + b * y + c * z) % p = 0 := by
  rw [onB, beq_iff_eq]
  have e : dotV [a, b, c] [x, y, z] = a * x + b * y + c * z := by
    simp only [dotV, dotT, List.getD_cons_zero, List.getD_cons_succ, Int.zero_add]
  rw [e]
theorem det_of_on {p : Int} {a b c l : List Int} (hl : l ∈ allPts p) (ha : a.length = 3) (hb : b.length = 3) (hc : c.length = 3) (h1 : onB p a l = true) (h2 : onB p b l = true) (h3 : onB p c l = true) : detT a b c % p = 0 := by
  match a, ha, b, hb, c, hc with
  | [a0, a1, a2], _, [b0, b1, b2], _, [c0, c1, c2], _ =>
    have hl' : (∃ z : Int, l = [0, 0, 1] ∧ z = 0) ∨ (∃ z : Int, l = [0, 1, z]) ∨ (∃ y z : Int, l = [1, y, z]) := by
      simp only [allPts, row1, rows2, row2, List.mem_append, List.mem_map, List.mem_flatMap, List.mem_singleton] at hl
      rcases hl with (rfl | ⟨z, _, rfl⟩) | ⟨y, _, z, _, rfl⟩
      · exact .inl ⟨0, rfl, rfl⟩
      · exact .inr (.inl ⟨_, rfl⟩)
      · exact .inr (.inr ⟨_, _, rfl⟩)
    apply Int.emod_eq_zero_of_dvd
    have hd : detT [a0, a1, a2] [b0, b1, b2] [c0, c1, c2] = a0 * (b1 * c2 - b2 * c1) + a1 * (b2 * c0 - b0 * c2) + a2 * (b0 * c1 - b1 * c0) := by
      simp only [detT, List.getD_cons_zero, List.getD_cons_succ]
    rw [hd]
    rcases hl' with ⟨z, rfl, _⟩ | ⟨z, rfl⟩ | ⟨y, z, rfl⟩
    all_goals (rw [onB_iff] at h1 h2 h3; obtain ⟨q1, e1⟩ := Int.dvd_of_emod_eq_zero h1; obtain ⟨q2, e2⟩ := Int.dvd_of_emod_eq_zero h2; obtain ⟨q3, e3⟩ := Int.dvd_of_emod_eq_zero h3)
    · exact ⟨q1 * (b0 * c1 - b1 * c0) + q2 * (c0 * a1 - c1 * a0) + q3 * (a0 * b1 - a1 * b0), by grind⟩
    · exact ⟨q1 * (b2 * c0 - b0 * c2) + q2 * (c2 * a0 - c0 * a2) + q3 * (a2 * b0 - a0 * b2), by grind⟩
    · exact ⟨q1 * (b1 * c2 - b2 * c1) + q2 * (c1 * a2 - c2 * a1) + q3 * (a1 * b2 - a2 * b1), by grind⟩
/-! ### the join of two points -/
def crN (n : Nat) (a b : N3) : N3 := ((a.2.1 * b.2.2 + (n - 1) * (a.2.2 * b.2.1)) % n, (a.2.2 * b.1 + (n - 1) * (a.1 * b.2.2)) % n, (a.1 * b.2.1 + (n - 1) * (a.2.1 * b.1)) % n)
def nzN (a : N3) : Bool := !(a.1 == 0 && a.2.1 == 0 && a.2.2 == 0)
def isN (a : N3) : Bool := a.1 == 1 || (a.1 == 0 && (a.2.1 == 1 || (a.2.1 == 0 && a.2.2 == 1)))
def eqN (a b : N3) : Bool := a.1 == b.1 && a.2.1 == b.2.1 && a.2.2 == b.2.2
def scN (n s : Nat) (a : N3) : N3 := (s * a.1 % n, s * a.2.1 % n, s * a.2.2 % n)
def crossN (n : Nat) : Bool := (allN n).all fun a => (allN n).all fun b => eqN a b || nzN (crN n a b)
def scaleN (n : Nat) : Bool := (List.range n).all fun x => (List.range n).all fun y => (List.range n).all fun z => !nzN (x, y, z) || (List.range n).any fun s => isN (scN n s (x, y, z))
theorem crossN_3 : crossN 3 = true := by decide +kernel
theorem crossN_5 : crossN 5 = true := by decide +kernel
theorem crossN_7 : crossN 7 = true := by decide +kernel
theorem crossN_11 : crossN 11 = true := by decide +kernel
theorem crossN_13 : crossN 13 = true := by decide +kernel
theorem scaleN_3 : scaleN 3 = true := by decide +kernel
theorem scaleN_5 : scaleN 5 = true := by decide +kernel
theorem scaleN_7 : scaleN 7 = true := by decide +kernel
theorem scaleN_11 : scaleN 11 = true := by decide +kernel
theorem scaleN_13 : scaleN 13 = true := by decide +kernel
theorem isN_mem {n : Nat} {a : N3} (h : isN a = true) (h1 : a.1 < n) (h2 : a.2.1 < n) (h3 : a.2.2 < n) : a ∈ allN n := by
  obtain ⟨x, y, z⟩ := a
  simp only [isN, Bool.or_eq_true, Bool.and_eq_true, beq_iff_eq] at h
  simp only [allN, List.mem_append, List.mem_map, List.mem_flatMap, List.mem_singleton, List.mem_range]
  rcases h with rfl | ⟨rfl, rfl | ⟨rfl, rfl⟩⟩
  · exact .inr ⟨y, h2, z, h3, rfl⟩
  · exact .inl (.inr ⟨z, h3, rfl⟩)
  · exact .inl (.inl rfl)
theorem comp_mod (m s a b : Nat) : ∃ t : Int, ((s * ((a + (m + 1 - 1) * b) % (m + 1)) % (m + 1) : Nat) : Int) = s * ((a : Int) - b) - ((m + 1 : Nat) : Int) * t := by
  rw [Nat.add_sub_cancel]
  have h1 := Nat.div_add_mod (a + m * b) (m + 1)
  generalize (a + m * b) % (m + 1) = r at h1 ⊢
  generalize (a + m * b) / (m + 1) = k1 at h1
  have h2 := Nat.div_add_mod (s * r) (m + 1)
  generalize (s * r) % (m + 1) = q at h2 ⊢
  generalize (s * r) / (m + 1) = k2 at h2
  have h1' : (((m + 1) * k1 + r : Nat) : Int) = ((a + m * b : Nat) : Int) := congrArg _ h1
  have h2' : (((m + 1) * k2 + q : Nat) : Int) = ((s * r : Nat) : Int) := congrArg _ h2
  simp only [Int.natCast_add, Int.natCast_mul] at h1' h2' ⊢
  exact ⟨(s : Int) * k1 + k2 - s * b, by grind⟩
theorem join_ex {p : Int} (hp : primeB p = true) {a b c : List Int} (ha : a ∈ allPts p) (hb : b ∈ allPts p) (hc : c.length = 3) (hne : a ≠ b) (hd : detT c a b % p = 0) : ∃ l ∈ allPts p, onB p a l = true ∧ onB p b l = true ∧ onB p c l = true := by
  obtain ⟨n, rfl, hn1, hn2, hn0⟩ : ∃ n : Nat, p = (n : Int) ∧ crossN n = true ∧ scaleN n = true ∧ 1 ≤ n := by
    rcases prime_cases hp with h | h | h | h | h
    · exact ⟨3, h, crossN_3, scaleN_3, by decide⟩
    · exact ⟨5, h, crossN_5, scaleN_5, by decide⟩
    · exact ⟨7, h, crossN_7, scaleN_7, by decide⟩
    · exact ⟨11, h, crossN_11, scaleN_11, by decide⟩
    · exact ⟨13, h, crossN_13, scaleN_13, by decide⟩
  rw [allN_eq] at ha hb ⊢
  obtain ⟨x, hx, rfl⟩ := List.mem_map.1 ha
  obtain ⟨y, hy, rfl⟩ := List.mem_map.1 hb
  have h1 := List.all_eq_true.1 (List.all_eq_true.1 hn1 x hx) y hy
  have hxy : eqN x y = false := by
    rw [Bool.eq_false_iff]
    intro h
    apply hne
    obtain ⟨x0, x1, x2⟩ := x
    obtain ⟨y0, y1, y2⟩ := y
    simp only [eqN, Bool.and_eq_true, beq_iff_eq] at h
    obtain ⟨⟨rfl, rfl⟩, rfl⟩ := h
    rfl
  rw [hxy, Bool.false_or] at h1
  have hpos : 0 < n := hn0
  have h2 := List.all_eq_true.1 (List.all_eq_true.1 (List.all_eq_true.1 hn2 (crN n x y).1 (List.mem_range.2 (Nat.mod_lt _ hpos))) (crN n x y).2.1 (List.mem_range.2 (Nat.mod_lt _ hpos))) (crN n x y).2.2 (List.mem_range.2 (Nat.mod_lt _ hpos))
  have h3 : nzN ((crN n x y).1, (crN n x y).2.1, (crN n x y).2.2) = true := h1
  rw [h3, Bool.not_true, Bool.false_or] at h2
  obtain ⟨s, hs, h4⟩ := List.any_eq_true.1 h2
  refine ⟨toL (scN n s (crN n x y)), List.mem_map.2 ⟨_, isN_mem h4 (Nat.mod_lt _ hpos) (Nat.mod_lt _ hpos) (Nat.mod_lt _ hpos), rfl⟩, ?_⟩
  obtain ⟨m, rfl⟩ : ∃ m, n = m + 1 := ⟨n - 1, by omega⟩
  obtain ⟨x0, x1, x2⟩ := x
  obtain ⟨y0, y1, y2⟩ := y
  obtain ⟨t0, e0⟩ := comp_mod m s (x1 * y2) (x2 * y1)
  obtain ⟨t1, e1⟩ := comp_mod m s (x2 * y0) (x0 * y2)
  obtain ⟨t2, e2⟩ := comp_mod m s (x0 * y1) (x1 * y0)
  simp only [Int.natCast_mul (x1) y2, Int.natCast_mul x2 y1, Int.natCast_mul x2 y0, Int.natCast_mul x0 y2, Int.natCast_mul x0 y1, Int.natCast_mul x1 y0] at e0 e1 e2
  match c, hc with
  | [c0, c1, c2], _ =>
    have hdd : detT [c0, c1, c2] (toL (x0, x1, x2)) (toL (y0, y1, y2)) = c0 * ((x1 : Int) * y2 - x2 * y1) + c1 * ((x2 : Int) * y0 - x0 * y2) + c2 * ((x0 : Int) * y1 - x1 * y0) := by
      simp only [detT, toL, List.getD_cons_zero, List.getD_cons_succ]
    rw [hdd] at hd
    obtain ⟨q, hq⟩ := Int.dvd_of_emod_eq_zero hd
    simp only [toL, scN, crN, onB_iff]
    generalize ((s * ((x1 * y2 + (m + 1 - 1) * (x2 * y1)) % (m + 1)) % (m + 1) : Nat) : Int) = l0 at e0 ⊢
    generalize ((s * ((x2 * y0 + (m + 1 - 1) * (x0 * y2)) % (m + 1)) % (m + 1) : Nat) : Int) = l1 at e1 ⊢
    generalize ((s * ((x0 * y1 + (m + 1 - 1) * (x1 * y0)) % (m + 1)) % (m + 1) : Nat) : Int) = l2 at e2 ⊢
    generalize ((m + 1 : Nat) : Int) = N at *
    refine ⟨Int.emod_eq_zero_of_dvd ⟨-((x0 : Int) * t0 + x1 * t1 + x2 * t2), by grind⟩, Int.emod_eq_zero_of_dvd ⟨-((y0 : Int) * t0 + y1 * t1 + y2 * t2), by grind⟩, Int.emod_eq_zero_of_dvd ⟨s * q - (c0 * t0 + c1 * t1 + c2 * t2), by grind⟩⟩
/-! ### three of a list -/
theorem filt_last {f : List Int → Bool} {L : List (List Int)} {m : Nat} : ∀ {n : Nat}, n ≤ L.length → m + 1 ≤ ((L.take n).filter f).length → ∃ i, i < n ∧ f (L.getD i []) = true ∧ m ≤ ((L.take i).filter f).length
  | 0, _, h => by simp at h
  | n + 1, hn, h => by
    cases hf : f (L.getD n [])
    · rw [filter_skip (by omega) hf] at h
      obtain ⟨i, h1, h2⟩ := filt_last (n := n) (by omega) h
      exact ⟨i, by omega, h2⟩
    · rw [filter_snoc (by omega) hf, List.length_append, List.length_singleton] at h
      exact ⟨n, by omega, hf, by omega⟩
theorem filt_mono {f : List Int → Bool} {L : List (List Int)} {i : Nat} : ∀ {n : Nat}, i ≤ n → n ≤ L.length → ((L.take i).filter f).length ≤ ((L.take n).filter f).length
  | 0, h, _ => by
    have : i = 0 := by omega
    subst this; exact Nat.le_refl _
  | n + 1, h, hn => by
    by_cases e : i = n + 1
    · subst e; exact Nat.le_refl _
    · have ih := filt_mono (f := f) (L := L) (i := i) (n := n) (by omega) (by omega)
      cases hf : f (L.getD n [])
      · rw [filter_skip (by omega) hf]; exact ih
      · rw [filter_snoc (by omega) hf, List.length_append]; omega
theorem filt_step {f : List Int → Bool} {L : List (List Int)} {i n : Nat} (h : i < n) (hn : n ≤ L.length) (hf : f (L.getD i []) = true) : ((L.take i).filter f).length + 1 ≤ ((L.take n).filter f).length := by
  have := filt_mono (f := f) (L := L) (i := i + 1) (n := n) h hn
  rw [filter_snoc (by omega) hf, List.length_append, List.length_singleton] at this
  exact this
/-! ### arcs -/
def arcB (p : Int) (L : List (List Int)) : Bool := (List.range L.length).all fun i => (List.range i).all fun k => (List.range k).all fun j => !(detT (L.getD i []) (L.getD k []) (L.getD j []) % p == 0)
theorem arcB_iff {p : Int} {L : List (List Int)} : arcB p L = true ↔ ∀ i, i < L.length → ∀ k, k < i → ∀ j, j < k → ¬ detT (L.getD i []) (L.getD k []) (L.getD j []) % p = 0 := by
  simp [arcB, List.all_eq_true]
def arcS (p : Int) (L : List (List Int)) : Bool := (List.range ((p + 2).toNat - 3)).all fun q => !(decide (0 < (secV p L).getD (3 + q) 0))
theorem arcS_iff {p : Int} {L : List (List Int)} (h3 : ∀ x ∈ L, x.length = 3) (hS : setC p L = 0) : arcS p L = true ↔ ∀ l ∈ allPts p, cntOn p L l ≤ 2 := by
  have hb := prime_bd (setC_zero hS).1
  rw [arcS, List.all_eq_true]
  constructor
  · intro h l hl
    rcases Nat.lt_or_ge 2 (cntOn p L l) with hc | hc
    · exfalso
      have h1 := set_count h3 hS hl
      have h2 := h (cntOn p L l - 3) (List.mem_range.2 (by omega))
      have e : 3 + (cntOn p L l - 3) = cntOn p L l := by omega
      rw [e, secV, secTo_get (by omega)] at h2
      have h4 : 0 < ((allPts p).filter fun m => cntOn p L m == cntOn p L l).length := List.length_pos_of_mem (List.mem_filter.2 ⟨hl, by simp⟩)
      simp at h2
      have h5 := h2 l hl
      simp at h5
    · exact hc
  · intro h q hq
    have hq' := List.mem_range.1 hq
    rw [secV, secTo_get (by omega)]
    have : ((allPts p).filter fun m => cntOn p L m == 3 + q) = [] := by
      rw [List.filter_eq_nil_iff]
      intro m hm
      have := h m hm
      simp
      omega
    rw [this]
    rfl
theorem arc_eq {p : Int} {L : List (List Int)} (h3 : ∀ x ∈ L, x.length = 3) (hS : setC p L = 0) : arcS p L = arcB p L := by
  obtain ⟨hp, hv, hg, _⟩ := setC_zero hS
  have hmem : ∀ i, i < L.length → L.getD i [] ∈ allPts p := fun i hi => point_mem (h3 _ (getD_mem hi)) (hv _ (getD_mem hi))
  have h3i : ∀ i, i < L.length → (L.getD i []).length = 3 := fun i hi => h3 _ (getD_mem hi)
  rw [Bool.eq_iff_iff, arcS_iff h3 hS, arcB_iff]
  have e : ∀ l, cntOn p L l = ((L.take L.length).filter fun a => onB p a l).length := fun l => by rw [List.take_length]; rfl
  constructor
  · intro h i hi k hk j hj hd
    have hne : L.getD k [] ≠ L.getD j [] := by
      have := List.pairwise_iff_getElem.1 (grow_nodup h3 hg) j k (by omega) (by omega) hj
      rw [getD_lt (show k < L.length by omega), getD_lt (show j < L.length by omega)]
      exact fun e => this e.symm
    obtain ⟨l, hl, h1, h2, h4⟩ := join_ex hp (hmem k (by omega)) (hmem j (by omega)) (h3i i hi) hne hd
    have hc := h l hl
    rw [e] at hc
    have s1 := filt_step (f := fun a => onB p a l) (L := L) hi (Nat.le_refl _) h4
    have s2 := filt_step (f := fun a => onB p a l) (L := L) hk (by omega) h1
    have s3 := filt_step (f := fun a => onB p a l) (L := L) hj (by omega) h2
    omega
  · intro h l hl
    rcases Nat.lt_or_ge 2 (cntOn p L l) with hc | hc
    · exfalso
      rw [e] at hc
      obtain ⟨i, hi, fi, ci⟩ := filt_last (m := 2) (Nat.le_refl _) hc
      obtain ⟨k, hk, fk, ck⟩ := filt_last (m := 1) (by omega) ci
      obtain ⟨j, hj, fj, _⟩ := filt_last (m := 0) (by omega) ck
      exact h i hi k hk j hj (det_of_on hl (h3i i hi) (h3i k (by omega)) (h3i j (by omega)) fi fk fj)
    · exact hc
end Go.Proofs.Ytmcmbpoebhjecaa
