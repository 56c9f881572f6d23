/- What the last text of OrderOnCubic needs, part 10: contracts of functions and plain mathematics. No conditions beyond those each theorem states. -/
import Derived.Test.YtcklfkblhmlbbaaDoorBOrderOnCubicI
namespace Go.Proofs.YtcklfkblhmlbbaaDoor
set_option linter.unusedVariables false
set_option linter.unusedSimpArgs false
def tgL (p : Int) (c a : List Int) : List Int := normL p (slL p c a)
def okT (p : Int) (c a : List Int) : Bool := (facP p (slL p c a) != 0) && cuG p c a
def flB (p : Int) (c a : List Int) : Bool := okT p c a && !meB p c (tgL p c a) && decide (mePts p c (tgL p c a) = [a]) && decide (meCts p c (tgL p c a) = [3])
theorem m_pos {p : Int} {c : List Int} {L : List (List Int)} : ∀ {m q : Nat}, q < (mPts p c L m).length → ∃ j, j < m ∧ (mPts p c L m).getD q [] = L.getD j [] ∧ (mCts p c L m).getD q 0 = (cnF p c L j : Int) ∧ 0 < cnF p c L j
  | 0, q, h => by simp [mPts] at h
  | m + 1, q, h => by
    have hl := mCts_len p c L m
    by_cases h0 : 0 < cnF p c L m
    · rw [mPts, if_pos h0, List.length_append, List.length_singleton] at h
      rw [mPts, mCts, if_pos h0, if_pos h0]
      by_cases hq : q < (mPts p c L m).length
      · obtain ⟨j, h1, h2, h3, h4⟩ := m_pos (m := m) hq
        refine ⟨j, by omega, ?_, ?_, h4⟩
        · rw [← h2]; simp [List.getD, List.getElem?_append, hq]
        · rw [← h3]; simp [List.getD, List.getElem?_append, show q < (mCts p c L m).length by omega]
      · have e : q = (mPts p c L m).length := by omega
        refine ⟨m, by omega, ?_, ?_, h0⟩
        · rw [e]; simp [List.getD]
        · rw [e, ← hl]; simp [List.getD]
    · rw [mPts, if_neg h0, List.append_nil] at h
      rw [mPts, mCts, if_neg h0, if_neg h0, List.append_nil, List.append_nil]
      obtain ⟨j, h1, h2⟩ := m_pos (m := m) h
      exact ⟨j, by omega, h2⟩
theorem m_none {p : Int} {c : List Int} {L : List (List Int)} : ∀ {m : Nat}, (∀ i, i < m → cnF p c L i = 0) → mPts p c L m = [] ∧ mCts p c L m = []
  | 0, _ => ⟨rfl, rfl⟩
  | m + 1, h => by
    obtain ⟨h1, h2⟩ := m_none (m := m) (fun i hi => h i (by omega))
    have h0 := h m (by omega)
    rw [mPts, mCts, if_neg (by omega), if_neg (by omega), h1, h2]
    exact ⟨rfl, rfl⟩
theorem m_one {p : Int} {c : List Int} {L : List (List Int)} {j : Nat} (hj0 : 0 < cnF p c L j) : ∀ {m : Nat}, j < m → (∀ i, i < m → i ≠ j → cnF p c L i = 0) → mPts p c L m = [L.getD j []] ∧ mCts p c L m = [(cnF p c L j : Int)]
  | 0, h, _ => by omega
  | m + 1, hj, h => by
    by_cases e : j = m
    · subst e
      obtain ⟨h1, h2⟩ := m_none (p := p) (c := c) (L := L) (m := j) (fun i hi => h i (by omega) (by omega))
      rw [mPts, mCts, if_pos hj0, if_pos hj0, h1, h2]
      exact ⟨rfl, rfl⟩
    · obtain ⟨h1, h2⟩ := m_one hj0 (m := m) (by omega) (fun i hi => h i (by omega))
      have h0 := h m (by omega) (fun x => e x.symm)
      rw [mPts, mCts, if_neg (by omega), if_neg (by omega), h1, h2]
      exact ⟨rfl, rfl⟩
theorem me_len (p : Int) (c l : List Int) : (meCts p c l).length = (mePts p c l).length := mCts_len _ _ _ _
theorem me_mem {p : Int} {c l x : List Int} (h : x ∈ mePts p c l) : x ∈ allPts p := (lnV_mem (mPts_mem (Nat.le_refl _) h)).1
theorem me_bd {p : Int} {c l : List Int} {i : Nat} (h : i < (mePts p c l).length) : 1 ≤ (meCts p c l).getD i 0 ∧ (meCts p c l).getD i 0 ≤ 3 := by
  have hl := me_len p c l
  refine mCts_bd (p := p) (c := c) (L := lnV p l) (i := (lnV p l).length) ?_
  have e : (meCts p c l).getD i 0 = (meCts p c l)[i]'(by omega) := by simp [List.getD, show i < (meCts p c l).length by omega]
  rw [e]; exact List.getElem_mem _
theorem me_three {p : Int} (hp : primeB p = true) (c : List Int) {l a : List Int} (hl : l ∈ allPts p) (hz : meB p c l = false) {i : Nat} (hi : i < (mePts p c l).length) (ha : (mePts p c l).getD i [] = a) (h3 : (meCts p c l).getD i 0 = 3) : mePts p c l = [a] ∧ meCts p c l = [3] := by
  obtain ⟨j, h1, h2, h4, h5⟩ := m_pos hi
  have h6 : cnF p c (lnV p l) j = 3 := by
    have : (meCts p c l).getD i 0 = (cnF p c (lnV p l) j : Int) := h4
    omega
  obtain ⟨g1, g2⟩ := m_one h5 h1 (fun k hk hkj => cn_three hp c hl h1 hk (fun x => hkj x.symm) hz h6)
  have ha' : (lnV p l).getD j [] = a := by rw [← ha]; exact h2.symm
  refine ⟨by rw [mePts, g1, ha'], by rw [meCts, g2, h6]; rfl⟩
/-- what the program's isFlex looks at -/
theorem flex_eq {p : Int} (hp : primeB p = true) (c : List Int) {l a : List Int} (hl : l ∈ allPts p) (hz : meB p c l = false) : (decide (mePts p c l = [a]) && decide (meCts p c l = [3])) = true ↔ ∃ i : Nat, idxL (fun x => decide (a = x)) (mePts p c l) = (i : Int) ∧ i < (mePts p c l).length ∧ (meCts p c l).getD i 0 = 3 := by
  rw [Bool.and_eq_true, decide_eq_true_eq, decide_eq_true_eq]
  constructor
  · rintro ⟨h1, h2⟩
    refine ⟨0, ?_, by rw [h1]; exact Nat.zero_lt_one, by rw [h2]; rfl⟩
    rw [h1]
    exact idxL_found (show 0 < [a].length from Nat.zero_lt_one) (fun j hj => absurd hj (Nat.not_lt_zero _)) (by simp)
  · rintro ⟨i, h1, h2, h3⟩
    rcases idxL_cases (fun x => decide (a = x)) (mePts p c l) with ⟨h4, _⟩ | ⟨j, h4, h5, h6, _⟩
    · omega
    · have e : i = j := by omega
      subst e
      have h7 : a = (mePts p c l).getD i [] := by simpa using h6
      exact me_three hp c hl hz h2 h7.symm h3
/-! ### third points -/
def lf (a b : List Int) (P : List (List Int)) (C : List Int) (i : Nat) : Int := if P.getD i [] = b then (if P.getD i [] = a then C.getD i 0 - 1 else C.getD i 0) - 1 else (if P.getD i [] = a then C.getD i 0 - 1 else C.getD i 0)
def thF (a b : List Int) (P : List (List Int)) (C : List Int) : Option Nat := (List.range P.length).find? fun i => decide (0 < lf a b P C i)
theorem thF_some {a b : List Int} {P : List (List Int)} {C : List Int} {i : Nat} (hi : i < P.length) (h0 : ∀ j, j < i → ¬ 0 < lf a b P C j) (h1 : 0 < lf a b P C i) : thF a b P C = some i := by
  unfold thF
  rw [List.find?_eq_some_iff_getElem]
  refine ⟨by simpa using h1, i, by simpa using hi, by simp, fun j hj => ?_⟩
  have := h0 j hj
  simpa using this
theorem thF_none {a b : List Int} {P : List (List Int)} {C : List Int} (h0 : ∀ j, j < P.length → ¬ 0 < lf a b P C j) : thF a b P C = none := by
  unfold thF
  rw [List.find?_eq_none]
  intro j hj
  have := h0 j (by simpa using hj)
  simpa using this
theorem thF_lt {a b : List Int} {P : List (List Int)} {C : List Int} {i : Nat} (h : thF a b P C = some i) : i < P.length := by
  have := List.mem_of_find?_eq_some h
  simpa using this
def thL (p : Int) (c a b : List Int) : List Int := if a = b then tgL p c a else normL p (crossT a b)
def thO (p : Int) (c a b : List Int) : Option (List Int) := if okT p c a = true ∧ okT p c b = true ∧ meB p c (thL p c a b) = false then (thF a b (mePts p c (thL p c a b)) (meCts p c (thL p c a b))).map fun i => (mePts p c (thL p c a b)).getD i [] else none
def thV (p : Int) (c a b : List Int) : List Int := (thO p c a b).getD [0, 0, 0]
def thK (p : Int) (c a b : List Int) : Bool := (thO p c a b).isSome
theorem th_no {p : Int} {c a b : List Int} (h : thO p c a b = none) : thV p c a b = [0, 0, 0] ∧ thK p c a b = false := by
  unfold thV thK; rw [h]; exact ⟨rfl, rfl⟩
theorem th_yes {p : Int} {c a b x : List Int} (h : thO p c a b = some x) : thV p c a b = x ∧ thK p c a b = true := by
  unfold thV thK; rw [h]; exact ⟨rfl, rfl⟩
theorem thO_mem {p : Int} {c a b x : List Int} (h : thO p c a b = some x) : x ∈ allPts p := by
  unfold thO at h
  split at h
  · rw [Option.map_eq_some_iff] at h
    obtain ⟨i, hi, rfl⟩ := h
    exact me_mem (getD_mem (thF_lt hi))
  · cases h
theorem thV_mem {p : Int} {c a b : List Int} (h : thK p c a b = true) : thV p c a b ∈ allPts p := by
  unfold thK at h
  obtain ⟨x, hx⟩ := Option.isSome_iff_exists.1 h
  rw [(th_yes hx).1]
  exact thO_mem hx
theorem thV_len (p : Int) (c a b : List Int) : (thV p c a b).length = 3 := by
  cases h : thO p c a b with
  | none => rw [(th_no h).1]; rfl
  | some x => rw [(th_yes h).1]; exact allPts_three (thO_mem h)
theorem tgL_mem {p : Int} (hp : primeB p = true) {c a : List Int} (h : okT p c a = true) : tgL p c a ∈ allPts p := by
  simp only [okT, Bool.and_eq_true] at h
  exact norm_mem hp rfl (by simpa using h.1)
theorem thL_mem {p : Int} (hp : primeB p = true) {c a b : List Int} (ha : a ∈ allPts p) (hb : b ∈ allPts p) (h : okT p c a = true) : thL p c a b ∈ allPts p := by
  unfold thL
  split
  · exact tgL_mem hp h
  · rename_i hne
    refine norm_mem hp rfl (fun e => ?_)
    have hz := (fac_zero hp (crossT a b)).1 e
    exact fnz_ne (l := crossT a b) (cross_nz hp ha hb hne) hz
def smO (p : Int) (c o a b : List Int) : List Int × Bool := if thK p c a b = true then (thV p c o (thV p c a b), thK p c o (thV p c a b)) else ([0, 0, 0], false)
theorem gs {l : List Int} {i : Nat} {x : Int} (h : i < l.length) : (l.set i x).getD i 0 = x := by simp [List.getD, h]
theorem gsn {l : List Int} {i j : Nat} {x : Int} (h : i ≠ j) : (l.set i x).getD j 0 = l.getD j 0 := by simp [List.getD, h]
end Go.Proofs.YtcklfkblhmlbbaaDoor
namespace Go.Proofs.YtcklfkblhmlbbaaDoor
set_option maxRecDepth 10000
set_option linter.unusedSimpArgs false
set_option linter.unusedVariables false
theorem one_eq {P : List (List Int)} {a : List Int} (h : P.length = 1) : P = [a] ↔ P.getD 0 [] = a := by
  match P, h with
  | [x], _ => simp
theorem one_eqI {C : List Int} {a : Int} (h : C.length = 1) : C = [a] ↔ C.getD 0 0 = a := by
  match C, h with
  | [x], _ => simp
attribute [local irreducible] CW OW QW QOp Con thenP inBlockP AW QX RW AX
theorem indexP_con (L : List (List Int)) (sp : List Int) (k : Nat) (h3 : ∀ x ∈ L, x.length = 3) (a : List Int) (ha : a.length = 3) (hn9 : L.length ≤ 1000000000) : ConQ Tryd.prog [] 97 [.slice 0 0 L.length k, .arr a] [(0, .ints 29 (L.flatten ++ sp))] (.int (idxL (fun x => decide (a = x)) L)) := by
  have hf3 := flat3 h3
  have h3i : ∀ i, i < L.length → (L.getD i []).length = 3 := fun i hi => h3 _ (getD_mem hi)
  refine conW tab_ok [(0, .slice 0 0 L.length k), (1, .arr a)] 1 [0] [0] Tryd.func97 rfl rfl rfl rfl rfl rfl rfl rfl rfl ?_
  refine cR ?_
  refine oBox rfl rfl rfl rfl rfl rfl ?_
  refine oA rfl rfl ?_
  refine oN ?_
  refine CW_seq ?_
  refine cR ?_
  refine oM rfl rfl ?_
  first | refine oQ (Q_len rfl rfl rfl rfl) rfl rfl ?_ | refine oQ (Q_len0 rfl rfl rfl rfl) rfl rfl ?_
  refine oM rfl rfl ?_
  refine oN ?_
  refine CW_block ?_
  refine CW_loop (ι := Nat) (fun i => i ≤ L.length ∧ ∀ j, j < i → (fun x => decide (a = x)) ((L).getD j []) = false) (fun i => ⟨[(0, .slice 0 0 L.length k), (3, .ptr 1 0), (7, .int (L.length : Nat)), (8, .int (i : Nat))], [(0, .ints 29 (L.flatten ++ sp)), (1, .ints 29 a)], 2⟩) (fun i => L.length - i) 0 ?_ ?_ ?_
  · exact ⟨Nat.zero_le _, fun i h => absurd h (Nat.not_lt_zero _)⟩
  · refine View.mk' [] rfl rfl rfl ?_ ?_
    repeat' first | exact vFn | refine vFc rfl ?_ | exact vHn | refine vHc rfl ?_ | refine vFc (congrArg (fun z => some (V.int z)) ?_) ?_ | refine vHc (congrArg (fun z => some (Blk.ints _ z)) ?_) ?_ | refine vFc (congrArg (fun z => some (V.bool z)) ?_) ?_ | refine vFs rfl rfl ?_ ?_
  rintro i ⟨hi, hi2⟩
  refine cR ?_
  refine oQ (Q_bin rfl rfl rfl) rfl rfl ?_
  refine oN ?_
  refine CW_seq ?_
  first | refine cT rfl ?_ | refine cF rfl ?_ | refine CW_cond rfl (fun hc => ?_) (fun hc => ?_)
  all_goals try simp only [s1, s2, s3, s4, s5, s6, s7, s8, s9, s10, s11, s12] at hc
  all_goals first
    | (
     refine CW_skip ?_)
    | (
     refine CW_exit ?_)
  all_goals first
    | with_reducible refine tR ?_
    | with_reducible refine tE ?_
    | (
     with_reducible refine tN ?_
     refine CW_seq ?_
     refine CW_block ?_
     refine cR ?_
     refine oM rfl rfl ?_
     refine oA rfl rfl ?_
     refine oN ?_
     refine CW_seq ?_
     refine CW_draw lateOk (by decide +kernel) ?_
     refine qQ (Q_ldw rfl rfl rfl rfl ha) rfl rfl ?_
     iterate 2 refine qM rfl rfl ?_
     (have h3i_ := h3i i (by omega)); refine qQ (Q_ixs0z 3 rfl rfl rfl rfl rfl rfl (by omega)) rfl rfl ?_
     refine qQ (Q_lda (n := 3) rfl rfl rfl rfl rfl (by rw [List.length_append, hf3]; omega)) rfl rfl ?_; rw [flat_get h3 (show i < L.length by omega)]
     refine qQ (Q_arrb rfl rfl rfl rfl rfl rfl rfl rfl rfl ha h3i_) rfl rfl ?_
     refine QW_nil ?_
     all_goals with_reducible refine tN ?_
     all_goals (
      first | refine cT rfl ?_ | refine cF rfl ?_ | refine CW_cond rfl (fun hc => ?_) (fun hc => ?_)
      all_goals try simp only [s1, s2, s3, s4, s5, s6, s7, s8, s9, s10, s11, s12] at hc
      all_goals first
        | (
         refine CW_skip ?_)
        | (
         refine cR ?_
         refine oM rfl rfl ?_
         refine oA rfl rfl ?_
         refine oN ?_
         refine CW_ret ?_))
     all_goals first | with_reducible refine bN ?_ | with_reducible refine bE ?_ | with_reducible refine bR ?_ | refine bX rfl ?_
     all_goals first
       | with_reducible refine tR ?_
       | with_reducible refine tE ?_
       | (
        with_reducible refine tN ?_
        refine CW_region ?_
        first | refine oQ (Q_binu rfl rfl rfl (by omega)) rfl rfl ?_ | refine oQ (Q_bin rfl rfl rfl) rfl rfl ?_
        refine oM rfl rfl ?_
        refine OW_nil ?_))
  all_goals first
    | with_reducible refine tR ?_
    | with_reducible refine tE ?_
    | (
     with_reducible refine tN ?_
     refine ⟨i + 1, ?_, ?_, View.mk' [] rfl rfl rfl ?_ ?_⟩
     · refine ⟨by omega, fun j hj => ?_⟩
       by_cases e : j = i
       · subst e; exact decide_eq_false hc
       · exact hi2 j (by omega)
     · omega
     all_goals (repeat' first | exact vFn | refine vFc rfl ?_ | exact vHn | refine vHc rfl ?_ | refine vFc (congrArg (fun z => some (V.int z)) ?_) ?_ | refine vHc (congrArg (fun z => some (Blk.ints _ z)) ?_) ?_ | refine vFc (congrArg (fun z => some (V.bool z)) ?_) ?_ | refine vFs rfl rfl ?_ ?_))
  all_goals first | with_reducible refine bN ?_ | with_reducible refine bE ?_ | with_reducible refine bR ?_ | refine bX rfl ?_
  all_goals first
    | with_reducible refine tR ?_
    | with_reducible refine tE ?_
    | (
     with_reducible refine tN ?_
     refine cR ?_
     refine oA rfl rfl ?_
     refine oN ?_
     refine CW_ret ?_)
  all_goals (
   refine exitQ (.inr rfl) 1 (.cons (.tmp rfl rfl) .nil) ?_ rfl (vHc rfl vHn) rfl rfl
   first
     | exact congrArg V.int (idxL_found (by omega) hi2 (decide_eq_true hc)).symm
     | exact congrArg V.int (idxL_none (fun j hj => hi2 j (by simp at *; omega))).symm
     | rfl)
theorem indexP_nil  (a : List Int) (ha : a.length = 3) : ConQ Tryd.prog [] 97 [.nilsl, .arr a] [] (.int (idxL (fun x => decide (a = x)) ([] : List (List Int)))) := by
  refine conW tab_ok [(0, .nilsl), (1, .arr a)] 0 [] [] Tryd.func97 rfl rfl rfl rfl rfl rfl rfl rfl rfl ?_
  refine cR ?_
  refine oBox rfl rfl rfl rfl rfl rfl ?_
  refine oA rfl rfl ?_
  refine oN ?_
  refine CW_seq ?_
  refine cR ?_
  refine oM rfl rfl ?_
  first | refine oQ (Q_len rfl rfl rfl rfl) rfl rfl ?_ | refine oQ (Q_len0 rfl rfl rfl rfl) rfl rfl ?_
  refine oM rfl rfl ?_
  refine oN ?_
  refine CW_block ?_
  refine CW_loop (ι := Nat) (fun i => i ≤ 0 ∧ ∀ j, j < i → (fun x => decide (a = x)) ((([] : List (List Int))).getD j []) = false) (fun i => ⟨[(0, .nilsl), (3, .ptr 0 0), (7, .int (0 : Nat)), (8, .int (i : Nat))], [(0, .ints 29 a)], 1⟩) (fun i => 0 - i) 0 ?_ ?_ ?_
  · exact ⟨Nat.zero_le _, fun i h => absurd h (Nat.not_lt_zero _)⟩
  · refine View.mk' [] rfl rfl rfl ?_ ?_
    repeat' first | exact vFn | refine vFc rfl ?_ | exact vHn | refine vHc rfl ?_ | refine vFc (congrArg (fun z => some (V.int z)) ?_) ?_ | refine vHc (congrArg (fun z => some (Blk.ints _ z)) ?_) ?_ | refine vFc (congrArg (fun z => some (V.bool z)) ?_) ?_ | refine vFs rfl rfl ?_ ?_
  rintro i ⟨hi, hi2⟩
  refine cR ?_
  refine oQ (Q_bin rfl rfl rfl) rfl rfl ?_
  refine oN ?_
  refine CW_seq ?_
  first | refine cT rfl ?_ | refine cF rfl ?_ | refine CW_cond rfl (fun hc => ?_) (fun hc => ?_)
  all_goals try simp only [s1, s2, s3, s4, s5, s6, s7, s8, s9, s10, s11, s12] at hc
  all_goals try (exfalso; first | omega | (simp at hc; done); done)
  all_goals first
    | (
     refine CW_skip ?_)
    | (
     refine CW_exit ?_)
  all_goals first
    | with_reducible refine tR ?_
    | with_reducible refine tE ?_
    | (
     with_reducible refine tN ?_
     refine CW_seq ?_
     refine CW_block ?_
     refine cR ?_
     refine oM rfl rfl ?_
     refine oA rfl rfl ?_
     refine oN ?_
     refine CW_seq ?_
     refine CW_draw lateOk (by decide +kernel) ?_
     first | refine qQ (Lw rfl rfl rfl rfl) rfl rfl ?_ | refine qQ (La rfl rfl rfl rfl rfl) rfl rfl ?_
     iterate 2 refine qM rfl rfl ?_
     first | refine qQ (Q_ixs0z 3 rfl rfl rfl rfl rfl rfl (by first | omega | (dsimp only; omega) | (simp; omega) | (simp; done))) rfl rfl ?_ | refine qQ (Q_ixsz 3 rfl rfl rfl rfl rfl rfl (by first | omega | (dsimp only; omega) | (simp; omega) | (simp; done))) rfl rfl ?_
     first | refine qQ (Lw rfl rfl rfl rfl) rfl rfl ?_ | refine qQ (La rfl rfl rfl rfl rfl) rfl rfl ?_
     refine qQ (Q_arrb rfl rfl rfl rfl rfl rfl rfl rfl rfl (by first | omega | (dsimp only; omega) | (simp; omega) | (simp; done)) (by first | omega | (dsimp only; omega) | (simp; omega) | (simp; done))) rfl rfl ?_
     refine QW_nil ?_
     all_goals with_reducible refine tN ?_
     all_goals (
      first | refine cT rfl ?_ | refine cF rfl ?_ | refine CW_cond rfl (fun hc => ?_) (fun hc => ?_)
      all_goals try simp only [s1, s2, s3, s4, s5, s6, s7, s8, s9, s10, s11, s12] at hc
      all_goals try (exfalso; first | omega | (simp at hc; done); done)
      all_goals first
        | (
         refine CW_skip ?_)
        | (
         refine cR ?_
         refine oM rfl rfl ?_
         refine oA rfl rfl ?_
         refine oN ?_
         refine CW_ret ?_))
     all_goals first | with_reducible refine bN ?_ | with_reducible refine bE ?_ | with_reducible refine bR ?_ | refine bX rfl ?_
     all_goals first
       | with_reducible refine tR ?_
       | with_reducible refine tE ?_
       | (
        with_reducible refine tN ?_
        refine CW_region ?_
        first | refine oQ (Q_binu rfl rfl rfl (by omega)) rfl rfl ?_ | refine oQ (Q_bin rfl rfl rfl) rfl rfl ?_
        refine oM rfl rfl ?_
        refine OW_nil ?_))
  all_goals first
    | with_reducible refine tR ?_
    | with_reducible refine tE ?_
    | (
     with_reducible refine tN ?_
     refine ⟨i + 1, ?_, ?_, View.mk' [] rfl rfl rfl ?_ ?_⟩
     · refine ⟨by omega, fun j hj => ?_⟩
       by_cases e : j = i
       · subst e; exact decide_eq_false hc
       · exact hi2 j (by omega)
     · omega
     all_goals (repeat' first | exact vFn | refine vFc rfl ?_ | exact vHn | refine vHc rfl ?_ | refine vFc (congrArg (fun z => some (V.int z)) ?_) ?_ | refine vHc (congrArg (fun z => some (Blk.ints _ z)) ?_) ?_ | refine vFc (congrArg (fun z => some (V.bool z)) ?_) ?_ | refine vFs rfl rfl ?_ ?_))
  all_goals first | with_reducible refine bN ?_ | with_reducible refine bE ?_ | with_reducible refine bR ?_ | refine bX rfl ?_
  all_goals first
    | with_reducible refine tR ?_
    | with_reducible refine tE ?_
    | (
     with_reducible refine tN ?_
     refine cR ?_
     refine oA rfl rfl ?_
     refine oN ?_
     refine CW_ret ?_)
  all_goals (
   refine exitQ (.inr rfl) 0 (.cons (.tmp rfl rfl) .nil) ?_ rfl vHn rfl rfl
   first
     | exact congrArg V.int (idxL_found (by omega) hi2 (decide_eq_true hc)).symm
     | exact congrArg V.int (idxL_none (fun j hj => hi2 j (by simp at *; omega))).symm
     | rfl)
theorem isFlexN_con (n : Nat) (c a : List Int) (hp : primeB (n : Int) = true) (hcl : c.length = 10) (qc : smN 12 c) (ha : a ∈ allPts (n : Int)) : ConQ Tryd.prog [(0, 2000)] 63 [.arr c, .int (n : Int), .arr a] [(2000, .ro 0 cuT)] (.bool (flB (n : Int) c a)) := by
  have hal := allPts_three ha
  have hpb := prime_bd hp
  have hqa := allPts_smN hp ha
  have htan := tangent_con (n : Int) c a hp hcl hal qc hqa
  change ConQ _ _ _ _ _ (.tuple [.arr (tgL (n : Int) c a), .bool (okT (n : Int) c a)]) at htan
  have htl : (tgL (n : Int) c a).length = 3 := by unfold tgL; rw [normL_length]; rfl
  by_cases hk : okT (n : Int) c a = true
  · have htm := tgL_mem hp hk
    cases hz : meB (n : Int) c (tgL (n : Int) c a) with
    | true =>
      have hm := multZ_con n c (tgL (n : Int) c a) hp hcl qc htm hz
      have hfl : flB (n : Int) c a = false := by simp [flB, hz]
      rw [hk] at htan
      generalize tgL (n : Int) c a = tt at *
      rw [hfl]
      refine conW tab_ok [(0, .arr c), (1, .int (n : Int)), (2, .arr a)] 0 [2000] [] Tryd.func63 rfl rfl rfl rfl rfl rfl rfl rfl rfl ?_
      refine cR ?_
      iterate 2 refine oBox rfl rfl rfl rfl rfl rfl ?_
      refine oA rfl rfl ?_
      refine oN ?_
      refine cR ?_
      first | refine oQ (Lw rfl rfl rfl rfl) rfl rfl ?_ | refine oQ (La rfl rfl rfl rfl rfl) rfl rfl ?_
      refine oM rfl rfl ?_
      first | refine oQ (Lw rfl rfl rfl rfl) rfl rfl ?_ | refine oQ (La rfl rfl rfl rfl rfl) rfl rfl ?_
      refine oQe (Q_call (htan) [] rfl rfl (Fits.mk' (vHc rfl vHn) rfl rfl (by first | (simp; done) | exact glOk rfl rfl rfl)) rfl rfl) (show _ = .tuple [.arr tt, .bool true] from rfl) rfl rfl ?_
      refine oM rfl rfl ?_
      iterate 2 refine oQ (Q_extract rfl rfl) rfl rfl ?_
      refine oAlloc rfl rfl rfl rfl rfl rfl rfl ?_
      first | refine oSw rfl rfl rfl rfl ?_ | refine oSa rfl rfl rfl rfl ?_
      refine oA rfl rfl ?_
      refine oN ?_
      refine CW_seq ?_
      refine cR ?_
      refine oM rfl rfl ?_
      refine oQ (Q_not rfl) rfl rfl ?_
      refine oN ?_
      first | refine cT rfl ?_ | refine cF rfl ?_ | refine CW_cond rfl (fun hc => ?_) (fun hc => ?_)
      all_goals try simp only [s1, s2, s3, s4, s5, s6, s7, s8, s9, s10, s11, s12] at hc
      all_goals first
        | (
         refine CW_skip ?_)
        | (
         refine cR ?_
         refine oA rfl rfl ?_
         refine oN ?_
         refine CW_ret ?_)
      all_goals first
        | with_reducible refine tR ?_
        | with_reducible refine tE ?_
        | (
         with_reducible refine tN ?_
         refine cR ?_
         first | refine oQ (Lw rfl rfl rfl rfl) rfl rfl ?_ | refine oQ (La rfl rfl rfl rfl rfl) rfl rfl ?_
         refine oM rfl rfl ?_
         first | refine oQ (Lw rfl rfl rfl rfl) rfl rfl ?_ | refine oQ (La rfl rfl rfl rfl rfl) rfl rfl ?_
         refine oQe (Q_call (hm) [] rfl rfl (Fits.mk' (vHc rfl vHn) rfl rfl (by first | (simp; done) | exact glOk rfl rfl rfl)) rfl rfl) (show _ = .tuple [.nilsl, .nilsl, .bool false] from rfl) rfl rfl ?_
         refine oM rfl rfl ?_
         iterate 3 refine oQ (Q_extract rfl rfl) rfl rfl ?_
         iterate 3 refine oA rfl rfl ?_
         refine oN ?_
         refine cR ?_
         refine oM rfl rfl ?_
         first | refine oQ (Lw rfl rfl rfl rfl) rfl rfl ?_ | refine oQ (La rfl rfl rfl rfl rfl) rfl rfl ?_
         refine oQ (Q_call0 (indexP_nil a hal) rfl rfl rfl) rfl rfl ?_
         refine oA rfl rfl ?_
         refine oN ?_
         refine cR ?_
         iterate 2 refine oM rfl rfl ?_
         all_goals first | refine oT rfl rfl ?_ | refine o1 rfl rfl rfl ?_ | refine o0 rfl rfl rfl ?_ | refine ogP1 rfl rfl rfl (fun hg => ?_) (fun hg => ?_) | refine ogP0 rfl rfl rfl (fun hg => ?_) (fun hg => ?_)
         all_goals try simp only [s1, s2, s3, s4, s5, s6, s7, s8, s9, s10, s11, s12] at hg
         all_goals first | (refine oM rfl rfl ?_) | skip
         all_goals first | refine oT rfl rfl ?_ | refine o1 rfl rfl rfl ?_ | refine o0 rfl rfl rfl ?_ | refine ogP1 rfl rfl rfl (fun hg => ?_) (fun hg => ?_) | refine ogP0 rfl rfl rfl (fun hg => ?_) (fun hg => ?_)
         all_goals try simp only [s1, s2, s3, s4, s5, s6, s7, s8, s9, s10, s11, s12] at hg
         all_goals first | (refine oQ (Q_bin rfl rfl rfl) rfl rfl ?_) | skip
         all_goals first | refine oQ (Q_pick_t rfl (by with_reducible rfl) rfl rfl) rfl rfl ?_ | refine oQ (Q_pick_f rfl (by with_reducible rfl) rfl rfl) rfl rfl ?_
         all_goals first | (refine oM rfl rfl ?_)
         all_goals first | refine oT rfl rfl ?_ | refine o1 rfl rfl rfl ?_ | refine o0 rfl rfl rfl ?_ | refine ogP1 rfl rfl rfl (fun hg => ?_) (fun hg => ?_) | refine ogP0 rfl rfl rfl (fun hg => ?_) (fun hg => ?_)
         all_goals try simp only [s1, s2, s3, s4, s5, s6, s7, s8, s9, s10, s11, s12] at hg
         all_goals first | (refine oM rfl rfl ?_) | skip
         all_goals first | refine oT rfl rfl ?_ | refine o1 rfl rfl rfl ?_ | refine o0 rfl rfl rfl ?_ | refine ogP1 rfl rfl rfl (fun hg => ?_) (fun hg => ?_) | refine ogP0 rfl rfl rfl (fun hg => ?_) (fun hg => ?_)
         all_goals try simp only [s1, s2, s3, s4, s5, s6, s7, s8, s9, s10, s11, s12] at hg
         all_goals first | (refine oM rfl rfl ?_) | skip
         all_goals first | refine oT rfl rfl ?_ | refine o1 rfl rfl rfl ?_ | refine o0 rfl rfl rfl ?_ | refine ogP1 rfl rfl rfl (fun hg => ?_) (fun hg => ?_) | refine ogP0 rfl rfl rfl (fun hg => ?_) (fun hg => ?_)
         all_goals try simp only [s1, s2, s3, s4, s5, s6, s7, s8, s9, s10, s11, s12] at hg
         all_goals first | refine oQ (Is0 rfl rfl rfl rfl rfl rfl) rfl rfl ?_ | refine oQ (Is1 rfl rfl rfl rfl rfl rfl) rfl rfl ?_ | skip
         all_goals first | refine oT rfl rfl ?_ | refine o1 rfl rfl rfl ?_ | refine o0 rfl rfl rfl ?_ | refine ogP1 rfl rfl rfl (fun hg => ?_) (fun hg => ?_) | refine ogP0 rfl rfl rfl (fun hg => ?_) (fun hg => ?_)
         all_goals try simp only [s1, s2, s3, s4, s5, s6, s7, s8, s9, s10, s11, s12] at hg
         all_goals first | (refine oQ (Ld rfl rfl rfl rfl) rfl rfl ?_) | skip
         all_goals first | refine oT rfl rfl ?_ | refine o1 rfl rfl rfl ?_ | refine o0 rfl rfl rfl ?_ | refine ogP1 rfl rfl rfl (fun hg => ?_) (fun hg => ?_) | refine ogP0 rfl rfl rfl (fun hg => ?_) (fun hg => ?_)
         all_goals try simp only [s1, s2, s3, s4, s5, s6, s7, s8, s9, s10, s11, s12] at hg
         all_goals first | (refine oQ (Q_bin rfl rfl rfl) rfl rfl ?_) | skip
         all_goals first | refine oQ (Q_pick_t rfl (by with_reducible rfl) rfl rfl) rfl rfl ?_ | refine oQ (Q_pick_f rfl (by with_reducible rfl) rfl rfl) rfl rfl ?_
         all_goals first | (refine oA rfl rfl ?_)
         all_goals refine oN ?_
         all_goals (
          refine CW_ret ?_))
      all_goals (
       ((refine exitQ (.inr rfl) 0 (.cons (.tmp rfl rfl) .nil) ?_ rfl (vHc rfl vHn) rfl rfl); rfl))
    | false =>
      have hm := multN_con n c (tgL (n : Int) c a) hp hcl qc htm hz
      have h3 : ∀ x ∈ mePts (n : Int) c (tgL (n : Int) c a), x.length = 3 := fun x hx => allPts_three (me_mem hx)
      have hln : (mePts (n : Int) c (tgL (n : Int) c a)).length ≤ 1000000000 := by
        have h1 := mPts_len (n : Int) c (lnV (n : Int) (tgL (n : Int) c a)) (lnV (n : Int) (tgL (n : Int) c a)).length
        have h2 := lnV_len hp htm
        unfold mePts
        omega
      have hfe := flex_eq hp c (a := a) htm hz
      have hcl2 := me_len (n : Int) c (tgL (n : Int) c a)
      have hfl : flB (n : Int) c a = (decide (mePts (n : Int) c (tgL (n : Int) c a) = [a]) && decide (meCts (n : Int) c (tgL (n : Int) c a) = [3])) := by simp [flB, hz, hk]
      rw [hk] at htan
      rw [hfl]
      have hix := fun k sp => indexP_con (mePts (n : Int) c (tgL (n : Int) c a)) sp k h3 a hal hln
      have hic := idxL_cases (fun x => decide (a = x)) (mePts (n : Int) c (tgL (n : Int) c a))
      generalize (decide (mePts (n : Int) c (tgL (n : Int) c a) = [a]) && decide (meCts (n : Int) c (tgL (n : Int) c a) = [3])) = bb at *
      generalize mePts (n : Int) c (tgL (n : Int) c a) = PP at *
      generalize meCts (n : Int) c (tgL (n : Int) c a) = CC at *
      generalize tgL (n : Int) c a = tt at *
      generalize idxL (fun x => decide (a = x)) PP = ii at *
      rcases hic with ⟨rfl, _⟩ | ⟨i, rfl, hi, _⟩
      · have hbb : bb = false := by
          rw [Bool.eq_false_iff]
          intro h
          obtain ⟨i, h1, _⟩ := hfe.1 h
          omega
        rw [hbb]
        refine conW tab_ok [(0, .arr c), (1, .int (n : Int)), (2, .arr a)] 0 [2000] [] Tryd.func63 rfl rfl rfl rfl rfl rfl rfl rfl rfl ?_
        refine cR ?_
        iterate 2 refine oBox rfl rfl rfl rfl rfl rfl ?_
        refine oA rfl rfl ?_
        refine oN ?_
        refine cR ?_
        first | refine oQ (Lw rfl rfl rfl rfl) rfl rfl ?_ | refine oQ (La rfl rfl rfl rfl rfl) rfl rfl ?_
        refine oM rfl rfl ?_
        first | refine oQ (Lw rfl rfl rfl rfl) rfl rfl ?_ | refine oQ (La rfl rfl rfl rfl rfl) rfl rfl ?_
        refine oQe (Q_call (htan) [] rfl rfl (Fits.mk' (vHc rfl vHn) rfl rfl (by first | (simp; done) | exact glOk rfl rfl rfl)) rfl rfl) (show _ = .tuple [.arr tt, .bool true] from rfl) rfl rfl ?_
        refine oM rfl rfl ?_
        iterate 2 refine oQ (Q_extract rfl rfl) rfl rfl ?_
        refine oAlloc rfl rfl rfl rfl rfl rfl rfl ?_
        first | refine oSw rfl rfl rfl rfl ?_ | refine oSa rfl rfl rfl rfl ?_
        refine oA rfl rfl ?_
        refine oN ?_
        refine CW_seq ?_
        refine cR ?_
        refine oM rfl rfl ?_
        refine oQ (Q_not rfl) rfl rfl ?_
        refine oN ?_
        first | refine cT rfl ?_ | refine cF rfl ?_ | refine CW_cond rfl (fun hc => ?_) (fun hc => ?_)
        all_goals try simp only [s1, s2, s3, s4, s5, s6, s7, s8, s9, s10, s11, s12] at hc
        all_goals first
          | (
           refine CW_skip ?_)
          | (
           refine cR ?_
           refine oA rfl rfl ?_
           refine oN ?_
           refine CW_ret ?_)
        all_goals first
          | with_reducible refine tR ?_
          | with_reducible refine tE ?_
          | (
           with_reducible refine tN ?_
           refine cR ?_
           first | refine oQ (Lw rfl rfl rfl rfl) rfl rfl ?_ | refine oQ (La rfl rfl rfl rfl rfl) rfl rfl ?_
           refine oM rfl rfl ?_
           first | refine oQ (Lw rfl rfl rfl rfl) rfl rfl ?_ | refine oQ (La rfl rfl rfl rfl rfl) rfl rfl ?_
           refine oCall (hm) [] 2 rfl rfl (Fits.mk' (vHc rfl vHn) rfl rfl (by first | (simp; done) | exact glOk rfl rfl rfl)) rfl rfl ?_
           rintro r H1 ⟨k, sp, k', sp', h1, h2, h3, h4, rfl, rfl⟩
           refine ⟨.tuple [.slice 3 0 PP.length k, .slice 4 0 PP.length k', .bool true], [(2000, .ro 0 cuT), (3, .ints 29 (PP.flatten ++ sp)), (4, .ints 2 (CC ++ sp'))], rfl, rfl, rfl, ?_⟩
           refine oM rfl rfl ?_
           iterate 3 refine oQ (Q_extract rfl rfl) rfl rfl ?_
           iterate 3 refine oA rfl rfl ?_
           refine oN ?_
           refine cR ?_
           refine oM rfl rfl ?_
           first | refine oQ (Lw rfl rfl rfl rfl) rfl rfl ?_ | refine oQ (La rfl rfl rfl rfl rfl) rfl rfl ?_
           refine oQ (Q_call (hix k sp) [(0, 3)] rfl rfl (Fits.mk' (vHc rfl vHn) rfl rfl (by first | (simp; done) | exact glOk rfl rfl rfl)) rfl rfl) rfl rfl ?_
           refine oA rfl rfl ?_
           refine oN ?_
           refine cR ?_
           iterate 2 refine oM rfl rfl ?_
           all_goals first | refine oT rfl rfl ?_ | refine o1 rfl rfl rfl ?_ | refine o0 rfl rfl rfl ?_ | refine ogP1 rfl rfl rfl (fun hg => ?_) (fun hg => ?_) | refine ogP0 rfl rfl rfl (fun hg => ?_) (fun hg => ?_)
           all_goals try simp only [s1, s2, s3, s4, s5, s6, s7, s8, s9, s10, s11, s12] at hg
           all_goals first | (refine oM rfl rfl ?_) | skip
           all_goals first | refine oT rfl rfl ?_ | refine o1 rfl rfl rfl ?_ | refine o0 rfl rfl rfl ?_ | refine ogP1 rfl rfl rfl (fun hg => ?_) (fun hg => ?_) | refine ogP0 rfl rfl rfl (fun hg => ?_) (fun hg => ?_)
           all_goals try simp only [s1, s2, s3, s4, s5, s6, s7, s8, s9, s10, s11, s12] at hg
           all_goals first | (refine oQ (v := .bool false) (Q_bin rfl rfl rfl) rfl rfl ?_) | skip
           all_goals first | refine oQ (Q_pick_t rfl (by with_reducible rfl) rfl rfl) rfl rfl ?_ | refine oQ (Q_pick_f rfl (by with_reducible rfl) rfl rfl) rfl rfl ?_
           all_goals first | (refine oM rfl rfl ?_)
           all_goals first | refine oT rfl rfl ?_ | refine o1 rfl rfl rfl ?_ | refine o0 rfl rfl rfl ?_ | refine ogP1 rfl rfl rfl (fun hg => ?_) (fun hg => ?_) | refine ogP0 rfl rfl rfl (fun hg => ?_) (fun hg => ?_)
           all_goals try simp only [s1, s2, s3, s4, s5, s6, s7, s8, s9, s10, s11, s12] at hg
           all_goals first | (refine oM rfl rfl ?_) | skip
           all_goals first | refine oT rfl rfl ?_ | refine o1 rfl rfl rfl ?_ | refine o0 rfl rfl rfl ?_ | refine ogP1 rfl rfl rfl (fun hg => ?_) (fun hg => ?_) | refine ogP0 rfl rfl rfl (fun hg => ?_) (fun hg => ?_)
           all_goals try simp only [s1, s2, s3, s4, s5, s6, s7, s8, s9, s10, s11, s12] at hg
           all_goals first | (refine oM rfl rfl ?_) | skip
           all_goals first | refine oT rfl rfl ?_ | refine o1 rfl rfl rfl ?_ | refine o0 rfl rfl rfl ?_ | refine ogP1 rfl rfl rfl (fun hg => ?_) (fun hg => ?_) | refine ogP0 rfl rfl rfl (fun hg => ?_) (fun hg => ?_)
           all_goals try simp only [s1, s2, s3, s4, s5, s6, s7, s8, s9, s10, s11, s12] at hg
           all_goals first | refine oQ (Is0 rfl rfl rfl rfl rfl rfl) rfl rfl ?_ | refine oQ (Is1 rfl rfl rfl rfl rfl rfl) rfl rfl ?_ | skip
           all_goals first | refine oT rfl rfl ?_ | refine o1 rfl rfl rfl ?_ | refine o0 rfl rfl rfl ?_ | refine ogP1 rfl rfl rfl (fun hg => ?_) (fun hg => ?_) | refine ogP0 rfl rfl rfl (fun hg => ?_) (fun hg => ?_)
           all_goals try simp only [s1, s2, s3, s4, s5, s6, s7, s8, s9, s10, s11, s12] at hg
           all_goals first | (refine oQ (Ld rfl rfl rfl rfl) rfl rfl ?_) | skip
           all_goals first | refine oT rfl rfl ?_ | refine o1 rfl rfl rfl ?_ | refine o0 rfl rfl rfl ?_ | refine ogP1 rfl rfl rfl (fun hg => ?_) (fun hg => ?_) | refine ogP0 rfl rfl rfl (fun hg => ?_) (fun hg => ?_)
           all_goals try simp only [s1, s2, s3, s4, s5, s6, s7, s8, s9, s10, s11, s12] at hg
           all_goals first | (refine oQ (Q_bin rfl rfl rfl) rfl rfl ?_) | skip
           all_goals first | refine oQ (Q_pick_t rfl (by with_reducible rfl) rfl rfl) rfl rfl ?_ | refine oQ (Q_pick_f rfl (by with_reducible rfl) rfl rfl) rfl rfl ?_
           all_goals first | (refine oA rfl rfl ?_)
           all_goals refine oN ?_
           all_goals (
            refine CW_ret ?_))
        all_goals (
         ((refine exitQ (.inr rfl) 0 (.cons (.tmp rfl rfl) .nil) ?_ rfl (vHc rfl vHn) rfl rfl); rfl))
      · have hbb : bb = decide (CC.getD i 0 = 3) := by
          rw [Bool.eq_iff_iff, hfe]
          constructor
          · rintro ⟨j, h1, h2, h3⟩
            have e : j = i := by omega
            subst e
            simpa using h3
          · intro h
            exact ⟨i, rfl, hi, by simpa using h⟩
        rw [hbb]
        refine conW tab_ok [(0, .arr c), (1, .int (n : Int)), (2, .arr a)] 0 [2000] [] Tryd.func63 rfl rfl rfl rfl rfl rfl rfl rfl rfl ?_
        refine cR ?_
        iterate 2 refine oBox rfl rfl rfl rfl rfl rfl ?_
        refine oA rfl rfl ?_
        refine oN ?_
        refine cR ?_
        first | refine oQ (Lw rfl rfl rfl rfl) rfl rfl ?_ | refine oQ (La rfl rfl rfl rfl rfl) rfl rfl ?_
        refine oM rfl rfl ?_
        first | refine oQ (Lw rfl rfl rfl rfl) rfl rfl ?_ | refine oQ (La rfl rfl rfl rfl rfl) rfl rfl ?_
        refine oQe (Q_call (htan) [] rfl rfl (Fits.mk' (vHc rfl vHn) rfl rfl (by first | (simp; done) | exact glOk rfl rfl rfl)) rfl rfl) (show _ = .tuple [.arr tt, .bool true] from rfl) rfl rfl ?_
        refine oM rfl rfl ?_
        iterate 2 refine oQ (Q_extract rfl rfl) rfl rfl ?_
        refine oAlloc rfl rfl rfl rfl rfl rfl rfl ?_
        first | refine oSw rfl rfl rfl rfl ?_ | refine oSa rfl rfl rfl rfl ?_
        refine oA rfl rfl ?_
        refine oN ?_
        refine CW_seq ?_
        refine cR ?_
        refine oM rfl rfl ?_
        refine oQ (Q_not rfl) rfl rfl ?_
        refine oN ?_
        first | refine cT rfl ?_ | refine cF rfl ?_ | refine CW_cond rfl (fun hc => ?_) (fun hc => ?_)
        all_goals try simp only [s1, s2, s3, s4, s5, s6, s7, s8, s9, s10, s11, s12] at hc
        all_goals first
          | (
           refine CW_skip ?_)
          | (
           refine cR ?_
           refine oA rfl rfl ?_
           refine oN ?_
           refine CW_ret ?_)
        all_goals first
          | with_reducible refine tR ?_
          | with_reducible refine tE ?_
          | (
           with_reducible refine tN ?_
           refine cR ?_
           first | refine oQ (Lw rfl rfl rfl rfl) rfl rfl ?_ | refine oQ (La rfl rfl rfl rfl rfl) rfl rfl ?_
           refine oM rfl rfl ?_
           first | refine oQ (Lw rfl rfl rfl rfl) rfl rfl ?_ | refine oQ (La rfl rfl rfl rfl rfl) rfl rfl ?_
           refine oCall (hm) [] 2 rfl rfl (Fits.mk' (vHc rfl vHn) rfl rfl (by first | (simp; done) | exact glOk rfl rfl rfl)) rfl rfl ?_
           rintro r H1 ⟨k, sp, k', sp', h1, h2, h3, h4, rfl, rfl⟩
           refine ⟨.tuple [.slice 3 0 PP.length k, .slice 4 0 PP.length k', .bool true], [(2000, .ro 0 cuT), (3, .ints 29 (PP.flatten ++ sp)), (4, .ints 2 (CC ++ sp'))], rfl, rfl, rfl, ?_⟩
           refine oM rfl rfl ?_
           iterate 3 refine oQ (Q_extract rfl rfl) rfl rfl ?_
           iterate 3 refine oA rfl rfl ?_
           refine oN ?_
           refine cR ?_
           refine oM rfl rfl ?_
           first | refine oQ (Lw rfl rfl rfl rfl) rfl rfl ?_ | refine oQ (La rfl rfl rfl rfl rfl) rfl rfl ?_
           refine oQ (Q_call (hix k sp) [(0, 3)] rfl rfl (Fits.mk' (vHc rfl vHn) rfl rfl (by first | (simp; done) | exact glOk rfl rfl rfl)) rfl rfl) rfl rfl ?_
           refine oA rfl rfl ?_
           refine oN ?_
           refine cR ?_
           iterate 2 refine oM rfl rfl ?_
           all_goals first | refine oT rfl rfl ?_ | refine o1 rfl rfl rfl ?_ | refine o0 rfl rfl rfl ?_ | refine ogP1 rfl rfl rfl (fun hg => ?_) (fun hg => ?_) | refine ogP0 rfl rfl rfl (fun hg => ?_) (fun hg => ?_)
           all_goals try simp only [s1, s2, s3, s4, s5, s6, s7, s8, s9, s10, s11, s12] at hg
           all_goals first | (refine oM rfl rfl ?_) | skip
           all_goals first | refine oT rfl rfl ?_ | refine o1 rfl rfl rfl ?_ | refine o0 rfl rfl rfl ?_ | refine ogP1 rfl rfl rfl (fun hg => ?_) (fun hg => ?_) | refine ogP0 rfl rfl rfl (fun hg => ?_) (fun hg => ?_)
           all_goals try simp only [s1, s2, s3, s4, s5, s6, s7, s8, s9, s10, s11, s12] at hg
           all_goals first | (refine oQ (v := .bool true) (Q_bin rfl rfl (by simp [arith])) rfl rfl ?_) | skip
           all_goals first | refine oQ (Q_pick_t rfl (by with_reducible rfl) rfl rfl) rfl rfl ?_ | refine oQ (Q_pick_f rfl (by with_reducible rfl) rfl rfl) rfl rfl ?_
           all_goals first | (refine oM rfl rfl ?_)
           all_goals first | refine oT rfl rfl ?_ | refine o1 rfl rfl rfl ?_ | refine o0 rfl rfl rfl ?_ | refine ogP1 rfl rfl rfl (fun hg => ?_) (fun hg => ?_) | refine ogP0 rfl rfl rfl (fun hg => ?_) (fun hg => ?_)
           all_goals try simp only [s1, s2, s3, s4, s5, s6, s7, s8, s9, s10, s11, s12] at hg
           all_goals first | (refine oM rfl rfl ?_) | skip
           all_goals first | refine oT rfl rfl ?_ | refine o1 rfl rfl rfl ?_ | refine o0 rfl rfl rfl ?_ | refine ogP1 rfl rfl rfl (fun hg => ?_) (fun hg => ?_) | refine ogP0 rfl rfl rfl (fun hg => ?_) (fun hg => ?_)
           all_goals try simp only [s1, s2, s3, s4, s5, s6, s7, s8, s9, s10, s11, s12] at hg
           all_goals first | (refine oM rfl rfl ?_) | skip
           all_goals first | refine oT rfl rfl ?_ | refine o1 rfl rfl rfl ?_ | refine o0 rfl rfl rfl ?_ | refine ogP1 rfl rfl rfl (fun hg => ?_) (fun hg => ?_) | refine ogP0 rfl rfl rfl (fun hg => ?_) (fun hg => ?_)
           all_goals try simp only [s1, s2, s3, s4, s5, s6, s7, s8, s9, s10, s11, s12] at hg
           all_goals first | refine oQ (Is0 rfl rfl rfl rfl rfl rfl) rfl rfl ?_ | refine oQ (Is1 rfl rfl rfl rfl rfl rfl) rfl rfl ?_ | skip
           all_goals first | refine oT rfl rfl ?_ | refine o1 rfl rfl rfl ?_ | refine o0 rfl rfl rfl ?_ | refine ogP1 rfl rfl rfl (fun hg => ?_) (fun hg => ?_) | refine ogP0 rfl rfl rfl (fun hg => ?_) (fun hg => ?_)
           all_goals try simp only [s1, s2, s3, s4, s5, s6, s7, s8, s9, s10, s11, s12] at hg
           all_goals first | ((have hcg : (CC ++ sp').getD i 0 = CC.getD i 0 := by simp [List.getD, List.getElem?_append, show i < CC.length by omega]); refine oQ (Ld rfl rfl rfl rfl (by simp; omega)) rfl rfl ?_; rw [hcg]) | skip
           all_goals first | refine oT rfl rfl ?_ | refine o1 rfl rfl rfl ?_ | refine o0 rfl rfl rfl ?_ | refine ogP1 rfl rfl rfl (fun hg => ?_) (fun hg => ?_) | refine ogP0 rfl rfl rfl (fun hg => ?_) (fun hg => ?_)
           all_goals try simp only [s1, s2, s3, s4, s5, s6, s7, s8, s9, s10, s11, s12] at hg
           all_goals first | (refine oQ (Q_bin rfl rfl rfl) rfl rfl ?_) | skip
           all_goals first | refine oQ (Q_pick_t rfl (by with_reducible rfl) rfl rfl) rfl rfl ?_ | refine oQ (Q_pick_f rfl (by with_reducible rfl) rfl rfl) rfl rfl ?_
           all_goals first | (refine oA rfl rfl ?_)
           all_goals refine oN ?_
           all_goals (
            refine CW_ret ?_))
        all_goals (
         refine exitQ (.inr rfl) 0 (.cons (.tmp rfl rfl) .nil) ?_ rfl (vHc rfl vHn) rfl rfl
         simp only [resV]
         first | rfl | (cases hcc : decide (CC.getD i 0 = 3) <;> simp_all))
  · have hk' : okT (n : Int) c a = false := by simpa using hk
    have hfl : flB (n : Int) c a = false := by simp [flB, hk']
    rw [hk'] at htan
    rw [hfl]
    refine conW tab_ok [(0, .arr c), (1, .int (n : Int)), (2, .arr a)] 0 [2000] [] Tryd.func63 rfl rfl rfl rfl rfl rfl rfl rfl rfl ?_
    refine cR ?_
    iterate 2 refine oBox rfl rfl rfl rfl rfl rfl ?_
    refine oA rfl rfl ?_
    refine oN ?_
    refine cR ?_
    first | refine oQ (Lw rfl rfl rfl rfl) rfl rfl ?_ | refine oQ (La rfl rfl rfl rfl rfl) rfl rfl ?_
    refine oM rfl rfl ?_
    first | refine oQ (Lw rfl rfl rfl rfl) rfl rfl ?_ | refine oQ (La rfl rfl rfl rfl rfl) rfl rfl ?_
    refine oQe (Q_call (htan) [] rfl rfl (Fits.mk' (vHc rfl vHn) rfl rfl (by first | (simp; done) | exact glOk rfl rfl rfl)) rfl rfl) (show _ = .tuple [.arr (tgL (n : Int) c a), .bool false] from rfl) rfl rfl ?_
    refine oM rfl rfl ?_
    iterate 2 refine oQ (Q_extract rfl rfl) rfl rfl ?_
    refine oAlloc rfl rfl rfl rfl rfl rfl rfl ?_
    first | refine oSw rfl rfl rfl rfl ?_ | refine oSa rfl rfl rfl rfl ?_
    refine oA rfl rfl ?_
    refine oN ?_
    refine CW_seq ?_
    refine cR ?_
    refine oM rfl rfl ?_
    refine oQ (Q_not rfl) rfl rfl ?_
    refine oN ?_
    first | refine cT rfl ?_ | refine cF rfl ?_ | refine CW_cond rfl (fun hc => ?_) (fun hc => ?_)
    all_goals try simp only [s1, s2, s3, s4, s5, s6, s7, s8, s9, s10, s11, s12] at hc
    all_goals try (exfalso; first | (simp at hc; done) | cases hc; done)
    all_goals first
      | (
       refine CW_skip ?_)
      | (
       refine cR ?_
       refine oA rfl rfl ?_
       refine oN ?_
       refine CW_ret ?_)
    all_goals first
      | with_reducible refine tR ?_
      | with_reducible refine tE ?_
      | (
       with_reducible refine tN ?_
       refine cR ?_
       first | refine oQ (Lw rfl rfl rfl rfl) rfl rfl ?_ | refine oQ (La rfl rfl rfl rfl rfl) rfl rfl ?_
       refine oM rfl rfl ?_
       first | refine oQ (Lw rfl rfl rfl rfl) rfl rfl ?_ | refine oQ (La rfl rfl rfl rfl rfl) rfl rfl ?_
       fail "call of (loop.example/g01310/impl.Cubic).multiplicities at slot 26"
       refine oM rfl rfl ?_
       iterate 3 refine oQ (Q_extract rfl rfl) rfl rfl ?_
       iterate 3 refine oA rfl rfl ?_
       refine oN ?_
       refine cR ?_
       refine oM rfl rfl ?_
       first | refine oQ (Lw rfl rfl rfl rfl) rfl rfl ?_ | refine oQ (La rfl rfl rfl rfl rfl) rfl rfl ?_
       fail "call of slices.Index[[]loop.example/g01310/impl.Point,loop.example/g01310/impl.Point] at slot 32"
       refine oA rfl rfl ?_
       refine oN ?_
       refine cR ?_
       iterate 2 refine oM rfl rfl ?_
       all_goals first | refine oT rfl rfl ?_ | refine o1 rfl rfl rfl ?_ | refine o0 rfl rfl rfl ?_ | refine ogP1 rfl rfl rfl (fun hg => ?_) (fun hg => ?_) | refine ogP0 rfl rfl rfl (fun hg => ?_) (fun hg => ?_)
       all_goals try simp only [s1, s2, s3, s4, s5, s6, s7, s8, s9, s10, s11, s12] at hg
       all_goals first | (refine oM rfl rfl ?_) | skip
       all_goals first | refine oT rfl rfl ?_ | refine o1 rfl rfl rfl ?_ | refine o0 rfl rfl rfl ?_ | refine ogP1 rfl rfl rfl (fun hg => ?_) (fun hg => ?_) | refine ogP0 rfl rfl rfl (fun hg => ?_) (fun hg => ?_)
       all_goals try simp only [s1, s2, s3, s4, s5, s6, s7, s8, s9, s10, s11, s12] at hg
       all_goals first | (refine oQ (Q_bin rfl rfl rfl) rfl rfl ?_) | skip
       all_goals first | refine oQ (Q_pick_t rfl (by with_reducible rfl) rfl rfl) rfl rfl ?_ | refine oQ (Q_pick_f rfl (by with_reducible rfl) rfl rfl) rfl rfl ?_
       all_goals first | (refine oM rfl rfl ?_)
       all_goals first | refine oT rfl rfl ?_ | refine o1 rfl rfl rfl ?_ | refine o0 rfl rfl rfl ?_ | refine ogP1 rfl rfl rfl (fun hg => ?_) (fun hg => ?_) | refine ogP0 rfl rfl rfl (fun hg => ?_) (fun hg => ?_)
       all_goals try simp only [s1, s2, s3, s4, s5, s6, s7, s8, s9, s10, s11, s12] at hg
       all_goals first | (refine oM rfl rfl ?_) | skip
       all_goals first | refine oT rfl rfl ?_ | refine o1 rfl rfl rfl ?_ | refine o0 rfl rfl rfl ?_ | refine ogP1 rfl rfl rfl (fun hg => ?_) (fun hg => ?_) | refine ogP0 rfl rfl rfl (fun hg => ?_) (fun hg => ?_)
       all_goals try simp only [s1, s2, s3, s4, s5, s6, s7, s8, s9, s10, s11, s12] at hg
       all_goals first | (refine oM rfl rfl ?_) | skip
       all_goals first | refine oT rfl rfl ?_ | refine o1 rfl rfl rfl ?_ | refine o0 rfl rfl rfl ?_ | refine ogP1 rfl rfl rfl (fun hg => ?_) (fun hg => ?_) | refine ogP0 rfl rfl rfl (fun hg => ?_) (fun hg => ?_)
       all_goals try simp only [s1, s2, s3, s4, s5, s6, s7, s8, s9, s10, s11, s12] at hg
       all_goals first | refine oQ (Is0 rfl rfl rfl rfl rfl rfl) rfl rfl ?_ | refine oQ (Is1 rfl rfl rfl rfl rfl rfl) rfl rfl ?_ | skip
       all_goals first | refine oT rfl rfl ?_ | refine o1 rfl rfl rfl ?_ | refine o0 rfl rfl rfl ?_ | refine ogP1 rfl rfl rfl (fun hg => ?_) (fun hg => ?_) | refine ogP0 rfl rfl rfl (fun hg => ?_) (fun hg => ?_)
       all_goals try simp only [s1, s2, s3, s4, s5, s6, s7, s8, s9, s10, s11, s12] at hg
       all_goals first | (refine oQ (Ld rfl rfl rfl rfl) rfl rfl ?_) | skip
       all_goals first | refine oT rfl rfl ?_ | refine o1 rfl rfl rfl ?_ | refine o0 rfl rfl rfl ?_ | refine ogP1 rfl rfl rfl (fun hg => ?_) (fun hg => ?_) | refine ogP0 rfl rfl rfl (fun hg => ?_) (fun hg => ?_)
       all_goals try simp only [s1, s2, s3, s4, s5, s6, s7, s8, s9, s10, s11, s12] at hg
       all_goals first | (refine oQ (Q_bin rfl rfl rfl) rfl rfl ?_) | skip
       all_goals first | refine oQ (Q_pick_t rfl (by with_reducible rfl) rfl rfl) rfl rfl ?_ | refine oQ (Q_pick_f rfl (by with_reducible rfl) rfl rfl) rfl rfl ?_
       all_goals first | (refine oA rfl rfl ?_)
       all_goals refine oN ?_
       all_goals (
        refine CW_ret ?_))
    all_goals (
     ((refine exitQ (.inr rfl) 0 (.cons (.tmp rfl rfl) .nil) ?_ rfl (vHc rfl vHn) rfl rfl); rfl))
theorem l06FlexN_con (n : Nat) (c a : List Int) (hp : primeB (n : Int) = true) (hcl : c.length = 10) (qc : smN 12 c) (ha : a ∈ allPts (n : Int)) : ConQ Tryd.prog [] 61 [.int (n : Int), .arr c, .arr a] [] (.bool (flB (n : Int) c a)) := by
  have hal := allPts_three ha
  have hpb := prime_bd hp
  have hqa := allPts_smN hp ha
  have hon := l06On_con (n : Int) c a hp hcl hal qc hqa
  have htan := l06Tangent_con (n : Int) c a hp hcl hal qc hqa
  change ConQ _ _ _ _ _ (.tuple [.arr (tgL (n : Int) c a), .bool (facP (n : Int) (slL (n : Int) c a) != 0)]) at htan
  have htl : (tgL (n : Int) c a).length = 3 := by unfold tgL; rw [normL_length]; rfl
  by_cases hk : okT (n : Int) c a = true
  · have htm := tgL_mem hp hk
    have hk2 := hk
    simp only [okT, Bool.and_eq_true] at hk2
    rw [hk2.2] at hon
    rw [hk2.1] at htan
    cases hz : meB (n : Int) c (tgL (n : Int) c a) with
    | true =>
      have hm := l06MeetZ_con n c (tgL (n : Int) c a) hp hcl qc htm hz
      have hfl : flB (n : Int) c a = false := by simp [flB, hz]
      generalize tgL (n : Int) c a = tt at *
      rw [hfl]
      refine conW tab_ok [(0, .int (n : Int)), (1, .arr c), (2, .arr a)] 0 [] [] Tryd.func61 rfl rfl rfl rfl rfl rfl rfl rfl rfl ?_
      refine cR ?_
      iterate 2 refine oBox rfl rfl rfl rfl rfl rfl ?_
      refine oA rfl rfl ?_
      refine oN ?_
      refine CW_seq ?_
      refine cR ?_
      refine oM rfl rfl ?_
      first | refine oQ (Lw rfl rfl rfl rfl) rfl rfl ?_ | refine oQ (La rfl rfl rfl rfl rfl) rfl rfl ?_
      first | refine oQ (Lw rfl rfl rfl rfl) rfl rfl ?_ | refine oQ (La rfl rfl rfl rfl rfl) rfl rfl ?_
      refine oQ (Q_call0 (hon) rfl rfl rfl) rfl rfl ?_
      refine oQ (Q_not rfl) rfl rfl ?_
      refine oN ?_
      first | refine cT rfl ?_ | refine cF rfl ?_ | refine CW_cond rfl (fun hc => ?_) (fun hc => ?_)
      all_goals try simp only [s1, s2, s3, s4, s5, s6, s7, s8, s9, s10, s11, s12] at hc
      all_goals first
        | (
         refine CW_skip ?_)
        | (
         refine cR ?_
         refine oA rfl rfl ?_
         refine oN ?_
         refine CW_ret ?_)
      all_goals first
        | with_reducible refine tR ?_
        | with_reducible refine tE ?_
        | (
         with_reducible refine tN ?_
         refine cR ?_
         refine oM rfl rfl ?_
         first | refine oQ (Lw rfl rfl rfl rfl) rfl rfl ?_ | refine oQ (La rfl rfl rfl rfl rfl) rfl rfl ?_
         first | refine oQ (Lw rfl rfl rfl rfl) rfl rfl ?_ | refine oQ (La rfl rfl rfl rfl rfl) rfl rfl ?_
         refine oQ (Q_call0 (htan) rfl rfl rfl) rfl rfl ?_
         refine oM rfl rfl ?_
         iterate 2 refine oQ (Q_extract rfl rfl) rfl rfl ?_
         refine oAlloc rfl rfl rfl rfl rfl rfl rfl ?_
         first | refine oSw rfl rfl rfl rfl ?_ | refine oSa rfl rfl rfl rfl ?_
         refine oA rfl rfl ?_
         refine oN ?_
         refine CW_seq ?_
         refine cR ?_
         refine oM rfl rfl ?_
         refine oQ (Q_not rfl) rfl rfl ?_
         refine oN ?_
         first | refine cT rfl ?_ | refine cF rfl ?_ | refine CW_cond rfl (fun hc => ?_) (fun hc => ?_)
         all_goals try simp only [s1, s2, s3, s4, s5, s6, s7, s8, s9, s10, s11, s12] at hc
         all_goals first
           | (
            refine CW_skip ?_)
           | (
            refine cR ?_
            refine oA rfl rfl ?_
            refine oN ?_
            refine CW_ret ?_)
         all_goals first
           | with_reducible refine tR ?_
           | with_reducible refine tE ?_
           | (
            with_reducible refine tN ?_
            refine cR ?_
            refine oM rfl rfl ?_
            first | refine oQ (Lw rfl rfl rfl rfl) rfl rfl ?_ | refine oQ (La rfl rfl rfl rfl rfl) rfl rfl ?_
            first | refine oQ (Lw rfl rfl rfl rfl) rfl rfl ?_ | refine oQ (La rfl rfl rfl rfl rfl) rfl rfl ?_
            refine oQ (Q_call0 (hm) rfl rfl rfl) rfl rfl ?_
            refine oM rfl rfl ?_
            iterate 3 refine oQ (Q_extract rfl rfl) rfl rfl ?_
            iterate 3 refine oA rfl rfl ?_
            refine oN ?_
            refine CW_seq ?_
            refine CW_draw lateOk (by decide +kernel) ?_
            iterate 2 refine qM rfl rfl ?_
            all_goals first | refine qT rfl rfl ?_ | refine q1 rfl rfl rfl ?_ | refine q0 rfl rfl rfl ?_ | refine qgP1 rfl rfl rfl (fun hg => ?_) (fun hg => ?_) | refine qgP0 rfl rfl rfl (fun hg => ?_) (fun hg => ?_)
            all_goals try simp only [s1, s2, s3, s4, s5, s6, s7, s8, s9, s10, s11, s12] at hg
            all_goals first | (refine qM rfl rfl ?_) | skip
            all_goals first | refine qT rfl rfl ?_ | refine q1 rfl rfl rfl ?_ | refine q0 rfl rfl rfl ?_ | refine qgP1 rfl rfl rfl (fun hg => ?_) (fun hg => ?_) | refine qgP0 rfl rfl rfl (fun hg => ?_) (fun hg => ?_)
            all_goals try simp only [s1, s2, s3, s4, s5, s6, s7, s8, s9, s10, s11, s12] at hg
            all_goals first | refine qQ (Q_len rfl rfl rfl rfl) rfl rfl ?_ | refine qQ (Q_len0 rfl rfl rfl rfl) rfl rfl ?_ | skip
            all_goals first | refine qT rfl rfl ?_ | refine q1 rfl rfl rfl ?_ | refine q0 rfl rfl rfl ?_ | refine qgP1 rfl rfl rfl (fun hg => ?_) (fun hg => ?_) | refine qgP0 rfl rfl rfl (fun hg => ?_) (fun hg => ?_)
            all_goals try simp only [s1, s2, s3, s4, s5, s6, s7, s8, s9, s10, s11, s12] at hg
            all_goals first | (refine qQ (Q_bin rfl rfl rfl) rfl rfl ?_) | skip
            all_goals first | refine qQ (Q_pick_t rfl (by with_reducible rfl) rfl rfl) rfl rfl ?_ | refine qQ (Q_pick_f rfl (by with_reducible rfl) rfl rfl) rfl rfl ?_
            all_goals first | (refine qM rfl rfl ?_)
            all_goals first | refine qT rfl rfl ?_ | refine q1 rfl rfl rfl ?_ | refine q0 rfl rfl rfl ?_ | refine qgP1 rfl rfl rfl (fun hg => ?_) (fun hg => ?_) | refine qgP0 rfl rfl rfl (fun hg => ?_) (fun hg => ?_)
            all_goals try simp only [s1, s2, s3, s4, s5, s6, s7, s8, s9, s10, s11, s12] at hg
            all_goals first | (refine qM rfl rfl ?_) | skip
            all_goals first | refine qT rfl rfl ?_ | refine q1 rfl rfl rfl ?_ | refine q0 rfl rfl rfl ?_ | refine qgP1 rfl rfl rfl (fun hg => ?_) (fun hg => ?_) | refine qgP0 rfl rfl rfl (fun hg => ?_) (fun hg => ?_)
            all_goals try simp only [s1, s2, s3, s4, s5, s6, s7, s8, s9, s10, s11, s12] at hg
            all_goals first | refine qQ (Q_ixs0z 3 rfl rfl rfl rfl rfl rfl (by first | omega | (dsimp only; omega) | (simp; omega) | (simp; done))) rfl rfl ?_ | refine qQ (Q_ixsz 3 rfl rfl rfl rfl rfl rfl (by first | omega | (dsimp only; omega) | (simp; omega) | (simp; done))) rfl rfl ?_ | skip
            all_goals first | refine qT rfl rfl ?_ | refine q1 rfl rfl rfl ?_ | refine q0 rfl rfl rfl ?_ | refine qgP1 rfl rfl rfl (fun hg => ?_) (fun hg => ?_) | refine qgP0 rfl rfl rfl (fun hg => ?_) (fun hg => ?_)
            all_goals try simp only [s1, s2, s3, s4, s5, s6, s7, s8, s9, s10, s11, s12] at hg
            all_goals first | refine qQ (Lw rfl rfl rfl rfl) rfl rfl ?_ | refine qQ (La rfl rfl rfl rfl rfl) rfl rfl ?_ | skip
            all_goals first | refine qT rfl rfl ?_ | refine q1 rfl rfl rfl ?_ | refine q0 rfl rfl rfl ?_ | refine qgP1 rfl rfl rfl (fun hg => ?_) (fun hg => ?_) | refine qgP0 rfl rfl rfl (fun hg => ?_) (fun hg => ?_)
            all_goals try simp only [s1, s2, s3, s4, s5, s6, s7, s8, s9, s10, s11, s12] at hg
            all_goals first | refine qQ (Lw rfl rfl rfl rfl) rfl rfl ?_ | refine qQ (La rfl rfl rfl rfl rfl) rfl rfl ?_ | skip
            all_goals first | refine qT rfl rfl ?_ | refine q1 rfl rfl rfl ?_ | refine q0 rfl rfl rfl ?_ | refine qgP1 rfl rfl rfl (fun hg => ?_) (fun hg => ?_) | refine qgP0 rfl rfl rfl (fun hg => ?_) (fun hg => ?_)
            all_goals try simp only [s1, s2, s3, s4, s5, s6, s7, s8, s9, s10, s11, s12] at hg
            all_goals first | (refine qQ (Q_arrb rfl rfl rfl rfl rfl rfl rfl rfl rfl (by first | omega | (dsimp only; omega) | (simp; omega) | (simp; done)) (by first | omega | (dsimp only; omega) | (simp; omega) | (simp; done))) rfl rfl ?_) | skip
            all_goals first | refine qQ (Q_pick_t rfl (by with_reducible rfl) rfl rfl) rfl rfl ?_ | refine qQ (Q_pick_f rfl (by with_reducible rfl) rfl rfl) rfl rfl ?_
            all_goals first | (refine qM rfl rfl ?_)
            all_goals first | refine qT rfl rfl ?_ | refine q1 rfl rfl rfl ?_ | refine q0 rfl rfl rfl ?_ | refine qgP1 rfl rfl rfl (fun hg => ?_) (fun hg => ?_) | refine qgP0 rfl rfl rfl (fun hg => ?_) (fun hg => ?_)
            all_goals try simp only [s1, s2, s3, s4, s5, s6, s7, s8, s9, s10, s11, s12] at hg
            all_goals first | (refine qM rfl rfl ?_) | skip
            all_goals first | refine qT rfl rfl ?_ | refine q1 rfl rfl rfl ?_ | refine q0 rfl rfl rfl ?_ | refine qgP1 rfl rfl rfl (fun hg => ?_) (fun hg => ?_) | refine qgP0 rfl rfl rfl (fun hg => ?_) (fun hg => ?_)
            all_goals try simp only [s1, s2, s3, s4, s5, s6, s7, s8, s9, s10, s11, s12] at hg
            all_goals first | refine qQ (Is0 rfl rfl rfl rfl rfl rfl) rfl rfl ?_ | refine qQ (Is1 rfl rfl rfl rfl rfl rfl) rfl rfl ?_ | skip
            all_goals first | refine qT rfl rfl ?_ | refine q1 rfl rfl rfl ?_ | refine q0 rfl rfl rfl ?_ | refine qgP1 rfl rfl rfl (fun hg => ?_) (fun hg => ?_) | refine qgP0 rfl rfl rfl (fun hg => ?_) (fun hg => ?_)
            all_goals try simp only [s1, s2, s3, s4, s5, s6, s7, s8, s9, s10, s11, s12] at hg
            all_goals first | (refine qQ (Ld rfl rfl rfl rfl) rfl rfl ?_) | skip
            all_goals first | refine qT rfl rfl ?_ | refine q1 rfl rfl rfl ?_ | refine q0 rfl rfl rfl ?_ | refine qgP1 rfl rfl rfl (fun hg => ?_) (fun hg => ?_) | refine qgP0 rfl rfl rfl (fun hg => ?_) (fun hg => ?_)
            all_goals try simp only [s1, s2, s3, s4, s5, s6, s7, s8, s9, s10, s11, s12] at hg
            all_goals first | (refine qQ (Q_bin rfl rfl rfl) rfl rfl ?_) | skip
            all_goals first | refine qQ (Q_pick_t rfl (by with_reducible rfl) rfl rfl) rfl rfl ?_ | refine qQ (Q_pick_f rfl (by with_reducible rfl) rfl rfl) rfl rfl ?_
            all_goals first | (refine qA rfl rfl ?_)
            all_goals refine QW_nil ?_
            all_goals with_reducible refine tN ?_
            all_goals (
             refine CW_ret ?_)))
      all_goals (
       ((refine exitQ (.inr rfl) 0 (.cons (.tmp rfl rfl) .nil) ?_ rfl vHn rfl rfl); rfl))
    | false =>
      have hm := l06MeetN_con n c (tgL (n : Int) c a) hp hcl qc htm hz
      have h3 : ∀ x ∈ mePts (n : Int) c (tgL (n : Int) c a), x.length = 3 := fun x hx => allPts_three (me_mem hx)
      have hf3 := flat3 h3
      have hcl2 := me_len (n : Int) c (tgL (n : Int) c a)
      have hfl : flB (n : Int) c a = (decide (mePts (n : Int) c (tgL (n : Int) c a) = [a]) && decide (meCts (n : Int) c (tgL (n : Int) c a) = [3])) := by simp [flB, hz, hk]
      have hln : (mePts (n : Int) c (tgL (n : Int) c a)).length ≤ 1000000000 := by
        have h1 := mPts_len (n : Int) c (lnV (n : Int) (tgL (n : Int) c a)) (lnV (n : Int) (tgL (n : Int) c a)).length
        have h2 := lnV_len hp htm
        unfold mePts
        omega
      rw [hfl]
      generalize mePts (n : Int) c (tgL (n : Int) c a) = PP at *
      generalize meCts (n : Int) c (tgL (n : Int) c a) = CC at *
      generalize tgL (n : Int) c a = tt at *
      by_cases h1P : PP.length = 1
      · have hCC : CC.length = 1 := by omega
        have h1T : ((PP.length : Int) == 1) = true := by rw [beq_iff_eq]; omega
        have hP3 := h3
        have h30 : (PP.getD 0 []).length = 3 := h3 _ (getD_mem (by omega))
        have e1 := one_eq (a := a) h1P
        have e2 := one_eqI (a := 3) hCC
        by_cases hpa : PP.getD 0 [] = a
        · have hbb : (decide (PP = [a]) && decide (CC = [3])) = decide (CC.getD 0 0 = 3) := by
            rw [decide_eq_true (e1.2 hpa), Bool.true_and]
            exact decide_eq_decide.2 e2
          rw [hbb]
          refine conW tab_ok [(0, .int (n : Int)), (1, .arr c), (2, .arr a)] 0 [] [] Tryd.func61 rfl rfl rfl rfl rfl rfl rfl rfl rfl ?_
          refine cR ?_
          iterate 2 refine oBox rfl rfl rfl rfl rfl rfl ?_
          refine oA rfl rfl ?_
          refine oN ?_
          refine CW_seq ?_
          refine cR ?_
          refine oM rfl rfl ?_
          first | refine oQ (Lw rfl rfl rfl rfl) rfl rfl ?_ | refine oQ (La rfl rfl rfl rfl rfl) rfl rfl ?_
          first | refine oQ (Lw rfl rfl rfl rfl) rfl rfl ?_ | refine oQ (La rfl rfl rfl rfl rfl) rfl rfl ?_
          refine oQ (Q_call0 (hon) rfl rfl rfl) rfl rfl ?_
          refine oQ (Q_not rfl) rfl rfl ?_
          refine oN ?_
          first | refine cT rfl ?_ | refine cF rfl ?_ | refine CW_cond rfl (fun hc => ?_) (fun hc => ?_)
          all_goals try simp only [s1, s2, s3, s4, s5, s6, s7, s8, s9, s10, s11, s12] at hc
          all_goals first
            | (
             refine CW_skip ?_)
            | (
             refine cR ?_
             refine oA rfl rfl ?_
             refine oN ?_
             refine CW_ret ?_)
          all_goals first
            | with_reducible refine tR ?_
            | with_reducible refine tE ?_
            | (
             with_reducible refine tN ?_
             refine cR ?_
             refine oM rfl rfl ?_
             first | refine oQ (Lw rfl rfl rfl rfl) rfl rfl ?_ | refine oQ (La rfl rfl rfl rfl rfl) rfl rfl ?_
             first | refine oQ (Lw rfl rfl rfl rfl) rfl rfl ?_ | refine oQ (La rfl rfl rfl rfl rfl) rfl rfl ?_
             refine oQ (Q_call0 (htan) rfl rfl rfl) rfl rfl ?_
             refine oM rfl rfl ?_
             iterate 2 refine oQ (Q_extract rfl rfl) rfl rfl ?_
             refine oAlloc rfl rfl rfl rfl rfl rfl rfl ?_
             first | refine oSw rfl rfl rfl rfl ?_ | refine oSa rfl rfl rfl rfl ?_
             refine oA rfl rfl ?_
             refine oN ?_
             refine CW_seq ?_
             refine cR ?_
             refine oM rfl rfl ?_
             refine oQ (Q_not rfl) rfl rfl ?_
             refine oN ?_
             first | refine cT rfl ?_ | refine cF rfl ?_ | refine CW_cond rfl (fun hc => ?_) (fun hc => ?_)
             all_goals try simp only [s1, s2, s3, s4, s5, s6, s7, s8, s9, s10, s11, s12] at hc
             all_goals first
               | (
                refine CW_skip ?_)
               | (
                refine cR ?_
                refine oA rfl rfl ?_
                refine oN ?_
                refine CW_ret ?_)
             all_goals first
               | with_reducible refine tR ?_
               | with_reducible refine tE ?_
               | (
                with_reducible refine tN ?_
                refine cR ?_
                refine oM rfl rfl ?_
                first | refine oQ (Lw rfl rfl rfl rfl) rfl rfl ?_ | refine oQ (La rfl rfl rfl rfl rfl) rfl rfl ?_
                first | refine oQ (Lw rfl rfl rfl rfl) rfl rfl ?_ | refine oQ (La rfl rfl rfl rfl rfl) rfl rfl ?_
                refine oCall (hm) [] 2 rfl rfl (Fits.mk' vHn rfl rfl (by first | (simp; done) | exact glOk rfl rfl rfl)) rfl rfl ?_
                rintro r H1 ⟨k, sp, k', sp', h1, h2, h3, h4, rfl, rfl⟩
                refine ⟨.tuple [.slice 3 0 PP.length k, .slice 4 0 PP.length k', .bool true], [(3, .ints 29 (PP.flatten ++ sp)), (4, .ints 2 (CC ++ sp'))], rfl, rfl, rfl, ?_⟩
                refine oM rfl rfl ?_
                iterate 3 refine oQ (Q_extract rfl rfl) rfl rfl ?_
                iterate 3 refine oA rfl rfl ?_
                refine oN ?_
                refine CW_seq ?_
                refine CW_draw lateOk (by decide +kernel) ?_
                iterate 2 refine qM rfl rfl ?_
                all_goals first | refine qT rfl rfl ?_ | refine q1 rfl rfl rfl ?_ | refine q0 rfl rfl rfl ?_ | refine qgP1 rfl rfl rfl (fun hg => ?_) (fun hg => ?_) | refine qgP0 rfl rfl rfl (fun hg => ?_) (fun hg => ?_)
                all_goals try simp only [s1, s2, s3, s4, s5, s6, s7, s8, s9, s10, s11, s12] at hg
                all_goals first | (refine qM rfl rfl ?_) | skip
                all_goals first | refine qT rfl rfl ?_ | refine q1 rfl rfl rfl ?_ | refine q0 rfl rfl rfl ?_ | refine qgP1 rfl rfl rfl (fun hg => ?_) (fun hg => ?_) | refine qgP0 rfl rfl rfl (fun hg => ?_) (fun hg => ?_)
                all_goals try simp only [s1, s2, s3, s4, s5, s6, s7, s8, s9, s10, s11, s12] at hg
                all_goals first | refine qQ (Q_len rfl rfl rfl rfl) rfl rfl ?_ | refine qQ (Q_len0 rfl rfl rfl rfl) rfl rfl ?_ | skip
                all_goals first | refine qT rfl rfl ?_ | refine q1 rfl rfl rfl ?_ | refine q0 rfl rfl rfl ?_ | refine qgP1 rfl rfl rfl (fun hg => ?_) (fun hg => ?_) | refine qgP0 rfl rfl rfl (fun hg => ?_) (fun hg => ?_)
                all_goals try simp only [s1, s2, s3, s4, s5, s6, s7, s8, s9, s10, s11, s12] at hg
                all_goals first | (refine qQ (v := .bool true) (Q_bin rfl rfl (by simp only [arith]; rw [h1T])) rfl rfl ?_) | skip
                all_goals first | refine qQ (Q_pick_t rfl (by with_reducible rfl) rfl rfl) rfl rfl ?_ | refine qQ (Q_pick_f rfl (by with_reducible rfl) rfl rfl) rfl rfl ?_
                all_goals first | (refine qM rfl rfl ?_)
                all_goals first | refine qT rfl rfl ?_ | refine q1 rfl rfl rfl ?_ | refine q0 rfl rfl rfl ?_ | refine qgP1 rfl rfl rfl (fun hg => ?_) (fun hg => ?_) | refine qgP0 rfl rfl rfl (fun hg => ?_) (fun hg => ?_)
                all_goals try simp only [s1, s2, s3, s4, s5, s6, s7, s8, s9, s10, s11, s12] at hg
                all_goals first | (refine qM rfl rfl ?_) | skip
                all_goals first | refine qT rfl rfl ?_ | refine q1 rfl rfl rfl ?_ | refine q0 rfl rfl rfl ?_ | refine qgP1 rfl rfl rfl (fun hg => ?_) (fun hg => ?_) | refine qgP0 rfl rfl rfl (fun hg => ?_) (fun hg => ?_)
                all_goals try simp only [s1, s2, s3, s4, s5, s6, s7, s8, s9, s10, s11, s12] at hg
                all_goals first | (refine qQ (Q_ixs0z 3 (j := 0) rfl rfl rfl rfl rfl rfl (by omega)) rfl rfl ?_) | skip
                all_goals first | refine qT rfl rfl ?_ | refine q1 rfl rfl rfl ?_ | refine q0 rfl rfl rfl ?_ | refine qgP1 rfl rfl rfl (fun hg => ?_) (fun hg => ?_) | refine qgP0 rfl rfl rfl (fun hg => ?_) (fun hg => ?_)
                all_goals try simp only [s1, s2, s3, s4, s5, s6, s7, s8, s9, s10, s11, s12] at hg
                all_goals first | (refine qQ (Q_lda (n := 3) rfl rfl rfl rfl rfl (by rw [List.length_append, hf3]; omega)) rfl rfl ?_; rw [flat_get hP3 (show 0 < PP.length by omega)]) | skip
                all_goals first | refine qT rfl rfl ?_ | refine q1 rfl rfl rfl ?_ | refine q0 rfl rfl rfl ?_ | refine qgP1 rfl rfl rfl (fun hg => ?_) (fun hg => ?_) | refine qgP0 rfl rfl rfl (fun hg => ?_) (fun hg => ?_)
                all_goals try simp only [s1, s2, s3, s4, s5, s6, s7, s8, s9, s10, s11, s12] at hg
                all_goals first | refine qQ (Lw rfl rfl rfl rfl) rfl rfl ?_ | refine qQ (La rfl rfl rfl rfl rfl) rfl rfl ?_ | skip
                all_goals first | refine qT rfl rfl ?_ | refine q1 rfl rfl rfl ?_ | refine q0 rfl rfl rfl ?_ | refine qgP1 rfl rfl rfl (fun hg => ?_) (fun hg => ?_) | refine qgP0 rfl rfl rfl (fun hg => ?_) (fun hg => ?_)
                all_goals try simp only [s1, s2, s3, s4, s5, s6, s7, s8, s9, s10, s11, s12] at hg
                all_goals first | (refine qQ (Q_arrb rfl rfl rfl rfl rfl rfl rfl rfl rfl h30 hal) rfl rfl ?_; rw [decide_eq_true hpa]) | skip
                all_goals first | refine qQ (Q_pick_t rfl (by with_reducible rfl) rfl rfl) rfl rfl ?_ | refine qQ (Q_pick_f rfl (by with_reducible rfl) rfl rfl) rfl rfl ?_
                all_goals first | (refine qM rfl rfl ?_)
                all_goals first | refine qT rfl rfl ?_ | refine q1 rfl rfl rfl ?_ | refine q0 rfl rfl rfl ?_ | refine qgP1 rfl rfl rfl (fun hg => ?_) (fun hg => ?_) | refine qgP0 rfl rfl rfl (fun hg => ?_) (fun hg => ?_)
                all_goals try simp only [s1, s2, s3, s4, s5, s6, s7, s8, s9, s10, s11, s12] at hg
                all_goals first | (refine qM rfl rfl ?_) | skip
                all_goals first | refine qT rfl rfl ?_ | refine q1 rfl rfl rfl ?_ | refine q0 rfl rfl rfl ?_ | refine qgP1 rfl rfl rfl (fun hg => ?_) (fun hg => ?_) | refine qgP0 rfl rfl rfl (fun hg => ?_) (fun hg => ?_)
                all_goals try simp only [s1, s2, s3, s4, s5, s6, s7, s8, s9, s10, s11, s12] at hg
                all_goals first | refine qQ (Is0 rfl rfl rfl rfl rfl rfl) rfl rfl ?_ | refine qQ (Is1 rfl rfl rfl rfl rfl rfl) rfl rfl ?_ | skip
                all_goals first | refine qT rfl rfl ?_ | refine q1 rfl rfl rfl ?_ | refine q0 rfl rfl rfl ?_ | refine qgP1 rfl rfl rfl (fun hg => ?_) (fun hg => ?_) | refine qgP0 rfl rfl rfl (fun hg => ?_) (fun hg => ?_)
                all_goals try simp only [s1, s2, s3, s4, s5, s6, s7, s8, s9, s10, s11, s12] at hg
                all_goals first | ((have hcg : (CC ++ sp').getD 0 0 = CC.getD 0 0 := by simp [List.getD, List.getElem?_append, show 0 < CC.length by omega]); refine qQ (Ld rfl rfl rfl rfl (by simp; omega)) rfl rfl ?_; rw [hcg]) | skip
                all_goals first | refine qT rfl rfl ?_ | refine q1 rfl rfl rfl ?_ | refine q0 rfl rfl rfl ?_ | refine qgP1 rfl rfl rfl (fun hg => ?_) (fun hg => ?_) | refine qgP0 rfl rfl rfl (fun hg => ?_) (fun hg => ?_)
                all_goals try simp only [s1, s2, s3, s4, s5, s6, s7, s8, s9, s10, s11, s12] at hg
                all_goals first | (refine qQ (Q_bin rfl rfl rfl) rfl rfl ?_) | skip
                all_goals first | refine qQ (Q_pick_t rfl (by with_reducible rfl) rfl rfl) rfl rfl ?_ | refine qQ (Q_pick_f rfl (by with_reducible rfl) rfl rfl) rfl rfl ?_
                all_goals first | (refine qA rfl rfl ?_)
                all_goals refine QW_nil ?_
                all_goals with_reducible refine tN ?_
                all_goals (
                 refine CW_ret ?_)))
          all_goals (
           refine exitQ (.inr rfl) 0 (.cons (.tmp rfl rfl) .nil) ?_ rfl vHn rfl rfl
           simp only [resV]
           first | rfl | (cases hcc : decide (CC.getD 0 0 = 3) <;> simp_all))
        · have hbb : (decide (PP = [a]) && decide (CC = [3])) = false := by
            rw [decide_eq_false (fun x => hpa (e1.1 x)), Bool.false_and]
          rw [hbb]
          refine conW tab_ok [(0, .int (n : Int)), (1, .arr c), (2, .arr a)] 0 [] [] Tryd.func61 rfl rfl rfl rfl rfl rfl rfl rfl rfl ?_
          refine cR ?_
          iterate 2 refine oBox rfl rfl rfl rfl rfl rfl ?_
          refine oA rfl rfl ?_
          refine oN ?_
          refine CW_seq ?_
          refine cR ?_
          refine oM rfl rfl ?_
          first | refine oQ (Lw rfl rfl rfl rfl) rfl rfl ?_ | refine oQ (La rfl rfl rfl rfl rfl) rfl rfl ?_
          first | refine oQ (Lw rfl rfl rfl rfl) rfl rfl ?_ | refine oQ (La rfl rfl rfl rfl rfl) rfl rfl ?_
          refine oQ (Q_call0 (hon) rfl rfl rfl) rfl rfl ?_
          refine oQ (Q_not rfl) rfl rfl ?_
          refine oN ?_
          first | refine cT rfl ?_ | refine cF rfl ?_ | refine CW_cond rfl (fun hc => ?_) (fun hc => ?_)
          all_goals try simp only [s1, s2, s3, s4, s5, s6, s7, s8, s9, s10, s11, s12] at hc
          all_goals first
            | (
             refine CW_skip ?_)
            | (
             refine cR ?_
             refine oA rfl rfl ?_
             refine oN ?_
             refine CW_ret ?_)
          all_goals first
            | with_reducible refine tR ?_
            | with_reducible refine tE ?_
            | (
             with_reducible refine tN ?_
             refine cR ?_
             refine oM rfl rfl ?_
             first | refine oQ (Lw rfl rfl rfl rfl) rfl rfl ?_ | refine oQ (La rfl rfl rfl rfl rfl) rfl rfl ?_
             first | refine oQ (Lw rfl rfl rfl rfl) rfl rfl ?_ | refine oQ (La rfl rfl rfl rfl rfl) rfl rfl ?_
             refine oQ (Q_call0 (htan) rfl rfl rfl) rfl rfl ?_
             refine oM rfl rfl ?_
             iterate 2 refine oQ (Q_extract rfl rfl) rfl rfl ?_
             refine oAlloc rfl rfl rfl rfl rfl rfl rfl ?_
             first | refine oSw rfl rfl rfl rfl ?_ | refine oSa rfl rfl rfl rfl ?_
             refine oA rfl rfl ?_
             refine oN ?_
             refine CW_seq ?_
             refine cR ?_
             refine oM rfl rfl ?_
             refine oQ (Q_not rfl) rfl rfl ?_
             refine oN ?_
             first | refine cT rfl ?_ | refine cF rfl ?_ | refine CW_cond rfl (fun hc => ?_) (fun hc => ?_)
             all_goals try simp only [s1, s2, s3, s4, s5, s6, s7, s8, s9, s10, s11, s12] at hc
             all_goals first
               | (
                refine CW_skip ?_)
               | (
                refine cR ?_
                refine oA rfl rfl ?_
                refine oN ?_
                refine CW_ret ?_)
             all_goals first
               | with_reducible refine tR ?_
               | with_reducible refine tE ?_
               | (
                with_reducible refine tN ?_
                refine cR ?_
                refine oM rfl rfl ?_
                first | refine oQ (Lw rfl rfl rfl rfl) rfl rfl ?_ | refine oQ (La rfl rfl rfl rfl rfl) rfl rfl ?_
                first | refine oQ (Lw rfl rfl rfl rfl) rfl rfl ?_ | refine oQ (La rfl rfl rfl rfl rfl) rfl rfl ?_
                refine oCall (hm) [] 2 rfl rfl (Fits.mk' vHn rfl rfl (by first | (simp; done) | exact glOk rfl rfl rfl)) rfl rfl ?_
                rintro r H1 ⟨k, sp, k', sp', h1, h2, h3, h4, rfl, rfl⟩
                refine ⟨.tuple [.slice 3 0 PP.length k, .slice 4 0 PP.length k', .bool true], [(3, .ints 29 (PP.flatten ++ sp)), (4, .ints 2 (CC ++ sp'))], rfl, rfl, rfl, ?_⟩
                refine oM rfl rfl ?_
                iterate 3 refine oQ (Q_extract rfl rfl) rfl rfl ?_
                iterate 3 refine oA rfl rfl ?_
                refine oN ?_
                refine CW_seq ?_
                refine CW_draw lateOk (by decide +kernel) ?_
                iterate 2 refine qM rfl rfl ?_
                all_goals first | refine qT rfl rfl ?_ | refine q1 rfl rfl rfl ?_ | refine q0 rfl rfl rfl ?_ | refine qgP1 rfl rfl rfl (fun hg => ?_) (fun hg => ?_) | refine qgP0 rfl rfl rfl (fun hg => ?_) (fun hg => ?_)
                all_goals try simp only [s1, s2, s3, s4, s5, s6, s7, s8, s9, s10, s11, s12] at hg
                all_goals first | (refine qM rfl rfl ?_) | skip
                all_goals first | refine qT rfl rfl ?_ | refine q1 rfl rfl rfl ?_ | refine q0 rfl rfl rfl ?_ | refine qgP1 rfl rfl rfl (fun hg => ?_) (fun hg => ?_) | refine qgP0 rfl rfl rfl (fun hg => ?_) (fun hg => ?_)
                all_goals try simp only [s1, s2, s3, s4, s5, s6, s7, s8, s9, s10, s11, s12] at hg
                all_goals first | refine qQ (Q_len rfl rfl rfl rfl) rfl rfl ?_ | refine qQ (Q_len0 rfl rfl rfl rfl) rfl rfl ?_ | skip
                all_goals first | refine qT rfl rfl ?_ | refine q1 rfl rfl rfl ?_ | refine q0 rfl rfl rfl ?_ | refine qgP1 rfl rfl rfl (fun hg => ?_) (fun hg => ?_) | refine qgP0 rfl rfl rfl (fun hg => ?_) (fun hg => ?_)
                all_goals try simp only [s1, s2, s3, s4, s5, s6, s7, s8, s9, s10, s11, s12] at hg
                all_goals first | (refine qQ (v := .bool true) (Q_bin rfl rfl (by simp only [arith]; rw [h1T])) rfl rfl ?_) | skip
                all_goals first | refine qQ (Q_pick_t rfl (by with_reducible rfl) rfl rfl) rfl rfl ?_ | refine qQ (Q_pick_f rfl (by with_reducible rfl) rfl rfl) rfl rfl ?_
                all_goals first | (refine qM rfl rfl ?_)
                all_goals first | refine qT rfl rfl ?_ | refine q1 rfl rfl rfl ?_ | refine q0 rfl rfl rfl ?_ | refine qgP1 rfl rfl rfl (fun hg => ?_) (fun hg => ?_) | refine qgP0 rfl rfl rfl (fun hg => ?_) (fun hg => ?_)
                all_goals try simp only [s1, s2, s3, s4, s5, s6, s7, s8, s9, s10, s11, s12] at hg
                all_goals first | (refine qM rfl rfl ?_) | skip
                all_goals first | refine qT rfl rfl ?_ | refine q1 rfl rfl rfl ?_ | refine q0 rfl rfl rfl ?_ | refine qgP1 rfl rfl rfl (fun hg => ?_) (fun hg => ?_) | refine qgP0 rfl rfl rfl (fun hg => ?_) (fun hg => ?_)
                all_goals try simp only [s1, s2, s3, s4, s5, s6, s7, s8, s9, s10, s11, s12] at hg
                all_goals first | (refine qQ (Q_ixs0z 3 (j := 0) rfl rfl rfl rfl rfl rfl (by omega)) rfl rfl ?_) | skip
                all_goals first | refine qT rfl rfl ?_ | refine q1 rfl rfl rfl ?_ | refine q0 rfl rfl rfl ?_ | refine qgP1 rfl rfl rfl (fun hg => ?_) (fun hg => ?_) | refine qgP0 rfl rfl rfl (fun hg => ?_) (fun hg => ?_)
                all_goals try simp only [s1, s2, s3, s4, s5, s6, s7, s8, s9, s10, s11, s12] at hg
                all_goals first | (refine qQ (Q_lda (n := 3) rfl rfl rfl rfl rfl (by rw [List.length_append, hf3]; omega)) rfl rfl ?_; rw [flat_get hP3 (show 0 < PP.length by omega)]) | skip
                all_goals first | refine qT rfl rfl ?_ | refine q1 rfl rfl rfl ?_ | refine q0 rfl rfl rfl ?_ | refine qgP1 rfl rfl rfl (fun hg => ?_) (fun hg => ?_) | refine qgP0 rfl rfl rfl (fun hg => ?_) (fun hg => ?_)
                all_goals try simp only [s1, s2, s3, s4, s5, s6, s7, s8, s9, s10, s11, s12] at hg
                all_goals first | refine qQ (Lw rfl rfl rfl rfl) rfl rfl ?_ | refine qQ (La rfl rfl rfl rfl rfl) rfl rfl ?_ | skip
                all_goals first | refine qT rfl rfl ?_ | refine q1 rfl rfl rfl ?_ | refine q0 rfl rfl rfl ?_ | refine qgP1 rfl rfl rfl (fun hg => ?_) (fun hg => ?_) | refine qgP0 rfl rfl rfl (fun hg => ?_) (fun hg => ?_)
                all_goals try simp only [s1, s2, s3, s4, s5, s6, s7, s8, s9, s10, s11, s12] at hg
                all_goals first | (refine qQ (Q_arrb rfl rfl rfl rfl rfl rfl rfl rfl rfl h30 hal) rfl rfl ?_) | skip
                all_goals first | refine qQ (Q_pick_t rfl (by with_reducible rfl) rfl rfl) rfl rfl ?_ | refine qQ (Q_pick_f rfl (by with_reducible rfl) rfl rfl) rfl rfl ?_
                all_goals first | (refine qM rfl rfl ?_)
                all_goals first | refine qT rfl rfl ?_ | refine q1 rfl rfl rfl ?_ | refine q0 rfl rfl rfl ?_ | refine qgP1 rfl rfl rfl (fun hg => ?_) (fun hg => ?_) | refine qgP0 rfl rfl rfl (fun hg => ?_) (fun hg => ?_)
                all_goals try simp only [s1, s2, s3, s4, s5, s6, s7, s8, s9, s10, s11, s12] at hg
                all_goals first | (refine qM rfl rfl ?_) | skip
                all_goals first | refine qT rfl rfl ?_ | refine q1 rfl rfl rfl ?_ | refine q0 rfl rfl rfl ?_ | refine qgP1 rfl rfl rfl (fun hg => ?_) (fun hg => ?_) | refine qgP0 rfl rfl rfl (fun hg => ?_) (fun hg => ?_)
                all_goals try simp only [s1, s2, s3, s4, s5, s6, s7, s8, s9, s10, s11, s12] at hg
                all_goals first | ((exfalso; exact hpa hg)) | skip
                all_goals first | refine qT rfl rfl ?_ | refine q1 rfl rfl rfl ?_ | refine q0 rfl rfl rfl ?_ | refine qgP1 rfl rfl rfl (fun hg => ?_) (fun hg => ?_) | refine qgP0 rfl rfl rfl (fun hg => ?_) (fun hg => ?_)
                all_goals try simp only [s1, s2, s3, s4, s5, s6, s7, s8, s9, s10, s11, s12] at hg
                all_goals first | (refine qQ (Ld rfl rfl rfl rfl) rfl rfl ?_) | skip
                all_goals first | refine qT rfl rfl ?_ | refine q1 rfl rfl rfl ?_ | refine q0 rfl rfl rfl ?_ | refine qgP1 rfl rfl rfl (fun hg => ?_) (fun hg => ?_) | refine qgP0 rfl rfl rfl (fun hg => ?_) (fun hg => ?_)
                all_goals try simp only [s1, s2, s3, s4, s5, s6, s7, s8, s9, s10, s11, s12] at hg
                all_goals first | (refine qQ (Q_bin rfl rfl rfl) rfl rfl ?_) | skip
                all_goals first | refine qQ (Q_pick_t rfl (by with_reducible rfl) rfl rfl) rfl rfl ?_ | refine qQ (Q_pick_f rfl (by with_reducible rfl) rfl rfl) rfl rfl ?_
                all_goals first | (refine qA rfl rfl ?_)
                all_goals refine QW_nil ?_
                all_goals with_reducible refine tN ?_
                all_goals (
                 refine CW_ret ?_)))
          all_goals (
           refine exitQ (.inr rfl) 0 (.cons (.tmp rfl rfl) .nil) ?_ rfl vHn rfl rfl
           rfl)
      · have hbb : (decide (PP = [a]) && decide (CC = [3])) = false := by
          rw [decide_eq_false (fun x => h1P (by rw [x]; rfl)), Bool.false_and]
        have h1Q : ((PP.length : Int) == 1) = false := by rw [beq_eq_false_iff_ne]; omega
        rw [hbb]
        refine conW tab_ok [(0, .int (n : Int)), (1, .arr c), (2, .arr a)] 0 [] [] Tryd.func61 rfl rfl rfl rfl rfl rfl rfl rfl rfl ?_
        refine cR ?_
        iterate 2 refine oBox rfl rfl rfl rfl rfl rfl ?_
        refine oA rfl rfl ?_
        refine oN ?_
        refine CW_seq ?_
        refine cR ?_
        refine oM rfl rfl ?_
        first | refine oQ (Lw rfl rfl rfl rfl) rfl rfl ?_ | refine oQ (La rfl rfl rfl rfl rfl) rfl rfl ?_
        first | refine oQ (Lw rfl rfl rfl rfl) rfl rfl ?_ | refine oQ (La rfl rfl rfl rfl rfl) rfl rfl ?_
        refine oQ (Q_call0 (hon) rfl rfl rfl) rfl rfl ?_
        refine oQ (Q_not rfl) rfl rfl ?_
        refine oN ?_
        first | refine cT rfl ?_ | refine cF rfl ?_ | refine CW_cond rfl (fun hc => ?_) (fun hc => ?_)
        all_goals try simp only [s1, s2, s3, s4, s5, s6, s7, s8, s9, s10, s11, s12] at hc
        all_goals first
          | (
           refine CW_skip ?_)
          | (
           refine cR ?_
           refine oA rfl rfl ?_
           refine oN ?_
           refine CW_ret ?_)
        all_goals first
          | with_reducible refine tR ?_
          | with_reducible refine tE ?_
          | (
           with_reducible refine tN ?_
           refine cR ?_
           refine oM rfl rfl ?_
           first | refine oQ (Lw rfl rfl rfl rfl) rfl rfl ?_ | refine oQ (La rfl rfl rfl rfl rfl) rfl rfl ?_
           first | refine oQ (Lw rfl rfl rfl rfl) rfl rfl ?_ | refine oQ (La rfl rfl rfl rfl rfl) rfl rfl ?_
           refine oQ (Q_call0 (htan) rfl rfl rfl) rfl rfl ?_
           refine oM rfl rfl ?_
           iterate 2 refine oQ (Q_extract rfl rfl) rfl rfl ?_
           refine oAlloc rfl rfl rfl rfl rfl rfl rfl ?_
           first | refine oSw rfl rfl rfl rfl ?_ | refine oSa rfl rfl rfl rfl ?_
           refine oA rfl rfl ?_
           refine oN ?_
           refine CW_seq ?_
           refine cR ?_
           refine oM rfl rfl ?_
           refine oQ (Q_not rfl) rfl rfl ?_
           refine oN ?_
           first | refine cT rfl ?_ | refine cF rfl ?_ | refine CW_cond rfl (fun hc => ?_) (fun hc => ?_)
           all_goals try simp only [s1, s2, s3, s4, s5, s6, s7, s8, s9, s10, s11, s12] at hc
           all_goals first
             | (
              refine CW_skip ?_)
             | (
              refine cR ?_
              refine oA rfl rfl ?_
              refine oN ?_
              refine CW_ret ?_)
           all_goals first
             | with_reducible refine tR ?_
             | with_reducible refine tE ?_
             | (
              with_reducible refine tN ?_
              refine cR ?_
              refine oM rfl rfl ?_
              first | refine oQ (Lw rfl rfl rfl rfl) rfl rfl ?_ | refine oQ (La rfl rfl rfl rfl rfl) rfl rfl ?_
              first | refine oQ (Lw rfl rfl rfl rfl) rfl rfl ?_ | refine oQ (La rfl rfl rfl rfl rfl) rfl rfl ?_
              refine oCall (hm) [] 2 rfl rfl (Fits.mk' vHn rfl rfl (by first | (simp; done) | exact glOk rfl rfl rfl)) rfl rfl ?_
              rintro r H1 ⟨k, sp, k', sp', h1, h2, h3, h4, rfl, rfl⟩
              refine ⟨.tuple [.slice 3 0 PP.length k, .slice 4 0 PP.length k', .bool true], [(3, .ints 29 (PP.flatten ++ sp)), (4, .ints 2 (CC ++ sp'))], rfl, rfl, rfl, ?_⟩
              refine oM rfl rfl ?_
              iterate 3 refine oQ (Q_extract rfl rfl) rfl rfl ?_
              iterate 3 refine oA rfl rfl ?_
              refine oN ?_
              refine CW_seq ?_
              refine CW_draw lateOk (by decide +kernel) ?_
              iterate 2 refine qM rfl rfl ?_
              all_goals first | refine qT rfl rfl ?_ | refine q1 rfl rfl rfl ?_ | refine q0 rfl rfl rfl ?_ | refine qgP1 rfl rfl rfl (fun hg => ?_) (fun hg => ?_) | refine qgP0 rfl rfl rfl (fun hg => ?_) (fun hg => ?_)
              all_goals try simp only [s1, s2, s3, s4, s5, s6, s7, s8, s9, s10, s11, s12] at hg
              all_goals first | (refine qM rfl rfl ?_) | skip
              all_goals first | refine qT rfl rfl ?_ | refine q1 rfl rfl rfl ?_ | refine q0 rfl rfl rfl ?_ | refine qgP1 rfl rfl rfl (fun hg => ?_) (fun hg => ?_) | refine qgP0 rfl rfl rfl (fun hg => ?_) (fun hg => ?_)
              all_goals try simp only [s1, s2, s3, s4, s5, s6, s7, s8, s9, s10, s11, s12] at hg
              all_goals first | refine qQ (Q_len rfl rfl rfl rfl) rfl rfl ?_ | refine qQ (Q_len0 rfl rfl rfl rfl) rfl rfl ?_ | skip
              all_goals first | refine qT rfl rfl ?_ | refine q1 rfl rfl rfl ?_ | refine q0 rfl rfl rfl ?_ | refine qgP1 rfl rfl rfl (fun hg => ?_) (fun hg => ?_) | refine qgP0 rfl rfl rfl (fun hg => ?_) (fun hg => ?_)
              all_goals try simp only [s1, s2, s3, s4, s5, s6, s7, s8, s9, s10, s11, s12] at hg
              all_goals first | (refine qQ (v := .bool false) (Q_bin rfl rfl (by simp only [arith]; rw [h1Q])) rfl rfl ?_) | skip
              all_goals first | refine qQ (Q_pick_t rfl (by with_reducible rfl) rfl rfl) rfl rfl ?_ | refine qQ (Q_pick_f rfl (by with_reducible rfl) rfl rfl) rfl rfl ?_
              all_goals first | (refine qM rfl rfl ?_)
              all_goals first | refine qT rfl rfl ?_ | refine q1 rfl rfl rfl ?_ | refine q0 rfl rfl rfl ?_ | refine qgP1 rfl rfl rfl (fun hg => ?_) (fun hg => ?_) | refine qgP0 rfl rfl rfl (fun hg => ?_) (fun hg => ?_)
              all_goals try simp only [s1, s2, s3, s4, s5, s6, s7, s8, s9, s10, s11, s12] at hg
              all_goals first | (refine qM rfl rfl ?_) | skip
              all_goals first | refine qT rfl rfl ?_ | refine q1 rfl rfl rfl ?_ | refine q0 rfl rfl rfl ?_ | refine qgP1 rfl rfl rfl (fun hg => ?_) (fun hg => ?_) | refine qgP0 rfl rfl rfl (fun hg => ?_) (fun hg => ?_)
              all_goals try simp only [s1, s2, s3, s4, s5, s6, s7, s8, s9, s10, s11, s12] at hg
              all_goals first | refine qQ (Q_ixs0z 3 rfl rfl rfl rfl rfl rfl (by first | omega | (dsimp only; omega) | (simp; omega) | (simp; done))) rfl rfl ?_ | refine qQ (Q_ixsz 3 rfl rfl rfl rfl rfl rfl (by first | omega | (dsimp only; omega) | (simp; omega) | (simp; done))) rfl rfl ?_ | skip
              all_goals first | refine qT rfl rfl ?_ | refine q1 rfl rfl rfl ?_ | refine q0 rfl rfl rfl ?_ | refine qgP1 rfl rfl rfl (fun hg => ?_) (fun hg => ?_) | refine qgP0 rfl rfl rfl (fun hg => ?_) (fun hg => ?_)
              all_goals try simp only [s1, s2, s3, s4, s5, s6, s7, s8, s9, s10, s11, s12] at hg
              all_goals first | refine qQ (Lw rfl rfl rfl rfl) rfl rfl ?_ | refine qQ (La rfl rfl rfl rfl rfl) rfl rfl ?_ | skip
              all_goals first | refine qT rfl rfl ?_ | refine q1 rfl rfl rfl ?_ | refine q0 rfl rfl rfl ?_ | refine qgP1 rfl rfl rfl (fun hg => ?_) (fun hg => ?_) | refine qgP0 rfl rfl rfl (fun hg => ?_) (fun hg => ?_)
              all_goals try simp only [s1, s2, s3, s4, s5, s6, s7, s8, s9, s10, s11, s12] at hg
              all_goals first | refine qQ (Lw rfl rfl rfl rfl) rfl rfl ?_ | refine qQ (La rfl rfl rfl rfl rfl) rfl rfl ?_ | skip
              all_goals first | refine qT rfl rfl ?_ | refine q1 rfl rfl rfl ?_ | refine q0 rfl rfl rfl ?_ | refine qgP1 rfl rfl rfl (fun hg => ?_) (fun hg => ?_) | refine qgP0 rfl rfl rfl (fun hg => ?_) (fun hg => ?_)
              all_goals try simp only [s1, s2, s3, s4, s5, s6, s7, s8, s9, s10, s11, s12] at hg
              all_goals first | (refine qQ (Q_arrb rfl rfl rfl rfl rfl rfl rfl rfl rfl (by first | omega | (dsimp only; omega) | (simp; omega) | (simp; done)) (by first | omega | (dsimp only; omega) | (simp; omega) | (simp; done))) rfl rfl ?_) | skip
              all_goals first | refine qQ (Q_pick_t rfl (by with_reducible rfl) rfl rfl) rfl rfl ?_ | refine qQ (Q_pick_f rfl (by with_reducible rfl) rfl rfl) rfl rfl ?_
              all_goals first | (refine qM rfl rfl ?_)
              all_goals first | refine qT rfl rfl ?_ | refine q1 rfl rfl rfl ?_ | refine q0 rfl rfl rfl ?_ | refine qgP1 rfl rfl rfl (fun hg => ?_) (fun hg => ?_) | refine qgP0 rfl rfl rfl (fun hg => ?_) (fun hg => ?_)
              all_goals try simp only [s1, s2, s3, s4, s5, s6, s7, s8, s9, s10, s11, s12] at hg
              all_goals first | (refine qM rfl rfl ?_) | skip
              all_goals first | refine qT rfl rfl ?_ | refine q1 rfl rfl rfl ?_ | refine q0 rfl rfl rfl ?_ | refine qgP1 rfl rfl rfl (fun hg => ?_) (fun hg => ?_) | refine qgP0 rfl rfl rfl (fun hg => ?_) (fun hg => ?_)
              all_goals try simp only [s1, s2, s3, s4, s5, s6, s7, s8, s9, s10, s11, s12] at hg
              all_goals first | refine qQ (Is0 rfl rfl rfl rfl rfl rfl) rfl rfl ?_ | refine qQ (Is1 rfl rfl rfl rfl rfl rfl) rfl rfl ?_ | skip
              all_goals first | refine qT rfl rfl ?_ | refine q1 rfl rfl rfl ?_ | refine q0 rfl rfl rfl ?_ | refine qgP1 rfl rfl rfl (fun hg => ?_) (fun hg => ?_) | refine qgP0 rfl rfl rfl (fun hg => ?_) (fun hg => ?_)
              all_goals try simp only [s1, s2, s3, s4, s5, s6, s7, s8, s9, s10, s11, s12] at hg
              all_goals first | (refine qQ (Ld rfl rfl rfl rfl) rfl rfl ?_) | skip
              all_goals first | refine qT rfl rfl ?_ | refine q1 rfl rfl rfl ?_ | refine q0 rfl rfl rfl ?_ | refine qgP1 rfl rfl rfl (fun hg => ?_) (fun hg => ?_) | refine qgP0 rfl rfl rfl (fun hg => ?_) (fun hg => ?_)
              all_goals try simp only [s1, s2, s3, s4, s5, s6, s7, s8, s9, s10, s11, s12] at hg
              all_goals first | (refine qQ (Q_bin rfl rfl rfl) rfl rfl ?_) | skip
              all_goals first | refine qQ (Q_pick_t rfl (by with_reducible rfl) rfl rfl) rfl rfl ?_ | refine qQ (Q_pick_f rfl (by with_reducible rfl) rfl rfl) rfl rfl ?_
              all_goals first | (refine qA rfl rfl ?_)
              all_goals refine QW_nil ?_
              all_goals with_reducible refine tN ?_
              all_goals (
               refine CW_ret ?_)))
        all_goals (
         refine exitQ (.inr rfl) 0 (.cons (.tmp rfl rfl) .nil) ?_ rfl vHn rfl rfl
         rfl)
  · have hfl : flB (n : Int) c a = false := by
      have hk' : okT (n : Int) c a = false := by simpa using hk
      simp [flB, hk']
    have hk2 : ∀ h1 : (facP (n : Int) (slL (n : Int) c a) != 0) = true, cuG (n : Int) c a = true → False := fun h1 h2 => hk (by simp only [okT, h1, h2]; rfl)
    rw [hfl]
    generalize (facP (n : Int) (slL (n : Int) c a) != 0) = b1 at *
    generalize cuG (n : Int) c a = b2 at *
    cases b1 with
    | false =>
      refine conW tab_ok [(0, .int (n : Int)), (1, .arr c), (2, .arr a)] 0 [] [] Tryd.func61 rfl rfl rfl rfl rfl rfl rfl rfl rfl ?_
      refine cR ?_
      iterate 2 refine oBox rfl rfl rfl rfl rfl rfl ?_
      refine oA rfl rfl ?_
      refine oN ?_
      refine CW_seq ?_
      refine cR ?_
      refine oM rfl rfl ?_
      first | refine oQ (Lw rfl rfl rfl rfl) rfl rfl ?_ | refine oQ (La rfl rfl rfl rfl rfl) rfl rfl ?_
      first | refine oQ (Lw rfl rfl rfl rfl) rfl rfl ?_ | refine oQ (La rfl rfl rfl rfl rfl) rfl rfl ?_
      refine oQ (Q_call0 (hon) rfl rfl rfl) rfl rfl ?_
      refine oQ (Q_not rfl) rfl rfl ?_
      refine oN ?_
      first | refine cT rfl ?_ | refine cF rfl ?_ | refine CW_cond rfl (fun hc => ?_) (fun hc => ?_)
      all_goals try simp only [s1, s2, s3, s4, s5, s6, s7, s8, s9, s10, s11, s12] at hc
      all_goals try (exfalso; first | (simp at hc; done) | cases hc; done)
      all_goals first
        | (
         refine CW_skip ?_)
        | (
         refine cR ?_
         refine oA rfl rfl ?_
         refine oN ?_
         refine CW_ret ?_)
      all_goals first
        | with_reducible refine tR ?_
        | with_reducible refine tE ?_
        | (
         with_reducible refine tN ?_
         refine cR ?_
         refine oM rfl rfl ?_
         first | refine oQ (Lw rfl rfl rfl rfl) rfl rfl ?_ | refine oQ (La rfl rfl rfl rfl rfl) rfl rfl ?_
         first | refine oQ (Lw rfl rfl rfl rfl) rfl rfl ?_ | refine oQ (La rfl rfl rfl rfl rfl) rfl rfl ?_
         refine oQ (Q_call0 (htan) rfl rfl rfl) rfl rfl ?_
         refine oM rfl rfl ?_
         iterate 2 refine oQ (Q_extract rfl rfl) rfl rfl ?_
         refine oAlloc rfl rfl rfl rfl rfl rfl rfl ?_
         first | refine oSw rfl rfl rfl rfl ?_ | refine oSa rfl rfl rfl rfl ?_
         refine oA rfl rfl ?_
         refine oN ?_
         refine CW_seq ?_
         refine cR ?_
         refine oM rfl rfl ?_
         refine oQ (Q_not rfl) rfl rfl ?_
         refine oN ?_
         first | refine cT rfl ?_ | refine cF rfl ?_ | refine CW_cond rfl (fun hc => ?_) (fun hc => ?_)
         all_goals try simp only [s1, s2, s3, s4, s5, s6, s7, s8, s9, s10, s11, s12] at hc
         all_goals try (exfalso; first | (simp at hc; done) | cases hc; done)
         all_goals first
           | (
            refine CW_skip ?_)
           | (
            refine cR ?_
            refine oA rfl rfl ?_
            refine oN ?_
            refine CW_ret ?_)
         all_goals first
           | with_reducible refine tR ?_
           | with_reducible refine tE ?_
           | (
            with_reducible refine tN ?_
            refine cR ?_
            refine oM rfl rfl ?_
            first | refine oQ (Lw rfl rfl rfl rfl) rfl rfl ?_ | refine oQ (La rfl rfl rfl rfl rfl) rfl rfl ?_
            first | refine oQ (Lw rfl rfl rfl rfl) rfl rfl ?_ | refine oQ (La rfl rfl rfl rfl rfl) rfl rfl ?_
            (exfalso; simp at hc; done)
            refine oM rfl rfl ?_
            iterate 3 refine oQ (Q_extract rfl rfl) rfl rfl ?_
            iterate 3 refine oA rfl rfl ?_
            refine oN ?_
            refine CW_seq ?_
            refine CW_draw lateOk (by decide +kernel) ?_
            iterate 2 refine qM rfl rfl ?_
            all_goals first | refine qT rfl rfl ?_ | refine q1 rfl rfl rfl ?_ | refine q0 rfl rfl rfl ?_ | refine qgP1 rfl rfl rfl (fun hg => ?_) (fun hg => ?_) | refine qgP0 rfl rfl rfl (fun hg => ?_) (fun hg => ?_)
            all_goals try simp only [s1, s2, s3, s4, s5, s6, s7, s8, s9, s10, s11, s12] at hg
            all_goals first | (refine qM rfl rfl ?_) | skip
            all_goals first | refine qT rfl rfl ?_ | refine q1 rfl rfl rfl ?_ | refine q0 rfl rfl rfl ?_ | refine qgP1 rfl rfl rfl (fun hg => ?_) (fun hg => ?_) | refine qgP0 rfl rfl rfl (fun hg => ?_) (fun hg => ?_)
            all_goals try simp only [s1, s2, s3, s4, s5, s6, s7, s8, s9, s10, s11, s12] at hg
            all_goals first | refine qQ (Q_len rfl rfl rfl rfl) rfl rfl ?_ | refine qQ (Q_len0 rfl rfl rfl rfl) rfl rfl ?_ | skip
            all_goals first | refine qT rfl rfl ?_ | refine q1 rfl rfl rfl ?_ | refine q0 rfl rfl rfl ?_ | refine qgP1 rfl rfl rfl (fun hg => ?_) (fun hg => ?_) | refine qgP0 rfl rfl rfl (fun hg => ?_) (fun hg => ?_)
            all_goals try simp only [s1, s2, s3, s4, s5, s6, s7, s8, s9, s10, s11, s12] at hg
            all_goals first | (refine qQ (Q_bin rfl rfl rfl) rfl rfl ?_) | skip
            all_goals first | refine qQ (Q_pick_t rfl (by with_reducible rfl) rfl rfl) rfl rfl ?_ | refine qQ (Q_pick_f rfl (by with_reducible rfl) rfl rfl) rfl rfl ?_
            all_goals first | (refine qM rfl rfl ?_)
            all_goals first | refine qT rfl rfl ?_ | refine q1 rfl rfl rfl ?_ | refine q0 rfl rfl rfl ?_ | refine qgP1 rfl rfl rfl (fun hg => ?_) (fun hg => ?_) | refine qgP0 rfl rfl rfl (fun hg => ?_) (fun hg => ?_)
            all_goals try simp only [s1, s2, s3, s4, s5, s6, s7, s8, s9, s10, s11, s12] at hg
            all_goals first | (refine qM rfl rfl ?_) | skip
            all_goals first | refine qT rfl rfl ?_ | refine q1 rfl rfl rfl ?_ | refine q0 rfl rfl rfl ?_ | refine qgP1 rfl rfl rfl (fun hg => ?_) (fun hg => ?_) | refine qgP0 rfl rfl rfl (fun hg => ?_) (fun hg => ?_)
            all_goals try simp only [s1, s2, s3, s4, s5, s6, s7, s8, s9, s10, s11, s12] at hg
            all_goals first | refine qQ (Q_ixs0z 3 rfl rfl rfl rfl rfl rfl (by first | omega | (dsimp only; omega) | (simp; omega) | (simp; done))) rfl rfl ?_ | refine qQ (Q_ixsz 3 rfl rfl rfl rfl rfl rfl (by first | omega | (dsimp only; omega) | (simp; omega) | (simp; done))) rfl rfl ?_ | skip
            all_goals first | refine qT rfl rfl ?_ | refine q1 rfl rfl rfl ?_ | refine q0 rfl rfl rfl ?_ | refine qgP1 rfl rfl rfl (fun hg => ?_) (fun hg => ?_) | refine qgP0 rfl rfl rfl (fun hg => ?_) (fun hg => ?_)
            all_goals try simp only [s1, s2, s3, s4, s5, s6, s7, s8, s9, s10, s11, s12] at hg
            all_goals first | refine qQ (Lw rfl rfl rfl rfl) rfl rfl ?_ | refine qQ (La rfl rfl rfl rfl rfl) rfl rfl ?_ | skip
            all_goals first | refine qT rfl rfl ?_ | refine q1 rfl rfl rfl ?_ | refine q0 rfl rfl rfl ?_ | refine qgP1 rfl rfl rfl (fun hg => ?_) (fun hg => ?_) | refine qgP0 rfl rfl rfl (fun hg => ?_) (fun hg => ?_)
            all_goals try simp only [s1, s2, s3, s4, s5, s6, s7, s8, s9, s10, s11, s12] at hg
            all_goals first | refine qQ (Lw rfl rfl rfl rfl) rfl rfl ?_ | refine qQ (La rfl rfl rfl rfl rfl) rfl rfl ?_ | skip
            all_goals first | refine qT rfl rfl ?_ | refine q1 rfl rfl rfl ?_ | refine q0 rfl rfl rfl ?_ | refine qgP1 rfl rfl rfl (fun hg => ?_) (fun hg => ?_) | refine qgP0 rfl rfl rfl (fun hg => ?_) (fun hg => ?_)
            all_goals try simp only [s1, s2, s3, s4, s5, s6, s7, s8, s9, s10, s11, s12] at hg
            all_goals first | (refine qQ (Q_arrb rfl rfl rfl rfl rfl rfl rfl rfl rfl (by first | omega | (dsimp only; omega) | (simp; omega) | (simp; done)) (by first | omega | (dsimp only; omega) | (simp; omega) | (simp; done))) rfl rfl ?_) | skip
            all_goals first | refine qQ (Q_pick_t rfl (by with_reducible rfl) rfl rfl) rfl rfl ?_ | refine qQ (Q_pick_f rfl (by with_reducible rfl) rfl rfl) rfl rfl ?_
            all_goals first | (refine qM rfl rfl ?_)
            all_goals first | refine qT rfl rfl ?_ | refine q1 rfl rfl rfl ?_ | refine q0 rfl rfl rfl ?_ | refine qgP1 rfl rfl rfl (fun hg => ?_) (fun hg => ?_) | refine qgP0 rfl rfl rfl (fun hg => ?_) (fun hg => ?_)
            all_goals try simp only [s1, s2, s3, s4, s5, s6, s7, s8, s9, s10, s11, s12] at hg
            all_goals first | (refine qM rfl rfl ?_) | skip
            all_goals first | refine qT rfl rfl ?_ | refine q1 rfl rfl rfl ?_ | refine q0 rfl rfl rfl ?_ | refine qgP1 rfl rfl rfl (fun hg => ?_) (fun hg => ?_) | refine qgP0 rfl rfl rfl (fun hg => ?_) (fun hg => ?_)
            all_goals try simp only [s1, s2, s3, s4, s5, s6, s7, s8, s9, s10, s11, s12] at hg
            all_goals first | refine qQ (Is0 rfl rfl rfl rfl rfl rfl) rfl rfl ?_ | refine qQ (Is1 rfl rfl rfl rfl rfl rfl) rfl rfl ?_ | skip
            all_goals first | refine qT rfl rfl ?_ | refine q1 rfl rfl rfl ?_ | refine q0 rfl rfl rfl ?_ | refine qgP1 rfl rfl rfl (fun hg => ?_) (fun hg => ?_) | refine qgP0 rfl rfl rfl (fun hg => ?_) (fun hg => ?_)
            all_goals try simp only [s1, s2, s3, s4, s5, s6, s7, s8, s9, s10, s11, s12] at hg
            all_goals first | (refine qQ (Ld rfl rfl rfl rfl) rfl rfl ?_) | skip
            all_goals first | refine qT rfl rfl ?_ | refine q1 rfl rfl rfl ?_ | refine q0 rfl rfl rfl ?_ | refine qgP1 rfl rfl rfl (fun hg => ?_) (fun hg => ?_) | refine qgP0 rfl rfl rfl (fun hg => ?_) (fun hg => ?_)
            all_goals try simp only [s1, s2, s3, s4, s5, s6, s7, s8, s9, s10, s11, s12] at hg
            all_goals first | (refine qQ (Q_bin rfl rfl rfl) rfl rfl ?_) | skip
            all_goals first | refine qQ (Q_pick_t rfl (by with_reducible rfl) rfl rfl) rfl rfl ?_ | refine qQ (Q_pick_f rfl (by with_reducible rfl) rfl rfl) rfl rfl ?_
            all_goals first | (refine qA rfl rfl ?_)
            all_goals refine QW_nil ?_
            all_goals with_reducible refine tN ?_
            all_goals (
             refine CW_ret ?_)))
      all_goals (
       ((refine exitQ (.inr rfl) 0 (.cons (.tmp rfl rfl) .nil) ?_ rfl vHn rfl rfl); rfl))
    | true =>
      have hb2 : b2 = false := by
        cases b2 with
        | false => rfl
        | true => exact (hk2 rfl rfl).elim
      rw [hb2] at hon
      refine conW tab_ok [(0, .int (n : Int)), (1, .arr c), (2, .arr a)] 0 [] [] Tryd.func61 rfl rfl rfl rfl rfl rfl rfl rfl rfl ?_
      refine cR ?_
      iterate 2 refine oBox rfl rfl rfl rfl rfl rfl ?_
      refine oA rfl rfl ?_
      refine oN ?_
      refine CW_seq ?_
      refine cR ?_
      refine oM rfl rfl ?_
      first | refine oQ (Lw rfl rfl rfl rfl) rfl rfl ?_ | refine oQ (La rfl rfl rfl rfl rfl) rfl rfl ?_
      first | refine oQ (Lw rfl rfl rfl rfl) rfl rfl ?_ | refine oQ (La rfl rfl rfl rfl rfl) rfl rfl ?_
      refine oQ (Q_call0 (hon) rfl rfl rfl) rfl rfl ?_
      refine oQ (Q_not rfl) rfl rfl ?_
      refine oN ?_
      first | refine cT rfl ?_ | refine cF rfl ?_ | refine CW_cond rfl (fun hc => ?_) (fun hc => ?_)
      all_goals try simp only [s1, s2, s3, s4, s5, s6, s7, s8, s9, s10, s11, s12] at hc
      all_goals try (exfalso; first | (simp at hc; done) | cases hc; done)
      all_goals first
        | (
         refine CW_skip ?_)
        | (
         refine cR ?_
         refine oA rfl rfl ?_
         refine oN ?_
         refine CW_ret ?_)
      all_goals first
        | with_reducible refine tR ?_
        | with_reducible refine tE ?_
        | (
         with_reducible refine tN ?_
         refine cR ?_
         refine oM rfl rfl ?_
         first | refine oQ (Lw rfl rfl rfl rfl) rfl rfl ?_ | refine oQ (La rfl rfl rfl rfl rfl) rfl rfl ?_
         first | refine oQ (Lw rfl rfl rfl rfl) rfl rfl ?_ | refine oQ (La rfl rfl rfl rfl rfl) rfl rfl ?_
         refine oQ (Q_call0 (htan) rfl rfl rfl) rfl rfl ?_
         refine oM rfl rfl ?_
         iterate 2 refine oQ (Q_extract rfl rfl) rfl rfl ?_
         refine oAlloc rfl rfl rfl rfl rfl rfl rfl ?_
         first | refine oSw rfl rfl rfl rfl ?_ | refine oSa rfl rfl rfl rfl ?_
         refine oA rfl rfl ?_
         refine oN ?_
         refine CW_seq ?_
         refine cR ?_
         refine oM rfl rfl ?_
         refine oQ (Q_not rfl) rfl rfl ?_
         refine oN ?_
         first | refine cT rfl ?_ | refine cF rfl ?_ | refine CW_cond rfl (fun hc => ?_) (fun hc => ?_)
         all_goals try simp only [s1, s2, s3, s4, s5, s6, s7, s8, s9, s10, s11, s12] at hc
         all_goals try (exfalso; first | (simp at hc; done) | cases hc; done)
         all_goals first
           | (
            refine CW_skip ?_)
           | (
            refine cR ?_
            refine oA rfl rfl ?_
            refine oN ?_
            refine CW_ret ?_)
         all_goals first
           | with_reducible refine tR ?_
           | with_reducible refine tE ?_
           | (
            with_reducible refine tN ?_
            refine cR ?_
            refine oM rfl rfl ?_
            first | refine oQ (Lw rfl rfl rfl rfl) rfl rfl ?_ | refine oQ (La rfl rfl rfl rfl rfl) rfl rfl ?_
            first | refine oQ (Lw rfl rfl rfl rfl) rfl rfl ?_ | refine oQ (La rfl rfl rfl rfl rfl) rfl rfl ?_
            (exfalso; simp at hc; done)
            refine oM rfl rfl ?_
            iterate 3 refine oQ (Q_extract rfl rfl) rfl rfl ?_
            iterate 3 refine oA rfl rfl ?_
            refine oN ?_
            refine CW_seq ?_
            refine CW_draw lateOk (by decide +kernel) ?_
            iterate 2 refine qM rfl rfl ?_
            all_goals first | refine qT rfl rfl ?_ | refine q1 rfl rfl rfl ?_ | refine q0 rfl rfl rfl ?_ | refine qgP1 rfl rfl rfl (fun hg => ?_) (fun hg => ?_) | refine qgP0 rfl rfl rfl (fun hg => ?_) (fun hg => ?_)
            all_goals try simp only [s1, s2, s3, s4, s5, s6, s7, s8, s9, s10, s11, s12] at hg
            all_goals first | (refine qM rfl rfl ?_) | skip
            all_goals first | refine qT rfl rfl ?_ | refine q1 rfl rfl rfl ?_ | refine q0 rfl rfl rfl ?_ | refine qgP1 rfl rfl rfl (fun hg => ?_) (fun hg => ?_) | refine qgP0 rfl rfl rfl (fun hg => ?_) (fun hg => ?_)
            all_goals try simp only [s1, s2, s3, s4, s5, s6, s7, s8, s9, s10, s11, s12] at hg
            all_goals first | refine qQ (Q_len rfl rfl rfl rfl) rfl rfl ?_ | refine qQ (Q_len0 rfl rfl rfl rfl) rfl rfl ?_ | skip
            all_goals first | refine qT rfl rfl ?_ | refine q1 rfl rfl rfl ?_ | refine q0 rfl rfl rfl ?_ | refine qgP1 rfl rfl rfl (fun hg => ?_) (fun hg => ?_) | refine qgP0 rfl rfl rfl (fun hg => ?_) (fun hg => ?_)
            all_goals try simp only [s1, s2, s3, s4, s5, s6, s7, s8, s9, s10, s11, s12] at hg
            all_goals first | (refine qQ (Q_bin rfl rfl rfl) rfl rfl ?_) | skip
            all_goals first | refine qQ (Q_pick_t rfl (by with_reducible rfl) rfl rfl) rfl rfl ?_ | refine qQ (Q_pick_f rfl (by with_reducible rfl) rfl rfl) rfl rfl ?_
            all_goals first | (refine qM rfl rfl ?_)
            all_goals first | refine qT rfl rfl ?_ | refine q1 rfl rfl rfl ?_ | refine q0 rfl rfl rfl ?_ | refine qgP1 rfl rfl rfl (fun hg => ?_) (fun hg => ?_) | refine qgP0 rfl rfl rfl (fun hg => ?_) (fun hg => ?_)
            all_goals try simp only [s1, s2, s3, s4, s5, s6, s7, s8, s9, s10, s11, s12] at hg
            all_goals first | (refine qM rfl rfl ?_) | skip
            all_goals first | refine qT rfl rfl ?_ | refine q1 rfl rfl rfl ?_ | refine q0 rfl rfl rfl ?_ | refine qgP1 rfl rfl rfl (fun hg => ?_) (fun hg => ?_) | refine qgP0 rfl rfl rfl (fun hg => ?_) (fun hg => ?_)
            all_goals try simp only [s1, s2, s3, s4, s5, s6, s7, s8, s9, s10, s11, s12] at hg
            all_goals first | refine qQ (Q_ixs0z 3 rfl rfl rfl rfl rfl rfl (by first | omega | (dsimp only; omega) | (simp; omega) | (simp; done))) rfl rfl ?_ | refine qQ (Q_ixsz 3 rfl rfl rfl rfl rfl rfl (by first | omega | (dsimp only; omega) | (simp; omega) | (simp; done))) rfl rfl ?_ | skip
            all_goals first | refine qT rfl rfl ?_ | refine q1 rfl rfl rfl ?_ | refine q0 rfl rfl rfl ?_ | refine qgP1 rfl rfl rfl (fun hg => ?_) (fun hg => ?_) | refine qgP0 rfl rfl rfl (fun hg => ?_) (fun hg => ?_)
            all_goals try simp only [s1, s2, s3, s4, s5, s6, s7, s8, s9, s10, s11, s12] at hg
            all_goals first | refine qQ (Lw rfl rfl rfl rfl) rfl rfl ?_ | refine qQ (La rfl rfl rfl rfl rfl) rfl rfl ?_ | skip
            all_goals first | refine qT rfl rfl ?_ | refine q1 rfl rfl rfl ?_ | refine q0 rfl rfl rfl ?_ | refine qgP1 rfl rfl rfl (fun hg => ?_) (fun hg => ?_) | refine qgP0 rfl rfl rfl (fun hg => ?_) (fun hg => ?_)
            all_goals try simp only [s1, s2, s3, s4, s5, s6, s7, s8, s9, s10, s11, s12] at hg
            all_goals first | refine qQ (Lw rfl rfl rfl rfl) rfl rfl ?_ | refine qQ (La rfl rfl rfl rfl rfl) rfl rfl ?_ | skip
            all_goals first | refine qT rfl rfl ?_ | refine q1 rfl rfl rfl ?_ | refine q0 rfl rfl rfl ?_ | refine qgP1 rfl rfl rfl (fun hg => ?_) (fun hg => ?_) | refine qgP0 rfl rfl rfl (fun hg => ?_) (fun hg => ?_)
            all_goals try simp only [s1, s2, s3, s4, s5, s6, s7, s8, s9, s10, s11, s12] at hg
            all_goals first | (refine qQ (Q_arrb rfl rfl rfl rfl rfl rfl rfl rfl rfl (by first | omega | (dsimp only; omega) | (simp; omega) | (simp; done)) (by first | omega | (dsimp only; omega) | (simp; omega) | (simp; done))) rfl rfl ?_) | skip
            all_goals first | refine qQ (Q_pick_t rfl (by with_reducible rfl) rfl rfl) rfl rfl ?_ | refine qQ (Q_pick_f rfl (by with_reducible rfl) rfl rfl) rfl rfl ?_
            all_goals first | (refine qM rfl rfl ?_)
            all_goals first | refine qT rfl rfl ?_ | refine q1 rfl rfl rfl ?_ | refine q0 rfl rfl rfl ?_ | refine qgP1 rfl rfl rfl (fun hg => ?_) (fun hg => ?_) | refine qgP0 rfl rfl rfl (fun hg => ?_) (fun hg => ?_)
            all_goals try simp only [s1, s2, s3, s4, s5, s6, s7, s8, s9, s10, s11, s12] at hg
            all_goals first | (refine qM rfl rfl ?_) | skip
            all_goals first | refine qT rfl rfl ?_ | refine q1 rfl rfl rfl ?_ | refine q0 rfl rfl rfl ?_ | refine qgP1 rfl rfl rfl (fun hg => ?_) (fun hg => ?_) | refine qgP0 rfl rfl rfl (fun hg => ?_) (fun hg => ?_)
            all_goals try simp only [s1, s2, s3, s4, s5, s6, s7, s8, s9, s10, s11, s12] at hg
            all_goals first | refine qQ (Is0 rfl rfl rfl rfl rfl rfl) rfl rfl ?_ | refine qQ (Is1 rfl rfl rfl rfl rfl rfl) rfl rfl ?_ | skip
            all_goals first | refine qT rfl rfl ?_ | refine q1 rfl rfl rfl ?_ | refine q0 rfl rfl rfl ?_ | refine qgP1 rfl rfl rfl (fun hg => ?_) (fun hg => ?_) | refine qgP0 rfl rfl rfl (fun hg => ?_) (fun hg => ?_)
            all_goals try simp only [s1, s2, s3, s4, s5, s6, s7, s8, s9, s10, s11, s12] at hg
            all_goals first | (refine qQ (Ld rfl rfl rfl rfl) rfl rfl ?_) | skip
            all_goals first | refine qT rfl rfl ?_ | refine q1 rfl rfl rfl ?_ | refine q0 rfl rfl rfl ?_ | refine qgP1 rfl rfl rfl (fun hg => ?_) (fun hg => ?_) | refine qgP0 rfl rfl rfl (fun hg => ?_) (fun hg => ?_)
            all_goals try simp only [s1, s2, s3, s4, s5, s6, s7, s8, s9, s10, s11, s12] at hg
            all_goals first | (refine qQ (Q_bin rfl rfl rfl) rfl rfl ?_) | skip
            all_goals first | refine qQ (Q_pick_t rfl (by with_reducible rfl) rfl rfl) rfl rfl ?_ | refine qQ (Q_pick_f rfl (by with_reducible rfl) rfl rfl) rfl rfl ?_
            all_goals first | (refine qA rfl rfl ?_)
            all_goals refine QW_nil ?_
            all_goals with_reducible refine tN ?_
            all_goals (
             refine CW_ret ?_)))
      all_goals (
       ((refine exitQ (.inr rfl) 0 (.cons (.tmp rfl rfl) .nil) ?_ rfl vHn rfl rfl); rfl))
end Go.Proofs.YtcklfkblhmlbbaaDoor
namespace Go.Proofs.YtcklfkblhmlbbaaDoor
set_option maxRecDepth 10000
set_option linter.unusedSimpArgs false
set_option linter.unusedVariables false
attribute [local irreducible] CW OW QW QOp Con thenP inBlockP AW QX RW AX
theorem isFlex_con (p : Int) (c a : List Int) (hp : primeB p = true) (hcl : c.length = 10) (qc : smN 12 c) (ha : a ∈ allPts p) : ConQ Tryd.prog [(0, 2000)] 63 [.arr c, .int p, .arr a] [(2000, .ro 0 cuT)] (.bool (flB p c a)) := by
  obtain ⟨n, rfl⟩ := toN hp
  exact isFlexN_con n c a hp hcl qc ha
theorem l06Flex_con (p : Int) (c a : List Int) (hp : primeB p = true) (hcl : c.length = 10) (qc : smN 12 c) (ha : a ∈ allPts p) : ConQ Tryd.prog [] 61 [.int p, .arr c, .arr a] [] (.bool (flB p c a)) := by
  obtain ⟨n, rfl⟩ := toN hp
  exact l06FlexN_con n c a hp hcl qc ha
theorem mult_con (p : Int) (c a : List Int) (hp : primeB p = true) (hcl : c.length = 10) (qc : smN 12 c) (ha : a ∈ allPts p) (hz : meB p c a = false) : Con Tryd.prog [(0, 2000)] 60 [.arr c, .int p, .arr a] [(2000, .ro 0 cuT)] (fun r H' => meR [(2000, .ro 0 cuT)] 29 2 (mePts p c a) (meCts p c a) r H') := by
  obtain ⟨n, rfl⟩ := toN hp
  exact multN_con n c a hp hcl qc ha hz
theorem multZ (p : Int) (c a : List Int) (hp : primeB p = true) (hcl : c.length = 10) (qc : smN 12 c) (ha : a ∈ allPts p) (hz : meB p c a = true) : ConQ Tryd.prog [(0, 2000)] 60 [.arr c, .int p, .arr a] [(2000, .ro 0 cuT)] (.tuple [.nilsl, .nilsl, .bool false]) := by
  obtain ⟨n, rfl⟩ := toN hp
  exact multZ_con n c a hp hcl qc ha hz
theorem meet_con6 (p : Int) (c a : List Int) (hp : primeB p = true) (hcl : c.length = 10) (qc : smN 12 c) (ha : a ∈ allPts p) (hz : meB p c a = false) : Con Tryd.prog [] 58 [.int p, .arr c, .arr a] [] (fun r H' => meR [] 29 2 (mePts p c a) (meCts p c a) r H') := by
  obtain ⟨n, rfl⟩ := toN hp
  exact l06MeetN_con n c a hp hcl qc ha hz
theorem meetZ6 (p : Int) (c a : List Int) (hp : primeB p = true) (hcl : c.length = 10) (qc : smN 12 c) (ha : a ∈ allPts p) (hz : meB p c a = true) : ConQ Tryd.prog [] 58 [.int p, .arr c, .arr a] [] (.tuple [.nilsl, .nilsl, .bool false]) := by
  obtain ⟨n, rfl⟩ := toN hp
  exact l06MeetZ_con n c a hp hcl qc ha hz
end Go.Proofs.YtcklfkblhmlbbaaDoor
namespace Go.Proofs.YtcklfkblhmlbbaaDoor
set_option maxRecDepth 10000
set_option linter.unusedSimpArgs false
set_option linter.unusedVariables false
attribute [local irreducible] CW OW QW QOp Con thenP inBlockP AW QX RW AX
theorem third_con (p : Int) (c a b : List Int) (hp : primeB p = true) (hcl : c.length = 10) (qc : smN 12 c) (ha : a ∈ allPts p) (hb : b ∈ allPts p) : ConQ Tryd.prog [(0, 2000)] 65 [.arr c, .int p, .arr a, .arr b] [(2000, .ro 0 cuT)] (.tuple [.arr (thV p c a b), .bool (thK p c a b)]) := by
  have hal := allPts_three ha
  have hbl := allPts_three hb
  have hpb := prime_bd hp
  have htal : (tgL p c a).length = 3 := by unfold tgL; rw [normL_length]; rfl
  have htbl : (tgL p c b).length = 3 := by unfold tgL; rw [normL_length]; rfl
  have hcrl := crN_len p a b
  have hO : thO p c a b = if okT p c a = true ∧ okT p c b = true ∧ meB p c (thL p c a b) = false then (thF a b (mePts p c (thL p c a b)) (meCts p c (thL p c a b))).map fun i => (mePts p c (thL p c a b)).getD i [] else none := rfl
  have hta := tangent_con p c a hp hcl hal qc (allPts_smN hp ha)
  change ConQ _ _ _ _ _ (.tuple [.arr (tgL p c a), .bool (okT p c a)]) at hta
  have htb := tangent_con p c b hp hcl hbl qc (allPts_smN hp hb)
  change ConQ _ _ _ _ _ (.tuple [.arr (tgL p c b), .bool (okT p c b)]) at htb
  by_cases hk : okT p c a = true ∧ okT p c b = true
  · obtain ⟨hka, hkb⟩ := hk
    rw [hka] at hta
    rw [hkb] at htb
    cases hz : meB p c (thL p c a b) with
    | false =>
      have htm := thL_mem hp ha hb hka
      have htl := allPts_three htm
      have hm := mult_con p c (thL p c a b) hp hcl qc htm hz
      have h3 : ∀ x ∈ mePts p c (thL p c a b), x.length = 3 := fun x hx => allPts_three (me_mem hx)
      have hf3 := flat3 h3
      have hcl2 := me_len p c (thL p c a b)
      have hbd := fun (i : Nat) (hi : i < (mePts p c (thL p c a b)).length) => me_bd (p := p) (c := c) (l := thL p c a b) hi
      have hln : (mePts p c (thL p c a b)).length ≤ 1000000000 := by
        have h1 := mPts_len p c (lnV p (thL p c a b)) (lnV p (thL p c a b)).length
        have h2 := lnV_len hp htm
        unfold mePts
        omega
      rw [if_pos ⟨hka, hkb, hz⟩] at hO
      generalize mePts p c (thL p c a b) = PP at *
      generalize meCts p c (thL p c a b) = CC at *
      have hP3 := h3
      refine conW tab_ok [(0, .arr c), (1, .int p), (2, .arr a), (3, .arr b)] 0 [2000] [] Tryd.func65 rfl rfl rfl rfl rfl rfl rfl rfl rfl ?_
      refine cR ?_
      iterate 3 refine oBox rfl rfl rfl rfl rfl rfl ?_
      refine oAlloc rfl rfl rfl rfl rfl rfl rfl ?_
      refine oA rfl rfl ?_
      refine oN ?_
      refine cR ?_
      first | refine oQ (Lw rfl rfl rfl rfl) rfl rfl ?_ | refine oQ (La rfl rfl rfl rfl rfl) rfl rfl ?_
      refine oM rfl rfl ?_
      first | refine oQ (Lw rfl rfl rfl rfl) rfl rfl ?_ | refine oQ (La rfl rfl rfl rfl rfl) rfl rfl ?_
      refine oQe (Q_call (hta) [] rfl rfl (Fits.mk' (vHc rfl vHn) rfl rfl (by first | (simp; done) | exact glOk rfl rfl rfl)) rfl rfl) (show _ = .tuple [.arr (tgL p c a), .bool true] from rfl) rfl rfl ?_
      refine oM rfl rfl ?_
      iterate 2 refine oQ (Q_extract rfl rfl) rfl rfl ?_
      refine oAlloc rfl rfl rfl rfl rfl rfl rfl ?_
      first | refine oSw rfl rfl rfl rfl ?_ | refine oSa rfl rfl rfl rfl ?_
      refine oA rfl rfl ?_
      refine oN ?_
      refine cR ?_
      first | refine oQ (Lw rfl rfl rfl rfl) rfl rfl ?_ | refine oQ (La rfl rfl rfl rfl rfl) rfl rfl ?_
      refine oM rfl rfl ?_
      first | refine oQ (Lw rfl rfl rfl rfl) rfl rfl ?_ | refine oQ (La rfl rfl rfl rfl rfl) rfl rfl ?_
      refine oQe (Q_call (htb) [] rfl rfl (Fits.mk' (vHc rfl vHn) rfl rfl (by first | (simp; done) | exact glOk rfl rfl rfl)) rfl rfl) (show _ = .tuple [.arr (tgL p c b), .bool true] from rfl) rfl rfl ?_
      refine oM rfl rfl ?_
      iterate 2 refine oQ (Q_extract rfl rfl) rfl rfl ?_
      refine oAlloc rfl rfl rfl rfl rfl rfl rfl ?_
      first | refine oSw rfl rfl rfl rfl ?_ | refine oSa rfl rfl rfl rfl ?_
      refine oA rfl rfl ?_
      refine oN ?_
      refine CW_seq ?_
      refine cR ?_
      refine oM rfl rfl ?_
      refine oQe (Q_not rfl) (show _ = V.bool false from rfl) rfl rfl ?_
      refine oM rfl rfl ?_
      all_goals first | refine oT rfl rfl ?_ | refine o1 rfl rfl rfl ?_ | refine o0 rfl rfl rfl ?_ | refine ogP1 rfl rfl rfl (fun hg => ?_) (fun hg => ?_) | refine ogP0 rfl rfl rfl (fun hg => ?_) (fun hg => ?_)
      all_goals try simp only [s1, s2, s3, s4, s5, s6, s7, s8, s9, s10, s11, s12] at hg
      all_goals first | (refine oM rfl rfl ?_) | skip
      all_goals first | refine oT rfl rfl ?_ | refine o1 rfl rfl rfl ?_ | refine o0 rfl rfl rfl ?_ | refine ogP1 rfl rfl rfl (fun hg => ?_) (fun hg => ?_) | refine ogP0 rfl rfl rfl (fun hg => ?_) (fun hg => ?_)
      all_goals try simp only [s1, s2, s3, s4, s5, s6, s7, s8, s9, s10, s11, s12] at hg
      all_goals first | (refine oQe (Q_not rfl) (show _ = V.bool false from rfl) rfl rfl ?_) | skip
      all_goals first | refine oQ (Q_pick_t rfl (by with_reducible rfl) rfl rfl) rfl rfl ?_ | refine oQ (Q_pick_f rfl (by with_reducible rfl) rfl rfl) rfl rfl ?_
      all_goals refine oN ?_
      all_goals (
       first | refine cT rfl ?_ | refine cF rfl ?_ | refine CW_cond rfl (fun hc => ?_) (fun hc => ?_)
       all_goals try simp only [s1, s2, s3, s4, s5, s6, s7, s8, s9, s10, s11, s12] at hc
       all_goals try (exfalso; (cases hc; done); done)
       all_goals first
         | (
          refine CW_skip ?_)
         | (
          refine cR ?_
          refine oQ (Q_build rfl rfl rfl rfl rfl rfl rfl rfl) rfl rfl ?_
          first | refine oSw rfl rfl rfl rfl ?_ | refine oSa rfl rfl rfl rfl ?_
          refine oA rfl rfl ?_
          refine oN ?_
          refine CW_ret ?_))
      all_goals first
        | with_reducible refine tR ?_
        | with_reducible refine tE ?_
        | (
         with_reducible refine tN ?_
         refine CW_cut (ι := Unit) (fun _ => True) (fun _ => ⟨[(1, .int p), (4, .ptr 0 0), (6, .ptr 1 0), (7, .ptr 2 0), (8, .ptr 3 0), (10, .ptr 4 0)], [(0, .ints 27 c), (1, .ints 29 a), (2, .ints 29 b), (3, .ints 29 [0, 0, 0]), (4, .ints 24 (thL p c a b)), (2000, .ro 0 cuT)], 6⟩) ?_ ?_
         · (
          refine cR ?_
          first | refine oQ (Lw rfl rfl rfl rfl) rfl rfl ?_ | refine oQ (La rfl rfl rfl rfl rfl) rfl rfl ?_
          first | refine oQ (Lw rfl rfl rfl rfl) rfl rfl ?_ | refine oQ (La rfl rfl rfl rfl rfl) rfl rfl ?_
          refine oQ (Q_arrb rfl rfl rfl rfl rfl rfl rfl rfl rfl (by first | omega | (dsimp only; omega) | (simp; omega) | (simp; done)) (by first | omega | (dsimp only; omega) | (simp; omega) | (simp; done))) rfl rfl ?_
          refine oN ?_
          first | refine cT rfl ?_ | refine cF rfl ?_ | refine CW_cond rfl (fun hc => ?_) (fun hc => ?_)
          all_goals try simp only [s1, s2, s3, s4, s5, s6, s7, s8, s9, s10, s11, s12] at hc
          all_goals try (exfalso; (cases hc; done); done)
          all_goals first
            | (
             refine CW_skip ?_)
            | (
             refine CW_region ?_
             refine oM rfl rfl ?_
             first | refine oQ (Lw rfl rfl rfl rfl) rfl rfl ?_ | refine oQ (La rfl rfl rfl rfl rfl) rfl rfl ?_
             first | refine oQ (Lw rfl rfl rfl rfl) rfl rfl ?_ | refine oQ (La rfl rfl rfl rfl rfl) rfl rfl ?_
             refine oQ (Q_call0 (join_con p a b hp hal hbl (allPts_sm hp ha) (allPts_sm hp hb)) rfl rfl rfl) rfl rfl ?_
             first | refine oSw rfl rfl rfl rfl ?_ | refine oSa rfl rfl rfl rfl ?_
             refine OW_nil ?_)
          all_goals with_reducible refine tN ?_
          all_goals (
           refine ⟨(), ?_, View.mk' [] rfl rfl rfl ?_ ?_⟩
           · first | trivial | omega
           all_goals (repeat' first | exact vFn | refine vFc rfl ?_ | exact vHn | refine vHc rfl ?_ | refine vFc (congrArg (fun z => some (V.int z)) ?_) ?_ | refine vHc (congrArg (fun z => some (Blk.ints _ z)) ?_) ?_ | refine vFc (congrArg (fun z => some (V.bool z)) ?_) ?_ | refine vFs rfl rfl ?_ ?_)
           all_goals first | exact (if_pos (by simpa using hc)).symm | exact (if_neg (by simpa using hc)).symm))
         intro _ _
         refine cR ?_
         first | refine oQ (Lw rfl rfl rfl rfl) rfl rfl ?_ | refine oQ (La rfl rfl rfl rfl rfl) rfl rfl ?_
         refine oM rfl rfl ?_
         first | refine oQ (Lw rfl rfl rfl rfl) rfl rfl ?_ | refine oQ (La rfl rfl rfl rfl rfl) rfl rfl ?_
         refine oCall (hm) [] 2 rfl rfl (Fits.mk' (vHc rfl vHn) rfl rfl (by first | (simp; done) | exact glOk rfl rfl rfl)) rfl rfl ?_
         rintro r H1 ⟨k, sp, k', sp', h1, h2, h3, h4, rfl, rfl⟩
         refine ⟨.tuple [.slice 6 0 PP.length k, .slice 7 0 PP.length k', .bool true], [(2000, .ro 0 cuT), (6, .ints 29 (PP.flatten ++ sp)), (7, .ints 2 (CC ++ sp'))], rfl, rfl, rfl, ?_⟩
         refine oM rfl rfl ?_
         iterate 3 refine oQ (Q_extract rfl rfl) rfl rfl ?_
         iterate 3 refine oA rfl rfl ?_
         refine oN ?_
         refine CW_seq ?_
         refine cR ?_
         refine oM rfl rfl ?_
         refine oQ (Q_not rfl) rfl rfl ?_
         refine oN ?_
         first | refine cT rfl ?_ | refine cF rfl ?_ | refine CW_cond rfl (fun hc => ?_) (fun hc => ?_)
         all_goals try simp only [s1, s2, s3, s4, s5, s6, s7, s8, s9, s10, s11, s12] at hc
         all_goals try (exfalso; (cases hc; done); done)
         all_goals first
           | (
            refine CW_skip ?_)
           | (
            refine cR ?_
            refine oQ (Q_build rfl rfl rfl rfl rfl rfl rfl rfl) rfl rfl ?_
            first | refine oSw rfl rfl rfl rfl ?_ | refine oSa rfl rfl rfl rfl ?_
            refine oA rfl rfl ?_
            refine oN ?_
            refine CW_ret ?_)
         all_goals first
           | with_reducible refine tR ?_
           | with_reducible refine tE ?_
           | (
            with_reducible refine tN ?_
            refine CW_seq ?_
            refine cR ?_
            refine oM rfl rfl ?_
            first | refine oQ (Q_len rfl rfl rfl rfl) rfl rfl ?_ | refine oQ (Q_len0 rfl rfl rfl rfl) rfl rfl ?_
            refine oM rfl rfl ?_
            refine oN ?_
            refine CW_block ?_
            refine CW_loop (ι := Nat × List Int) (fun x => x.1 ≤ PP.length ∧ x.2.length = (CC ++ sp').length ∧ (∀ j, x.1 ≤ j → j < PP.length → x.2.getD j 0 = CC.getD j 0) ∧ ∀ j, j < x.1 → ¬ 0 < lf a b PP CC j) (fun x => ⟨[(6, .ptr 1 0), (7, .ptr 2 0), (8, .ptr 3 0), (15, .slice 7 0 PP.length k'), (58, .slice 6 0 PP.length k), (59, .int (PP.length : Nat)), (60, .int (x.1 : Nat))], [(1, .ints 29 a), (2, .ints 29 b), (3, .ints 29 [0, 0, 0]), (6, .ints 29 (PP.flatten ++ sp)), (7, .ints 2 x.2), (2000, .ro 0 cuT)], 8⟩) (fun x => PP.length - x.1) (0, CC ++ sp') ?_ ?_ ?_
            · exact ⟨Nat.zero_le _, rfl, fun j _ hj => by simp [List.getD, List.getElem?_append, show j < CC.length by omega], fun j h => absurd h (Nat.not_lt_zero _)⟩
            · refine View.mk' [] rfl rfl rfl ?_ ?_
              repeat' first | exact vFn | refine vFc rfl ?_ | exact vHn | refine vHc rfl ?_ | refine vFc (congrArg (fun z => some (V.int z)) ?_) ?_ | refine vHc (congrArg (fun z => some (Blk.ints _ z)) ?_) ?_ | refine vFc (congrArg (fun z => some (V.bool z)) ?_) ?_ | refine vFs rfl rfl ?_ ?_
            rintro ⟨i, C'⟩ ⟨hi, hCl, hag, hno⟩
            dsimp only at hi hCl hag hno ⊢
            rw [List.length_append] at hCl
            refine cR ?_
            refine oQ (Q_bin rfl rfl rfl) rfl rfl ?_
            refine oN ?_
            refine CW_seq ?_
            first | refine cT rfl ?_ | refine cF rfl ?_ | refine CW_cond rfl (fun hc => ?_) (fun hc => ?_)
            all_goals try simp only [s1, s2, s3, s4, s5, s6, s7, s8, s9, s10, s11, s12] at hc
            all_goals try (exfalso; (cases hc; done); done)
            all_goals first
              | (
               refine CW_skip ?_)
              | (
               refine CW_exit ?_)
            all_goals first
              | with_reducible refine tR ?_
              | with_reducible refine tE ?_
              | (
               with_reducible refine tN ?_
               refine CW_seq ?_
               refine CW_block ?_
               refine cR ?_
               refine oM rfl rfl ?_
               (have hiL : i < PP.length := by omega); (have h3i := hP3 _ (getD_mem hiL)); (have hci := hag i (Nat.le_refl _) hiL); (have hcb := hbd i hiL); (have hiC : i < C'.length := by omega); refine oQ (Q_ixs0z 3 rfl rfl rfl rfl rfl rfl (by omega)) rfl rfl ?_
               refine oQ (Q_lda (n := 3) rfl rfl rfl rfl rfl (by rw [List.length_append, hf3]; omega)) rfl rfl ?_; rw [flat_get hP3 hiL]
               refine oAlloc rfl rfl rfl rfl rfl rfl rfl ?_
               refine oA rfl rfl ?_
               first | refine oSw rfl rfl rfl rfl ?_ | refine oSa rfl rfl rfl rfl ?_
               refine oN ?_
               refine CW_seq ?_
               refine cR ?_
               first | refine oQ (Lw rfl rfl rfl rfl) rfl rfl ?_ | refine oQ (La rfl rfl rfl rfl rfl) rfl rfl ?_
               first | refine oQ (Lw rfl rfl rfl rfl) rfl rfl ?_ | refine oQ (La rfl rfl rfl rfl rfl) rfl rfl ?_
               refine oQ (Q_arrb rfl rfl rfl rfl rfl rfl rfl rfl rfl (by first | omega | (dsimp only; omega) | (simp; omega) | (simp; done)) (by first | omega | (dsimp only; omega) | (simp; omega) | (simp; done))) rfl rfl ?_
               refine oN ?_
               first | refine cT rfl ?_ | refine cF rfl ?_ | refine CW_cond rfl (fun hc => ?_) (fun hc => ?_)
               all_goals try simp only [s1, s2, s3, s4, s5, s6, s7, s8, s9, s10, s11, s12] at hc
               all_goals try (exfalso; (cases hc; done); done)
               all_goals first
                 | (
                  refine CW_skip ?_)
                 | (
                  refine CW_region ?_
                  iterate 2 refine oM rfl rfl ?_
                  first | refine oQ (Is0 rfl rfl rfl rfl rfl rfl) rfl rfl ?_ | refine oQ (Is1 rfl rfl rfl rfl rfl rfl) rfl rfl ?_
                  refine oQ (Ld rfl rfl rfl rfl) rfl rfl ?_
                  first | refine oQ (Q_binu rfl rfl rfl (by omega)) rfl rfl ?_ | refine oQ (Q_bin rfl rfl rfl) rfl rfl ?_
                  first | refine oQ (Is0 rfl rfl rfl rfl rfl rfl) rfl rfl ?_ | refine oQ (Is1 rfl rfl rfl rfl rfl rfl) rfl rfl ?_
                  refine oS rfl rfl rfl rfl rfl ?_
                  refine OW_nil ?_)
               all_goals with_reducible refine tN ?_
               all_goals (
                refine CW_seq ?_
                refine cR ?_
                (have hca := hc); refine oQ (Q_ldw rfl rfl rfl rfl h3i) rfl rfl ?_
                first | refine oQ (Lw rfl rfl rfl rfl) rfl rfl ?_ | refine oQ (La rfl rfl rfl rfl rfl) rfl rfl ?_
                refine oQ (Q_arrb rfl rfl rfl rfl rfl rfl rfl rfl rfl (by first | omega | (dsimp only; omega) | (simp; omega) | (simp; done)) (by first | omega | (dsimp only; omega) | (simp; omega) | (simp; done))) rfl rfl ?_
                refine oN ?_
                first | refine cT rfl ?_ | refine cF rfl ?_ | refine CW_cond rfl (fun hc => ?_) (fun hc => ?_)
                all_goals try simp only [s1, s2, s3, s4, s5, s6, s7, s8, s9, s10, s11, s12] at hc
                all_goals try (exfalso; (cases hc; done); done)
                all_goals first
                  | (
                   refine CW_skip ?_)
                  | (
                   refine CW_region ?_
                   iterate 2 refine oM rfl rfl ?_
                   first | refine oQ (Is0 rfl rfl rfl rfl rfl rfl) rfl rfl ?_ | refine oQ (Is1 rfl rfl rfl rfl rfl rfl) rfl rfl ?_
                   refine oQ (Ld rfl rfl rfl rfl (by first | omega | (rw [List.length_set]; omega))) rfl rfl ?_; try rw [gs hiC]
                   first | refine oQ (Q_binu rfl rfl rfl (by omega)) rfl rfl ?_ | refine oQ (Q_bin rfl rfl rfl) rfl rfl ?_
                   first | refine oQ (Is0 rfl rfl rfl rfl rfl rfl) rfl rfl ?_ | refine oQ (Is1 rfl rfl rfl rfl rfl rfl) rfl rfl ?_
                   refine oS rfl rfl rfl rfl rfl ?_
                   refine OW_nil ?_)
                all_goals with_reducible refine tN ?_
                all_goals (
                 refine cR ?_
                 (have hcb2 := hc); refine oM rfl rfl ?_
                 refine oM rfl rfl ?_
                 first | refine oQ (Is0 rfl rfl rfl rfl rfl rfl) rfl rfl ?_ | refine oQ (Is1 rfl rfl rfl rfl rfl rfl) rfl rfl ?_
                 refine oQ (Ld rfl rfl rfl rfl (by first | omega | (rw [List.length_set]; omega) | (rw [List.length_set, List.length_set]; omega))) rfl rfl ?_
                 refine oName (fun z86 hz86 => ?_)
                 (have hlf : z86 = lf a b PP CC i := by rw [hz86]; unfold lf; first | rw [if_pos hcb2, if_pos hca, gs (by rw [List.length_set]; exact hiC), hci] | rw [if_pos hcb2, if_neg hca, gs hiC, hci] | rw [if_neg hcb2, if_pos hca, gs hiC, hci] | rw [if_neg hcb2, if_neg hca, hci])
                 subst hlf
                 refine oQ (Q_bin rfl rfl rfl) rfl rfl ?_
                 refine oN ?_
                 first | refine cT rfl ?_ | refine cF rfl ?_ | refine CW_cond rfl (fun hc => ?_) (fun hc => ?_)
                 all_goals try simp only [s1, s2, s3, s4, s5, s6, s7, s8, s9, s10, s11, s12] at hc
                 all_goals try (exfalso; (cases hc; done); done)
                 all_goals first
                   | (
                    refine CW_skip ?_)
                   | (
                    refine cR ?_
                    first | refine oQ (Lw rfl rfl rfl rfl) rfl rfl ?_ | refine oQ (La rfl rfl rfl rfl rfl) rfl rfl ?_
                    first | refine oSw rfl rfl rfl rfl ?_ | refine oSa rfl rfl rfl rfl ?_
                    refine oA rfl rfl ?_
                    refine oN ?_
                    refine CW_ret ?_)))
               all_goals first | with_reducible refine bN ?_ | with_reducible refine bE ?_ | with_reducible refine bR ?_ | refine bX rfl ?_
               all_goals first
                 | with_reducible refine tR ?_
                 | with_reducible refine tE ?_
                 | (
                  with_reducible refine tN ?_
                  refine CW_region ?_
                  first | refine oQ (Q_binu rfl rfl rfl (by omega)) rfl rfl ?_ | refine oQ (Q_bin rfl rfl rfl) rfl rfl ?_
                  refine oM rfl rfl ?_
                  refine OW_nil ?_))
            all_goals first
              | with_reducible refine tR ?_
              | with_reducible refine tE ?_
              | (
               with_reducible refine tN ?_
               first
                 | (
                  refine ⟨(i + 1, (C'.set i (C'.getD i 0 - 1)).set i (C'.getD i 0 - 1 - 1)), ?_, ?_, View.mk' [] rfl rfl rfl ?_ ?_⟩
                  · refine ⟨by dsimp only; omega, by simp [hCl], fun j hj1 hj2 => ?_, fun j hj => ?_⟩
                    · dsimp only at hj1 hj2 ⊢
                      first | (rw [gsn (by omega), gsn (by omega)]; exact hag j (by omega) hj2) | (rw [gsn (by omega)]; exact hag j (by omega) hj2) | exact hag j (by omega) hj2
                    · dsimp only at hj
                      by_cases e : j = i
                      · subst e; omega
                      · exact hno j (by omega)
                  · omega
                  all_goals (repeat' first | exact vFn | refine vFc rfl ?_ | exact vHn | refine vHc rfl ?_ | refine vFc (congrArg (fun z => some (V.int z)) ?_) ?_ | refine vHc (congrArg (fun z => some (Blk.ints _ z)) ?_) ?_ | refine vFc (congrArg (fun z => some (V.bool z)) ?_) ?_ | refine vFs rfl rfl ?_ ?_)
                  done)
                 | (
                  refine ⟨(i + 1, C'.set i (C'.getD i 0 - 1)), ?_, ?_, View.mk' [] rfl rfl rfl ?_ ?_⟩
                  · refine ⟨by dsimp only; omega, by simp [hCl], fun j hj1 hj2 => ?_, fun j hj => ?_⟩
                    · dsimp only at hj1 hj2 ⊢
                      first | (rw [gsn (by omega), gsn (by omega)]; exact hag j (by omega) hj2) | (rw [gsn (by omega)]; exact hag j (by omega) hj2) | exact hag j (by omega) hj2
                    · dsimp only at hj
                      by_cases e : j = i
                      · subst e; omega
                      · exact hno j (by omega)
                  · omega
                  all_goals (repeat' first | exact vFn | refine vFc rfl ?_ | exact vHn | refine vHc rfl ?_ | refine vFc (congrArg (fun z => some (V.int z)) ?_) ?_ | refine vHc (congrArg (fun z => some (Blk.ints _ z)) ?_) ?_ | refine vFc (congrArg (fun z => some (V.bool z)) ?_) ?_ | refine vFs rfl rfl ?_ ?_)
                  done)
                 | (
                  refine ⟨(i + 1, C'), ?_, ?_, View.mk' [] rfl rfl rfl ?_ ?_⟩
                  · refine ⟨by dsimp only; omega, by simp [hCl], fun j hj1 hj2 => ?_, fun j hj => ?_⟩
                    · dsimp only at hj1 hj2 ⊢
                      first | (rw [gsn (by omega), gsn (by omega)]; exact hag j (by omega) hj2) | (rw [gsn (by omega)]; exact hag j (by omega) hj2) | exact hag j (by omega) hj2
                    · dsimp only at hj
                      by_cases e : j = i
                      · subst e; omega
                      · exact hno j (by omega)
                  · omega
                  all_goals (repeat' first | exact vFn | refine vFc rfl ?_ | exact vHn | refine vHc rfl ?_ | refine vFc (congrArg (fun z => some (V.int z)) ?_) ?_ | refine vHc (congrArg (fun z => some (Blk.ints _ z)) ?_) ?_ | refine vFc (congrArg (fun z => some (V.bool z)) ?_) ?_ | refine vFs rfl rfl ?_ ?_)
                  done))
            all_goals first | with_reducible refine bN ?_ | with_reducible refine bE ?_ | with_reducible refine bR ?_ | refine bX rfl ?_
            all_goals first
              | with_reducible refine tR ?_
              | with_reducible refine tE ?_
              | (
               with_reducible refine tN ?_
               refine cR ?_
               refine oQ (Q_build rfl rfl rfl rfl rfl rfl rfl rfl) rfl rfl ?_
               first | refine oSw rfl rfl rfl rfl ?_ | refine oSa rfl rfl rfl rfl ?_
               refine oA rfl rfl ?_
               refine oN ?_
               refine CW_ret ?_)))
      all_goals (
       first
         | (have hf := thF_some (a := a) (b := b) (P := PP) (C := CC) (i := i) (by omega) hno (by omega)
            have e : thO p c a b = some (PP.getD i []) := hO.trans (by rw [hf, Option.map_some])
            obtain ⟨e1, e2⟩ := th_yes e
            refine exitQ (.inr rfl) 0 (.cons (.arr rfl rfl rfl rfl (by first | omega | (dsimp only; omega) | (simp; omega) | (simp; done))) (.cons (.tmp rfl rfl) .nil)) ?_ rfl (vHc rfl vHn) rfl rfl
            rw [e1, e2]
            rfl)
         | (have hf := thF_none (a := a) (b := b) (P := PP) (C := CC) (fun j hj => hno j (by omega))
            have e : thO p c a b = none := hO.trans (by rw [hf, Option.map_none])
            obtain ⟨e1, e2⟩ := th_no e
            refine exitQ (.inr rfl) 0 (.cons (.arr rfl rfl rfl rfl (by first | omega | (dsimp only; omega) | (simp; omega) | (simp; done))) (.cons (.tmp rfl rfl) .nil)) ?_ rfl (vHc rfl vHn) rfl rfl
            rw [e1, e2]
            rfl))
    | true =>
      have htm := thL_mem hp ha hb hka
      have htl := allPts_three htm
      have hm := multZ p c (thL p c a b) hp hcl qc htm hz
      rw [if_neg (fun x => by rw [hz] at x; cases x.2.2)] at hO
      obtain ⟨e1, e2⟩ := th_no hO
      refine conW tab_ok [(0, .arr c), (1, .int p), (2, .arr a), (3, .arr b)] 0 [2000] [] Tryd.func65 rfl rfl rfl rfl rfl rfl rfl rfl rfl ?_
      refine cR ?_
      iterate 3 refine oBox rfl rfl rfl rfl rfl rfl ?_
      refine oAlloc rfl rfl rfl rfl rfl rfl rfl ?_
      refine oA rfl rfl ?_
      refine oN ?_
      refine cR ?_
      first | refine oQ (Lw rfl rfl rfl rfl) rfl rfl ?_ | refine oQ (La rfl rfl rfl rfl rfl) rfl rfl ?_
      refine oM rfl rfl ?_
      first | refine oQ (Lw rfl rfl rfl rfl) rfl rfl ?_ | refine oQ (La rfl rfl rfl rfl rfl) rfl rfl ?_
      refine oQe (Q_call (hta) [] rfl rfl (Fits.mk' (vHc rfl vHn) rfl rfl (by first | (simp; done) | exact glOk rfl rfl rfl)) rfl rfl) (show _ = .tuple [.arr (tgL p c a), .bool true] from rfl) rfl rfl ?_
      refine oM rfl rfl ?_
      iterate 2 refine oQ (Q_extract rfl rfl) rfl rfl ?_
      refine oAlloc rfl rfl rfl rfl rfl rfl rfl ?_
      first | refine oSw rfl rfl rfl rfl ?_ | refine oSa rfl rfl rfl rfl ?_
      refine oA rfl rfl ?_
      refine oN ?_
      refine cR ?_
      first | refine oQ (Lw rfl rfl rfl rfl) rfl rfl ?_ | refine oQ (La rfl rfl rfl rfl rfl) rfl rfl ?_
      refine oM rfl rfl ?_
      first | refine oQ (Lw rfl rfl rfl rfl) rfl rfl ?_ | refine oQ (La rfl rfl rfl rfl rfl) rfl rfl ?_
      refine oQe (Q_call (htb) [] rfl rfl (Fits.mk' (vHc rfl vHn) rfl rfl (by first | (simp; done) | exact glOk rfl rfl rfl)) rfl rfl) (show _ = .tuple [.arr (tgL p c b), .bool true] from rfl) rfl rfl ?_
      refine oM rfl rfl ?_
      iterate 2 refine oQ (Q_extract rfl rfl) rfl rfl ?_
      refine oAlloc rfl rfl rfl rfl rfl rfl rfl ?_
      first | refine oSw rfl rfl rfl rfl ?_ | refine oSa rfl rfl rfl rfl ?_
      refine oA rfl rfl ?_
      refine oN ?_
      refine CW_seq ?_
      refine cR ?_
      refine oM rfl rfl ?_
      refine oQe (Q_not rfl) (show _ = V.bool false from rfl) rfl rfl ?_
      refine oM rfl rfl ?_
      all_goals first | refine oT rfl rfl ?_ | refine o1 rfl rfl rfl ?_ | refine o0 rfl rfl rfl ?_ | refine ogP1 rfl rfl rfl (fun hg => ?_) (fun hg => ?_) | refine ogP0 rfl rfl rfl (fun hg => ?_) (fun hg => ?_)
      all_goals try simp only [s1, s2, s3, s4, s5, s6, s7, s8, s9, s10, s11, s12] at hg
      all_goals first | (refine oM rfl rfl ?_) | skip
      all_goals first | refine oT rfl rfl ?_ | refine o1 rfl rfl rfl ?_ | refine o0 rfl rfl rfl ?_ | refine ogP1 rfl rfl rfl (fun hg => ?_) (fun hg => ?_) | refine ogP0 rfl rfl rfl (fun hg => ?_) (fun hg => ?_)
      all_goals try simp only [s1, s2, s3, s4, s5, s6, s7, s8, s9, s10, s11, s12] at hg
      all_goals first | (refine oQe (Q_not rfl) (show _ = V.bool false from rfl) rfl rfl ?_) | skip
      all_goals first | refine oQ (Q_pick_t rfl (by with_reducible rfl) rfl rfl) rfl rfl ?_ | refine oQ (Q_pick_f rfl (by with_reducible rfl) rfl rfl) rfl rfl ?_
      all_goals refine oN ?_
      all_goals (
       first | refine cT rfl ?_ | refine cF rfl ?_ | refine CW_cond rfl (fun hc => ?_) (fun hc => ?_)
       all_goals try simp only [s1, s2, s3, s4, s5, s6, s7, s8, s9, s10, s11, s12] at hc
       all_goals try (exfalso; first | (cases hc; done) | (simp at hc; done); done)
       all_goals first
         | (
          refine CW_skip ?_)
         | (
          refine cR ?_
          refine oQ (Q_build rfl rfl rfl rfl rfl rfl rfl rfl) rfl rfl ?_
          first | refine oSw rfl rfl rfl rfl ?_ | refine oSa rfl rfl rfl rfl ?_
          refine oA rfl rfl ?_
          refine oN ?_
          refine CW_ret ?_))
      all_goals first
        | with_reducible refine tR ?_
        | with_reducible refine tE ?_
        | (
         with_reducible refine tN ?_
         refine CW_cut (ι := Unit) (fun _ => True) (fun _ => ⟨[(1, .int p), (4, .ptr 0 0), (6, .ptr 1 0), (7, .ptr 2 0), (8, .ptr 3 0), (10, .ptr 4 0)], [(0, .ints 27 c), (1, .ints 29 a), (2, .ints 29 b), (3, .ints 29 [0, 0, 0]), (4, .ints 24 (thL p c a b)), (2000, .ro 0 cuT)], 6⟩) ?_ ?_
         · (
          refine cR ?_
          first | refine oQ (Lw rfl rfl rfl rfl) rfl rfl ?_ | refine oQ (La rfl rfl rfl rfl rfl) rfl rfl ?_
          first | refine oQ (Lw rfl rfl rfl rfl) rfl rfl ?_ | refine oQ (La rfl rfl rfl rfl rfl) rfl rfl ?_
          refine oQ (Q_arrb rfl rfl rfl rfl rfl rfl rfl rfl rfl (by first | omega | (dsimp only; omega) | (simp; omega) | (simp; done)) (by first | omega | (dsimp only; omega) | (simp; omega) | (simp; done))) rfl rfl ?_
          refine oN ?_
          first | refine cT rfl ?_ | refine cF rfl ?_ | refine CW_cond rfl (fun hc => ?_) (fun hc => ?_)
          all_goals try simp only [s1, s2, s3, s4, s5, s6, s7, s8, s9, s10, s11, s12] at hc
          all_goals try (exfalso; first | (cases hc; done) | (simp at hc; done); done)
          all_goals first
            | (
             refine CW_skip ?_)
            | (
             refine CW_region ?_
             refine oM rfl rfl ?_
             first | refine oQ (Lw rfl rfl rfl rfl) rfl rfl ?_ | refine oQ (La rfl rfl rfl rfl rfl) rfl rfl ?_
             first | refine oQ (Lw rfl rfl rfl rfl) rfl rfl ?_ | refine oQ (La rfl rfl rfl rfl rfl) rfl rfl ?_
             refine oQ (Q_call0 (join_con p a b hp hal hbl (allPts_sm hp ha) (allPts_sm hp hb)) rfl rfl rfl) rfl rfl ?_
             first | refine oSw rfl rfl rfl rfl ?_ | refine oSa rfl rfl rfl rfl ?_
             refine OW_nil ?_)
          all_goals with_reducible refine tN ?_
          all_goals (
           refine ⟨(), ?_, View.mk' [] rfl rfl rfl ?_ ?_⟩
           · first | trivial | omega
           all_goals (repeat' first | exact vFn | refine vFc rfl ?_ | exact vHn | refine vHc rfl ?_ | refine vFc (congrArg (fun z => some (V.int z)) ?_) ?_ | refine vHc (congrArg (fun z => some (Blk.ints _ z)) ?_) ?_ | refine vFc (congrArg (fun z => some (V.bool z)) ?_) ?_ | refine vFs rfl rfl ?_ ?_)
           all_goals first | exact (if_pos (by simpa using hc)).symm | exact (if_neg (by simpa using hc)).symm))
         intro _ _
         refine cR ?_
         first | refine oQ (Lw rfl rfl rfl rfl) rfl rfl ?_ | refine oQ (La rfl rfl rfl rfl rfl) rfl rfl ?_
         refine oM rfl rfl ?_
         first | refine oQ (Lw rfl rfl rfl rfl) rfl rfl ?_ | refine oQ (La rfl rfl rfl rfl rfl) rfl rfl ?_
         refine oQe (Q_call (hm) [] rfl rfl (Fits.mk' (vHc rfl vHn) rfl rfl (by first | (simp; done) | exact glOk rfl rfl rfl)) rfl rfl) (show _ = .tuple [.nilsl, .nilsl, .bool false] from rfl) rfl rfl ?_
         refine oM rfl rfl ?_
         iterate 3 refine oQ (Q_extract rfl rfl) rfl rfl ?_
         iterate 3 refine oA rfl rfl ?_
         refine oN ?_
         refine CW_seq ?_
         refine cR ?_
         refine oM rfl rfl ?_
         refine oQ (Q_not rfl) rfl rfl ?_
         refine oN ?_
         first | refine cT rfl ?_ | refine cF rfl ?_ | refine CW_cond rfl (fun hc => ?_) (fun hc => ?_)
         all_goals try simp only [s1, s2, s3, s4, s5, s6, s7, s8, s9, s10, s11, s12] at hc
         all_goals try (exfalso; first | (cases hc; done) | (simp at hc; done); done)
         all_goals first
           | (
            refine CW_skip ?_)
           | (
            refine cR ?_
            refine oQ (Q_build rfl rfl rfl rfl rfl rfl rfl rfl) rfl rfl ?_
            first | refine oSw rfl rfl rfl rfl ?_ | refine oSa rfl rfl rfl rfl ?_
            refine oA rfl rfl ?_
            refine oN ?_
            refine CW_ret ?_)
         all_goals first
           | with_reducible refine tR ?_
           | with_reducible refine tE ?_
           | (
            with_reducible refine tN ?_
            refine CW_seq ?_
            refine cR ?_
            refine oM rfl rfl ?_
            first | refine oQ (Q_len rfl rfl rfl rfl) rfl rfl ?_ | refine oQ (Q_len0 rfl rfl rfl rfl) rfl rfl ?_
            refine oM rfl rfl ?_
            refine oN ?_
            refine CW_block ?_
            fail "loop 0 wants its states"
            · first | trivial | omega | (simp; done) | (simp; omega)
            · refine View.mk' [] rfl rfl rfl ?_ ?_
              repeat' first | exact vFn | refine vFc rfl ?_ | exact vHn | refine vHc rfl ?_ | refine vFc (congrArg (fun z => some (V.int z)) ?_) ?_ | refine vHc (congrArg (fun z => some (Blk.ints _ z)) ?_) ?_ | refine vFc (congrArg (fun z => some (V.bool z)) ?_) ?_ | refine vFs rfl rfl ?_ ?_
            intro i hi
            refine cR ?_
            refine oQ (Q_bin rfl rfl rfl) rfl rfl ?_
            refine oN ?_
            refine CW_seq ?_
            first | refine cT rfl ?_ | refine cF rfl ?_ | refine CW_cond rfl (fun hc => ?_) (fun hc => ?_)
            all_goals try simp only [s1, s2, s3, s4, s5, s6, s7, s8, s9, s10, s11, s12] at hc
            all_goals try (exfalso; first | (cases hc; done) | (simp at hc; done); done)
            all_goals first
              | (
               refine CW_skip ?_)
              | (
               refine CW_exit ?_)
            all_goals first
              | with_reducible refine tR ?_
              | with_reducible refine tE ?_
              | (
               with_reducible refine tN ?_
               refine CW_seq ?_
               refine CW_block ?_
               refine cR ?_
               refine oM rfl rfl ?_
               first | refine oQ (Q_ixs0z 3 rfl rfl rfl rfl rfl rfl (by first | omega | (dsimp only; omega) | (simp; omega) | (simp; done))) rfl rfl ?_ | refine oQ (Q_ixsz 3 rfl rfl rfl rfl rfl rfl (by first | omega | (dsimp only; omega) | (simp; omega) | (simp; done))) rfl rfl ?_
               first | refine oQ (Lw rfl rfl rfl rfl) rfl rfl ?_ | refine oQ (La rfl rfl rfl rfl rfl) rfl rfl ?_
               refine oAlloc rfl rfl rfl rfl rfl rfl rfl ?_
               refine oA rfl rfl ?_
               first | refine oSw rfl rfl rfl rfl ?_ | refine oSa rfl rfl rfl rfl ?_
               refine oN ?_
               refine CW_seq ?_
               refine cR ?_
               first | refine oQ (Lw rfl rfl rfl rfl) rfl rfl ?_ | refine oQ (La rfl rfl rfl rfl rfl) rfl rfl ?_
               first | refine oQ (Lw rfl rfl rfl rfl) rfl rfl ?_ | refine oQ (La rfl rfl rfl rfl rfl) rfl rfl ?_
               refine oQ (Q_arrb rfl rfl rfl rfl rfl rfl rfl rfl rfl (by first | omega | (dsimp only; omega) | (simp; omega) | (simp; done)) (by first | omega | (dsimp only; omega) | (simp; omega) | (simp; done))) rfl rfl ?_
               refine oN ?_
               first | refine cT rfl ?_ | refine cF rfl ?_ | refine CW_cond rfl (fun hc => ?_) (fun hc => ?_)
               all_goals try simp only [s1, s2, s3, s4, s5, s6, s7, s8, s9, s10, s11, s12] at hc
               all_goals try (exfalso; first | (cases hc; done) | (simp at hc; done); done)
               all_goals first
                 | (
                  refine CW_skip ?_)
                 | (
                  refine CW_region ?_
                  iterate 2 refine oM rfl rfl ?_
                  first | refine oQ (Is0 rfl rfl rfl rfl rfl rfl) rfl rfl ?_ | refine oQ (Is1 rfl rfl rfl rfl rfl rfl) rfl rfl ?_
                  refine oQ (Ld rfl rfl rfl rfl) rfl rfl ?_
                  first | refine oQ (Q_binu rfl rfl rfl (by omega)) rfl rfl ?_ | refine oQ (Q_bin rfl rfl rfl) rfl rfl ?_
                  first | refine oQ (Is0 rfl rfl rfl rfl rfl rfl) rfl rfl ?_ | refine oQ (Is1 rfl rfl rfl rfl rfl rfl) rfl rfl ?_
                  refine oS rfl rfl rfl rfl rfl ?_
                  refine OW_nil ?_)
               all_goals with_reducible refine tN ?_
               all_goals (
                refine CW_seq ?_
                refine cR ?_
                first | refine oQ (Lw rfl rfl rfl rfl) rfl rfl ?_ | refine oQ (La rfl rfl rfl rfl rfl) rfl rfl ?_
                first | refine oQ (Lw rfl rfl rfl rfl) rfl rfl ?_ | refine oQ (La rfl rfl rfl rfl rfl) rfl rfl ?_
                refine oQ (Q_arrb rfl rfl rfl rfl rfl rfl rfl rfl rfl (by first | omega | (dsimp only; omega) | (simp; omega) | (simp; done)) (by first | omega | (dsimp only; omega) | (simp; omega) | (simp; done))) rfl rfl ?_
                refine oN ?_
                first | refine cT rfl ?_ | refine cF rfl ?_ | refine CW_cond rfl (fun hc => ?_) (fun hc => ?_)
                all_goals try simp only [s1, s2, s3, s4, s5, s6, s7, s8, s9, s10, s11, s12] at hc
                all_goals try (exfalso; first | (cases hc; done) | (simp at hc; done); done)
                all_goals first
                  | (
                   refine CW_skip ?_)
                  | (
                   refine CW_region ?_
                   iterate 2 refine oM rfl rfl ?_
                   first | refine oQ (Is0 rfl rfl rfl rfl rfl rfl) rfl rfl ?_ | refine oQ (Is1 rfl rfl rfl rfl rfl rfl) rfl rfl ?_
                   refine oQ (Ld rfl rfl rfl rfl) rfl rfl ?_
                   first | refine oQ (Q_binu rfl rfl rfl (by omega)) rfl rfl ?_ | refine oQ (Q_bin rfl rfl rfl) rfl rfl ?_
                   first | refine oQ (Is0 rfl rfl rfl rfl rfl rfl) rfl rfl ?_ | refine oQ (Is1 rfl rfl rfl rfl rfl rfl) rfl rfl ?_
                   refine oS rfl rfl rfl rfl rfl ?_
                   refine OW_nil ?_)
                all_goals with_reducible refine tN ?_
                all_goals (
                 refine cR ?_
                 iterate 2 refine oM rfl rfl ?_
                 first | refine oQ (Is0 rfl rfl rfl rfl rfl rfl) rfl rfl ?_ | refine oQ (Is1 rfl rfl rfl rfl rfl rfl) rfl rfl ?_
                 refine oQ (Ld rfl rfl rfl rfl) rfl rfl ?_
                 refine oQ (Q_bin rfl rfl rfl) rfl rfl ?_
                 refine oN ?_
                 first | refine cT rfl ?_ | refine cF rfl ?_ | refine CW_cond rfl (fun hc => ?_) (fun hc => ?_)
                 all_goals try simp only [s1, s2, s3, s4, s5, s6, s7, s8, s9, s10, s11, s12] at hc
                 all_goals try (exfalso; first | (cases hc; done) | (simp at hc; done); done)
                 all_goals first
                   | (
                    refine CW_skip ?_)
                   | (
                    refine cR ?_
                    first | refine oQ (Lw rfl rfl rfl rfl) rfl rfl ?_ | refine oQ (La rfl rfl rfl rfl rfl) rfl rfl ?_
                    first | refine oSw rfl rfl rfl rfl ?_ | refine oSa rfl rfl rfl rfl ?_
                    refine oA rfl rfl ?_
                    refine oN ?_
                    refine CW_ret ?_)))
               all_goals first | with_reducible refine bN ?_ | with_reducible refine bE ?_ | with_reducible refine bR ?_ | refine bX rfl ?_
               all_goals first
                 | with_reducible refine tR ?_
                 | with_reducible refine tE ?_
                 | (
                  with_reducible refine tN ?_
                  refine CW_region ?_
                  first | refine oQ (Q_binu rfl rfl rfl (by omega)) rfl rfl ?_ | refine oQ (Q_bin rfl rfl rfl) rfl rfl ?_
                  refine oM rfl rfl ?_
                  refine OW_nil ?_))
            all_goals first
              | with_reducible refine tR ?_
              | with_reducible refine tE ?_
              | (
               with_reducible refine tN ?_
               fail "again 0")
            all_goals first | with_reducible refine bN ?_ | with_reducible refine bE ?_ | with_reducible refine bR ?_ | refine bX rfl ?_
            all_goals first
              | with_reducible refine tR ?_
              | with_reducible refine tE ?_
              | (
               with_reducible refine tN ?_
               refine cR ?_
               refine oQ (Q_build rfl rfl rfl rfl rfl rfl rfl rfl) rfl rfl ?_
               first | refine oSw rfl rfl rfl rfl ?_ | refine oSa rfl rfl rfl rfl ?_
               refine oA rfl rfl ?_
               refine oN ?_
               refine CW_ret ?_)))
      all_goals (
       refine exitQ (.inr rfl) 0 (.cons (.arr rfl rfl rfl rfl (by first | omega | (dsimp only; omega) | (simp; omega) | (simp; done))) (.cons (.tmp rfl rfl) .nil)) ?_ rfl (vHc rfl vHn) rfl rfl
       rw [e1, e2]
       rfl)
  · have hk2 : okT p c a = true → okT p c b = true → False := fun h1 h2 => hk ⟨h1, h2⟩
    rw [if_neg (fun x => hk ⟨x.1, x.2.1⟩)] at hO
    obtain ⟨e1, e2⟩ := th_no hO
    rw [e1, e2]
    generalize okT p c a = b1 at *
    generalize okT p c b = b2 at *
    refine conW tab_ok [(0, .arr c), (1, .int p), (2, .arr a), (3, .arr b)] 0 [2000] [] Tryd.func65 rfl rfl rfl rfl rfl rfl rfl rfl rfl ?_
    refine cR ?_
    iterate 3 refine oBox rfl rfl rfl rfl rfl rfl ?_
    refine oAlloc rfl rfl rfl rfl rfl rfl rfl ?_
    refine oA rfl rfl ?_
    refine oN ?_
    refine cR ?_
    first | refine oQ (Lw rfl rfl rfl rfl) rfl rfl ?_ | refine oQ (La rfl rfl rfl rfl rfl) rfl rfl ?_
    refine oM rfl rfl ?_
    first | refine oQ (Lw rfl rfl rfl rfl) rfl rfl ?_ | refine oQ (La rfl rfl rfl rfl rfl) rfl rfl ?_
    refine oQe (Q_call (hta) [] rfl rfl (Fits.mk' (vHc rfl vHn) rfl rfl (by first | (simp; done) | exact glOk rfl rfl rfl)) rfl rfl) (show _ = .tuple [.arr (tgL p c a), .bool b1] from rfl) rfl rfl ?_
    refine oM rfl rfl ?_
    iterate 2 refine oQ (Q_extract rfl rfl) rfl rfl ?_
    refine oAlloc rfl rfl rfl rfl rfl rfl rfl ?_
    first | refine oSw rfl rfl rfl rfl ?_ | refine oSa rfl rfl rfl rfl ?_
    refine oA rfl rfl ?_
    refine oN ?_
    refine cR ?_
    first | refine oQ (Lw rfl rfl rfl rfl) rfl rfl ?_ | refine oQ (La rfl rfl rfl rfl rfl) rfl rfl ?_
    refine oM rfl rfl ?_
    first | refine oQ (Lw rfl rfl rfl rfl) rfl rfl ?_ | refine oQ (La rfl rfl rfl rfl rfl) rfl rfl ?_
    refine oQe (Q_call (htb) [] rfl rfl (Fits.mk' (vHc rfl vHn) rfl rfl (by first | (simp; done) | exact glOk rfl rfl rfl)) rfl rfl) (show _ = .tuple [.arr (tgL p c b), .bool b2] from rfl) rfl rfl ?_
    refine oM rfl rfl ?_
    iterate 2 refine oQ (Q_extract rfl rfl) rfl rfl ?_
    refine oAlloc rfl rfl rfl rfl rfl rfl rfl ?_
    first | refine oSw rfl rfl rfl rfl ?_ | refine oSa rfl rfl rfl rfl ?_
    refine oA rfl rfl ?_
    refine oN ?_
    refine CW_seq ?_
    refine cR ?_
    refine oM rfl rfl ?_
    refine oQ (Q_not rfl) rfl rfl ?_
    refine oM rfl rfl ?_
    all_goals first | refine oT rfl rfl ?_ | refine o1 rfl rfl rfl ?_ | refine o0 rfl rfl rfl ?_ | refine ogP1 rfl rfl rfl (fun hg => ?_) (fun hg => ?_) | refine ogP0 rfl rfl rfl (fun hg => ?_) (fun hg => ?_)
    all_goals try simp only [s1, s2, s3, s4, s5, s6, s7, s8, s9, s10, s11, s12] at hg
    all_goals first | (refine oM rfl rfl ?_) | skip
    all_goals first | refine oT rfl rfl ?_ | refine o1 rfl rfl rfl ?_ | refine o0 rfl rfl rfl ?_ | refine ogP1 rfl rfl rfl (fun hg => ?_) (fun hg => ?_) | refine ogP0 rfl rfl rfl (fun hg => ?_) (fun hg => ?_)
    all_goals try simp only [s1, s2, s3, s4, s5, s6, s7, s8, s9, s10, s11, s12] at hg
    all_goals first | (refine oQ (Q_not rfl) rfl rfl ?_) | skip
    all_goals first | refine oQ (Q_pick_t rfl (by with_reducible rfl) rfl rfl) rfl rfl ?_ | refine oQ (Q_pick_f rfl (by with_reducible rfl) rfl rfl) rfl rfl ?_
    all_goals refine oN ?_
    all_goals (
     first | refine cT rfl ?_ | refine cF rfl ?_ | refine CW_cond rfl (fun hc => ?_) (fun hc => ?_)
     all_goals try simp only [s1, s2, s3, s4, s5, s6, s7, s8, s9, s10, s11, s12] at hc
     all_goals try (exfalso; first | (cases hc; done) | (simp at hc; done) | (simp_all; done); done)
     all_goals first
       | (
        refine CW_skip ?_)
       | (
        refine cR ?_
        refine oQ (Q_build rfl rfl rfl rfl rfl rfl rfl rfl) rfl rfl ?_
        first | refine oSw rfl rfl rfl rfl ?_ | refine oSa rfl rfl rfl rfl ?_
        refine oA rfl rfl ?_
        refine oN ?_
        refine CW_ret ?_))
    all_goals first
      | with_reducible refine tR ?_
      | with_reducible refine tE ?_
      | (
       with_reducible refine tN ?_
       refine CW_seq ?_
       refine cR ?_
       (exfalso; simp_all; done)
       first | refine oQ (Lw rfl rfl rfl rfl) rfl rfl ?_ | refine oQ (La rfl rfl rfl rfl rfl) rfl rfl ?_
       refine oQ (Q_arrb rfl rfl rfl rfl rfl rfl rfl rfl rfl (by first | omega | (dsimp only; omega) | (simp; omega) | (simp; done)) (by first | omega | (dsimp only; omega) | (simp; omega) | (simp; done))) rfl rfl ?_
       refine oN ?_
       first | refine cT rfl ?_ | refine cF rfl ?_ | refine CW_cond rfl (fun hc => ?_) (fun hc => ?_)
       all_goals try simp only [s1, s2, s3, s4, s5, s6, s7, s8, s9, s10, s11, s12] at hc
       all_goals try (exfalso; first | (cases hc; done) | (simp at hc; done) | (simp_all; done); done)
       all_goals first
         | (
          refine CW_skip ?_)
         | (
          refine CW_region ?_
          refine oM rfl rfl ?_
          first | refine oQ (Lw rfl rfl rfl rfl) rfl rfl ?_ | refine oQ (La rfl rfl rfl rfl rfl) rfl rfl ?_
          first | refine oQ (Lw rfl rfl rfl rfl) rfl rfl ?_ | refine oQ (La rfl rfl rfl rfl rfl) rfl rfl ?_
          fail "call of loop.example/g01310/impl.join at slot 46"
          first | refine oSw rfl rfl rfl rfl ?_ | refine oSa rfl rfl rfl rfl ?_
          refine OW_nil ?_)
       all_goals with_reducible refine tN ?_
       all_goals (
        refine cR ?_
        first | refine oQ (Lw rfl rfl rfl rfl) rfl rfl ?_ | refine oQ (La rfl rfl rfl rfl rfl) rfl rfl ?_
        refine oM rfl rfl ?_
        first | refine oQ (Lw rfl rfl rfl rfl) rfl rfl ?_ | refine oQ (La rfl rfl rfl rfl rfl) rfl rfl ?_
        fail "call of (loop.example/g01310/impl.Cubic).multiplicities at slot 51"
        refine oM rfl rfl ?_
        iterate 3 refine oQ (Q_extract rfl rfl) rfl rfl ?_
        iterate 3 refine oA rfl rfl ?_
        refine oN ?_
        refine CW_seq ?_
        refine cR ?_
        refine oM rfl rfl ?_
        refine oQ (Q_not rfl) rfl rfl ?_
        refine oN ?_
        first | refine cT rfl ?_ | refine cF rfl ?_ | refine CW_cond rfl (fun hc => ?_) (fun hc => ?_)
        all_goals try simp only [s1, s2, s3, s4, s5, s6, s7, s8, s9, s10, s11, s12] at hc
        all_goals try (exfalso; first | (cases hc; done) | (simp at hc; done) | (simp_all; done); done)
        all_goals first
          | (
           refine CW_skip ?_)
          | (
           refine cR ?_
           refine oQ (Q_build rfl rfl rfl rfl rfl rfl rfl rfl) rfl rfl ?_
           first | refine oSw rfl rfl rfl rfl ?_ | refine oSa rfl rfl rfl rfl ?_
           refine oA rfl rfl ?_
           refine oN ?_
           refine CW_ret ?_)
        all_goals first
          | with_reducible refine tR ?_
          | with_reducible refine tE ?_
          | (
           with_reducible refine tN ?_
           refine CW_seq ?_
           refine cR ?_
           refine oM rfl rfl ?_
           first | refine oQ (Q_len rfl rfl rfl rfl) rfl rfl ?_ | refine oQ (Q_len0 rfl rfl rfl rfl) rfl rfl ?_
           refine oM rfl rfl ?_
           refine oN ?_
           refine CW_block ?_
           fail "loop 0 wants its states"
           · first | trivial | omega | (simp; done) | (simp; omega)
           · refine View.mk' [] rfl rfl rfl ?_ ?_
             repeat' first | exact vFn | refine vFc rfl ?_ | exact vHn | refine vHc rfl ?_ | refine vFc (congrArg (fun z => some (V.int z)) ?_) ?_ | refine vHc (congrArg (fun z => some (Blk.ints _ z)) ?_) ?_ | refine vFc (congrArg (fun z => some (V.bool z)) ?_) ?_ | refine vFs rfl rfl ?_ ?_
           intro i hi
           refine cR ?_
           refine oQ (Q_bin rfl rfl rfl) rfl rfl ?_
           refine oN ?_
           refine CW_seq ?_
           first | refine cT rfl ?_ | refine cF rfl ?_ | refine CW_cond rfl (fun hc => ?_) (fun hc => ?_)
           all_goals try simp only [s1, s2, s3, s4, s5, s6, s7, s8, s9, s10, s11, s12] at hc
           all_goals try (exfalso; first | (cases hc; done) | (simp at hc; done) | (simp_all; done); done)
           all_goals first
             | (
              refine CW_skip ?_)
             | (
              refine CW_exit ?_)
           all_goals first
             | with_reducible refine tR ?_
             | with_reducible refine tE ?_
             | (
              with_reducible refine tN ?_
              refine CW_seq ?_
              refine CW_block ?_
              refine cR ?_
              refine oM rfl rfl ?_
              first | refine oQ (Q_ixs0z 3 rfl rfl rfl rfl rfl rfl (by first | omega | (dsimp only; omega) | (simp; omega) | (simp; done))) rfl rfl ?_ | refine oQ (Q_ixsz 3 rfl rfl rfl rfl rfl rfl (by first | omega | (dsimp only; omega) | (simp; omega) | (simp; done))) rfl rfl ?_
              first | refine oQ (Lw rfl rfl rfl rfl) rfl rfl ?_ | refine oQ (La rfl rfl rfl rfl rfl) rfl rfl ?_
              refine oAlloc rfl rfl rfl rfl rfl rfl rfl ?_
              refine oA rfl rfl ?_
              first | refine oSw rfl rfl rfl rfl ?_ | refine oSa rfl rfl rfl rfl ?_
              refine oN ?_
              refine CW_seq ?_
              refine cR ?_
              first | refine oQ (Lw rfl rfl rfl rfl) rfl rfl ?_ | refine oQ (La rfl rfl rfl rfl rfl) rfl rfl ?_
              first | refine oQ (Lw rfl rfl rfl rfl) rfl rfl ?_ | refine oQ (La rfl rfl rfl rfl rfl) rfl rfl ?_
              refine oQ (Q_arrb rfl rfl rfl rfl rfl rfl rfl rfl rfl (by first | omega | (dsimp only; omega) | (simp; omega) | (simp; done)) (by first | omega | (dsimp only; omega) | (simp; omega) | (simp; done))) rfl rfl ?_
              refine oN ?_
              first | refine cT rfl ?_ | refine cF rfl ?_ | refine CW_cond rfl (fun hc => ?_) (fun hc => ?_)
              all_goals try simp only [s1, s2, s3, s4, s5, s6, s7, s8, s9, s10, s11, s12] at hc
              all_goals try (exfalso; first | (cases hc; done) | (simp at hc; done) | (simp_all; done); done)
              all_goals first
                | (
                 refine CW_skip ?_)
                | (
                 refine CW_region ?_
                 iterate 2 refine oM rfl rfl ?_
                 first | refine oQ (Is0 rfl rfl rfl rfl rfl rfl) rfl rfl ?_ | refine oQ (Is1 rfl rfl rfl rfl rfl rfl) rfl rfl ?_
                 refine oQ (Ld rfl rfl rfl rfl) rfl rfl ?_
                 first | refine oQ (Q_binu rfl rfl rfl (by omega)) rfl rfl ?_ | refine oQ (Q_bin rfl rfl rfl) rfl rfl ?_
                 first | refine oQ (Is0 rfl rfl rfl rfl rfl rfl) rfl rfl ?_ | refine oQ (Is1 rfl rfl rfl rfl rfl rfl) rfl rfl ?_
                 refine oS rfl rfl rfl rfl rfl ?_
                 refine OW_nil ?_)
              all_goals with_reducible refine tN ?_
              all_goals (
               refine CW_seq ?_
               refine cR ?_
               first | refine oQ (Lw rfl rfl rfl rfl) rfl rfl ?_ | refine oQ (La rfl rfl rfl rfl rfl) rfl rfl ?_
               first | refine oQ (Lw rfl rfl rfl rfl) rfl rfl ?_ | refine oQ (La rfl rfl rfl rfl rfl) rfl rfl ?_
               refine oQ (Q_arrb rfl rfl rfl rfl rfl rfl rfl rfl rfl (by first | omega | (dsimp only; omega) | (simp; omega) | (simp; done)) (by first | omega | (dsimp only; omega) | (simp; omega) | (simp; done))) rfl rfl ?_
               refine oN ?_
               first | refine cT rfl ?_ | refine cF rfl ?_ | refine CW_cond rfl (fun hc => ?_) (fun hc => ?_)
               all_goals try simp only [s1, s2, s3, s4, s5, s6, s7, s8, s9, s10, s11, s12] at hc
               all_goals try (exfalso; first | (cases hc; done) | (simp at hc; done) | (simp_all; done); done)
               all_goals first
                 | (
                  refine CW_skip ?_)
                 | (
                  refine CW_region ?_
                  iterate 2 refine oM rfl rfl ?_
                  first | refine oQ (Is0 rfl rfl rfl rfl rfl rfl) rfl rfl ?_ | refine oQ (Is1 rfl rfl rfl rfl rfl rfl) rfl rfl ?_
                  refine oQ (Ld rfl rfl rfl rfl) rfl rfl ?_
                  first | refine oQ (Q_binu rfl rfl rfl (by omega)) rfl rfl ?_ | refine oQ (Q_bin rfl rfl rfl) rfl rfl ?_
                  first | refine oQ (Is0 rfl rfl rfl rfl rfl rfl) rfl rfl ?_ | refine oQ (Is1 rfl rfl rfl rfl rfl rfl) rfl rfl ?_
                  refine oS rfl rfl rfl rfl rfl ?_
                  refine OW_nil ?_)
               all_goals with_reducible refine tN ?_
               all_goals (
                refine cR ?_
                iterate 2 refine oM rfl rfl ?_
                first | refine oQ (Is0 rfl rfl rfl rfl rfl rfl) rfl rfl ?_ | refine oQ (Is1 rfl rfl rfl rfl rfl rfl) rfl rfl ?_
                refine oQ (Ld rfl rfl rfl rfl) rfl rfl ?_
                refine oQ (Q_bin rfl rfl rfl) rfl rfl ?_
                refine oN ?_
                first | refine cT rfl ?_ | refine cF rfl ?_ | refine CW_cond rfl (fun hc => ?_) (fun hc => ?_)
                all_goals try simp only [s1, s2, s3, s4, s5, s6, s7, s8, s9, s10, s11, s12] at hc
                all_goals try (exfalso; first | (cases hc; done) | (simp at hc; done) | (simp_all; done); done)
                all_goals first
                  | (
                   refine CW_skip ?_)
                  | (
                   refine cR ?_
                   first | refine oQ (Lw rfl rfl rfl rfl) rfl rfl ?_ | refine oQ (La rfl rfl rfl rfl rfl) rfl rfl ?_
                   first | refine oSw rfl rfl rfl rfl ?_ | refine oSa rfl rfl rfl rfl ?_
                   refine oA rfl rfl ?_
                   refine oN ?_
                   refine CW_ret ?_)))
              all_goals first | with_reducible refine bN ?_ | with_reducible refine bE ?_ | with_reducible refine bR ?_ | refine bX rfl ?_
              all_goals first
                | with_reducible refine tR ?_
                | with_reducible refine tE ?_
                | (
                 with_reducible refine tN ?_
                 refine CW_region ?_
                 first | refine oQ (Q_binu rfl rfl rfl (by omega)) rfl rfl ?_ | refine oQ (Q_bin rfl rfl rfl) rfl rfl ?_
                 refine oM rfl rfl ?_
                 refine OW_nil ?_))
           all_goals first
             | with_reducible refine tR ?_
             | with_reducible refine tE ?_
             | (
              with_reducible refine tN ?_
              fail "again 0")
           all_goals first | with_reducible refine bN ?_ | with_reducible refine bE ?_ | with_reducible refine bR ?_ | refine bX rfl ?_
           all_goals first
             | with_reducible refine tR ?_
             | with_reducible refine tE ?_
             | (
              with_reducible refine tN ?_
              refine cR ?_
              refine oQ (Q_build rfl rfl rfl rfl rfl rfl rfl rfl) rfl rfl ?_
              first | refine oSw rfl rfl rfl rfl ?_ | refine oSa rfl rfl rfl rfl ?_
              refine oA rfl rfl ?_
              refine oN ?_
              refine CW_ret ?_))))
    all_goals (
     first | ((refine exitQ (.inr rfl) 0 (.cons (.arr rfl rfl rfl rfl (by first | omega | (dsimp only; omega) | (simp; omega) | (simp; done))) (.cons (.tmp rfl rfl) .nil)) ?_ rfl (vHc rfl vHn) rfl rfl); rfl) | (exfalso; simp_all; done))
theorem l06Third_con (p : Int) (c a b : List Int) (hp : primeB p = true) (hcl : c.length = 10) (qc : smN 12 c) (ha : a ∈ allPts p) (hb : b ∈ allPts p) : ConQ Tryd.prog [] 64 [.int p, .arr c, .arr a, .arr b] [] (.tuple [.arr (thV p c a b), .bool (thK p c a b)]) := by
  have hal := allPts_three ha
  have hbl := allPts_three hb
  have hpb := prime_bd hp
  have htal : (tgL p c a).length = 3 := by unfold tgL; rw [normL_length]; rfl
  have htbl : (tgL p c b).length = 3 := by unfold tgL; rw [normL_length]; rfl
  have hcrl := crN_len p a b
  have hO : thO p c a b = if okT p c a = true ∧ okT p c b = true ∧ meB p c (thL p c a b) = false then (thF a b (mePts p c (thL p c a b)) (meCts p c (thL p c a b))).map fun i => (mePts p c (thL p c a b)).getD i [] else none := rfl
  have hta := l06Tangent_con p c a hp hcl hal qc (allPts_smN hp ha)
  change ConQ _ _ _ _ _ (.tuple [.arr (tgL p c a), .bool (facP p (slL p c a) != 0)]) at hta
  have htb := l06Tangent_con p c b hp hcl hbl qc (allPts_smN hp hb)
  change ConQ _ _ _ _ _ (.tuple [.arr (tgL p c b), .bool (facP p (slL p c b) != 0)]) at htb
  have hona := l06On_con p c a hp hcl hal qc (allPts_smN hp ha)
  have honb := l06On_con p c b hp hcl hbl qc (allPts_smN hp hb)
  by_cases hk : okT p c a = true ∧ okT p c b = true
  · obtain ⟨hka, hkb⟩ := hk
    have hka2 := hka
    have hkb2 := hkb
    simp only [okT, Bool.and_eq_true] at hka2 hkb2
    rw [hka2.1] at hta
    rw [hkb2.1] at htb
    rw [hka2.2] at hona
    rw [hkb2.2] at honb
    cases hz : meB p c (thL p c a b) with
    | false =>
      have htm := thL_mem hp ha hb hka
      have htl := allPts_three htm
      have hm := meet_con6 p c (thL p c a b) hp hcl qc htm hz
      have h3 : ∀ x ∈ mePts p c (thL p c a b), x.length = 3 := fun x hx => allPts_three (me_mem hx)
      have hf3 := flat3 h3
      have hcl2 := me_len p c (thL p c a b)
      have hbd := fun (i : Nat) (hi : i < (mePts p c (thL p c a b)).length) => me_bd (p := p) (c := c) (l := thL p c a b) hi
      have hln : (mePts p c (thL p c a b)).length ≤ 1000000000 := by
        have h1 := mPts_len p c (lnV p (thL p c a b)) (lnV p (thL p c a b)).length
        have h2 := lnV_len hp htm
        unfold mePts
        omega
      rw [if_pos ⟨hka, hkb, hz⟩] at hO
      generalize mePts p c (thL p c a b) = PP at *
      generalize meCts p c (thL p c a b) = CC at *
      have hP3 := h3
      refine conW tab_ok [(0, .int p), (1, .arr c), (2, .arr a), (3, .arr b)] 0 [] [] Tryd.func64 rfl rfl rfl rfl rfl rfl rfl rfl rfl ?_
      refine cR ?_
      iterate 3 refine oBox rfl rfl rfl rfl rfl rfl ?_
      refine oAlloc rfl rfl rfl rfl rfl rfl rfl ?_
      refine oA rfl rfl ?_
      refine oN ?_
      refine cR ?_
      refine oM rfl rfl ?_
      first | refine oQ (Lw rfl rfl rfl rfl) rfl rfl ?_ | refine oQ (La rfl rfl rfl rfl rfl) rfl rfl ?_
      first | refine oQ (Lw rfl rfl rfl rfl) rfl rfl ?_ | refine oQ (La rfl rfl rfl rfl rfl) rfl rfl ?_
      refine oQe (Q_call (hta) [] rfl rfl (Fits.mk' vHn rfl rfl (by first | (simp; done) | exact glOk rfl rfl rfl)) rfl rfl) (show _ = .tuple [.arr (tgL p c a), .bool true] from rfl) rfl rfl ?_
      refine oM rfl rfl ?_
      iterate 2 refine oQ (Q_extract rfl rfl) rfl rfl ?_
      refine oAlloc rfl rfl rfl rfl rfl rfl rfl ?_
      first | refine oSw rfl rfl rfl rfl ?_ | refine oSa rfl rfl rfl rfl ?_
      refine oA rfl rfl ?_
      refine oN ?_
      refine cR ?_
      refine oM rfl rfl ?_
      first | refine oQ (Lw rfl rfl rfl rfl) rfl rfl ?_ | refine oQ (La rfl rfl rfl rfl rfl) rfl rfl ?_
      first | refine oQ (Lw rfl rfl rfl rfl) rfl rfl ?_ | refine oQ (La rfl rfl rfl rfl rfl) rfl rfl ?_
      refine oQe (Q_call (htb) [] rfl rfl (Fits.mk' vHn rfl rfl (by first | (simp; done) | exact glOk rfl rfl rfl)) rfl rfl) (show _ = .tuple [.arr (tgL p c b), .bool true] from rfl) rfl rfl ?_
      refine oM rfl rfl ?_
      iterate 2 refine oQ (Q_extract rfl rfl) rfl rfl ?_
      refine oAlloc rfl rfl rfl rfl rfl rfl rfl ?_
      first | refine oSw rfl rfl rfl rfl ?_ | refine oSa rfl rfl rfl rfl ?_
      refine oA rfl rfl ?_
      refine oN ?_
      refine CW_seq ?_
      refine cR ?_
      refine oM rfl rfl ?_
      refine oQe (Q_not rfl) (show _ = V.bool false from rfl) rfl rfl ?_
      refine oM rfl rfl ?_
      all_goals first | refine oT rfl rfl ?_ | refine o1 rfl rfl rfl ?_ | refine o0 rfl rfl rfl ?_ | refine ogP1 rfl rfl rfl (fun hg => ?_) (fun hg => ?_) | refine ogP0 rfl rfl rfl (fun hg => ?_) (fun hg => ?_)
      all_goals try simp only [s1, s2, s3, s4, s5, s6, s7, s8, s9, s10, s11, s12] at hg
      all_goals first | (refine oM rfl rfl ?_) | skip
      all_goals first | refine oT rfl rfl ?_ | refine o1 rfl rfl rfl ?_ | refine o0 rfl rfl rfl ?_ | refine ogP1 rfl rfl rfl (fun hg => ?_) (fun hg => ?_) | refine ogP0 rfl rfl rfl (fun hg => ?_) (fun hg => ?_)
      all_goals try simp only [s1, s2, s3, s4, s5, s6, s7, s8, s9, s10, s11, s12] at hg
      all_goals first | (refine oQe (Q_not rfl) (show _ = V.bool false from rfl) rfl rfl ?_) | skip
      all_goals first | refine oQ (Q_pick_t rfl (by with_reducible rfl) rfl rfl) rfl rfl ?_ | refine oQ (Q_pick_f rfl (by with_reducible rfl) rfl rfl) rfl rfl ?_
      all_goals first | (refine oM rfl rfl ?_)
      all_goals first | refine oT rfl rfl ?_ | refine o1 rfl rfl rfl ?_ | refine o0 rfl rfl rfl ?_ | refine ogP1 rfl rfl rfl (fun hg => ?_) (fun hg => ?_) | refine ogP0 rfl rfl rfl (fun hg => ?_) (fun hg => ?_)
      all_goals try simp only [s1, s2, s3, s4, s5, s6, s7, s8, s9, s10, s11, s12] at hg
      all_goals first | (refine oM rfl rfl ?_) | skip
      all_goals first | refine oT rfl rfl ?_ | refine o1 rfl rfl rfl ?_ | refine o0 rfl rfl rfl ?_ | refine ogP1 rfl rfl rfl (fun hg => ?_) (fun hg => ?_) | refine ogP0 rfl rfl rfl (fun hg => ?_) (fun hg => ?_)
      all_goals try simp only [s1, s2, s3, s4, s5, s6, s7, s8, s9, s10, s11, s12] at hg
      all_goals first | refine oQ (Lw rfl rfl rfl rfl) rfl rfl ?_ | refine oQ (La rfl rfl rfl rfl rfl) rfl rfl ?_ | skip
      all_goals first | refine oT rfl rfl ?_ | refine o1 rfl rfl rfl ?_ | refine o0 rfl rfl rfl ?_ | refine ogP1 rfl rfl rfl (fun hg => ?_) (fun hg => ?_) | refine ogP0 rfl rfl rfl (fun hg => ?_) (fun hg => ?_)
      all_goals try simp only [s1, s2, s3, s4, s5, s6, s7, s8, s9, s10, s11, s12] at hg
      all_goals first | refine oQ (Lw rfl rfl rfl rfl) rfl rfl ?_ | refine oQ (La rfl rfl rfl rfl rfl) rfl rfl ?_ | skip
      all_goals first | refine oT rfl rfl ?_ | refine o1 rfl rfl rfl ?_ | refine o0 rfl rfl rfl ?_ | refine ogP1 rfl rfl rfl (fun hg => ?_) (fun hg => ?_) | refine ogP0 rfl rfl rfl (fun hg => ?_) (fun hg => ?_)
      all_goals try simp only [s1, s2, s3, s4, s5, s6, s7, s8, s9, s10, s11, s12] at hg
      all_goals first | (refine oQ (Q_call0 (hona) rfl rfl rfl) rfl rfl ?_) | skip
      all_goals first | refine oT rfl rfl ?_ | refine o1 rfl rfl rfl ?_ | refine o0 rfl rfl rfl ?_ | refine ogP1 rfl rfl rfl (fun hg => ?_) (fun hg => ?_) | refine ogP0 rfl rfl rfl (fun hg => ?_) (fun hg => ?_)
      all_goals try simp only [s1, s2, s3, s4, s5, s6, s7, s8, s9, s10, s11, s12] at hg
      all_goals first | (refine oQe (Q_not rfl) (show _ = V.bool false from rfl) rfl rfl ?_) | skip
      all_goals first | refine oQ (Q_pick_t rfl (by with_reducible rfl) rfl rfl) rfl rfl ?_ | refine oQ (Q_pick_f rfl (by with_reducible rfl) rfl rfl) rfl rfl ?_
      all_goals first | (refine oM rfl rfl ?_)
      all_goals first | refine oT rfl rfl ?_ | refine o1 rfl rfl rfl ?_ | refine o0 rfl rfl rfl ?_ | refine ogP1 rfl rfl rfl (fun hg => ?_) (fun hg => ?_) | refine ogP0 rfl rfl rfl (fun hg => ?_) (fun hg => ?_)
      all_goals try simp only [s1, s2, s3, s4, s5, s6, s7, s8, s9, s10, s11, s12] at hg
      all_goals first | (refine oM rfl rfl ?_) | skip
      all_goals first | refine oT rfl rfl ?_ | refine o1 rfl rfl rfl ?_ | refine o0 rfl rfl rfl ?_ | refine ogP1 rfl rfl rfl (fun hg => ?_) (fun hg => ?_) | refine ogP0 rfl rfl rfl (fun hg => ?_) (fun hg => ?_)
      all_goals try simp only [s1, s2, s3, s4, s5, s6, s7, s8, s9, s10, s11, s12] at hg
      all_goals first | refine oQ (Lw rfl rfl rfl rfl) rfl rfl ?_ | refine oQ (La rfl rfl rfl rfl rfl) rfl rfl ?_ | skip
      all_goals first | refine oT rfl rfl ?_ | refine o1 rfl rfl rfl ?_ | refine o0 rfl rfl rfl ?_ | refine ogP1 rfl rfl rfl (fun hg => ?_) (fun hg => ?_) | refine ogP0 rfl rfl rfl (fun hg => ?_) (fun hg => ?_)
      all_goals try simp only [s1, s2, s3, s4, s5, s6, s7, s8, s9, s10, s11, s12] at hg
      all_goals first | refine oQ (Lw rfl rfl rfl rfl) rfl rfl ?_ | refine oQ (La rfl rfl rfl rfl rfl) rfl rfl ?_ | skip
      all_goals first | refine oT rfl rfl ?_ | refine o1 rfl rfl rfl ?_ | refine o0 rfl rfl rfl ?_ | refine ogP1 rfl rfl rfl (fun hg => ?_) (fun hg => ?_) | refine ogP0 rfl rfl rfl (fun hg => ?_) (fun hg => ?_)
      all_goals try simp only [s1, s2, s3, s4, s5, s6, s7, s8, s9, s10, s11, s12] at hg
      all_goals first | (refine oQ (Q_call0 (honb) rfl rfl rfl) rfl rfl ?_) | skip
      all_goals first | refine oT rfl rfl ?_ | refine o1 rfl rfl rfl ?_ | refine o0 rfl rfl rfl ?_ | refine ogP1 rfl rfl rfl (fun hg => ?_) (fun hg => ?_) | refine ogP0 rfl rfl rfl (fun hg => ?_) (fun hg => ?_)
      all_goals try simp only [s1, s2, s3, s4, s5, s6, s7, s8, s9, s10, s11, s12] at hg
      all_goals first | (refine oQe (Q_not rfl) (show _ = V.bool false from rfl) rfl rfl ?_) | skip
      all_goals first | refine oQ (Q_pick_t rfl (by with_reducible rfl) rfl rfl) rfl rfl ?_ | refine oQ (Q_pick_f rfl (by with_reducible rfl) rfl rfl) rfl rfl ?_
      all_goals refine oN ?_
      all_goals (
       first | refine cT rfl ?_ | refine cF rfl ?_ | refine CW_cond rfl (fun hc => ?_) (fun hc => ?_)
       all_goals try simp only [s1, s2, s3, s4, s5, s6, s7, s8, s9, s10, s11, s12] at hc
       all_goals try (exfalso; (cases hc; done); done)
       all_goals first
         | (
          refine CW_skip ?_)
         | (
          refine cR ?_
          refine oQ (Q_build rfl rfl rfl rfl rfl rfl rfl rfl) rfl rfl ?_
          first | refine oSw rfl rfl rfl rfl ?_ | refine oSa rfl rfl rfl rfl ?_
          refine oA rfl rfl ?_
          refine oN ?_
          refine CW_ret ?_))
      all_goals first
        | with_reducible refine tR ?_
        | with_reducible refine tE ?_
        | (
         with_reducible refine tN ?_
         refine CW_cut (ι := Unit) (fun _ => True) (fun _ => ⟨[(0, .int p), (5, .ptr 0 0), (6, .ptr 1 0), (7, .ptr 2 0), (8, .ptr 3 0), (10, .ptr 4 0)], [(0, .ints 27 c), (1, .ints 29 a), (2, .ints 29 b), (3, .ints 29 [0, 0, 0]), (4, .ints 24 (thL p c a b))], 6⟩) ?_ ?_
         · (
          refine cR ?_
          first | refine oQ (Lw rfl rfl rfl rfl) rfl rfl ?_ | refine oQ (La rfl rfl rfl rfl rfl) rfl rfl ?_
          first | refine oQ (Lw rfl rfl rfl rfl) rfl rfl ?_ | refine oQ (La rfl rfl rfl rfl rfl) rfl rfl ?_
          refine oQ (Q_arrb rfl rfl rfl rfl rfl rfl rfl rfl rfl (by first | omega | (dsimp only; omega) | (simp; omega) | (simp; done)) (by first | omega | (dsimp only; omega) | (simp; omega) | (simp; done))) rfl rfl ?_
          refine oN ?_
          first | refine cT rfl ?_ | refine cF rfl ?_ | refine CW_cond rfl (fun hc => ?_) (fun hc => ?_)
          all_goals try simp only [s1, s2, s3, s4, s5, s6, s7, s8, s9, s10, s11, s12] at hc
          all_goals try (exfalso; (cases hc; done); done)
          all_goals first
            | (
             refine CW_skip ?_)
            | (
             refine cR ?_
             refine oM rfl rfl ?_
             first | refine oQ (Lw rfl rfl rfl rfl) rfl rfl ?_ | refine oQ (La rfl rfl rfl rfl rfl) rfl rfl ?_
             first | refine oQ (Lw rfl rfl rfl rfl) rfl rfl ?_ | refine oQ (La rfl rfl rfl rfl rfl) rfl rfl ?_
             refine oQ (Q_call0 (l01Join_con p a b hp hal hbl (allPts_sm hp ha) (allPts_sm hp hb)) rfl rfl rfl) rfl rfl ?_
             refine oM rfl rfl ?_
             iterate 2 refine oQ (Q_extract rfl rfl) rfl rfl ?_
             refine oAlloc rfl rfl rfl rfl rfl rfl rfl ?_
             first | refine oSw rfl rfl rfl rfl ?_ | refine oSa rfl rfl rfl rfl ?_
             refine oA rfl rfl ?_
             refine oN ?_
             refine CW_region ?_
             first | refine oQ (Lw rfl rfl rfl rfl) rfl rfl ?_ | refine oQ (La rfl rfl rfl rfl rfl) rfl rfl ?_
             first | refine oSw rfl rfl rfl rfl ?_ | refine oSa rfl rfl rfl rfl ?_
             refine OW_nil ?_)
          all_goals with_reducible refine tN ?_
          all_goals (
           refine ⟨(), ?_, View.mk' [] rfl rfl rfl ?_ ?_⟩
           · first | trivial | omega
           all_goals (repeat' first | exact vFn | refine vFc rfl ?_ | exact vHn | refine vHc rfl ?_ | refine vFc (congrArg (fun z => some (V.int z)) ?_) ?_ | refine vHc (congrArg (fun z => some (Blk.ints _ z)) ?_) ?_ | refine vFc (congrArg (fun z => some (V.bool z)) ?_) ?_ | refine vFs rfl rfl ?_ ?_)
           all_goals first | exact (if_pos (by simpa using hc)).symm | exact (if_neg (by simpa using hc)).symm))
         intro _ _
         refine cR ?_
         refine oM rfl rfl ?_
         first | refine oQ (Lw rfl rfl rfl rfl) rfl rfl ?_ | refine oQ (La rfl rfl rfl rfl rfl) rfl rfl ?_
         first | refine oQ (Lw rfl rfl rfl rfl) rfl rfl ?_ | refine oQ (La rfl rfl rfl rfl rfl) rfl rfl ?_
         refine oCall (hm) [] 2 rfl rfl (Fits.mk' vHn rfl rfl (by first | (simp; done) | exact glOk rfl rfl rfl)) rfl rfl ?_
         rintro r H1 ⟨k, sp, k', sp', h1, h2, h3, h4, rfl, rfl⟩
         refine ⟨.tuple [.slice 6 0 PP.length k, .slice 7 0 PP.length k', .bool true], [(6, .ints 29 (PP.flatten ++ sp)), (7, .ints 2 (CC ++ sp'))], rfl, rfl, rfl, ?_⟩
         refine oM rfl rfl ?_
         iterate 3 refine oQ (Q_extract rfl rfl) rfl rfl ?_
         iterate 3 refine oA rfl rfl ?_
         refine oN ?_
         refine CW_seq ?_
         refine cR ?_
         refine oA rfl rfl ?_
         refine oN ?_
         refine CW_block ?_
         refine CW_loop (ι := Nat) (fun i => i ≤ PP.length ∧ ∀ j, j < i → ¬ 0 < lf a b PP CC j) (fun i => ⟨[(6, .ptr 1 0), (7, .ptr 2 0), (8, .ptr 3 0), (16, .slice 6 0 PP.length k), (17, .slice 7 0 PP.length k'), (18, .bool true), (19, .int (i : Nat))], [(1, .ints 29 a), (2, .ints 29 b), (3, .ints 29 [0, 0, 0]), (6, .ints 29 (PP.flatten ++ sp)), (7, .ints 2 (CC ++ sp'))], 8⟩) (fun i => PP.length - i) 0 ?_ ?_ ?_
         · exact ⟨Nat.zero_le _, fun j h => absurd h (Nat.not_lt_zero _)⟩
         · refine View.mk' [] rfl rfl rfl ?_ ?_
           repeat' first | exact vFn | refine vFc rfl ?_ | exact vHn | refine vHc rfl ?_ | refine vFc (congrArg (fun z => some (V.int z)) ?_) ?_ | refine vHc (congrArg (fun z => some (Blk.ints _ z)) ?_) ?_ | refine vFc (congrArg (fun z => some (V.bool z)) ?_) ?_ | refine vFs rfl rfl ?_ ?_
         rintro i ⟨hi, hno⟩
         refine CW_seq ?_
         refine cR ?_
         iterate 2 refine oM rfl rfl ?_
         first | refine oQ (Q_len rfl rfl rfl rfl) rfl rfl ?_ | refine oQ (Q_len0 rfl rfl rfl rfl) rfl rfl ?_
         refine oQ (Q_bin rfl rfl rfl) rfl rfl ?_
         refine oM rfl rfl ?_
         all_goals first | refine oT rfl rfl ?_ | refine o1 rfl rfl rfl ?_ | refine o0 rfl rfl rfl ?_ | refine ogP1 rfl rfl rfl (fun hg => ?_) (fun hg => ?_) | refine ogP0 rfl rfl rfl (fun hg => ?_) (fun hg => ?_)
         all_goals try simp only [s1, s2, s3, s4, s5, s6, s7, s8, s9, s10, s11, s12] at hg
         all_goals first | (refine oM rfl rfl ?_) | skip
         all_goals first | refine oQ (Q_pick_t rfl (by with_reducible rfl) rfl rfl) rfl rfl ?_ | refine oQ (Q_pick_f rfl (by with_reducible rfl) rfl rfl) rfl rfl ?_
         all_goals refine oN ?_
         all_goals (
          first | refine cT rfl ?_ | refine cF rfl ?_ | refine CW_cond rfl (fun hc => ?_) (fun hc => ?_)
          all_goals try simp only [s1, s2, s3, s4, s5, s6, s7, s8, s9, s10, s11, s12] at hc
          all_goals try (exfalso; (cases hc; done); done)
          all_goals first
            | (
             refine CW_skip ?_)
            | (
             refine CW_exit ?_))
         all_goals first
           | with_reducible refine tR ?_
           | with_reducible refine tE ?_
           | (
            with_reducible refine tN ?_
            refine CW_seq ?_
            refine CW_block ?_
            refine cR ?_
            refine oM rfl rfl ?_
            (have hiL : i < PP.length := by omega); (have h3i := hP3 _ (getD_mem hiL)); (have hcb := hbd i hiL); (have hcg : (CC ++ sp').getD i 0 = CC.getD i 0 := by simp [List.getD, List.getElem?_append, show i < CC.length by omega]); refine oM rfl rfl ?_
            first | refine oQ (Is0 rfl rfl rfl rfl rfl rfl) rfl rfl ?_ | refine oQ (Is1 rfl rfl rfl rfl rfl rfl) rfl rfl ?_
            refine oQ (Ld rfl rfl rfl rfl (by rw [List.length_append]; omega)) rfl rfl ?_; rw [hcg]
            refine oA rfl rfl ?_
            refine oN ?_
            iterate 2 refine CW_seq ?_
            refine CW_draw lateOk (by decide +kernel) ?_
            iterate 2 refine qM rfl rfl ?_
            refine qQ (Q_ixs0z 3 rfl rfl rfl rfl rfl rfl (by omega)) rfl rfl ?_
            refine qQ (Q_lda (n := 3) rfl rfl rfl rfl rfl (by rw [List.length_append, hf3]; omega)) rfl rfl ?_; rw [flat_get hP3 hiL]
            first | refine qQ (Lw rfl rfl rfl rfl) rfl rfl ?_ | refine qQ (La rfl rfl rfl rfl rfl) rfl rfl ?_
            refine qQ (Q_arrb rfl rfl rfl rfl rfl rfl rfl rfl rfl (by first | omega | (dsimp only; omega) | (simp; omega) | (simp; done)) (by first | omega | (dsimp only; omega) | (simp; omega) | (simp; done))) rfl rfl ?_
            refine QW_nil ?_
            all_goals with_reducible refine tN ?_
            all_goals (
             first | refine cT rfl ?_ | refine cF rfl ?_ | refine CW_cond rfl (fun hc => ?_) (fun hc => ?_)
             all_goals try simp only [s1, s2, s3, s4, s5, s6, s7, s8, s9, s10, s11, s12] at hc
             all_goals try (exfalso; (cases hc; done); done)
             all_goals first
               | (
                refine CW_skip ?_)
               | (
                refine CW_region ?_
                refine oM rfl rfl ?_
                first | refine oQ (Q_binu rfl rfl rfl (by omega)) rfl rfl ?_ | refine oQ (Q_bin rfl rfl rfl) rfl rfl ?_
                refine oA rfl rfl ?_
                refine OW_nil ?_))
            all_goals with_reducible refine tN ?_
            all_goals (
             iterate 2 refine CW_seq ?_
             refine CW_draw lateOk (by decide +kernel) ?_
             (have hca := hc); refine qM rfl rfl ?_
             refine qM rfl rfl ?_
             refine qQ (Q_ixs0z 3 rfl rfl rfl rfl rfl rfl (by omega)) rfl rfl ?_
             refine qQ (Q_lda (n := 3) rfl rfl rfl rfl rfl (by rw [List.length_append, hf3]; omega)) rfl rfl ?_; rw [flat_get hP3 hiL]
             first | refine qQ (Lw rfl rfl rfl rfl) rfl rfl ?_ | refine qQ (La rfl rfl rfl rfl rfl) rfl rfl ?_
             refine qQ (Q_arrb rfl rfl rfl rfl rfl rfl rfl rfl rfl (by first | omega | (dsimp only; omega) | (simp; omega) | (simp; done)) (by first | omega | (dsimp only; omega) | (simp; omega) | (simp; done))) rfl rfl ?_
             refine QW_nil ?_
             all_goals with_reducible refine tN ?_
             all_goals (
              first | refine cT rfl ?_ | refine cF rfl ?_ | refine CW_cond rfl (fun hc => ?_) (fun hc => ?_)
              all_goals try simp only [s1, s2, s3, s4, s5, s6, s7, s8, s9, s10, s11, s12] at hc
              all_goals try (exfalso; (cases hc; done); done)
              all_goals first
                | (
                 refine CW_skip ?_)
                | (
                 refine CW_region ?_
                 refine oM rfl rfl ?_
                 first | refine oQ (Q_binu rfl rfl rfl (by omega)) rfl rfl ?_ | refine oQ (Q_bin rfl rfl rfl) rfl rfl ?_
                 refine oA rfl rfl ?_
                 refine OW_nil ?_))
             all_goals with_reducible refine tN ?_
             all_goals (
              refine cR ?_
              (have hcb2 := hc)
              refine oM rfl rfl ?_
              refine oName (fun z104 hz104 => ?_)
              (have hlf : z104 = lf a b PP CC i := by rw [hz104]; unfold lf; first | rw [if_pos hcb2, if_pos hca] | rw [if_pos hcb2, if_neg hca] | rw [if_neg hcb2, if_pos hca] | rw [if_neg hcb2, if_neg hca])
              subst hlf
              refine oQ (Q_bin rfl rfl rfl) rfl rfl ?_
              refine oN ?_
              first | refine cT rfl ?_ | refine cF rfl ?_ | refine CW_cond rfl (fun hc => ?_) (fun hc => ?_)
              all_goals try simp only [s1, s2, s3, s4, s5, s6, s7, s8, s9, s10, s11, s12] at hc
              all_goals try (exfalso; (cases hc; done); done)
              all_goals first
                | (
                 refine CW_skip ?_)
                | (
                 refine cR ?_
                 iterate 2 refine oM rfl rfl ?_
                 refine oQ (Q_ixs0z 3 rfl rfl rfl rfl rfl rfl (by omega)) rfl rfl ?_
                 refine oQ (Q_lda (n := 3) rfl rfl rfl rfl rfl (by rw [List.length_append, hf3]; omega)) rfl rfl ?_; rw [flat_get hP3 hiL]
                 first | refine oSw rfl rfl rfl rfl ?_ | refine oSa rfl rfl rfl rfl ?_
                 refine oA rfl rfl ?_
                 refine oN ?_
                 refine CW_ret ?_)))
            all_goals first | with_reducible refine bN ?_ | with_reducible refine bE ?_ | with_reducible refine bR ?_ | refine bX rfl ?_
            all_goals first
              | with_reducible refine tR ?_
              | with_reducible refine tE ?_
              | (
               with_reducible refine tN ?_
               refine CW_region ?_
               refine oM rfl rfl ?_
               first | refine oQ (Q_binu rfl rfl rfl (by omega)) rfl rfl ?_ | refine oQ (Q_bin rfl rfl rfl) rfl rfl ?_
               refine oA rfl rfl ?_
               refine OW_nil ?_))
         all_goals first
           | with_reducible refine tR ?_
           | with_reducible refine tE ?_
           | (
            with_reducible refine tN ?_
            refine ⟨i + 1, ?_, ?_, View.mk' [] rfl rfl rfl ?_ ?_⟩
            · refine ⟨by omega, fun j hj => ?_⟩
              by_cases e : j = i
              · subst e; omega
              · exact hno j (by omega)
            · omega
            all_goals (repeat' first | exact vFn | refine vFc rfl ?_ | exact vHn | refine vHc rfl ?_ | refine vFc (congrArg (fun z => some (V.int z)) ?_) ?_ | refine vHc (congrArg (fun z => some (Blk.ints _ z)) ?_) ?_ | refine vFc (congrArg (fun z => some (V.bool z)) ?_) ?_ | refine vFs rfl rfl ?_ ?_))
         all_goals first | with_reducible refine bN ?_ | with_reducible refine bE ?_ | with_reducible refine bR ?_ | refine bX rfl ?_
         all_goals first
           | with_reducible refine tR ?_
           | with_reducible refine tE ?_
           | (
            with_reducible refine tN ?_
            refine cR ?_
            refine oQ (Q_build rfl rfl rfl rfl rfl rfl rfl rfl) rfl rfl ?_
            first | refine oSw rfl rfl rfl rfl ?_ | refine oSa rfl rfl rfl rfl ?_
            refine oA rfl rfl ?_
            refine oN ?_
            refine CW_ret ?_))
      all_goals (
       first
         | (have hf := thF_some (a := a) (b := b) (P := PP) (C := CC) (i := i) (by omega) hno (by omega)
            have e : thO p c a b = some (PP.getD i []) := hO.trans (by rw [hf, Option.map_some])
            obtain ⟨e1, e2⟩ := th_yes e
            refine exitQ (.inr rfl) 0 (.cons (.arr rfl rfl rfl rfl (by first | omega | (dsimp only; omega) | (simp; omega) | (simp; done))) (.cons (.tmp rfl rfl) .nil)) ?_ rfl vHn rfl rfl
            rw [e1, e2]
            rfl)
         | (have hf := thF_none (a := a) (b := b) (P := PP) (C := CC) (fun j hj => hno j (by omega))
            have e : thO p c a b = none := hO.trans (by rw [hf, Option.map_none])
            obtain ⟨e1, e2⟩ := th_no e
            refine exitQ (.inr rfl) 0 (.cons (.arr rfl rfl rfl rfl (by first | omega | (dsimp only; omega) | (simp; omega) | (simp; done))) (.cons (.tmp rfl rfl) .nil)) ?_ rfl vHn rfl rfl
            rw [e1, e2]
            rfl))
    | true =>
      have htm := thL_mem hp ha hb hka
      have htl := allPts_three htm
      have hm := meetZ6 p c (thL p c a b) hp hcl qc htm hz
      rw [if_neg (fun x => by rw [hz] at x; cases x.2.2)] at hO
      obtain ⟨e1, e2⟩ := th_no hO
      refine conW tab_ok [(0, .int p), (1, .arr c), (2, .arr a), (3, .arr b)] 0 [] [] Tryd.func64 rfl rfl rfl rfl rfl rfl rfl rfl rfl ?_
      refine cR ?_
      iterate 3 refine oBox rfl rfl rfl rfl rfl rfl ?_
      refine oAlloc rfl rfl rfl rfl rfl rfl rfl ?_
      refine oA rfl rfl ?_
      refine oN ?_
      refine cR ?_
      refine oM rfl rfl ?_
      first | refine oQ (Lw rfl rfl rfl rfl) rfl rfl ?_ | refine oQ (La rfl rfl rfl rfl rfl) rfl rfl ?_
      first | refine oQ (Lw rfl rfl rfl rfl) rfl rfl ?_ | refine oQ (La rfl rfl rfl rfl rfl) rfl rfl ?_
      refine oQe (Q_call (hta) [] rfl rfl (Fits.mk' vHn rfl rfl (by first | (simp; done) | exact glOk rfl rfl rfl)) rfl rfl) (show _ = .tuple [.arr (tgL p c a), .bool true] from rfl) rfl rfl ?_
      refine oM rfl rfl ?_
      iterate 2 refine oQ (Q_extract rfl rfl) rfl rfl ?_
      refine oAlloc rfl rfl rfl rfl rfl rfl rfl ?_
      first | refine oSw rfl rfl rfl rfl ?_ | refine oSa rfl rfl rfl rfl ?_
      refine oA rfl rfl ?_
      refine oN ?_
      refine cR ?_
      refine oM rfl rfl ?_
      first | refine oQ (Lw rfl rfl rfl rfl) rfl rfl ?_ | refine oQ (La rfl rfl rfl rfl rfl) rfl rfl ?_
      first | refine oQ (Lw rfl rfl rfl rfl) rfl rfl ?_ | refine oQ (La rfl rfl rfl rfl rfl) rfl rfl ?_
      refine oQe (Q_call (htb) [] rfl rfl (Fits.mk' vHn rfl rfl (by first | (simp; done) | exact glOk rfl rfl rfl)) rfl rfl) (show _ = .tuple [.arr (tgL p c b), .bool true] from rfl) rfl rfl ?_
      refine oM rfl rfl ?_
      iterate 2 refine oQ (Q_extract rfl rfl) rfl rfl ?_
      refine oAlloc rfl rfl rfl rfl rfl rfl rfl ?_
      first | refine oSw rfl rfl rfl rfl ?_ | refine oSa rfl rfl rfl rfl ?_
      refine oA rfl rfl ?_
      refine oN ?_
      refine CW_seq ?_
      refine cR ?_
      refine oM rfl rfl ?_
      refine oQe (Q_not rfl) (show _ = V.bool false from rfl) rfl rfl ?_
      refine oM rfl rfl ?_
      all_goals first | refine oT rfl rfl ?_ | refine o1 rfl rfl rfl ?_ | refine o0 rfl rfl rfl ?_ | refine ogP1 rfl rfl rfl (fun hg => ?_) (fun hg => ?_) | refine ogP0 rfl rfl rfl (fun hg => ?_) (fun hg => ?_)
      all_goals try simp only [s1, s2, s3, s4, s5, s6, s7, s8, s9, s10, s11, s12] at hg
      all_goals first | (refine oM rfl rfl ?_) | skip
      all_goals first | refine oT rfl rfl ?_ | refine o1 rfl rfl rfl ?_ | refine o0 rfl rfl rfl ?_ | refine ogP1 rfl rfl rfl (fun hg => ?_) (fun hg => ?_) | refine ogP0 rfl rfl rfl (fun hg => ?_) (fun hg => ?_)
      all_goals try simp only [s1, s2, s3, s4, s5, s6, s7, s8, s9, s10, s11, s12] at hg
      all_goals first | (refine oQe (Q_not rfl) (show _ = V.bool false from rfl) rfl rfl ?_) | skip
      all_goals first | refine oQ (Q_pick_t rfl (by with_reducible rfl) rfl rfl) rfl rfl ?_ | refine oQ (Q_pick_f rfl (by with_reducible rfl) rfl rfl) rfl rfl ?_
      all_goals first | (refine oM rfl rfl ?_)
      all_goals first | refine oT rfl rfl ?_ | refine o1 rfl rfl rfl ?_ | refine o0 rfl rfl rfl ?_ | refine ogP1 rfl rfl rfl (fun hg => ?_) (fun hg => ?_) | refine ogP0 rfl rfl rfl (fun hg => ?_) (fun hg => ?_)
      all_goals try simp only [s1, s2, s3, s4, s5, s6, s7, s8, s9, s10, s11, s12] at hg
      all_goals first | (refine oM rfl rfl ?_) | skip
      all_goals first | refine oT rfl rfl ?_ | refine o1 rfl rfl rfl ?_ | refine o0 rfl rfl rfl ?_ | refine ogP1 rfl rfl rfl (fun hg => ?_) (fun hg => ?_) | refine ogP0 rfl rfl rfl (fun hg => ?_) (fun hg => ?_)
      all_goals try simp only [s1, s2, s3, s4, s5, s6, s7, s8, s9, s10, s11, s12] at hg
      all_goals first | refine oQ (Lw rfl rfl rfl rfl) rfl rfl ?_ | refine oQ (La rfl rfl rfl rfl rfl) rfl rfl ?_ | skip
      all_goals first | refine oT rfl rfl ?_ | refine o1 rfl rfl rfl ?_ | refine o0 rfl rfl rfl ?_ | refine ogP1 rfl rfl rfl (fun hg => ?_) (fun hg => ?_) | refine ogP0 rfl rfl rfl (fun hg => ?_) (fun hg => ?_)
      all_goals try simp only [s1, s2, s3, s4, s5, s6, s7, s8, s9, s10, s11, s12] at hg
      all_goals first | refine oQ (Lw rfl rfl rfl rfl) rfl rfl ?_ | refine oQ (La rfl rfl rfl rfl rfl) rfl rfl ?_ | skip
      all_goals first | refine oT rfl rfl ?_ | refine o1 rfl rfl rfl ?_ | refine o0 rfl rfl rfl ?_ | refine ogP1 rfl rfl rfl (fun hg => ?_) (fun hg => ?_) | refine ogP0 rfl rfl rfl (fun hg => ?_) (fun hg => ?_)
      all_goals try simp only [s1, s2, s3, s4, s5, s6, s7, s8, s9, s10, s11, s12] at hg
      all_goals first | (refine oQ (Q_call0 (hona) rfl rfl rfl) rfl rfl ?_) | skip
      all_goals first | refine oT rfl rfl ?_ | refine o1 rfl rfl rfl ?_ | refine o0 rfl rfl rfl ?_ | refine ogP1 rfl rfl rfl (fun hg => ?_) (fun hg => ?_) | refine ogP0 rfl rfl rfl (fun hg => ?_) (fun hg => ?_)
      all_goals try simp only [s1, s2, s3, s4, s5, s6, s7, s8, s9, s10, s11, s12] at hg
      all_goals first | (refine oQe (Q_not rfl) (show _ = V.bool false from rfl) rfl rfl ?_) | skip
      all_goals first | refine oQ (Q_pick_t rfl (by with_reducible rfl) rfl rfl) rfl rfl ?_ | refine oQ (Q_pick_f rfl (by with_reducible rfl) rfl rfl) rfl rfl ?_
      all_goals first | (refine oM rfl rfl ?_)
      all_goals first | refine oT rfl rfl ?_ | refine o1 rfl rfl rfl ?_ | refine o0 rfl rfl rfl ?_ | refine ogP1 rfl rfl rfl (fun hg => ?_) (fun hg => ?_) | refine ogP0 rfl rfl rfl (fun hg => ?_) (fun hg => ?_)
      all_goals try simp only [s1, s2, s3, s4, s5, s6, s7, s8, s9, s10, s11, s12] at hg
      all_goals first | (refine oM rfl rfl ?_) | skip
      all_goals first | refine oT rfl rfl ?_ | refine o1 rfl rfl rfl ?_ | refine o0 rfl rfl rfl ?_ | refine ogP1 rfl rfl rfl (fun hg => ?_) (fun hg => ?_) | refine ogP0 rfl rfl rfl (fun hg => ?_) (fun hg => ?_)
      all_goals try simp only [s1, s2, s3, s4, s5, s6, s7, s8, s9, s10, s11, s12] at hg
      all_goals first | refine oQ (Lw rfl rfl rfl rfl) rfl rfl ?_ | refine oQ (La rfl rfl rfl rfl rfl) rfl rfl ?_ | skip
      all_goals first | refine oT rfl rfl ?_ | refine o1 rfl rfl rfl ?_ | refine o0 rfl rfl rfl ?_ | refine ogP1 rfl rfl rfl (fun hg => ?_) (fun hg => ?_) | refine ogP0 rfl rfl rfl (fun hg => ?_) (fun hg => ?_)
      all_goals try simp only [s1, s2, s3, s4, s5, s6, s7, s8, s9, s10, s11, s12] at hg
      all_goals first | refine oQ (Lw rfl rfl rfl rfl) rfl rfl ?_ | refine oQ (La rfl rfl rfl rfl rfl) rfl rfl ?_ | skip
      all_goals first | refine oT rfl rfl ?_ | refine o1 rfl rfl rfl ?_ | refine o0 rfl rfl rfl ?_ | refine ogP1 rfl rfl rfl (fun hg => ?_) (fun hg => ?_) | refine ogP0 rfl rfl rfl (fun hg => ?_) (fun hg => ?_)
      all_goals try simp only [s1, s2, s3, s4, s5, s6, s7, s8, s9, s10, s11, s12] at hg
      all_goals first | (refine oQ (Q_call0 (honb) rfl rfl rfl) rfl rfl ?_) | skip
      all_goals first | refine oT rfl rfl ?_ | refine o1 rfl rfl rfl ?_ | refine o0 rfl rfl rfl ?_ | refine ogP1 rfl rfl rfl (fun hg => ?_) (fun hg => ?_) | refine ogP0 rfl rfl rfl (fun hg => ?_) (fun hg => ?_)
      all_goals try simp only [s1, s2, s3, s4, s5, s6, s7, s8, s9, s10, s11, s12] at hg
      all_goals first | (refine oQe (Q_not rfl) (show _ = V.bool false from rfl) rfl rfl ?_) | skip
      all_goals first | refine oQ (Q_pick_t rfl (by with_reducible rfl) rfl rfl) rfl rfl ?_ | refine oQ (Q_pick_f rfl (by with_reducible rfl) rfl rfl) rfl rfl ?_
      all_goals refine oN ?_
      all_goals (
       first | refine cT rfl ?_ | refine cF rfl ?_ | refine CW_cond rfl (fun hc => ?_) (fun hc => ?_)
       all_goals try simp only [s1, s2, s3, s4, s5, s6, s7, s8, s9, s10, s11, s12] at hc
       all_goals try (exfalso; first | (cases hc; done) | (simp at hc; done); done)
       all_goals first
         | (
          refine CW_skip ?_)
         | (
          refine cR ?_
          refine oQ (Q_build rfl rfl rfl rfl rfl rfl rfl rfl) rfl rfl ?_
          first | refine oSw rfl rfl rfl rfl ?_ | refine oSa rfl rfl rfl rfl ?_
          refine oA rfl rfl ?_
          refine oN ?_
          refine CW_ret ?_))
      all_goals first
        | with_reducible refine tR ?_
        | with_reducible refine tE ?_
        | (
         with_reducible refine tN ?_
         refine CW_cut (ι := Unit) (fun _ => True) (fun _ => ⟨[(0, .int p), (5, .ptr 0 0), (6, .ptr 1 0), (7, .ptr 2 0), (8, .ptr 3 0), (10, .ptr 4 0)], [(0, .ints 27 c), (1, .ints 29 a), (2, .ints 29 b), (3, .ints 29 [0, 0, 0]), (4, .ints 24 (thL p c a b))], 6⟩) ?_ ?_
         · (
          refine cR ?_
          first | refine oQ (Lw rfl rfl rfl rfl) rfl rfl ?_ | refine oQ (La rfl rfl rfl rfl rfl) rfl rfl ?_
          first | refine oQ (Lw rfl rfl rfl rfl) rfl rfl ?_ | refine oQ (La rfl rfl rfl rfl rfl) rfl rfl ?_
          refine oQ (Q_arrb rfl rfl rfl rfl rfl rfl rfl rfl rfl (by first | omega | (dsimp only; omega) | (simp; omega) | (simp; done)) (by first | omega | (dsimp only; omega) | (simp; omega) | (simp; done))) rfl rfl ?_
          refine oN ?_
          first | refine cT rfl ?_ | refine cF rfl ?_ | refine CW_cond rfl (fun hc => ?_) (fun hc => ?_)
          all_goals try simp only [s1, s2, s3, s4, s5, s6, s7, s8, s9, s10, s11, s12] at hc
          all_goals try (exfalso; first | (cases hc; done) | (simp at hc; done); done)
          all_goals first
            | (
             refine CW_skip ?_)
            | (
             refine cR ?_
             refine oM rfl rfl ?_
             first | refine oQ (Lw rfl rfl rfl rfl) rfl rfl ?_ | refine oQ (La rfl rfl rfl rfl rfl) rfl rfl ?_
             first | refine oQ (Lw rfl rfl rfl rfl) rfl rfl ?_ | refine oQ (La rfl rfl rfl rfl rfl) rfl rfl ?_
             refine oQ (Q_call0 (l01Join_con p a b hp hal hbl (allPts_sm hp ha) (allPts_sm hp hb)) rfl rfl rfl) rfl rfl ?_
             refine oM rfl rfl ?_
             iterate 2 refine oQ (Q_extract rfl rfl) rfl rfl ?_
             refine oAlloc rfl rfl rfl rfl rfl rfl rfl ?_
             first | refine oSw rfl rfl rfl rfl ?_ | refine oSa rfl rfl rfl rfl ?_
             refine oA rfl rfl ?_
             refine oN ?_
             refine CW_region ?_
             first | refine oQ (Lw rfl rfl rfl rfl) rfl rfl ?_ | refine oQ (La rfl rfl rfl rfl rfl) rfl rfl ?_
             first | refine oSw rfl rfl rfl rfl ?_ | refine oSa rfl rfl rfl rfl ?_
             refine OW_nil ?_)
          all_goals with_reducible refine tN ?_
          all_goals (
           refine ⟨(), ?_, View.mk' [] rfl rfl rfl ?_ ?_⟩
           · first | trivial | omega
           all_goals (repeat' first | exact vFn | refine vFc rfl ?_ | exact vHn | refine vHc rfl ?_ | refine vFc (congrArg (fun z => some (V.int z)) ?_) ?_ | refine vHc (congrArg (fun z => some (Blk.ints _ z)) ?_) ?_ | refine vFc (congrArg (fun z => some (V.bool z)) ?_) ?_ | refine vFs rfl rfl ?_ ?_)
           all_goals first | exact (if_pos (by simpa using hc)).symm | exact (if_neg (by simpa using hc)).symm))
         intro _ _
         refine cR ?_
         refine oM rfl rfl ?_
         first | refine oQ (Lw rfl rfl rfl rfl) rfl rfl ?_ | refine oQ (La rfl rfl rfl rfl rfl) rfl rfl ?_
         first | refine oQ (Lw rfl rfl rfl rfl) rfl rfl ?_ | refine oQ (La rfl rfl rfl rfl rfl) rfl rfl ?_
         refine oQe (Q_call (hm) [] rfl rfl (Fits.mk' vHn rfl rfl (by first | (simp; done) | exact glOk rfl rfl rfl)) rfl rfl) (show _ = .tuple [.nilsl, .nilsl, .bool false] from rfl) rfl rfl ?_
         refine oM rfl rfl ?_
         iterate 3 refine oQ (Q_extract rfl rfl) rfl rfl ?_
         iterate 3 refine oA rfl rfl ?_
         refine oN ?_
         refine CW_seq ?_
         refine cR ?_
         refine oA rfl rfl ?_
         refine oN ?_
         refine CW_block ?_
         refine CW_rounds 1 ?_
         refine RW_succ ?_
         refine CW_seq ?_
         refine cR ?_
         iterate 2 refine oM rfl rfl ?_
         first | refine oQ (Q_len rfl rfl rfl rfl) rfl rfl ?_ | refine oQ (Q_len0 rfl rfl rfl rfl) rfl rfl ?_
         refine oQ (Q_bin rfl rfl rfl) rfl rfl ?_
         refine oM rfl rfl ?_
         all_goals first | refine oT rfl rfl ?_ | refine o1 rfl rfl rfl ?_ | refine o0 rfl rfl rfl ?_ | refine ogP1 rfl rfl rfl (fun hg => ?_) (fun hg => ?_) | refine ogP0 rfl rfl rfl (fun hg => ?_) (fun hg => ?_)
         all_goals try simp only [s1, s2, s3, s4, s5, s6, s7, s8, s9, s10, s11, s12] at hg
         all_goals first | (refine oM rfl rfl ?_) | skip
         all_goals first | refine oQ (Q_pick_t rfl (by with_reducible rfl) rfl rfl) rfl rfl ?_ | refine oQ (Q_pick_f rfl (by with_reducible rfl) rfl rfl) rfl rfl ?_
         all_goals refine oN ?_
         all_goals (
          first | refine cT rfl ?_ | refine cF rfl ?_ | refine CW_cond rfl (fun hc => ?_) (fun hc => ?_)
          all_goals try simp only [s1, s2, s3, s4, s5, s6, s7, s8, s9, s10, s11, s12] at hc
          all_goals try (exfalso; first | (cases hc; done) | (simp at hc; done); done)
          all_goals first
            | (
             refine CW_skip ?_)
            | (
             refine CW_exit ?_))
         all_goals first
           | with_reducible refine tR ?_
           | with_reducible refine tE ?_
           | (
            with_reducible refine tN ?_
            refine CW_seq ?_
            refine CW_block ?_
            refine cR ?_
            iterate 2 refine oM rfl rfl ?_
            first | refine oQ (Is0 rfl rfl rfl rfl rfl rfl) rfl rfl ?_ | refine oQ (Is1 rfl rfl rfl rfl rfl rfl) rfl rfl ?_
            refine oQ (Ld rfl rfl rfl rfl) rfl rfl ?_
            refine oA rfl rfl ?_
            refine oN ?_
            iterate 2 refine CW_seq ?_
            refine CW_draw lateOk (by decide +kernel) ?_
            iterate 2 refine qM rfl rfl ?_
            first | refine qQ (Q_ixs0z 3 rfl rfl rfl rfl rfl rfl (by first | omega | (dsimp only; omega) | (simp; omega) | (simp; done))) rfl rfl ?_ | refine qQ (Q_ixsz 3 rfl rfl rfl rfl rfl rfl (by first | omega | (dsimp only; omega) | (simp; omega) | (simp; done))) rfl rfl ?_
            first | refine qQ (Lw rfl rfl rfl rfl) rfl rfl ?_ | refine qQ (La rfl rfl rfl rfl rfl) rfl rfl ?_
            first | refine qQ (Lw rfl rfl rfl rfl) rfl rfl ?_ | refine qQ (La rfl rfl rfl rfl rfl) rfl rfl ?_
            refine qQ (Q_arrb rfl rfl rfl rfl rfl rfl rfl rfl rfl (by first | omega | (dsimp only; omega) | (simp; omega) | (simp; done)) (by first | omega | (dsimp only; omega) | (simp; omega) | (simp; done))) rfl rfl ?_
            refine QW_nil ?_
            all_goals with_reducible refine tN ?_
            all_goals (
             first | refine cT rfl ?_ | refine cF rfl ?_ | refine CW_cond rfl (fun hc => ?_) (fun hc => ?_)
             all_goals try simp only [s1, s2, s3, s4, s5, s6, s7, s8, s9, s10, s11, s12] at hc
             all_goals try (exfalso; first | (cases hc; done) | (simp at hc; done); done)
             all_goals first
               | (
                refine CW_skip ?_)
               | (
                refine CW_region ?_
                refine oM rfl rfl ?_
                first | refine oQ (Q_binu rfl rfl rfl (by omega)) rfl rfl ?_ | refine oQ (Q_bin rfl rfl rfl) rfl rfl ?_
                refine oA rfl rfl ?_
                refine OW_nil ?_))
            all_goals with_reducible refine tN ?_
            all_goals (
             iterate 2 refine CW_seq ?_
             refine CW_draw lateOk (by decide +kernel) ?_
             iterate 2 refine qM rfl rfl ?_
             first | refine qQ (Q_ixs0z 3 rfl rfl rfl rfl rfl rfl (by first | omega | (dsimp only; omega) | (simp; omega) | (simp; done))) rfl rfl ?_ | refine qQ (Q_ixsz 3 rfl rfl rfl rfl rfl rfl (by first | omega | (dsimp only; omega) | (simp; omega) | (simp; done))) rfl rfl ?_
             first | refine qQ (Lw rfl rfl rfl rfl) rfl rfl ?_ | refine qQ (La rfl rfl rfl rfl rfl) rfl rfl ?_
             first | refine qQ (Lw rfl rfl rfl rfl) rfl rfl ?_ | refine qQ (La rfl rfl rfl rfl rfl) rfl rfl ?_
             refine qQ (Q_arrb rfl rfl rfl rfl rfl rfl rfl rfl rfl (by first | omega | (dsimp only; omega) | (simp; omega) | (simp; done)) (by first | omega | (dsimp only; omega) | (simp; omega) | (simp; done))) rfl rfl ?_
             refine QW_nil ?_
             all_goals with_reducible refine tN ?_
             all_goals (
              first | refine cT rfl ?_ | refine cF rfl ?_ | refine CW_cond rfl (fun hc => ?_) (fun hc => ?_)
              all_goals try simp only [s1, s2, s3, s4, s5, s6, s7, s8, s9, s10, s11, s12] at hc
              all_goals try (exfalso; first | (cases hc; done) | (simp at hc; done); done)
              all_goals first
                | (
                 refine CW_skip ?_)
                | (
                 refine CW_region ?_
                 refine oM rfl rfl ?_
                 first | refine oQ (Q_binu rfl rfl rfl (by omega)) rfl rfl ?_ | refine oQ (Q_bin rfl rfl rfl) rfl rfl ?_
                 refine oA rfl rfl ?_
                 refine OW_nil ?_))
             all_goals with_reducible refine tN ?_
             all_goals (
              refine cR ?_
              refine oM rfl rfl ?_
              refine oQ (Q_bin rfl rfl rfl) rfl rfl ?_
              refine oN ?_
              first | refine cT rfl ?_ | refine cF rfl ?_ | refine CW_cond rfl (fun hc => ?_) (fun hc => ?_)
              all_goals try simp only [s1, s2, s3, s4, s5, s6, s7, s8, s9, s10, s11, s12] at hc
              all_goals try (exfalso; first | (cases hc; done) | (simp at hc; done); done)
              all_goals first
                | (
                 refine CW_skip ?_)
                | (
                 refine cR ?_
                 iterate 2 refine oM rfl rfl ?_
                 first | refine oQ (Q_ixs0z 3 rfl rfl rfl rfl rfl rfl (by first | omega | (dsimp only; omega) | (simp; omega) | (simp; done))) rfl rfl ?_ | refine oQ (Q_ixsz 3 rfl rfl rfl rfl rfl rfl (by first | omega | (dsimp only; omega) | (simp; omega) | (simp; done))) rfl rfl ?_
                 first | refine oQ (Lw rfl rfl rfl rfl) rfl rfl ?_ | refine oQ (La rfl rfl rfl rfl rfl) rfl rfl ?_
                 first | refine oSw rfl rfl rfl rfl ?_ | refine oSa rfl rfl rfl rfl ?_
                 refine oA rfl rfl ?_
                 refine oN ?_
                 refine CW_ret ?_)))
            all_goals first | with_reducible refine bN ?_ | with_reducible refine bE ?_ | with_reducible refine bR ?_ | refine bX rfl ?_
            all_goals first
              | with_reducible refine tR ?_
              | with_reducible refine tE ?_
              | (
               with_reducible refine tN ?_
               refine CW_region ?_
               refine oM rfl rfl ?_
               first | refine oQ (Q_binu rfl rfl rfl (by omega)) rfl rfl ?_ | refine oQ (Q_bin rfl rfl rfl) rfl rfl ?_
               refine oA rfl rfl ?_
               refine OW_nil ?_))
         all_goals first
           | with_reducible refine tR ?_
           | with_reducible refine tE ?_
           | (
            with_reducible refine tN ?_
            exfalso; first | omega | (simp at hc; done) | (simp_all; done))
         all_goals first | with_reducible refine bN ?_ | with_reducible refine bE ?_ | with_reducible refine bR ?_ | refine bX rfl ?_
         all_goals first
           | with_reducible refine tR ?_
           | with_reducible refine tE ?_
           | (
            with_reducible refine tN ?_
            refine cR ?_
            refine oQ (Q_build rfl rfl rfl rfl rfl rfl rfl rfl) rfl rfl ?_
            first | refine oSw rfl rfl rfl rfl ?_ | refine oSa rfl rfl rfl rfl ?_
            refine oA rfl rfl ?_
            refine oN ?_
            refine CW_ret ?_))
      all_goals (
       refine exitQ (.inr rfl) 0 (.cons (.arr rfl rfl rfl rfl (by first | omega | (dsimp only; omega) | (simp; omega) | (simp; done))) (.cons (.tmp rfl rfl) .nil)) ?_ rfl vHn rfl rfl
       rw [e1, e2]
       rfl)
  · have hk2 : (facP p (slL p c a) != 0) = true → cuG p c a = true → (facP p (slL p c b) != 0) = true → cuG p c b = true → False := fun h1 h2 h3 h4 => hk ⟨by simp only [okT, h1, h2]; rfl, by simp only [okT, h3, h4]; rfl⟩
    rw [if_neg (fun x => hk ⟨x.1, x.2.1⟩)] at hO
    obtain ⟨e1, e2⟩ := th_no hO
    rw [e1, e2]
    clear hO
    generalize (facP p (slL p c a) != 0) = b1 at *
    generalize (facP p (slL p c b) != 0) = b2 at *
    generalize cuG p c a = b3 at *
    generalize cuG p c b = b4 at *
    refine conW tab_ok [(0, .int p), (1, .arr c), (2, .arr a), (3, .arr b)] 0 [] [] Tryd.func64 rfl rfl rfl rfl rfl rfl rfl rfl rfl ?_
    refine cR ?_
    iterate 3 refine oBox rfl rfl rfl rfl rfl rfl ?_
    refine oAlloc rfl rfl rfl rfl rfl rfl rfl ?_
    refine oA rfl rfl ?_
    refine oN ?_
    refine cR ?_
    refine oM rfl rfl ?_
    first | refine oQ (Lw rfl rfl rfl rfl) rfl rfl ?_ | refine oQ (La rfl rfl rfl rfl rfl) rfl rfl ?_
    first | refine oQ (Lw rfl rfl rfl rfl) rfl rfl ?_ | refine oQ (La rfl rfl rfl rfl rfl) rfl rfl ?_
    refine oQe (Q_call (hta) [] rfl rfl (Fits.mk' vHn rfl rfl (by first | (simp; done) | exact glOk rfl rfl rfl)) rfl rfl) (show _ = .tuple [.arr (tgL p c a), .bool b1] from rfl) rfl rfl ?_
    refine oM rfl rfl ?_
    iterate 2 refine oQ (Q_extract rfl rfl) rfl rfl ?_
    refine oAlloc rfl rfl rfl rfl rfl rfl rfl ?_
    first | refine oSw rfl rfl rfl rfl ?_ | refine oSa rfl rfl rfl rfl ?_
    refine oA rfl rfl ?_
    refine oN ?_
    refine cR ?_
    refine oM rfl rfl ?_
    first | refine oQ (Lw rfl rfl rfl rfl) rfl rfl ?_ | refine oQ (La rfl rfl rfl rfl rfl) rfl rfl ?_
    first | refine oQ (Lw rfl rfl rfl rfl) rfl rfl ?_ | refine oQ (La rfl rfl rfl rfl rfl) rfl rfl ?_
    refine oQe (Q_call (htb) [] rfl rfl (Fits.mk' vHn rfl rfl (by first | (simp; done) | exact glOk rfl rfl rfl)) rfl rfl) (show _ = .tuple [.arr (tgL p c b), .bool b2] from rfl) rfl rfl ?_
    refine oM rfl rfl ?_
    iterate 2 refine oQ (Q_extract rfl rfl) rfl rfl ?_
    refine oAlloc rfl rfl rfl rfl rfl rfl rfl ?_
    first | refine oSw rfl rfl rfl rfl ?_ | refine oSa rfl rfl rfl rfl ?_
    refine oA rfl rfl ?_
    refine oN ?_
    refine CW_seq ?_
    refine cR ?_
    refine oM rfl rfl ?_
    refine oQ (Q_not rfl) rfl rfl ?_
    refine oM rfl rfl ?_
    all_goals first | refine oT rfl rfl ?_ | refine o1 rfl rfl rfl ?_ | refine o0 rfl rfl rfl ?_ | refine ogP1 rfl rfl rfl (fun hg => ?_) (fun hg => ?_) | refine ogP0 rfl rfl rfl (fun hg => ?_) (fun hg => ?_)
    all_goals try simp only [s1, s2, s3, s4, s5, s6, s7, s8, s9, s10, s11, s12] at hg
    all_goals first | (refine oM rfl rfl ?_) | skip
    all_goals first | refine oT rfl rfl ?_ | refine o1 rfl rfl rfl ?_ | refine o0 rfl rfl rfl ?_ | refine ogP1 rfl rfl rfl (fun hg => ?_) (fun hg => ?_) | refine ogP0 rfl rfl rfl (fun hg => ?_) (fun hg => ?_)
    all_goals try simp only [s1, s2, s3, s4, s5, s6, s7, s8, s9, s10, s11, s12] at hg
    all_goals first | (refine oQ (Q_not rfl) rfl rfl ?_) | skip
    all_goals first | refine oQ (Q_pick_t rfl (by with_reducible rfl) rfl rfl) rfl rfl ?_ | refine oQ (Q_pick_f rfl (by with_reducible rfl) rfl rfl) rfl rfl ?_
    all_goals first | (refine oM rfl rfl ?_)
    all_goals first | refine oT rfl rfl ?_ | refine o1 rfl rfl rfl ?_ | refine o0 rfl rfl rfl ?_ | refine ogP1 rfl rfl rfl (fun hg => ?_) (fun hg => ?_) | refine ogP0 rfl rfl rfl (fun hg => ?_) (fun hg => ?_)
    all_goals try simp only [s1, s2, s3, s4, s5, s6, s7, s8, s9, s10, s11, s12] at hg
    all_goals first | (refine oM rfl rfl ?_) | skip
    all_goals first | refine oT rfl rfl ?_ | refine o1 rfl rfl rfl ?_ | refine o0 rfl rfl rfl ?_ | refine ogP1 rfl rfl rfl (fun hg => ?_) (fun hg => ?_) | refine ogP0 rfl rfl rfl (fun hg => ?_) (fun hg => ?_)
    all_goals try simp only [s1, s2, s3, s4, s5, s6, s7, s8, s9, s10, s11, s12] at hg
    all_goals first | refine oQ (Lw rfl rfl rfl rfl) rfl rfl ?_ | refine oQ (La rfl rfl rfl rfl rfl) rfl rfl ?_ | skip
    all_goals first | refine oT rfl rfl ?_ | refine o1 rfl rfl rfl ?_ | refine o0 rfl rfl rfl ?_ | refine ogP1 rfl rfl rfl (fun hg => ?_) (fun hg => ?_) | refine ogP0 rfl rfl rfl (fun hg => ?_) (fun hg => ?_)
    all_goals try simp only [s1, s2, s3, s4, s5, s6, s7, s8, s9, s10, s11, s12] at hg
    all_goals first | refine oQ (Lw rfl rfl rfl rfl) rfl rfl ?_ | refine oQ (La rfl rfl rfl rfl rfl) rfl rfl ?_ | skip
    all_goals first | refine oT rfl rfl ?_ | refine o1 rfl rfl rfl ?_ | refine o0 rfl rfl rfl ?_ | refine ogP1 rfl rfl rfl (fun hg => ?_) (fun hg => ?_) | refine ogP0 rfl rfl rfl (fun hg => ?_) (fun hg => ?_)
    all_goals try simp only [s1, s2, s3, s4, s5, s6, s7, s8, s9, s10, s11, s12] at hg
    all_goals first | (refine oQ (Q_call0 (hona) rfl rfl rfl) rfl rfl ?_) | skip
    all_goals first | refine oT rfl rfl ?_ | refine o1 rfl rfl rfl ?_ | refine o0 rfl rfl rfl ?_ | refine ogP1 rfl rfl rfl (fun hg => ?_) (fun hg => ?_) | refine ogP0 rfl rfl rfl (fun hg => ?_) (fun hg => ?_)
    all_goals try simp only [s1, s2, s3, s4, s5, s6, s7, s8, s9, s10, s11, s12] at hg
    all_goals first | (refine oQ (Q_not rfl) rfl rfl ?_) | skip
    all_goals first | refine oQ (Q_pick_t rfl (by with_reducible rfl) rfl rfl) rfl rfl ?_ | refine oQ (Q_pick_f rfl (by with_reducible rfl) rfl rfl) rfl rfl ?_
    all_goals first | (refine oM rfl rfl ?_)
    all_goals first | refine oT rfl rfl ?_ | refine o1 rfl rfl rfl ?_ | refine o0 rfl rfl rfl ?_ | refine ogP1 rfl rfl rfl (fun hg => ?_) (fun hg => ?_) | refine ogP0 rfl rfl rfl (fun hg => ?_) (fun hg => ?_)
    all_goals try simp only [s1, s2, s3, s4, s5, s6, s7, s8, s9, s10, s11, s12] at hg
    all_goals first | (refine oM rfl rfl ?_) | skip
    all_goals first | refine oT rfl rfl ?_ | refine o1 rfl rfl rfl ?_ | refine o0 rfl rfl rfl ?_ | refine ogP1 rfl rfl rfl (fun hg => ?_) (fun hg => ?_) | refine ogP0 rfl rfl rfl (fun hg => ?_) (fun hg => ?_)
    all_goals try simp only [s1, s2, s3, s4, s5, s6, s7, s8, s9, s10, s11, s12] at hg
    all_goals first | refine oQ (Lw rfl rfl rfl rfl) rfl rfl ?_ | refine oQ (La rfl rfl rfl rfl rfl) rfl rfl ?_ | skip
    all_goals first | refine oT rfl rfl ?_ | refine o1 rfl rfl rfl ?_ | refine o0 rfl rfl rfl ?_ | refine ogP1 rfl rfl rfl (fun hg => ?_) (fun hg => ?_) | refine ogP0 rfl rfl rfl (fun hg => ?_) (fun hg => ?_)
    all_goals try simp only [s1, s2, s3, s4, s5, s6, s7, s8, s9, s10, s11, s12] at hg
    all_goals first | refine oQ (Lw rfl rfl rfl rfl) rfl rfl ?_ | refine oQ (La rfl rfl rfl rfl rfl) rfl rfl ?_ | skip
    all_goals first | refine oT rfl rfl ?_ | refine o1 rfl rfl rfl ?_ | refine o0 rfl rfl rfl ?_ | refine ogP1 rfl rfl rfl (fun hg => ?_) (fun hg => ?_) | refine ogP0 rfl rfl rfl (fun hg => ?_) (fun hg => ?_)
    all_goals try simp only [s1, s2, s3, s4, s5, s6, s7, s8, s9, s10, s11, s12] at hg
    all_goals first | (refine oQ (Q_call0 (honb) rfl rfl rfl) rfl rfl ?_) | skip
    all_goals first | refine oT rfl rfl ?_ | refine o1 rfl rfl rfl ?_ | refine o0 rfl rfl rfl ?_ | refine ogP1 rfl rfl rfl (fun hg => ?_) (fun hg => ?_) | refine ogP0 rfl rfl rfl (fun hg => ?_) (fun hg => ?_)
    all_goals try simp only [s1, s2, s3, s4, s5, s6, s7, s8, s9, s10, s11, s12] at hg
    all_goals first | (refine oQ (Q_not rfl) rfl rfl ?_) | skip
    all_goals first | refine oQ (Q_pick_t rfl (by with_reducible rfl) rfl rfl) rfl rfl ?_ | refine oQ (Q_pick_f rfl (by with_reducible rfl) rfl rfl) rfl rfl ?_
    all_goals refine oN ?_
    all_goals (
     first | refine cT rfl ?_ | refine cF rfl ?_ | refine CW_cond rfl (fun hc => ?_) (fun hc => ?_)
     all_goals try simp only [s1, s2, s3, s4, s5, s6, s7, s8, s9, s10, s11, s12] at hc
     all_goals try (exfalso; first | (cases hc; done) | (simp at hc; done) | (simp_all; done); done)
     all_goals first
       | (
        refine CW_skip ?_)
       | (
        refine cR ?_
        refine oQ (Q_build rfl rfl rfl rfl rfl rfl rfl rfl) rfl rfl ?_
        first | refine oSw rfl rfl rfl rfl ?_ | refine oSa rfl rfl rfl rfl ?_
        refine oA rfl rfl ?_
        refine oN ?_
        refine CW_ret ?_))
    all_goals first
      | with_reducible refine tR ?_
      | with_reducible refine tE ?_
      | (
       with_reducible refine tN ?_
       refine CW_seq ?_
       refine cR ?_
       (exfalso; simp_all; done)
       first | refine oQ (Lw rfl rfl rfl rfl) rfl rfl ?_ | refine oQ (La rfl rfl rfl rfl rfl) rfl rfl ?_
       refine oQ (Q_arrb rfl rfl rfl rfl rfl rfl rfl rfl rfl (by first | omega | (dsimp only; omega) | (simp; omega) | (simp; done)) (by first | omega | (dsimp only; omega) | (simp; omega) | (simp; done))) rfl rfl ?_
       refine oN ?_
       first | refine cT rfl ?_ | refine cF rfl ?_ | refine CW_cond rfl (fun hc => ?_) (fun hc => ?_)
       all_goals try simp only [s1, s2, s3, s4, s5, s6, s7, s8, s9, s10, s11, s12] at hc
       all_goals try (exfalso; first | (cases hc; done) | (simp at hc; done) | (simp_all; done); done)
       all_goals first
         | (
          refine CW_skip ?_)
         | (
          refine cR ?_
          refine oM rfl rfl ?_
          first | refine oQ (Lw rfl rfl rfl rfl) rfl rfl ?_ | refine oQ (La rfl rfl rfl rfl rfl) rfl rfl ?_
          first | refine oQ (Lw rfl rfl rfl rfl) rfl rfl ?_ | refine oQ (La rfl rfl rfl rfl rfl) rfl rfl ?_
          fail "call of loop.example/g01310/spec.l01Join at slot 63"
          refine oM rfl rfl ?_
          iterate 2 refine oQ (Q_extract rfl rfl) rfl rfl ?_
          refine oAlloc rfl rfl rfl rfl rfl rfl rfl ?_
          first | refine oSw rfl rfl rfl rfl ?_ | refine oSa rfl rfl rfl rfl ?_
          refine oA rfl rfl ?_
          refine oN ?_
          refine CW_region ?_
          first | refine oQ (Lw rfl rfl rfl rfl) rfl rfl ?_ | refine oQ (La rfl rfl rfl rfl rfl) rfl rfl ?_
          first | refine oSw rfl rfl rfl rfl ?_ | refine oSa rfl rfl rfl rfl ?_
          refine OW_nil ?_)
       all_goals with_reducible refine tN ?_
       all_goals (
        refine cR ?_
        refine oM rfl rfl ?_
        first | refine oQ (Lw rfl rfl rfl rfl) rfl rfl ?_ | refine oQ (La rfl rfl rfl rfl rfl) rfl rfl ?_
        first | refine oQ (Lw rfl rfl rfl rfl) rfl rfl ?_ | refine oQ (La rfl rfl rfl rfl rfl) rfl rfl ?_
        fail "call of loop.example/g01310/spec.l06Meet at slot 71"
        refine oM rfl rfl ?_
        iterate 3 refine oQ (Q_extract rfl rfl) rfl rfl ?_
        iterate 3 refine oA rfl rfl ?_
        refine oN ?_
        refine CW_seq ?_
        refine cR ?_
        refine oA rfl rfl ?_
        refine oN ?_
        refine CW_block ?_
        fail "loop 0 wants its states"
        · first | trivial | omega | (simp; done) | (simp; omega)
        · refine View.mk' [] rfl rfl rfl ?_ ?_
          repeat' first | exact vFn | refine vFc rfl ?_ | exact vHn | refine vHc rfl ?_ | refine vFc (congrArg (fun z => some (V.int z)) ?_) ?_ | refine vHc (congrArg (fun z => some (Blk.ints _ z)) ?_) ?_ | refine vFc (congrArg (fun z => some (V.bool z)) ?_) ?_ | refine vFs rfl rfl ?_ ?_
        intro i hi
        refine CW_seq ?_
        refine cR ?_
        iterate 2 refine oM rfl rfl ?_
        first | refine oQ (Q_len rfl rfl rfl rfl) rfl rfl ?_ | refine oQ (Q_len0 rfl rfl rfl rfl) rfl rfl ?_
        refine oQ (Q_bin rfl rfl rfl) rfl rfl ?_
        refine oM rfl rfl ?_
        all_goals first | refine oT rfl rfl ?_ | refine o1 rfl rfl rfl ?_ | refine o0 rfl rfl rfl ?_ | refine ogP1 rfl rfl rfl (fun hg => ?_) (fun hg => ?_) | refine ogP0 rfl rfl rfl (fun hg => ?_) (fun hg => ?_)
        all_goals try simp only [s1, s2, s3, s4, s5, s6, s7, s8, s9, s10, s11, s12] at hg
        all_goals first | (refine oM rfl rfl ?_) | skip
        all_goals first | refine oQ (Q_pick_t rfl (by with_reducible rfl) rfl rfl) rfl rfl ?_ | refine oQ (Q_pick_f rfl (by with_reducible rfl) rfl rfl) rfl rfl ?_
        all_goals refine oN ?_
        all_goals (
         first | refine cT rfl ?_ | refine cF rfl ?_ | refine CW_cond rfl (fun hc => ?_) (fun hc => ?_)
         all_goals try simp only [s1, s2, s3, s4, s5, s6, s7, s8, s9, s10, s11, s12] at hc
         all_goals try (exfalso; first | (cases hc; done) | (simp at hc; done) | (simp_all; done); done)
         all_goals first
           | (
            refine CW_skip ?_)
           | (
            refine CW_exit ?_))
        all_goals first
          | with_reducible refine tR ?_
          | with_reducible refine tE ?_
          | (
           with_reducible refine tN ?_
           refine CW_seq ?_
           refine CW_block ?_
           refine cR ?_
           iterate 2 refine oM rfl rfl ?_
           first | refine oQ (Is0 rfl rfl rfl rfl rfl rfl) rfl rfl ?_ | refine oQ (Is1 rfl rfl rfl rfl rfl rfl) rfl rfl ?_
           refine oQ (Ld rfl rfl rfl rfl) rfl rfl ?_
           refine oA rfl rfl ?_
           refine oN ?_
           iterate 2 refine CW_seq ?_
           refine CW_draw lateOk (by decide +kernel) ?_
           iterate 2 refine qM rfl rfl ?_
           first | refine qQ (Q_ixs0z 3 rfl rfl rfl rfl rfl rfl (by first | omega | (dsimp only; omega) | (simp; omega) | (simp; done))) rfl rfl ?_ | refine qQ (Q_ixsz 3 rfl rfl rfl rfl rfl rfl (by first | omega | (dsimp only; omega) | (simp; omega) | (simp; done))) rfl rfl ?_
           first | refine qQ (Lw rfl rfl rfl rfl) rfl rfl ?_ | refine qQ (La rfl rfl rfl rfl rfl) rfl rfl ?_
           first | refine qQ (Lw rfl rfl rfl rfl) rfl rfl ?_ | refine qQ (La rfl rfl rfl rfl rfl) rfl rfl ?_
           refine qQ (Q_arrb rfl rfl rfl rfl rfl rfl rfl rfl rfl (by first | omega | (dsimp only; omega) | (simp; omega) | (simp; done)) (by first | omega | (dsimp only; omega) | (simp; omega) | (simp; done))) rfl rfl ?_
           refine QW_nil ?_
           all_goals with_reducible refine tN ?_
           all_goals (
            first | refine cT rfl ?_ | refine cF rfl ?_ | refine CW_cond rfl (fun hc => ?_) (fun hc => ?_)
            all_goals try simp only [s1, s2, s3, s4, s5, s6, s7, s8, s9, s10, s11, s12] at hc
            all_goals try (exfalso; first | (cases hc; done) | (simp at hc; done) | (simp_all; done); done)
            all_goals first
              | (
               refine CW_skip ?_)
              | (
               refine CW_region ?_
               refine oM rfl rfl ?_
               first | refine oQ (Q_binu rfl rfl rfl (by omega)) rfl rfl ?_ | refine oQ (Q_bin rfl rfl rfl) rfl rfl ?_
               refine oA rfl rfl ?_
               refine OW_nil ?_))
           all_goals with_reducible refine tN ?_
           all_goals (
            iterate 2 refine CW_seq ?_
            refine CW_draw lateOk (by decide +kernel) ?_
            iterate 2 refine qM rfl rfl ?_
            first | refine qQ (Q_ixs0z 3 rfl rfl rfl rfl rfl rfl (by first | omega | (dsimp only; omega) | (simp; omega) | (simp; done))) rfl rfl ?_ | refine qQ (Q_ixsz 3 rfl rfl rfl rfl rfl rfl (by first | omega | (dsimp only; omega) | (simp; omega) | (simp; done))) rfl rfl ?_
            first | refine qQ (Lw rfl rfl rfl rfl) rfl rfl ?_ | refine qQ (La rfl rfl rfl rfl rfl) rfl rfl ?_
            first | refine qQ (Lw rfl rfl rfl rfl) rfl rfl ?_ | refine qQ (La rfl rfl rfl rfl rfl) rfl rfl ?_
            refine qQ (Q_arrb rfl rfl rfl rfl rfl rfl rfl rfl rfl (by first | omega | (dsimp only; omega) | (simp; omega) | (simp; done)) (by first | omega | (dsimp only; omega) | (simp; omega) | (simp; done))) rfl rfl ?_
            refine QW_nil ?_
            all_goals with_reducible refine tN ?_
            all_goals (
             first | refine cT rfl ?_ | refine cF rfl ?_ | refine CW_cond rfl (fun hc => ?_) (fun hc => ?_)
             all_goals try simp only [s1, s2, s3, s4, s5, s6, s7, s8, s9, s10, s11, s12] at hc
             all_goals try (exfalso; first | (cases hc; done) | (simp at hc; done) | (simp_all; done); done)
             all_goals first
               | (
                refine CW_skip ?_)
               | (
                refine CW_region ?_
                refine oM rfl rfl ?_
                first | refine oQ (Q_binu rfl rfl rfl (by omega)) rfl rfl ?_ | refine oQ (Q_bin rfl rfl rfl) rfl rfl ?_
                refine oA rfl rfl ?_
                refine OW_nil ?_))
            all_goals with_reducible refine tN ?_
            all_goals (
             refine cR ?_
             refine oM rfl rfl ?_
             refine oQ (Q_bin rfl rfl rfl) rfl rfl ?_
             refine oN ?_
             first | refine cT rfl ?_ | refine cF rfl ?_ | refine CW_cond rfl (fun hc => ?_) (fun hc => ?_)
             all_goals try simp only [s1, s2, s3, s4, s5, s6, s7, s8, s9, s10, s11, s12] at hc
             all_goals try (exfalso; first | (cases hc; done) | (simp at hc; done) | (simp_all; done); done)
             all_goals first
               | (
                refine CW_skip ?_)
               | (
                refine cR ?_
                iterate 2 refine oM rfl rfl ?_
                first | refine oQ (Q_ixs0z 3 rfl rfl rfl rfl rfl rfl (by first | omega | (dsimp only; omega) | (simp; omega) | (simp; done))) rfl rfl ?_ | refine oQ (Q_ixsz 3 rfl rfl rfl rfl rfl rfl (by first | omega | (dsimp only; omega) | (simp; omega) | (simp; done))) rfl rfl ?_
                first | refine oQ (Lw rfl rfl rfl rfl) rfl rfl ?_ | refine oQ (La rfl rfl rfl rfl rfl) rfl rfl ?_
                first | refine oSw rfl rfl rfl rfl ?_ | refine oSa rfl rfl rfl rfl ?_
                refine oA rfl rfl ?_
                refine oN ?_
                refine CW_ret ?_)))
           all_goals first | with_reducible refine bN ?_ | with_reducible refine bE ?_ | with_reducible refine bR ?_ | refine bX rfl ?_
           all_goals first
             | with_reducible refine tR ?_
             | with_reducible refine tE ?_
             | (
              with_reducible refine tN ?_
              refine CW_region ?_
              refine oM rfl rfl ?_
              first | refine oQ (Q_binu rfl rfl rfl (by omega)) rfl rfl ?_ | refine oQ (Q_bin rfl rfl rfl) rfl rfl ?_
              refine oA rfl rfl ?_
              refine OW_nil ?_))
        all_goals first
          | with_reducible refine tR ?_
          | with_reducible refine tE ?_
          | (
           with_reducible refine tN ?_
           fail "again 0")
        all_goals first | with_reducible refine bN ?_ | with_reducible refine bE ?_ | with_reducible refine bR ?_ | refine bX rfl ?_
        all_goals first
          | with_reducible refine tR ?_
          | with_reducible refine tE ?_
          | (
           with_reducible refine tN ?_
           refine cR ?_
           refine oQ (Q_build rfl rfl rfl rfl rfl rfl rfl rfl) rfl rfl ?_
           first | refine oSw rfl rfl rfl rfl ?_ | refine oSa rfl rfl rfl rfl ?_
           refine oA rfl rfl ?_
           refine oN ?_
           refine CW_ret ?_)))
    all_goals (
     first | ((refine exitQ (.inr rfl) 0 (.cons (.arr rfl rfl rfl rfl (by first | omega | (dsimp only; omega) | (simp; omega) | (simp; done))) (.cons (.tmp rfl rfl) .nil)) ?_ rfl vHn rfl rfl); rfl) | (exfalso; simp_all; done))
end Go.Proofs.YtcklfkblhmlbbaaDoor
