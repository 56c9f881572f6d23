/- Points put into sets; completions of the reference. Printed by gen_s1.py. -/
import Derived.Test.YtmcmbpoebhjecaaR13
import Derived.Test.YtmcmbpoebhjecaaPs
import Derived.Test.YtmcmbpoebhjecaaSl
import Derived.Test.YtmcmbpoebhjecaaEngL
namespace Go.Proofs.Ytmcmbpoebhjecaa
set_option maxRecDepth 10000
set_option linter.unusedSimpArgs false
set_option linter.unusedVariables false
theorem has_eq (L : List (List Int)) (a : List Int) : hasB L a = hasP L a := rfl
/-! ### free points do not hang on the order -/
theorem det_swap (m a b : List Int) : detT m b a = -detT m a b := by unfold detT; grind
theorem neg_mod {p d : Int} (h : ¬ d % p = 0) : ¬ (-d) % p = 0 := fun e => h (by
  obtain ⟨q, hq⟩ := Int.dvd_of_emod_eq_zero e
  exact Int.emod_eq_zero_of_dvd ⟨-q, by grind⟩)
theorem pairB_all {p : Int} {L : List (List Int)} {m : List Int} (hn : L.Nodup) : pairB p L m = true ↔ ∀ a ∈ L, ∀ b ∈ L, a ≠ b → ¬ detT m a b % p = 0 := by
  rw [pairB_iff]
  constructor
  · intro h a ha b hb hne
    obtain ⟨i, hi, rfl⟩ := List.getElem_of_mem ha
    obtain ⟨j, hj, rfl⟩ := List.getElem_of_mem hb
    rcases Nat.lt_trichotomy i j with hl | rfl | hl
    · have := h j hj i hl
      rw [getD_lt hj, getD_lt hi] at this
      have h2 := neg_mod this
      rwa [← det_swap] at h2
    · exact absurd rfl hne
    · have := h i hi j hl
      rwa [getD_lt hj, getD_lt hi] at this
  · intro h k hk j hj
    have hne := List.pairwise_iff_getElem.1 hn j k (by omega) hk hj
    rw [getD_lt hk, getD_lt (show j < L.length by omega)]
    exact h _ (List.getElem_mem _) _ (List.getElem_mem _) (Ne.symm hne)
theorem free_perm {p : Int} {L K : List (List Int)} (hL : L.Nodup) (hK : K.Nodup) (h : ∀ x, x ∈ L ↔ x ∈ K) : freeV p L = freeV p K := by
  unfold freeV
  refine List.filter_congr fun m _ => ?_
  unfold freeB
  have e1 : hasB L m = hasB K m := by
    rw [has_eq, has_eq, Bool.eq_iff_iff, hasP_iff, hasP_iff]; exact h m
  have e2 : pairB p L m = pairB p K m := by
    rw [Bool.eq_iff_iff, pairB_all hL, pairB_all hK]
    constructor
    · exact fun hh a ha b hb => hh a ((h a).2 ha) b ((h b).2 hb)
    · exact fun hh a ha b hb => hh a ((h a).1 ha) b ((h b).1 hb)
  rw [e1, e2]
theorem free_new {p : Int} {L : List (List Int)} {a : List Int} (h : a ∈ freeV p L) : a ∈ allPts p ∧ a ∉ L := by
  obtain ⟨h1, h2⟩ := List.mem_filter.1 h
  refine ⟨h1, fun hm => ?_⟩
  unfold freeB at h2
  rw [has_eq, hasP_iff.2 hm] at h2
  cases h2
/-! ### completions: by putting, by appending -/
def cpS (p : Int) : Nat → List (List Int) → List (List Int)
  | 0, L => L
  | n + 1, L => match freeV p L with | [] => L | a :: _ => cpS p n (putL L a)
def cpA (p : Int) : Nat → List (List Int) → List (List Int)
  | 0, L => L
  | n + 1, L => match freeV p L with | [] => L | a :: _ => cpA p n (L ++ [a])
def comS (p : Int) (L : List (List Int)) : List (List Int) := cpS p (200 - L.length) L
def comA (p : Int) (L : List (List Int)) : List (List Int) := cpA p (200 - L.length) L
/-- points of the plane, each once -/
structure Ok (p : Int) (L : List (List Int)) : Prop where
  v : ∀ x ∈ L, x ∈ allPts p
  nd : L.Nodup
theorem Ok.len {p : Int} {L : List (List Int)} (h : Ok p L) (hp : primeB p = true) : L.length ≤ 183 := by
  have h1 := nodup_len L (allPts p) h.nd h.v
  have h2 := allPts_len hp
  omega
theorem Ok.three {p : Int} {L : List (List Int)} (h : Ok p L) : T3 L := fun x hx => allPts_three (h.v x hx)
theorem Ok.snoc {p : Int} {L : List (List Int)} {a : List Int} (h : Ok p L) (ha : a ∈ freeV p L) : Ok p (L ++ [a]) := by
  obtain ⟨h1, h2⟩ := free_new ha
  refine ⟨fun x hx => ?_, ?_⟩
  · rcases List.mem_append.1 hx with hx | hx
    · exact h.v x hx
    · rw [List.mem_singleton] at hx; subst hx; exact h1
  · rw [List.nodup_append]
    refine ⟨h.nd, by simp, fun x hx y hy e => ?_⟩
    rw [List.mem_singleton] at hy
    subst hy; subst e
    exact h2 hx
theorem Ok.put {p : Int} {L : List (List Int)} {a : List Int} (h : Ok p L) (hl : PL L) (ha : a ∈ freeV p L) : Ok p (putL L a) ∧ PL (putL L a) ∧ (putL L a).length = L.length + 1 := by
  obtain ⟨h1, h2⟩ := free_new ha
  have hq := putL_pl h.three hl (allPts_three h1)
  refine ⟨⟨fun x hx => ?_, pl_nodup hq⟩, hq, ?_⟩
  · rcases putL_mem.1 hx with rfl | hx
    · exact h1
    · exact h.v x hx
  · unfold putL
    rw [if_neg (fun e => h2 (hasP_iff.1 e)), ins_len]
theorem comS_step {p : Int} {L t : List (List Int)} {a : List Int} (h : Ok p L) (hl : PL L) (hp : primeB p = true) (hf : freeV p L = a :: t) : comS p L = comS p (putL L a) := by
  have h1 := h.len hp
  have h2 := (h.put hl (by rw [hf]; exact List.mem_cons_self)).2.2
  unfold comS
  obtain ⟨m, hm⟩ : ∃ m, 200 - L.length = m + 1 := ⟨199 - L.length, by omega⟩
  rw [hm, cpS, hf, h2, show 200 - (L.length + 1) = m by omega]
theorem comS_end {p : Int} {L : List (List Int)} (hf : freeV p L = []) : comS p L = L := by
  unfold comS
  cases 200 - L.length with
  | zero => rfl
  | succ m => rw [cpS, hf]
theorem comA_step {p : Int} {L t : List (List Int)} {a : List Int} (h : Ok p L) (hp : primeB p = true) (hf : freeV p L = a :: t) : comA p L = comA p (L ++ [a]) := by
  have h1 := h.len hp
  unfold comA
  obtain ⟨m, hm⟩ : ∃ m, 200 - L.length = m + 1 := ⟨199 - L.length, by omega⟩
  rw [hm, cpA, hf, List.length_append, List.length_singleton, show 200 - (L.length + 1) = m by omega]
theorem comA_end {p : Int} {L : List (List Int)} (hf : freeV p L = []) : comA p L = L := by
  unfold comA
  cases 200 - L.length with
  | zero => rfl
  | succ m => rw [cpA, hf]
theorem cp_eq {p : Int} : ∀ (n : Nat) (L : List (List Int)), Ok p L → cpS p n (srtV L) = srtV (cpA p n L)
  | 0, L, _ => rfl
  | n + 1, L, h => by
    have e : freeV p (srtV L) = freeV p L := free_perm (pl_nodup (srt_pl h.three)) h.nd fun x => srt_mem h.three
    rw [cpS, cpA, e]
    cases hf : freeV p L with
    | nil => rfl
    | cons a t =>
      have ha : a ∈ freeV p L := by rw [hf]; exact List.mem_cons_self
      show cpS p n (putL (srtV L) a) = srtV (cpA p n (L ++ [a]))
      rw [srt_put h.three (allPts_three (free_new ha).1)]
      exact cp_eq n _ (h.snoc ha)
theorem srt_len_eq {L : List (List Int)} (h3 : T3 L) (hn : L.Nodup) : (srtV L).length = L.length := by
  have h1 := nodup_len L (srtV L) hn fun x hx => (srt_mem h3).2 hx
  have h2 := srt_len L
  omega
theorem com_eq {p : Int} {L : List (List Int)} (h : Ok p L) : comS p (srtV L) = srtV (comA p L) := by
  unfold comS comA
  rw [srt_len_eq h.three h.nd]
  exact cp_eq _ _ h
theorem com_set {p : Int} {L : List (List Int)} (h : Ok p L) (hl : PL L) : comS p L = srtV (comA p L) := by
  have := com_eq h
  rwa [srt_pl_self h.three hl] at this
theorem cpA_ok {p : Int} : ∀ (n : Nat) (L : List (List Int)), Ok p L → Ok p (cpA p n L)
  | 0, L, h => h
  | n + 1, L, h => by
    rw [cpA]
    cases hf : freeV p L with
    | nil => exact h
    | cons a t => exact cpA_ok n _ (h.snoc (by rw [hf]; exact List.mem_cons_self))
theorem comA_ok {p : Int} {L : List (List Int)} (h : Ok p L) : Ok p (comA p L) := cpA_ok _ _ h
theorem set_ok {p : Int} {L : List (List Int)} (h3 : T3 L) (hS : setC p L = 0) : Ok p L ∧ PL L := ⟨⟨(set_all h3 hS).1, (set_all h3 hS).2.1⟩, grow_pair h3 (setC_zero hS).2.2.1⟩
theorem com_len {p : Int} {L : List (List Int)} (hp : primeB p = true) (h : Ok p L) : (srtV (comA p L)).length ≤ 183 := by
  have h1 := (comA_ok h).len hp
  have h2 := srt_len (comA p L)
  omega
attribute [local irreducible] CW OW QW QOp Con thenP inBlockP

theorem l07Put_con (L : List (List Int)) (sp : List Int) (k : Nat) (h3 : ∀ x ∈ L, x.length = 3) (a : List Int) (ha : a.length = 3) (hn9 : L.length ≤ 1000000) : Con Try.prog [] 77 [.slice 0 0 L.length k, .arr a] [(0, .ints 49 (L.flatten ++ sp))] (ownR 3 49 [(0, .ints 49 (L.flatten ++ sp))] 1 (putL L a)) := by
  have hf3 := flat3 h3
  have h3i : ∀ i, i < L.length → (L.getD i []).length = 3 := fun i hi => h3 _ (getD_mem hi)
  refine conW tab_ok [(0, .slice 0 0 L.length k), (1, .arr a)] 1 [0] [0] Try.func77 rfl rfl rfl rfl rfl rfl rfl rfl rfl ?_
  refine cR ?_
  refine oBox rfl rfl rfl rfl rfl rfl ?_
  refine oA rfl rfl ?_
  refine oN ?_
  refine cR ?_
  refine oBsl rfl rfl rfl rfl (.inr ⟨rfl, rfl, by decide⟩) rfl rfl rfl rfl rfl rfl ?_
  refine oM rfl rfl ?_
  refine oQ (Q_ldw rfl rfl rfl rfl ha) rfl rfl ?_
  refine oQ (Q_call (l07Has_con L sp k h3 a ha (by omega)) [] rfl rfl (Fits.mk' (vHc rfl vHn) rfl rfl (by simp)) rfl rfl) rfl rfl ?_
  iterate 2 refine oA rfl rfl ?_
  refine oN ?_
  refine CW_seq ?_
  refine cR ?_
  refine oA rfl rfl ?_
  refine oN ?_
  refine CW_block ?_
  refine CW_loop (ι := Nat × Nat × List Int) (fun x => x.1 ≤ L.length ∧ (stL a (hasB L a) (L.take x.1)).2.length ≤ x.2.1 ∧ x.2.1 * 3 ≤ (stL a (hasB L a) (L.take x.1)).2.length * 3 + x.2.2.length) (fun x => ⟨[(0, .slice 0 0 L.length k), (3, .ptr 1 0), (5, .slice 2 0 (stL a (hasB L a) (L.take x.1)).2.length x.2.1), (6, .bool (stL a (hasB L a) (L.take x.1)).1), (7, .int (x.1 : Nat))], [(0, .ints 49 (L.flatten ++ sp)), (1, .ints 49 a), (2, .ints 49 ((stL a (hasB L a) (L.take x.1)).2.flatten ++ x.2.2))], 3⟩) (fun x => L.length - x.1) (0, 0, []) ?_ ?_ ?_
  · exact ⟨Nat.zero_le _, Nat.le_refl _, Nat.le_refl _⟩
  · refine View.mk' [] rfl rfl rfl ?_ ?_
    repeat' first | exact vFn | refine vFc rfl ?_ | exact vHn | refine vHc rfl ?_ | refine vFc (congrArg (fun z => some (V.int z)) ?_) ?_ | refine vHc (congrArg (fun z => some (Blk.ints _ z)) ?_) ?_ | refine vFc (congrArg (fun z => some (V.bool z)) ?_) ?_ | refine vFs rfl rfl ?_ ?_
  rintro ⟨i, kk, ss⟩ ⟨hi, hk, hsp⟩
  dsimp only at hi hk hsp ⊢
  obtain ⟨hS3, hSl⟩ := stL_inv ha (hasB L a) (L := L.take i) (fun x hx => h3 x (List.mem_of_mem_take hx))
  have hSf := flat3 hS3
  have hSm : (L.take i).length ≤ i := by rw [List.length_take]; omega
  have hsn := fun h : i < L.length => stL_snoc (a := a) (d := hasB L a) h
  generalize hst : stL a (hasB L a) (L.take i) = st at *
  obtain ⟨dn, out⟩ := st
  dsimp only at *
  have hSf1 : (out.flatten ++ a).length = (out.length + 1) * 3 := by rw [List.length_append, hSf, ha]; omega
  refine CW_seq ?_
  refine cR ?_
  iterate 2 refine oM rfl rfl ?_
  first | refine oQ (Q_len rfl rfl rfl rfl) rfl rfl ?_ | refine oQ (Q_len0 rfl rfl rfl rfl) rfl rfl ?_
  refine oQ (Q_bin rfl rfl rfl) rfl rfl ?_
  refine oN ?_
  first | refine cT rfl ?_ | refine cF rfl ?_ | refine CW_cond rfl (fun hc => ?_) (fun hc => ?_)
  all_goals try simp only [s1, s2, s3, s4, s5, s6, s7, s8, s9, s10, s11, s12] at hc
  all_goals first
    | (
     refine CW_skip ?_)
    | (
     refine CW_exit ?_)
  all_goals first
    | with_reducible refine tR ?_
    | with_reducible refine tE ?_
    | (
     with_reducible refine tN ?_
     refine CW_seq ?_
     refine CW_block ?_
     iterate 2 refine CW_seq ?_
     refine CW_draw lateOk (by decide +kernel) ?_
     refine qM rfl rfl ?_
     refine qQ (Q_not rfl) rfl rfl ?_
     refine qM rfl rfl ?_
     all_goals first | refine qT rfl rfl ?_ | refine q1 rfl rfl rfl ?_ | refine q0 rfl rfl rfl ?_ | refine qgP1 rfl rfl rfl (fun hg => ?_) (fun hg => ?_) | refine qgP0 rfl rfl rfl (fun hg => ?_) (fun hg => ?_)
     all_goals try simp only [s1, s2, s3, s4, s5, s6, s7, s8, s9, s10, s11, s12] at hg
     all_goals first | (refine qQ (Q_ldw rfl rfl rfl rfl ha) rfl rfl ?_) | skip
     all_goals first | refine qT rfl rfl ?_ | refine q1 rfl rfl rfl ?_ | refine q0 rfl rfl rfl ?_ | refine qgP1 rfl rfl rfl (fun hg => ?_) (fun hg => ?_) | refine qgP0 rfl rfl rfl (fun hg => ?_) (fun hg => ?_)
     all_goals try simp only [s1, s2, s3, s4, s5, s6, s7, s8, s9, s10, s11, s12] at hg
     all_goals first | (refine qM rfl rfl ?_) | skip
     all_goals first | refine qT rfl rfl ?_ | refine q1 rfl rfl rfl ?_ | refine q0 rfl rfl rfl ?_ | refine qgP1 rfl rfl rfl (fun hg => ?_) (fun hg => ?_) | refine qgP0 rfl rfl rfl (fun hg => ?_) (fun hg => ?_)
     all_goals try simp only [s1, s2, s3, s4, s5, s6, s7, s8, s9, s10, s11, s12] at hg
     all_goals first | (refine qM rfl rfl ?_) | skip
     all_goals first | refine qT rfl rfl ?_ | refine q1 rfl rfl rfl ?_ | refine q0 rfl rfl rfl ?_ | refine qgP1 rfl rfl rfl (fun hg => ?_) (fun hg => ?_) | refine qgP0 rfl rfl rfl (fun hg => ?_) (fun hg => ?_)
     all_goals try simp only [s1, s2, s3, s4, s5, s6, s7, s8, s9, s10, s11, s12] at hg
     all_goals first | ((have hil : i < L.length := by omega); refine qQ (Q_ixs0z 3 rfl rfl rfl rfl rfl rfl (by omega)) rfl rfl ?_) | skip
     all_goals first | refine qT rfl rfl ?_ | refine q1 rfl rfl rfl ?_ | refine q0 rfl rfl rfl ?_ | refine qgP1 rfl rfl rfl (fun hg => ?_) (fun hg => ?_) | refine qgP0 rfl rfl rfl (fun hg => ?_) (fun hg => ?_)
     all_goals try simp only [s1, s2, s3, s4, s5, s6, s7, s8, s9, s10, s11, s12] at hg
     all_goals first | (refine qQ (Q_lda (n := 3) rfl rfl rfl rfl rfl (by rw [List.length_append, hf3]; omega)) rfl rfl ?_; rw [flat_get h3 hil]) | skip
     all_goals first | refine qT rfl rfl ?_ | refine q1 rfl rfl rfl ?_ | refine q0 rfl rfl rfl ?_ | refine qgP1 rfl rfl rfl (fun hg => ?_) (fun hg => ?_) | refine qgP0 rfl rfl rfl (fun hg => ?_) (fun hg => ?_)
     all_goals try simp only [s1, s2, s3, s4, s5, s6, s7, s8, s9, s10, s11, s12] at hg
     all_goals first | (refine qQ (Q_call0 (l07Before_con a (L.getD i []) ha (h3i i hil)) rfl rfl rfl) rfl rfl ?_) | skip
     all_goals first | refine qQ (Q_pick_t rfl (by with_reducible rfl) rfl rfl) rfl rfl ?_ | refine qQ (Q_pick_f rfl (by with_reducible rfl) rfl rfl) rfl rfl ?_
     all_goals refine QW_nil ?_
     all_goals with_reducible refine tN ?_
     all_goals (
      first | refine cT rfl ?_ | refine cF rfl ?_ | refine CW_cond rfl (fun hc => ?_) (fun hc => ?_)
      all_goals try simp only [s1, s2, s3, s4, s5, s6, s7, s8, s9, s10, s11, s12] at hc
      all_goals first
        | (
         refine CW_skip ?_)
        | (
         refine cR ?_
         refine oM rfl rfl ?_
         refine oQ (Q_ldw rfl rfl rfl rfl ha) rfl rfl ?_
         refine oBsl1 ha rfl rfl rfl rfl rfl rfl rfl rfl rfl rfl ?_
         refine oApp (sz := 3) (by_ := 24) (xl := a) rfl rfl rfl rfl rfl rfl ⟨by decide, rfl, .inr rfl⟩ rfl rfl rfl rfl rfl rfl hSf (by rw [ha]) (by omega) (by omega) (by omega) (by omega) rfl rfl (fun k2 sp2 h1 h2 => ?_)
         refine oA rfl rfl ?_
         refine oN ?_
         refine CW_region ?_
         refine oA rfl rfl ?_
         refine OW_nil ?_))
     all_goals with_reducible refine tN ?_
     all_goals (
      refine CW_region ?_
      iterate 3 refine oM rfl rfl ?_
      (have hil : i < L.length := by omega); (have h3m := h3i i hil); (have hsm := hsn hil); refine oQ (Q_ixs0z 3 rfl rfl rfl rfl rfl rfl (by omega)) rfl rfl ?_
      refine oQ (Q_lda (n := 3) rfl rfl rfl rfl rfl (by rw [List.length_append, hf3]; omega)) rfl rfl ?_; rw [flat_get h3 hil]
      refine oBsl1 h3m rfl rfl rfl rfl rfl rfl rfl rfl rfl rfl ?_
      first | refine oApp (sz := 3) (by_ := 24) (xl := L.getD i []) rfl rfl rfl rfl rfl rfl ⟨by decide, rfl, .inr rfl⟩ rfl rfl rfl rfl rfl rfl hSf (by rw [h3m]) (by omega) (by omega) (by omega) (by omega) rfl rfl (fun k2 sp2 h1 h2 => ?_) | refine oApp (sz := 3) (by_ := 24) (xl := L.getD i []) rfl rfl rfl rfl rfl rfl ⟨by decide, rfl, .inr rfl⟩ rfl rfl rfl rfl rfl rfl hSf1 (by rw [h3m]) (by omega) (by omega) (by omega) (by omega) rfl rfl (fun k2 sp2 h1 h2 => ?_)
      refine oA rfl rfl ?_
      refine OW_nil ?_)
     all_goals first | with_reducible refine bN ?_ | with_reducible refine bE ?_ | with_reducible refine bR ?_ | refine bX rfl ?_
     all_goals with_reducible refine tN ?_
     all_goals (
      refine CW_region ?_
      refine oM rfl rfl ?_
      first | refine oQ (Q_binu rfl rfl rfl (by omega)) rfl rfl ?_ | refine oQ (Q_bin rfl rfl rfl) rfl rfl ?_
      refine oA rfl rfl ?_
      refine OW_nil ?_))
  all_goals first
    | with_reducible refine tR ?_
    | with_reducible refine tE ?_
    | (
     with_reducible refine tN ?_
     first
       | (
        refine ⟨(i + 1, k2, sp2), ?_, ?_, View.mk' [(2, 4)] rfl rfl rfl ?_ ?_⟩
        · dsimp only
          rw [hsm]
          unfold stP
          first
            | (rw [if_pos (by rw [hg]; exact decide_eq_true hc)]; simp only [List.length_append, List.length_cons, List.length_nil]; omega)
            | (rw [if_neg (by rw [hg]; first | (intro h; cases h; done) | (intro h; have h' := of_decide_eq_true h; omega))]; simp only [List.length_append, List.length_cons, List.length_nil]; omega)
        · omega
        all_goals (repeat' first | exact vFn | refine vFc rfl ?_ | exact vHn | refine vHc rfl ?_ | refine vFc (congrArg (fun z => some (V.int z)) ?_) ?_ | refine vHc (congrArg (fun z => some (Blk.ints _ z)) ?_) ?_ | refine vFc (congrArg (fun z => some (V.bool z)) ?_) ?_ | refine vFs rfl rfl ?_ ?_)
        all_goals try dsimp only
        all_goals rw [hsm]
        all_goals unfold stP
        all_goals first
          | (rw [if_pos (by rw [hg]; exact decide_eq_true hc)]; first | done | (simp; done))
          | (rw [if_neg (by rw [hg]; first | (intro h; cases h; done) | (intro h; have h' := of_decide_eq_true h; omega))]; first | done | (simp; done)))
       | (
        refine ⟨(i + 1, k2, sp2), ?_, ?_, View.mk' [(2, 6)] rfl rfl rfl ?_ ?_⟩
        · dsimp only
          rw [hsm]
          unfold stP
          first
            | (rw [if_pos (by rw [hg]; exact decide_eq_true hc)]; simp only [List.length_append, List.length_cons, List.length_nil]; omega)
            | (rw [if_neg (by rw [hg]; first | (intro h; cases h; done) | (intro h; have h' := of_decide_eq_true h; omega))]; simp only [List.length_append, List.length_cons, List.length_nil]; omega)
        · omega
        all_goals (repeat' first | exact vFn | refine vFc rfl ?_ | exact vHn | refine vHc rfl ?_ | refine vFc (congrArg (fun z => some (V.int z)) ?_) ?_ | refine vHc (congrArg (fun z => some (Blk.ints _ z)) ?_) ?_ | refine vFc (congrArg (fun z => some (V.bool z)) ?_) ?_ | refine vFs rfl rfl ?_ ?_)
        all_goals try dsimp only
        all_goals rw [hsm]
        all_goals unfold stP
        all_goals first
          | (rw [if_pos (by rw [hg]; exact decide_eq_true hc)]; first | done | (simp; done))
          | (rw [if_neg (by rw [hg]; first | (intro h; cases h; done) | (intro h; have h' := of_decide_eq_true h; omega))]; first | done | (simp; done))))
  all_goals first | with_reducible refine bN ?_ | with_reducible refine bE ?_ | with_reducible refine bR ?_ | refine bX rfl ?_
  all_goals with_reducible refine tN ?_
  all_goals (
   refine CW_seq ?_
   refine cR ?_
   refine oM rfl rfl ?_
   refine oQ (Q_not rfl) rfl rfl ?_
   refine oN ?_
   first | refine cT rfl ?_ | refine cF rfl ?_ | refine CW_cond rfl (fun hc => ?_) (fun hc => ?_)
   all_goals try simp only [s1, s2, s3, s4, s5, s6, s7, s8, s9, s10, s11, s12] at hc
   all_goals first
     | (
      refine CW_skip ?_)
     | (
      refine CW_region ?_
      refine oM rfl rfl ?_
      refine oQ (Q_ldw rfl rfl rfl rfl ha) rfl rfl ?_
      refine oBsl1 ha rfl rfl rfl rfl rfl rfl rfl rfl rfl rfl ?_
      refine oApp (sz := 3) (by_ := 24) (xl := a) rfl rfl rfl rfl rfl rfl ⟨by decide, rfl, .inr rfl⟩ rfl rfl rfl rfl rfl rfl hSf (by rw [ha]) (by omega) (by omega) (by omega) (by omega) rfl rfl (fun k2 sp2 h1 h2 => ?_)
      refine oA rfl rfl ?_
      refine OW_nil ?_)
   all_goals with_reducible refine tN ?_
   all_goals (
    refine cR ?_
    refine oM rfl rfl ?_
    refine oA rfl rfl ?_
    refine oN ?_
    refine CW_ret ?_))
  all_goals (
   have hdn := hc
   have e : i = L.length := by omega
   subst e
   rw [List.take_length] at hst
   have hput := st_put a L
   rw [← has_eq, hst] at hput
   first
     | (have hR : putL L a = out ++ [a] := by rw [← hput, enP, if_pos (by simpa using hdn)]
        rw [hR]
        refine exitH (r0 := .slice 1 0 (out.length + 1) k2) (H0 := [(0, .ints 49 (L.flatten ++ sp)), (1, .ints 49 ((out.flatten ++ a) ++ sp2))]) (.inr rfl) [(1, 4)] 2 (.cons (.tmp rfl rfl) .nil) rfl rfl rfl (vHc rfl (vHc rfl vHn)) rfl rfl ⟨k2, sp2, ?_, ?_, ?_, ?_⟩
        all_goals first | (simp; omega) | (simp; done) | (simp only [List.length_append, List.length_singleton]; omega)
        done)
     | (have hR : putL L a = out := by rw [← hput, enP, if_neg (by simpa using hdn)]
        rw [hR]
        exact exitH (r0 := .slice 1 0 out.length kk) (H0 := [(0, .ints 49 (L.flatten ++ sp)), (1, .ints 49 (out.flatten ++ ss))]) (.inr rfl) [(1, 2)] 2 (.cons (.tmp rfl rfl) .nil) rfl rfl rfl (vHc rfl (vHc rfl vHn)) rfl rfl ⟨kk, ss, hk, hsp, rfl, rfl⟩))
theorem comS_next {p : Int} {L : List (List Int)} (h : Ok p L) (hl : PL L) (hp : primeB p = true) (hf : 0 < (freeV p L).length) : (freeV p L).getD 0 [] ∈ freeV p L ∧ comS p L = comS p (putL L ((freeV p L).getD 0 [])) := by
  cases e : freeV p L with
  | nil => rw [e] at hf; simp at hf
  | cons a t => exact ⟨by simp, comS_step h hl hp e⟩
theorem comS_stop {p : Int} {L : List (List Int)} (hf : ¬ 0 < (freeV p L).length) : comS p L = L := comS_end (List.length_eq_zero_iff.1 (by omega))
theorem l07Complete_con (p : Int) (L : List (List Int)) (sp : List Int) (k : Nat) (h3 : ∀ x ∈ L, x.length = 3) (hp : primeB p = true) (hO : Ok p L) (hPL : PL L) : Con Try.prog [] 52 [.int p, .slice 0 0 L.length k] [(0, .ints 49 (L.flatten ++ sp))] (ownR 3 49 [(0, .ints 49 (L.flatten ++ sp))] 1 (comS p L)) := by
  have hf3 := flat3 h3
  have hlen := hO.len hp
  have hff := flat3 (fun x (hx : x ∈ freeV p L) => allPts_three (free_new hx).1)
  have hnx := fun h => comS_next hO hPL hp h
  have hput := fun h => hO.put hPL (comS_next hO hPL hp h).1
  have ha := fun h => allPts_three (free_new (comS_next hO hPL hp h).1).1
  refine conW tab_ok [(0, .int p), (1, .slice 0 0 L.length k)] 1 [0] [0] Try.func52 rfl rfl rfl rfl rfl rfl rfl rfl rfl ?_
  refine cR ?_
  refine oA rfl rfl ?_
  refine oN ?_
  refine CW_seq ?_
  refine cR ?_
  iterate 2 refine oM rfl rfl ?_
  refine oCall (l07FreeG_con p L sp k h3 hp hO.v (by omega)) [] 2 rfl rfl (Fits.mk' (vHc rfl vHn) rfl rfl (by simp)) rfl rfl ?_
  rintro r H1 ⟨k0, sp0, hk0, hsp0, rfl, rfl⟩
  refine ⟨.slice 2 0 (freeV p L).length k0, [(0, .ints 49 (L.flatten ++ sp)), (2, .ints 49 ((freeV p L).flatten ++ sp0))], rfl, rfl, rfl, ?_⟩
  refine oA rfl rfl ?_
  refine oN ?_
  refine CW_block ?_
  refine CW_loop1 (ι := List (List Int) × (Nat × List Int) × (Nat × List Int)) (fun x => Ok p x.1 ∧ PL x.1 ∧ comS p x.1 = comS p L ∧ (x.1.length ≤ x.2.1.1 ∧ x.2.1.1 * 3 ≤ x.1.length * 3 + x.2.1.2.length) ∧ ((freeV p x.1).length ≤ x.2.2.1 ∧ x.2.2.1 * 3 ≤ (freeV p x.1).length * 3 + x.2.2.2.length)) (fun x => ⟨[(0, .int p), (1, .slice 1 0 x.1.length x.2.1.1), (5, .slice 2 0 (freeV p x.1).length x.2.2.1)], [(0, .ints 49 (L.flatten ++ sp)), (1, .ints 49 (x.1.flatten ++ x.2.1.2)), (2, .ints 49 ((freeV p x.1).flatten ++ x.2.2.2))], 3⟩) (fun x => 1000 - x.1.length) 1000 ⟨[(0, .int p), (1, .slice 0 0 L.length k), (5, .slice 2 0 (freeV p L).length k0)], [(0, .ints 49 (L.flatten ++ sp)), (2, .ints 49 ((freeV p L).flatten ++ sp0))], 3⟩ ?_ ?_ ?_
  · (
   refine View.mk' [] rfl rfl rfl ?_ ?_
   repeat' first | exact vFn | refine vFc rfl ?_ | exact vHn | refine vHc rfl ?_ | refine vFc (congrArg (fun z => some (V.int z)) ?_) ?_ | refine vHc (congrArg (fun z => some (Blk.ints _ z)) ?_) ?_ | refine vFc (congrArg (fun z => some (V.bool z)) ?_) ?_ | refine vFs rfl rfl ?_ ?_)
  all_goals first
    | (
     rintro ⟨Lc, ⟨kc, sc⟩, ⟨kf, sf⟩⟩ ⟨hOc, hPc, hcc, ⟨hkc, hsc⟩, ⟨hkf, hsf⟩⟩
     dsimp only at hOc hPc hcc hkc hsc hkf hsf ⊢
     have h3c := hOc.three
     have hf3c := flat3 h3c
     have hlenc := hOc.len hp
     have hffc := flat3 (fun x (hx : x ∈ freeV p Lc) => allPts_three (free_new hx).1)
     have hnxc := fun h => comS_next hOc hPc hp h
     have hputc := fun h => hOc.put hPc (comS_next hOc hPc hp h).1
     have hac := fun h => allPts_three (free_new (comS_next hOc hPc hp h).1).1
     refine CW_seq ?_
     refine cR ?_
     refine oM rfl rfl ?_
     first | refine oQ (Q_len rfl rfl rfl rfl) rfl rfl ?_ | refine oQ (Q_len0 rfl rfl rfl rfl) rfl rfl ?_
     refine oQ (Q_bin rfl rfl rfl) rfl rfl ?_
     refine oN ?_
     first | refine cT rfl ?_ | refine cF rfl ?_ | refine CW_cond rfl (fun hc => ?_) (fun hc => ?_)
     all_goals try simp only [s1, s2, s3, s4, s5, s6, s7, s8, s9, s10, s11, s12] at hc
     all_goals first
       | (
        refine CW_skip ?_)
       | (
        refine CW_exit ?_)
     all_goals first
       | with_reducible refine tR ?_
       | with_reducible refine tE ?_
       | (
        with_reducible refine tN ?_
        refine CW_seq ?_
        refine CW_block ?_
        refine CW_region ?_
        iterate 2 refine oM rfl rfl ?_
        first
          | ((have hpos : 0 < (freeV p Lc).length := by omega); (have hnxc := hnxc hpos); (have hputc := hputc hpos); (have hac := hac hpos); refine oQ (Q_ixs0z 3 (j := 0) rfl rfl rfl rfl rfl rfl (by omega)) rfl rfl ?_)
          | ((have hpos : 0 < (freeV p L).length := by omega); (have hnx := hnx hpos); (have hput := hput hpos); (have ha := ha hpos); refine oQ (Q_ixs0z 3 (j := 0) rfl rfl rfl rfl rfl rfl (by omega)) rfl rfl ?_)
        first
          | (refine oQ (Q_lda (n := 3) rfl rfl rfl rfl rfl (by rw [List.length_append, hffc]; omega)) rfl rfl ?_; rw [flat_get (fun x (hx : x ∈ freeV p Lc) => allPts_three (free_new hx).1) hpos])
          | (refine oQ (Q_lda (n := 3) rfl rfl rfl rfl rfl (by rw [List.length_append, hff]; omega)) rfl rfl ?_; rw [flat_get (fun x (hx : x ∈ freeV p L) => allPts_three (free_new hx).1) hpos])
        first
          | ((refine oCall (l07Put_con Lc sc kc h3c ((freeV p Lc).getD 0 []) hac (by omega)) [(0, 1)] 2 rfl rfl (Fits.mk' (vHc rfl vHn) rfl rfl (by simp)) rfl rfl ?_); rintro r H1 ⟨k5, sp5, hk5, hs5, rfl, rfl⟩; refine ⟨.slice 4 0 (putL Lc ((freeV p Lc).getD 0 [])).length k5, [(1, .ints 49 (Lc.flatten ++ sc)), (4, .ints 49 ((putL Lc ((freeV p Lc).getD 0 [])).flatten ++ sp5))], rfl, rfl, rfl, ?_⟩; (generalize hQ : putL Lc ((freeV p Lc).getD 0 []) = Q at *); obtain ⟨hOQ, hPQ, hQl⟩ := hputc; (have h3Q := hOQ.three))
          | ((refine oCall (l07Put_con L sp k h3 ((freeV p L).getD 0 []) ha (by omega)) [] 2 rfl rfl (Fits.mk' (vHc rfl vHn) rfl rfl (by simp)) rfl rfl ?_); rintro r H1 ⟨k5, sp5, hk5, hs5, rfl, rfl⟩; refine ⟨.slice 4 0 (putL L ((freeV p L).getD 0 [])).length k5, [(0, .ints 49 (L.flatten ++ sp)), (4, .ints 49 ((putL L ((freeV p L).getD 0 [])).flatten ++ sp5))], rfl, rfl, rfl, ?_⟩; (generalize hQ : putL L ((freeV p L).getD 0 []) = Q at *); obtain ⟨hOQ, hPQ, hQl⟩ := hput; (have h3Q := hOQ.three))
        refine oA rfl rfl ?_
        refine OW_nil ?_
        all_goals first | with_reducible refine bN ?_ | with_reducible refine bE ?_ | with_reducible refine bR ?_ | refine bX rfl ?_
        all_goals with_reducible refine tN ?_
        all_goals (
         refine CW_region ?_
         iterate 2 refine oM rfl rfl ?_
         refine oCall (l07FreeG_con p Q sp5 k5 h3Q hp hOQ.v (by have := hOQ.len hp; omega)) [(0, 4)] 2 rfl rfl (Fits.mk' (vHc rfl vHn) rfl rfl (by simp)) rfl rfl ?_
         rintro r H1 ⟨k6, sp6, hk6, hs6, rfl, rfl⟩
         refine ⟨.slice 6 0 (freeV p Q).length k6, [(4, .ints 49 (Q.flatten ++ sp5)), (6, .ints 49 ((freeV p Q).flatten ++ sp6))], rfl, rfl, rfl, ?_⟩
         refine oA rfl rfl ?_
         refine OW_nil ?_))
     all_goals first
       | with_reducible refine tR ?_
       | with_reducible refine tE ?_
       | (
        with_reducible refine tN ?_
        refine ⟨(Q, (k5, sp5), (k6, sp6)), ?_, ?_, View.mk' [(1, 4), (2, 6)] rfl rfl rfl ?_ ?_⟩
        · exact ⟨hOQ, hPQ, hnxc.2.symm.trans hcc, ⟨hk5, hs5⟩, ⟨hk6, hs6⟩⟩
        · (dsimp only; omega)
        all_goals (repeat' first | exact vFn | refine vFc rfl ?_ | exact vHn | refine vHc rfl ?_ | refine vFc (congrArg (fun z => some (V.int z)) ?_) ?_ | refine vHc (congrArg (fun z => some (Blk.ints _ z)) ?_) ?_ | refine vFc (congrArg (fun z => some (V.bool z)) ?_) ?_ | refine vFs rfl rfl ?_ ?_)))
    | (
     refine CW_seq ?_
     refine cR ?_
     refine oM rfl rfl ?_
     first | refine oQ (Q_len rfl rfl rfl rfl) rfl rfl ?_ | refine oQ (Q_len0 rfl rfl rfl rfl) rfl rfl ?_
     refine oQ (Q_bin rfl rfl rfl) rfl rfl ?_
     refine oN ?_
     first | refine cT rfl ?_ | refine cF rfl ?_ | refine CW_cond rfl (fun hc => ?_) (fun hc => ?_)
     all_goals try simp only [s1, s2, s3, s4, s5, s6, s7, s8, s9, s10, s11, s12] at hc
     all_goals first
       | (
        refine CW_skip ?_)
       | (
        refine CW_exit ?_)
     all_goals first
       | with_reducible refine tR ?_
       | with_reducible refine tE ?_
       | (
        with_reducible refine tN ?_
        refine CW_seq ?_
        refine CW_block ?_
        refine CW_region ?_
        iterate 2 refine oM rfl rfl ?_
        first
          | ((have hpos : 0 < (freeV p Lc).length := by omega); (have hnxc := hnxc hpos); (have hputc := hputc hpos); (have hac := hac hpos); refine oQ (Q_ixs0z 3 (j := 0) rfl rfl rfl rfl rfl rfl (by omega)) rfl rfl ?_)
          | ((have hpos : 0 < (freeV p L).length := by omega); (have hnx := hnx hpos); (have hput := hput hpos); (have ha := ha hpos); refine oQ (Q_ixs0z 3 (j := 0) rfl rfl rfl rfl rfl rfl (by omega)) rfl rfl ?_)
        first
          | (refine oQ (Q_lda (n := 3) rfl rfl rfl rfl rfl (by rw [List.length_append, hffc]; omega)) rfl rfl ?_; rw [flat_get (fun x (hx : x ∈ freeV p Lc) => allPts_three (free_new hx).1) hpos])
          | (refine oQ (Q_lda (n := 3) rfl rfl rfl rfl rfl (by rw [List.length_append, hff]; omega)) rfl rfl ?_; rw [flat_get (fun x (hx : x ∈ freeV p L) => allPts_three (free_new hx).1) hpos])
        first
          | ((refine oCall (l07Put_con Lc sc kc h3c ((freeV p Lc).getD 0 []) hac (by omega)) [(0, 1)] 2 rfl rfl (Fits.mk' (vHc rfl vHn) rfl rfl (by simp)) rfl rfl ?_); rintro r H1 ⟨k5, sp5, hk5, hs5, rfl, rfl⟩; refine ⟨.slice 4 0 (putL Lc ((freeV p Lc).getD 0 [])).length k5, [(1, .ints 49 (Lc.flatten ++ sc)), (4, .ints 49 ((putL Lc ((freeV p Lc).getD 0 [])).flatten ++ sp5))], rfl, rfl, rfl, ?_⟩; (generalize hQ : putL Lc ((freeV p Lc).getD 0 []) = Q at *); obtain ⟨hOQ, hPQ, hQl⟩ := hputc; (have h3Q := hOQ.three))
          | ((refine oCall (l07Put_con L sp k h3 ((freeV p L).getD 0 []) ha (by omega)) [] 2 rfl rfl (Fits.mk' (vHc rfl vHn) rfl rfl (by simp)) rfl rfl ?_); rintro r H1 ⟨k5, sp5, hk5, hs5, rfl, rfl⟩; refine ⟨.slice 4 0 (putL L ((freeV p L).getD 0 [])).length k5, [(0, .ints 49 (L.flatten ++ sp)), (4, .ints 49 ((putL L ((freeV p L).getD 0 [])).flatten ++ sp5))], rfl, rfl, rfl, ?_⟩; (generalize hQ : putL L ((freeV p L).getD 0 []) = Q at *); obtain ⟨hOQ, hPQ, hQl⟩ := hput; (have h3Q := hOQ.three))
        refine oA rfl rfl ?_
        refine OW_nil ?_
        all_goals first | with_reducible refine bN ?_ | with_reducible refine bE ?_ | with_reducible refine bR ?_ | refine bX rfl ?_
        all_goals with_reducible refine tN ?_
        all_goals (
         refine CW_region ?_
         iterate 2 refine oM rfl rfl ?_
         refine oCall (l07FreeG_con p Q sp5 k5 h3Q hp hOQ.v (by have := hOQ.len hp; omega)) [(0, 4)] 2 rfl rfl (Fits.mk' (vHc rfl vHn) rfl rfl (by simp)) rfl rfl ?_
         rintro r H1 ⟨k6, sp6, hk6, hs6, rfl, rfl⟩
         refine ⟨.slice 6 0 (freeV p Q).length k6, [(4, .ints 49 (Q.flatten ++ sp5)), (6, .ints 49 ((freeV p Q).flatten ++ sp6))], rfl, rfl, rfl, ?_⟩
         refine oA rfl rfl ?_
         refine OW_nil ?_))
     all_goals first
       | with_reducible refine tR ?_
       | with_reducible refine tE ?_
       | (
        with_reducible refine tN ?_
        refine ⟨(Q, (k5, sp5), (k6, sp6)), ?_, ?_, View.mk' [(1, 4), (2, 6)] rfl rfl rfl ?_ ?_⟩
        · exact ⟨hOQ, hPQ, hnx.2.symm, ⟨hk5, hs5⟩, ⟨hk6, hs6⟩⟩
        · (dsimp only; omega)
        all_goals (repeat' first | exact vFn | refine vFc rfl ?_ | exact vHn | refine vHc rfl ?_ | refine vFc (congrArg (fun z => some (V.int z)) ?_) ?_ | refine vHc (congrArg (fun z => some (Blk.ints _ z)) ?_) ?_ | refine vFc (congrArg (fun z => some (V.bool z)) ?_) ?_ | refine vFs rfl rfl ?_ ?_)))
  all_goals first | with_reducible refine bN ?_ | with_reducible refine bE ?_ | with_reducible refine bR ?_ | refine bX rfl ?_
  all_goals with_reducible refine tN ?_
  all_goals (
   refine cR ?_
   refine oBsl rfl rfl rfl rfl (.inr ⟨rfl, rfl, by decide⟩) rfl rfl rfl rfl rfl rfl ?_
   refine oM rfl rfl ?_
   first
     | refine oAppOwn (sz := 3) (by_ := 24) (l := []) (m := 0) (k := 0) rfl rfl rfl rfl rfl rfl ⟨by decide, rfl, .inr rfl⟩ rfl rfl rfl rfl rfl (isSl_flat (b := 1) (L := Lc) (sp := sc) rfl h3c) (by simp) (by omega) (by omega) (by omega) rfl rfl (fun k2 sp2 h1 h2 => ?_)
     | refine oAppOwn (sz := 3) (by_ := 24) (l := []) (m := 0) (k := 0) rfl rfl rfl rfl rfl rfl ⟨by decide, rfl, .inr rfl⟩ rfl rfl rfl rfl rfl (isSl_flat (b := 0) (L := L) (sp := sp) rfl h3) (by simp) (by omega) (by omega) (by omega) rfl rfl (fun k2 sp2 h1 h2 => ?_)
   (rw [Nat.zero_add] at h1 h2 ⊢)
   refine oA rfl rfl ?_
   refine oN ?_
   refine CW_ret ?_)
  all_goals (
   first
     | (have hR : comS p L = Lc := by rw [← hcc, comS_stop (by omega)]
        rw [hR]
        exact exitH (r0 := .slice 1 0 Lc.length k2) (H0 := [(0, .ints 49 (L.flatten ++ sp)), (1, .ints 49 (Lc.flatten ++ sp2))]) (.inr rfl) [(1, 4)] 2 (.cons (.tmp rfl rfl) .nil) rfl rfl rfl (vHc rfl (vHc rfl vHn)) rfl rfl ⟨k2, sp2, h1, h2, rfl, rfl⟩)
     | (have hR : comS p L = L := comS_stop (by omega)
        rw [hR]
        exact exitH (r0 := .slice 1 0 L.length k2) (H0 := [(0, .ints 49 (L.flatten ++ sp)), (1, .ints 49 (L.flatten ++ sp2))]) (.inr rfl) [(1, 4)] 2 (.cons (.tmp rfl rfl) .nil) rfl rfl rfl (vHc rfl (vHc rfl vHn)) rfl rfl ⟨k2, sp2, h1, h2, rfl, rfl⟩))
theorem cloneS_con (L : List (List Int)) (M : List Int) (off k : Nat) (h3 : ∀ x ∈ L, x.length = 3) (hb : off + L.length * 3 ≤ M.length) (he : (M.drop off).take (L.length * 3) = L.flatten) (hn9 : L.length ≤ 1000000000) : Con Try.prog [] 86 [.slice 0 off L.length k] [(0, .ints 49 M)] (ownR 3 49 [(0, .ints 49 M)] 1 L) := by
  have hf3 := flat3 h3
  refine conW tab_ok [(0, .slice 0 off L.length k)] 1 [0] [0] Try.func86 rfl rfl rfl rfl rfl rfl rfl rfl rfl ?_
  refine cR ?_
  refine oA rfl rfl ?_
  refine oN ?_
  refine CW_seq ?_
  refine cR ?_
  refine oM rfl rfl ?_
  refine oQ (Q_eqnil rfl rfl rfl rfl) rfl rfl ?_
  refine oN ?_
  first | refine cT rfl ?_ | refine cF rfl ?_ | refine CW_cond rfl (fun hc => ?_) (fun hc => ?_)
  all_goals try simp only [s1, s2, s3, s4, s5, s6, s7, s8, s9, s10, s11, s12] at hc
  all_goals first
    | (
     refine CW_skip ?_)
    | (
     refine cR ?_
     refine oA rfl rfl ?_
     refine oN ?_
     refine CW_ret ?_)
  all_goals first
    | with_reducible refine tR ?_
    | with_reducible refine tE ?_
    | (
     with_reducible refine tN ?_
     refine cR ?_
     refine oBsl rfl rfl rfl rfl (.inr ⟨rfl, rfl, by decide⟩) rfl rfl rfl rfl rfl rfl ?_
     refine oM rfl rfl ?_
     refine oAppOwn (sz := 3) (by_ := 24) (l := []) (m := 0) (k := 0) rfl rfl rfl rfl rfl rfl ⟨by decide, rfl, .inr rfl⟩ rfl rfl rfl rfl rfl (by have := IsSl.mk (H := [(1, .ints 49 []), (0, .ints 49 M)]) (sz := 3) (b := 0) (o := off) (n := L.length) (k := k) rfl hb; rwa [he] at this) (by simp) (by omega) (by omega) (by omega) rfl rfl (fun k2 sp2 h1 h2 => ?_)
     (rw [Nat.zero_add] at h1 h2 ⊢)
     refine oA rfl rfl ?_
     refine oN ?_
     refine CW_ret ?_)
  all_goals (
   exact exitH (r0 := .slice 1 0 L.length k2) (H0 := [(0, .ints 49 M), (1, .ints 49 (L.flatten ++ sp2))]) (.inr rfl) [(1, 2)] 2 (.cons (.tmp rfl rfl) .nil) rfl rfl rfl (vHc rfl (vHc rfl vHn)) rfl rfl ⟨k2, sp2, h1, h2, rfl, rfl⟩)
end Go.Proofs.Ytmcmbpoebhjecaa
