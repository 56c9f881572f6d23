/- FreePoints and IsCompleteArc of the program. Printed by gen_r13.py. -/
import Derived.Test.YtmcmbpoebhjecaaR12
namespace Go.Proofs.Ytmcmbpoebhjecaa
set_option maxRecDepth 10000
set_option linter.unusedSimpArgs false
set_option linter.unusedVariables false
theorem set_all {p : Int} {L : List (List Int)} (h3 : ∀ x ∈ L, x.length = 3) (hS : setC p L = 0) : (∀ x ∈ L, x ∈ allPts p) ∧ L.Nodup ∧ L.length ≤ 60 := by
  obtain ⟨hp, hv, hg, hn⟩ := setC_zero hS
  exact ⟨fun x hx => point_mem (h3 x hx) (hv x hx), grow_nodup h3 hg, hn⟩
def freeM (p : Int) (M : List Int) (n : Nat) : List (List Int) := freeV p (chunk M n)
def arcCM (p : Int) (M : List Int) (n : Nat) : Int := arcC p (chunk M n)
def compM (p : Int) (M : List Int) (n : Nat) : Bool := compV p (chunk M n)
theorem compM_zero (p : Int) (M : List Int) : compM p M 0 = compV p [] := rfl
theorem arcB_nil (p : Int) : arcB p [] = true := rfl
attribute [local irreducible] CW OW QW QOp Con thenP inBlockP

theorem impl_FreePoints_con (p : Int) (L : List (List Int)) (sp : List Int) (k : Nat) (h3 : ∀ x ∈ L, x.length = 3) (hn9 : L.length ≤ 1000000000) (hkL : L.length ≤ k) : Con Try.prog [] 44 [.int p, .slice 0 0 L.length k] [(0, .ints 49 (L.flatten ++ sp))] (listO 49 [(0, .ints 49 (L.flatten ++ sp))] 1 (arcC p L) (freeV p L).flatten (freeV p L).length) := by
  by_cases hcd : arcC p L = 0
  · have hcs := arcC_set hcd
    have hp := (setC_zero hcs).1
    obtain ⟨hv, hnd, hn60⟩ := set_all h3 hcs
    refine conW tab_ok [(0, .int p), (1, .slice 0 0 L.length k)] 1 [0] [0] Try.func44 rfl rfl rfl rfl rfl rfl rfl rfl rfl ?_
    refine cR ?_
    iterate 2 refine oA rfl rfl ?_
    refine oN ?_
    refine CW_seq ?_
    refine cR ?_
    iterate 2 refine oM rfl rfl ?_
    refine oQ (Q_call (arcCode_con p L sp k h3 hn9) [] rfl rfl (Fits.mk' (vHc rfl vHn) rfl rfl (by simp)) rfl rfl) rfl rfl ?_
    refine oA rfl rfl ?_
    refine oN ?_
    refine cR ?_
    refine oM rfl rfl ?_
    refine oQ (Q_bin rfl rfl rfl) rfl rfl ?_
    refine oN ?_
    first | refine cT rfl ?_ | refine cF rfl ?_ | refine CW_cond rfl (fun hc => ?_) (fun hc => ?_)
    all_goals try simp only [s1, s2, s3, s4, s5, s6, s7, s8, s9, s10, s11, s12] at hc
    all_goals try (exfalso; first | exact absurd hcd hc | exact absurd hc hcd; done)
    all_goals first
      | (
       refine CW_skip ?_)
      | (
       refine cR ?_
       refine oM rfl rfl ?_
       iterate 2 refine oA rfl rfl ?_
       refine oN ?_
       refine CW_ret ?_)
    all_goals first
      | with_reducible refine tR ?_
      | with_reducible refine tE ?_
      | (
       with_reducible refine tN ?_
       refine cR ?_
       iterate 2 refine oM rfl rfl ?_
       refine oCall (freePoints_con p L sp k h3 hp hv hnd (by omega) hkL) [] 2 rfl rfl (Fits.mk' (vHc rfl vHn) rfl rfl (by simp)) rfl rfl ?_
       rintro r H1 ⟨k9, sp9, hk9, hs9, rfl, rfl⟩
       refine ⟨.slice 2 0 (freeV p L).length k9, [(0, .ints 49 (L.flatten ++ sp)), (2, .ints 49 ((freeV p L).flatten ++ sp9))], rfl, rfl, rfl, ?_⟩
       iterate 2 refine oA rfl rfl ?_
       refine oN ?_
       refine CW_ret ?_)
    all_goals (
     first | (exfalso; first | exact hc hcd | exact hcd hc; done) | exact exitH (r0 := .tuple [.slice 1 0 (freeV p L).length k9, .int 0]) (H0 := [(0, .ints 49 (L.flatten ++ sp)), (1, .ints 49 ((freeV p L).flatten ++ sp9))]) (.inr rfl) [(1, 2)] 2 (.cons (.tmp rfl rfl) (.cons (.tmp rfl rfl) .nil)) rfl rfl rfl (vHc rfl (vHc rfl vHn)) rfl rfl (listO_ok hcd hk9))
  · skip
    refine conW tab_ok [(0, .int p), (1, .slice 0 0 L.length k)] 1 [0] [0] Try.func44 rfl rfl rfl rfl rfl rfl rfl rfl rfl ?_
    refine cR ?_
    iterate 2 refine oA rfl rfl ?_
    refine oN ?_
    refine CW_seq ?_
    refine cR ?_
    iterate 2 refine oM rfl rfl ?_
    refine oQ (Q_call (arcCode_con p L sp k h3 hn9) [] rfl rfl (Fits.mk' (vHc rfl vHn) rfl rfl (by simp)) rfl rfl) rfl rfl ?_
    refine oA rfl rfl ?_
    refine oN ?_
    refine cR ?_
    refine oM rfl rfl ?_
    refine oQ (Q_bin rfl rfl rfl) rfl rfl ?_
    refine oN ?_
    first | refine cT rfl ?_ | refine cF rfl ?_ | refine CW_cond rfl (fun hc => ?_) (fun hc => ?_)
    all_goals try simp only [s1, s2, s3, s4, s5, s6, s7, s8, s9, s10, s11, s12] at hc
    all_goals try (exfalso; first | exact absurd hcd hc | exact absurd hc hcd; done)
    all_goals first
      | (
       refine CW_skip ?_)
      | (
       refine cR ?_
       refine oM rfl rfl ?_
       iterate 2 refine oA rfl rfl ?_
       refine oN ?_
       refine CW_ret ?_)
    all_goals first
      | with_reducible refine tR ?_
      | with_reducible refine tE ?_
      | (
       with_reducible refine tN ?_
       refine cR ?_
       iterate 2 refine oM rfl rfl ?_
       (exfalso; first | exact hc hcd | exact hcd hc)
       iterate 2 refine oA rfl rfl ?_
       refine oN ?_
       refine CW_ret ?_)
    all_goals (
     first | (exfalso; first | exact hc hcd | exact hcd hc; done) | exact exitH (r0 := .tuple [.nilsl, .int (arcC p L)]) (H0 := [(0, .ints 49 (L.flatten ++ sp))]) (.inr rfl) [] 1 (.cons (.tmp rfl rfl) (.cons (.tmp rfl rfl) .nil)) rfl rfl rfl (vHc rfl vHn) rfl rfl (listO_no hcd))
theorem impl_IsCompleteArc_con (p : Int) (L : List (List Int)) (sp : List Int) (k : Nat) (h3 : ∀ x ∈ L, x.length = 3) (hn9 : L.length ≤ 1000000000) (hkL : L.length ≤ k) : ConQ Try.prog [] 42 [.int p, .slice 0 0 L.length k] [(0, .ints 49 (L.flatten ++ sp))] (.tuple [.bool (compV p L), .int (setC p L)]) := by
  by_cases hcd : setC p L = 0
  · have hp := (setC_zero hcd).1
    obtain ⟨hv, hnd, hn60⟩ := set_all h3 hcd
    have hac := isArcB_con p L sp k h3 hcd
    cases hb : arcB p L
    · rw [hb] at hac
      refine conW tab_ok [(0, .int p), (1, .slice 0 0 L.length k)] 1 [0] [0] Try.func42 rfl rfl rfl rfl rfl rfl rfl rfl rfl ?_
      refine cR ?_
      iterate 2 refine oA rfl rfl ?_
      refine oN ?_
      refine CW_seq ?_
      refine cR ?_
      iterate 2 refine oM rfl rfl ?_
      refine oQ (Q_call (setCode_con p L sp k h3 hn9) [] rfl rfl (Fits.mk' (vHc rfl vHn) rfl rfl (by simp)) rfl rfl) rfl rfl ?_
      refine oA rfl rfl ?_
      refine oN ?_
      refine cR ?_
      refine oM rfl rfl ?_
      refine oQ (Q_bin rfl rfl rfl) rfl rfl ?_
      refine oN ?_
      first | refine cT rfl ?_ | refine cF rfl ?_ | refine CW_cond rfl (fun hc => ?_) (fun hc => ?_)
      all_goals try simp only [s1, s2, s3, s4, s5, s6, s7, s8, s9, s10, s11, s12] at hc
      all_goals try (exfalso; first | exact absurd hcd hc | exact absurd hc hcd; done)
      all_goals first
        | (
         refine CW_skip ?_)
        | (
         refine cR ?_
         refine oM rfl rfl ?_
         iterate 2 refine oA rfl rfl ?_
         refine oN ?_
         refine CW_ret ?_)
      all_goals first
        | with_reducible refine tR ?_
        | with_reducible refine tE ?_
        | (
         with_reducible refine tN ?_
         refine cR ?_
         iterate 2 refine oM rfl rfl ?_
         refine oQ (Q_call (hac) [] rfl rfl (Fits.mk' (vHc rfl vHn) rfl rfl (by simp)) rfl rfl) rfl rfl ?_
         refine oM rfl rfl ?_
         all_goals first | refine oT rfl rfl ?_ | refine o1 rfl rfl rfl ?_ | refine o0 rfl rfl rfl ?_ | refine ogP1 rfl rfl rfl (fun hg => ?_) (fun hg => ?_) | refine ogP0 rfl rfl rfl (fun hg => ?_) (fun hg => ?_)
         all_goals try simp only [s1, s2, s3, s4, s5, s6, s7, s8, s9, s10, s11, s12] at hg
         all_goals first | (refine oM rfl rfl ?_) | skip
         all_goals first | refine oT rfl rfl ?_ | refine o1 rfl rfl rfl ?_ | refine o0 rfl rfl rfl ?_ | refine ogP1 rfl rfl rfl (fun hg => ?_) (fun hg => ?_) | refine ogP0 rfl rfl rfl (fun hg => ?_) (fun hg => ?_)
         all_goals try simp only [s1, s2, s3, s4, s5, s6, s7, s8, s9, s10, s11, s12] at hg
         all_goals first | (refine oM rfl rfl ?_) | skip
         all_goals first | refine oT rfl rfl ?_ | refine o1 rfl rfl rfl ?_ | refine o0 rfl rfl rfl ?_ | refine ogP1 rfl rfl rfl (fun hg => ?_) (fun hg => ?_) | refine ogP0 rfl rfl rfl (fun hg => ?_) (fun hg => ?_)
         all_goals try simp only [s1, s2, s3, s4, s5, s6, s7, s8, s9, s10, s11, s12] at hg
         all_goals first | ((exfalso; exact absurd hg (by decide))) | skip
         all_goals first | refine oT rfl rfl ?_ | refine o1 rfl rfl rfl ?_ | refine o0 rfl rfl rfl ?_ | refine ogP1 rfl rfl rfl (fun hg => ?_) (fun hg => ?_) | refine ogP0 rfl rfl rfl (fun hg => ?_) (fun hg => ?_)
         all_goals try simp only [s1, s2, s3, s4, s5, s6, s7, s8, s9, s10, s11, s12] at hg
         all_goals first | refine oQ (Q_len rfl rfl rfl rfl) rfl rfl ?_ | refine oQ (Q_len0 rfl rfl rfl rfl) rfl rfl ?_ | skip
         all_goals first | refine oT rfl rfl ?_ | refine o1 rfl rfl rfl ?_ | refine o0 rfl rfl rfl ?_ | refine ogP1 rfl rfl rfl (fun hg => ?_) (fun hg => ?_) | refine ogP0 rfl rfl rfl (fun hg => ?_) (fun hg => ?_)
         all_goals try simp only [s1, s2, s3, s4, s5, s6, s7, s8, s9, s10, s11, s12] at hg
         all_goals first | (refine oQ (Q_bin rfl rfl rfl) rfl rfl ?_) | skip
         all_goals first | refine oQ (Q_pick_t rfl (by with_reducible rfl) rfl rfl) rfl rfl ?_ | refine oQ (Q_pick_f rfl (by with_reducible rfl) rfl rfl) rfl rfl ?_
         all_goals first | (refine oA rfl rfl ?_)
         all_goals first | (refine oA rfl rfl ?_)
         all_goals refine oN ?_
         all_goals (
          refine CW_ret ?_))
      all_goals (
       first
         | (exfalso; exact absurd hg (by decide))
         | ((refine exitQ (.inr rfl) 1 (.cons (.tmp rfl rfl) (.cons (.tmp rfl rfl) .nil)) ?_ rfl (vHc rfl vHn) rfl rfl); rw [hcd]; exact tup_bv (compV_yes hcd (compB_a hb))))
    · rw [hb] at hac
      refine conW tab_ok [(0, .int p), (1, .slice 0 0 L.length k)] 1 [0] [0] Try.func42 rfl rfl rfl rfl rfl rfl rfl rfl rfl ?_
      refine cR ?_
      iterate 2 refine oA rfl rfl ?_
      refine oN ?_
      refine CW_seq ?_
      refine cR ?_
      iterate 2 refine oM rfl rfl ?_
      refine oQ (Q_call (setCode_con p L sp k h3 hn9) [] rfl rfl (Fits.mk' (vHc rfl vHn) rfl rfl (by simp)) rfl rfl) rfl rfl ?_
      refine oA rfl rfl ?_
      refine oN ?_
      refine cR ?_
      refine oM rfl rfl ?_
      refine oQ (Q_bin rfl rfl rfl) rfl rfl ?_
      refine oN ?_
      first | refine cT rfl ?_ | refine cF rfl ?_ | refine CW_cond rfl (fun hc => ?_) (fun hc => ?_)
      all_goals try simp only [s1, s2, s3, s4, s5, s6, s7, s8, s9, s10, s11, s12] at hc
      all_goals try (exfalso; first | exact absurd hcd hc | exact absurd hc hcd; done)
      all_goals first
        | (
         refine CW_skip ?_)
        | (
         refine cR ?_
         refine oM rfl rfl ?_
         iterate 2 refine oA rfl rfl ?_
         refine oN ?_
         refine CW_ret ?_)
      all_goals first
        | with_reducible refine tR ?_
        | with_reducible refine tE ?_
        | (
         with_reducible refine tN ?_
         refine cR ?_
         iterate 2 refine oM rfl rfl ?_
         refine oQ (Q_call (hac) [] rfl rfl (Fits.mk' (vHc rfl vHn) rfl rfl (by simp)) rfl rfl) rfl rfl ?_
         refine oM rfl rfl ?_
         all_goals first | refine oT rfl rfl ?_ | refine o1 rfl rfl rfl ?_ | refine o0 rfl rfl rfl ?_ | refine ogP1 rfl rfl rfl (fun hg => ?_) (fun hg => ?_) | refine ogP0 rfl rfl rfl (fun hg => ?_) (fun hg => ?_)
         all_goals try simp only [s1, s2, s3, s4, s5, s6, s7, s8, s9, s10, s11, s12] at hg
         all_goals first | (refine oM rfl rfl ?_) | skip
         all_goals first | refine oT rfl rfl ?_ | refine o1 rfl rfl rfl ?_ | refine o0 rfl rfl rfl ?_ | refine ogP1 rfl rfl rfl (fun hg => ?_) (fun hg => ?_) | refine ogP0 rfl rfl rfl (fun hg => ?_) (fun hg => ?_)
         all_goals try simp only [s1, s2, s3, s4, s5, s6, s7, s8, s9, s10, s11, s12] at hg
         all_goals first | (refine oM rfl rfl ?_) | skip
         all_goals first | refine oT rfl rfl ?_ | refine o1 rfl rfl rfl ?_ | refine o0 rfl rfl rfl ?_ | refine ogP1 rfl rfl rfl (fun hg => ?_) (fun hg => ?_) | refine ogP0 rfl rfl rfl (fun hg => ?_) (fun hg => ?_)
         all_goals try simp only [s1, s2, s3, s4, s5, s6, s7, s8, s9, s10, s11, s12] at hg
         all_goals first | (refine oCall (freePoints_con p L sp k h3 hp hv hnd (by omega) hkL) [] 2 rfl rfl (Fits.mk' (vHc rfl vHn) rfl rfl (by simp)) rfl rfl ?_; rintro r H1 ⟨k9, sp9, hk9, hs9, rfl, rfl⟩; refine ⟨.slice 2 0 (freeV p L).length k9, [(0, .ints 49 (L.flatten ++ sp)), (2, .ints 49 ((freeV p L).flatten ++ sp9))], rfl, rfl, rfl, ?_⟩) | skip
         all_goals first | refine oT rfl rfl ?_ | refine o1 rfl rfl rfl ?_ | refine o0 rfl rfl rfl ?_ | refine ogP1 rfl rfl rfl (fun hg => ?_) (fun hg => ?_) | refine ogP0 rfl rfl rfl (fun hg => ?_) (fun hg => ?_)
         all_goals try simp only [s1, s2, s3, s4, s5, s6, s7, s8, s9, s10, s11, s12] at hg
         all_goals first | refine oQ (Q_len rfl rfl rfl rfl) rfl rfl ?_ | refine oQ (Q_len0 rfl rfl rfl rfl) rfl rfl ?_ | skip
         all_goals first | refine oT rfl rfl ?_ | refine o1 rfl rfl rfl ?_ | refine o0 rfl rfl rfl ?_ | refine ogP1 rfl rfl rfl (fun hg => ?_) (fun hg => ?_) | refine ogP0 rfl rfl rfl (fun hg => ?_) (fun hg => ?_)
         all_goals try simp only [s1, s2, s3, s4, s5, s6, s7, s8, s9, s10, s11, s12] at hg
         all_goals first | (refine oQ (Q_bin rfl rfl rfl) rfl rfl ?_) | skip
         all_goals first | refine oQ (Q_pick_t rfl (by with_reducible rfl) rfl rfl) rfl rfl ?_ | refine oQ (Q_pick_f rfl (by with_reducible rfl) rfl rfl) rfl rfl ?_
         all_goals first | (refine oA rfl rfl ?_)
         all_goals first | (refine oA rfl rfl ?_)
         all_goals refine oN ?_
         all_goals (
          refine CW_ret ?_))
      all_goals (
       first
         | (exfalso; exact absurd hg (by decide))
         | ((refine exitQ (.inr rfl) 1 (.cons (.tmp rfl rfl) (.cons (.tmp rfl rfl) .nil)) ?_ rfl (vHc rfl vHn) rfl rfl); rw [hcd]; exact tup_bv (compV_yes hcd (compB_b hb))))
  · skip
    refine conW tab_ok [(0, .int p), (1, .slice 0 0 L.length k)] 1 [0] [0] Try.func42 rfl rfl rfl rfl rfl rfl rfl rfl rfl ?_
    refine cR ?_
    iterate 2 refine oA rfl rfl ?_
    refine oN ?_
    refine CW_seq ?_
    refine cR ?_
    iterate 2 refine oM rfl rfl ?_
    refine oQ (Q_call (setCode_con p L sp k h3 hn9) [] rfl rfl (Fits.mk' (vHc rfl vHn) rfl rfl (by simp)) rfl rfl) rfl rfl ?_
    refine oA rfl rfl ?_
    refine oN ?_
    refine cR ?_
    refine oM rfl rfl ?_
    refine oQ (Q_bin rfl rfl rfl) rfl rfl ?_
    refine oN ?_
    first | refine cT rfl ?_ | refine cF rfl ?_ | refine CW_cond rfl (fun hc => ?_) (fun hc => ?_)
    all_goals try simp only [s1, s2, s3, s4, s5, s6, s7, s8, s9, s10, s11, s12] at hc
    all_goals try (exfalso; first | exact absurd hcd hc | exact absurd hc hcd; done)
    all_goals first
      | (
       refine CW_skip ?_)
      | (
       refine cR ?_
       refine oM rfl rfl ?_
       iterate 2 refine oA rfl rfl ?_
       refine oN ?_
       refine CW_ret ?_)
    all_goals first
      | with_reducible refine tR ?_
      | with_reducible refine tE ?_
      | (
       with_reducible refine tN ?_
       refine cR ?_
       iterate 2 refine oM rfl rfl ?_
       (exfalso; first | exact hc hcd | exact hcd hc)
       refine oM rfl rfl ?_
       all_goals first | refine oT rfl rfl ?_ | refine o1 rfl rfl rfl ?_ | refine o0 rfl rfl rfl ?_ | refine ogP1 rfl rfl rfl (fun hg => ?_) (fun hg => ?_) | refine ogP0 rfl rfl rfl (fun hg => ?_) (fun hg => ?_)
       all_goals try simp only [s1, s2, s3, s4, s5, s6, s7, s8, s9, s10, s11, s12] at hg
       all_goals first | (refine oM rfl rfl ?_) | skip
       all_goals first | refine oT rfl rfl ?_ | refine o1 rfl rfl rfl ?_ | refine o0 rfl rfl rfl ?_ | refine ogP1 rfl rfl rfl (fun hg => ?_) (fun hg => ?_) | refine ogP0 rfl rfl rfl (fun hg => ?_) (fun hg => ?_)
       all_goals try simp only [s1, s2, s3, s4, s5, s6, s7, s8, s9, s10, s11, s12] at hg
       all_goals first | (refine oM rfl rfl ?_) | skip
       all_goals first | refine oT rfl rfl ?_ | refine o1 rfl rfl rfl ?_ | refine o0 rfl rfl rfl ?_ | refine ogP1 rfl rfl rfl (fun hg => ?_) (fun hg => ?_) | refine ogP0 rfl rfl rfl (fun hg => ?_) (fun hg => ?_)
       all_goals try simp only [s1, s2, s3, s4, s5, s6, s7, s8, s9, s10, s11, s12] at hg
       all_goals first | ((exfalso; first | exact hc hcd | exact hcd hc)) | skip
       all_goals first | refine oT rfl rfl ?_ | refine o1 rfl rfl rfl ?_ | refine o0 rfl rfl rfl ?_ | refine ogP1 rfl rfl rfl (fun hg => ?_) (fun hg => ?_) | refine ogP0 rfl rfl rfl (fun hg => ?_) (fun hg => ?_)
       all_goals try simp only [s1, s2, s3, s4, s5, s6, s7, s8, s9, s10, s11, s12] at hg
       all_goals first | refine oQ (Q_len rfl rfl rfl rfl) rfl rfl ?_ | refine oQ (Q_len0 rfl rfl rfl rfl) rfl rfl ?_ | skip
       all_goals first | refine oT rfl rfl ?_ | refine o1 rfl rfl rfl ?_ | refine o0 rfl rfl rfl ?_ | refine ogP1 rfl rfl rfl (fun hg => ?_) (fun hg => ?_) | refine ogP0 rfl rfl rfl (fun hg => ?_) (fun hg => ?_)
       all_goals try simp only [s1, s2, s3, s4, s5, s6, s7, s8, s9, s10, s11, s12] at hg
       all_goals first | (refine oQ (Q_bin rfl rfl rfl) rfl rfl ?_) | skip
       all_goals first | refine oQ (Q_pick_t rfl (by with_reducible rfl) rfl rfl) rfl rfl ?_ | refine oQ (Q_pick_f rfl (by with_reducible rfl) rfl rfl) rfl rfl ?_
       all_goals first | (refine oA rfl rfl ?_)
       all_goals first | (refine oA rfl rfl ?_)
       all_goals refine oN ?_
       all_goals (
        refine CW_ret ?_))
    all_goals (
     first | (exfalso; first | exact hc hcd | exact hcd hc; done) | ((refine exitQ (.inr rfl) 1 (.cons (.tmp rfl rfl) (.cons (.tmp rfl rfl) .nil)) ?_ rfl (vHc rfl vHn) rfl rfl); exact tup_bv (compV_no hcd)))
theorem impl_FreePoints_nil (p : Int) : Con Try.prog [] 44 [.int p, .nilsl] [] (listO 49 [] 0 (arcC p ([] : List (List Int))) (freeV p ([] : List (List Int))).flatten (freeV p ([] : List (List Int))).length) := by
  by_cases hcd : arcC p ([] : List (List Int)) = 0
  · have hcs := arcC_set hcd
    have hp := (setC_zero hcs).1
    refine conW tab_ok [(0, .int p), (1, .nilsl)] 0 [] [] Try.func44 rfl rfl rfl rfl rfl rfl rfl rfl rfl ?_
    refine cR ?_
    iterate 2 refine oA rfl rfl ?_
    refine oN ?_
    refine CW_seq ?_
    refine cR ?_
    iterate 2 refine oM rfl rfl ?_
    refine oQ (Q_call0 (arcCode_nil p ) rfl rfl rfl) rfl rfl ?_
    refine oA rfl rfl ?_
    refine oN ?_
    refine cR ?_
    refine oM rfl rfl ?_
    refine oQ (Q_bin rfl rfl rfl) rfl rfl ?_
    refine oN ?_
    first | refine cT rfl ?_ | refine cF rfl ?_ | refine CW_cond rfl (fun hc => ?_) (fun hc => ?_)
    all_goals try simp only [s1, s2, s3, s4, s5, s6, s7, s8, s9, s10, s11, s12] at hc
    all_goals try (exfalso; first | exact absurd hcd hc | exact absurd hc hcd; done)
    all_goals first
      | (
       refine CW_skip ?_)
      | (
       refine cR ?_
       refine oM rfl rfl ?_
       iterate 2 refine oA rfl rfl ?_
       refine oN ?_
       refine CW_ret ?_)
    all_goals first
      | with_reducible refine tR ?_
      | with_reducible refine tE ?_
      | (
       with_reducible refine tN ?_
       refine cR ?_
       iterate 2 refine oM rfl rfl ?_
       refine oCall (freePoints_nil p hp) [] 1 rfl rfl (Fits.mk' vHn rfl rfl (by simp)) rfl rfl ?_
       rintro r H1 ⟨k9, sp9, hk9, hs9, rfl, rfl⟩
       refine ⟨.slice 0 0 (freeV p ([] : List (List Int))).length k9, [(0, .ints 49 ((freeV p ([] : List (List Int))).flatten ++ sp9))], rfl, rfl, rfl, ?_⟩
       iterate 2 refine oA rfl rfl ?_
       refine oN ?_
       refine CW_ret ?_)
    all_goals (
     first | (exfalso; first | exact hc hcd | exact hcd hc; done) | exact exitH (r0 := .tuple [.slice 0 0 (freeV p ([] : List (List Int))).length k9, .int 0]) (H0 := [(0, .ints 49 ((freeV p ([] : List (List Int))).flatten ++ sp9))]) (.inr rfl) [(0, 0)] 1 (.cons (.tmp rfl rfl) (.cons (.tmp rfl rfl) .nil)) rfl rfl rfl (vHc rfl vHn) rfl rfl (listO_ok hcd hk9))
  · skip
    refine conW tab_ok [(0, .int p), (1, .nilsl)] 0 [] [] Try.func44 rfl rfl rfl rfl rfl rfl rfl rfl rfl ?_
    refine cR ?_
    iterate 2 refine oA rfl rfl ?_
    refine oN ?_
    refine CW_seq ?_
    refine cR ?_
    iterate 2 refine oM rfl rfl ?_
    refine oQ (Q_call0 (arcCode_nil p ) rfl rfl rfl) rfl rfl ?_
    refine oA rfl rfl ?_
    refine oN ?_
    refine cR ?_
    refine oM rfl rfl ?_
    refine oQ (Q_bin rfl rfl rfl) rfl rfl ?_
    refine oN ?_
    first | refine cT rfl ?_ | refine cF rfl ?_ | refine CW_cond rfl (fun hc => ?_) (fun hc => ?_)
    all_goals try simp only [s1, s2, s3, s4, s5, s6, s7, s8, s9, s10, s11, s12] at hc
    all_goals try (exfalso; first | exact absurd hcd hc | exact absurd hc hcd; done)
    all_goals first
      | (
       refine CW_skip ?_)
      | (
       refine cR ?_
       refine oM rfl rfl ?_
       iterate 2 refine oA rfl rfl ?_
       refine oN ?_
       refine CW_ret ?_)
    all_goals first
      | with_reducible refine tR ?_
      | with_reducible refine tE ?_
      | (
       with_reducible refine tN ?_
       refine cR ?_
       iterate 2 refine oM rfl rfl ?_
       (exfalso; first | exact hc hcd | exact hcd hc)
       iterate 2 refine oA rfl rfl ?_
       refine oN ?_
       refine CW_ret ?_)
    all_goals (
     first | (exfalso; first | exact hc hcd | exact hcd hc; done) | exact exitH (r0 := .tuple [.nilsl, .int (arcC p ([] : List (List Int)))]) (H0 := []) (.inr rfl) [] 0 (.cons (.tmp rfl rfl) (.cons (.tmp rfl rfl) .nil)) rfl rfl rfl vHn rfl rfl (listO_no hcd))
theorem impl_IsCompleteArc_nil (p : Int) : ConQ Try.prog [] 42 [.int p, .nilsl] [] (.tuple [.bool (compV p ([] : List (List Int))), .int (setC p ([] : List (List Int)))]) := by
  by_cases hcd : setC p ([] : List (List Int)) = 0
  · have hp := (setC_zero hcd).1
    have hac := isArcB_nil p hp
    cases hb : arcB p ([] : List (List Int))
    · rw [hb] at hac
      refine conW tab_ok [(0, .int p), (1, .nilsl)] 0 [] [] Try.func42 rfl rfl rfl rfl rfl rfl rfl rfl rfl ?_
      refine cR ?_
      iterate 2 refine oA rfl rfl ?_
      refine oN ?_
      refine CW_seq ?_
      refine cR ?_
      iterate 2 refine oM rfl rfl ?_
      refine oQ (Q_call0 (setCode_nil p ) rfl rfl rfl) rfl rfl ?_
      refine oA rfl rfl ?_
      refine oN ?_
      refine cR ?_
      refine oM rfl rfl ?_
      refine oQ (Q_bin rfl rfl rfl) rfl rfl ?_
      refine oN ?_
      first | refine cT rfl ?_ | refine cF rfl ?_ | refine CW_cond rfl (fun hc => ?_) (fun hc => ?_)
      all_goals try simp only [s1, s2, s3, s4, s5, s6, s7, s8, s9, s10, s11, s12] at hc
      all_goals try (exfalso; first | exact absurd hcd hc | exact absurd hc hcd; done)
      all_goals first
        | (
         refine CW_skip ?_)
        | (
         refine cR ?_
         refine oM rfl rfl ?_
         iterate 2 refine oA rfl rfl ?_
         refine oN ?_
         refine CW_ret ?_)
      all_goals first
        | with_reducible refine tR ?_
        | with_reducible refine tE ?_
        | (
         with_reducible refine tN ?_
         refine cR ?_
         iterate 2 refine oM rfl rfl ?_
         refine oQ (Q_call0 (hac) rfl rfl rfl) rfl rfl ?_
         refine oM rfl rfl ?_
         all_goals first | refine oT rfl rfl ?_ | refine o1 rfl rfl rfl ?_ | refine o0 rfl rfl rfl ?_ | refine ogP1 rfl rfl rfl (fun hg => ?_) (fun hg => ?_) | refine ogP0 rfl rfl rfl (fun hg => ?_) (fun hg => ?_)
         all_goals try simp only [s1, s2, s3, s4, s5, s6, s7, s8, s9, s10, s11, s12] at hg
         all_goals first | (refine oM rfl rfl ?_) | skip
         all_goals first | refine oT rfl rfl ?_ | refine o1 rfl rfl rfl ?_ | refine o0 rfl rfl rfl ?_ | refine ogP1 rfl rfl rfl (fun hg => ?_) (fun hg => ?_) | refine ogP0 rfl rfl rfl (fun hg => ?_) (fun hg => ?_)
         all_goals try simp only [s1, s2, s3, s4, s5, s6, s7, s8, s9, s10, s11, s12] at hg
         all_goals first | (refine oM rfl rfl ?_) | skip
         all_goals first | refine oT rfl rfl ?_ | refine o1 rfl rfl rfl ?_ | refine o0 rfl rfl rfl ?_ | refine ogP1 rfl rfl rfl (fun hg => ?_) (fun hg => ?_) | refine ogP0 rfl rfl rfl (fun hg => ?_) (fun hg => ?_)
         all_goals try simp only [s1, s2, s3, s4, s5, s6, s7, s8, s9, s10, s11, s12] at hg
         all_goals first | ((exfalso; exact absurd hg (by decide))) | skip
         all_goals first | refine oT rfl rfl ?_ | refine o1 rfl rfl rfl ?_ | refine o0 rfl rfl rfl ?_ | refine ogP1 rfl rfl rfl (fun hg => ?_) (fun hg => ?_) | refine ogP0 rfl rfl rfl (fun hg => ?_) (fun hg => ?_)
         all_goals try simp only [s1, s2, s3, s4, s5, s6, s7, s8, s9, s10, s11, s12] at hg
         all_goals first | refine oQ (Q_len rfl rfl rfl rfl) rfl rfl ?_ | refine oQ (Q_len0 rfl rfl rfl rfl) rfl rfl ?_ | skip
         all_goals first | refine oT rfl rfl ?_ | refine o1 rfl rfl rfl ?_ | refine o0 rfl rfl rfl ?_ | refine ogP1 rfl rfl rfl (fun hg => ?_) (fun hg => ?_) | refine ogP0 rfl rfl rfl (fun hg => ?_) (fun hg => ?_)
         all_goals try simp only [s1, s2, s3, s4, s5, s6, s7, s8, s9, s10, s11, s12] at hg
         all_goals first | (refine oQ (Q_bin rfl rfl rfl) rfl rfl ?_) | skip
         all_goals first | refine oQ (Q_pick_t rfl (by with_reducible rfl) rfl rfl) rfl rfl ?_ | refine oQ (Q_pick_f rfl (by with_reducible rfl) rfl rfl) rfl rfl ?_
         all_goals first | (refine oA rfl rfl ?_)
         all_goals first | (refine oA rfl rfl ?_)
         all_goals refine oN ?_
         all_goals (
          refine CW_ret ?_))
      all_goals (
       first
         | (exfalso; exact absurd hg (by decide))
         | ((refine exitQ (.inr rfl) 0 (.cons (.tmp rfl rfl) (.cons (.tmp rfl rfl) .nil)) ?_ rfl vHn rfl rfl); rw [hcd]; exact tup_bv (compV_yes hcd (compB_a hb))))
    · rw [hb] at hac
      refine conW tab_ok [(0, .int p), (1, .nilsl)] 0 [] [] Try.func42 rfl rfl rfl rfl rfl rfl rfl rfl rfl ?_
      refine cR ?_
      iterate 2 refine oA rfl rfl ?_
      refine oN ?_
      refine CW_seq ?_
      refine cR ?_
      iterate 2 refine oM rfl rfl ?_
      refine oQ (Q_call0 (setCode_nil p ) rfl rfl rfl) rfl rfl ?_
      refine oA rfl rfl ?_
      refine oN ?_
      refine cR ?_
      refine oM rfl rfl ?_
      refine oQ (Q_bin rfl rfl rfl) rfl rfl ?_
      refine oN ?_
      first | refine cT rfl ?_ | refine cF rfl ?_ | refine CW_cond rfl (fun hc => ?_) (fun hc => ?_)
      all_goals try simp only [s1, s2, s3, s4, s5, s6, s7, s8, s9, s10, s11, s12] at hc
      all_goals try (exfalso; first | exact absurd hcd hc | exact absurd hc hcd; done)
      all_goals first
        | (
         refine CW_skip ?_)
        | (
         refine cR ?_
         refine oM rfl rfl ?_
         iterate 2 refine oA rfl rfl ?_
         refine oN ?_
         refine CW_ret ?_)
      all_goals first
        | with_reducible refine tR ?_
        | with_reducible refine tE ?_
        | (
         with_reducible refine tN ?_
         refine cR ?_
         iterate 2 refine oM rfl rfl ?_
         refine oQ (Q_call0 (hac) rfl rfl rfl) rfl rfl ?_
         refine oM rfl rfl ?_
         all_goals first | refine oT rfl rfl ?_ | refine o1 rfl rfl rfl ?_ | refine o0 rfl rfl rfl ?_ | refine ogP1 rfl rfl rfl (fun hg => ?_) (fun hg => ?_) | refine ogP0 rfl rfl rfl (fun hg => ?_) (fun hg => ?_)
         all_goals try simp only [s1, s2, s3, s4, s5, s6, s7, s8, s9, s10, s11, s12] at hg
         all_goals first | (refine oM rfl rfl ?_) | skip
         all_goals first | refine oT rfl rfl ?_ | refine o1 rfl rfl rfl ?_ | refine o0 rfl rfl rfl ?_ | refine ogP1 rfl rfl rfl (fun hg => ?_) (fun hg => ?_) | refine ogP0 rfl rfl rfl (fun hg => ?_) (fun hg => ?_)
         all_goals try simp only [s1, s2, s3, s4, s5, s6, s7, s8, s9, s10, s11, s12] at hg
         all_goals first | (refine oM rfl rfl ?_) | skip
         all_goals first | refine oT rfl rfl ?_ | refine o1 rfl rfl rfl ?_ | refine o0 rfl rfl rfl ?_ | refine ogP1 rfl rfl rfl (fun hg => ?_) (fun hg => ?_) | refine ogP0 rfl rfl rfl (fun hg => ?_) (fun hg => ?_)
         all_goals try simp only [s1, s2, s3, s4, s5, s6, s7, s8, s9, s10, s11, s12] at hg
         all_goals first | (refine oCall (freePoints_nil p hp) [] 1 rfl rfl (Fits.mk' vHn rfl rfl (by simp)) rfl rfl ?_; rintro r H1 ⟨k9, sp9, hk9, hs9, rfl, rfl⟩; refine ⟨.slice 0 0 (freeV p ([] : List (List Int))).length k9, [(0, .ints 49 ((freeV p ([] : List (List Int))).flatten ++ sp9))], rfl, rfl, rfl, ?_⟩) | skip
         all_goals first | refine oT rfl rfl ?_ | refine o1 rfl rfl rfl ?_ | refine o0 rfl rfl rfl ?_ | refine ogP1 rfl rfl rfl (fun hg => ?_) (fun hg => ?_) | refine ogP0 rfl rfl rfl (fun hg => ?_) (fun hg => ?_)
         all_goals try simp only [s1, s2, s3, s4, s5, s6, s7, s8, s9, s10, s11, s12] at hg
         all_goals first | refine oQ (Q_len rfl rfl rfl rfl) rfl rfl ?_ | refine oQ (Q_len0 rfl rfl rfl rfl) rfl rfl ?_ | skip
         all_goals first | refine oT rfl rfl ?_ | refine o1 rfl rfl rfl ?_ | refine o0 rfl rfl rfl ?_ | refine ogP1 rfl rfl rfl (fun hg => ?_) (fun hg => ?_) | refine ogP0 rfl rfl rfl (fun hg => ?_) (fun hg => ?_)
         all_goals try simp only [s1, s2, s3, s4, s5, s6, s7, s8, s9, s10, s11, s12] at hg
         all_goals first | (refine oQ (Q_bin rfl rfl rfl) rfl rfl ?_) | skip
         all_goals first | refine oQ (Q_pick_t rfl (by with_reducible rfl) rfl rfl) rfl rfl ?_ | refine oQ (Q_pick_f rfl (by with_reducible rfl) rfl rfl) rfl rfl ?_
         all_goals first | (refine oA rfl rfl ?_)
         all_goals first | (refine oA rfl rfl ?_)
         all_goals refine oN ?_
         all_goals (
          refine CW_ret ?_))
      all_goals (
       first
         | (exfalso; exact absurd hg (by decide))
         | ((refine exitQ (.inr rfl) 0 (.cons (.tmp rfl rfl) (.cons (.tmp rfl rfl) .nil)) ?_ rfl vHn rfl rfl); rw [hcd]; exact tup_bv (compV_yes hcd (compB_b hb))))
  · skip
    refine conW tab_ok [(0, .int p), (1, .nilsl)] 0 [] [] Try.func42 rfl rfl rfl rfl rfl rfl rfl rfl rfl ?_
    refine cR ?_
    iterate 2 refine oA rfl rfl ?_
    refine oN ?_
    refine CW_seq ?_
    refine cR ?_
    iterate 2 refine oM rfl rfl ?_
    refine oQ (Q_call0 (setCode_nil p ) rfl rfl rfl) rfl rfl ?_
    refine oA rfl rfl ?_
    refine oN ?_
    refine cR ?_
    refine oM rfl rfl ?_
    refine oQ (Q_bin rfl rfl rfl) rfl rfl ?_
    refine oN ?_
    first | refine cT rfl ?_ | refine cF rfl ?_ | refine CW_cond rfl (fun hc => ?_) (fun hc => ?_)
    all_goals try simp only [s1, s2, s3, s4, s5, s6, s7, s8, s9, s10, s11, s12] at hc
    all_goals try (exfalso; first | exact absurd hcd hc | exact absurd hc hcd; done)
    all_goals first
      | (
       refine CW_skip ?_)
      | (
       refine cR ?_
       refine oM rfl rfl ?_
       iterate 2 refine oA rfl rfl ?_
       refine oN ?_
       refine CW_ret ?_)
    all_goals first
      | with_reducible refine tR ?_
      | with_reducible refine tE ?_
      | (
       with_reducible refine tN ?_
       refine cR ?_
       iterate 2 refine oM rfl rfl ?_
       (exfalso; first | exact hc hcd | exact hcd hc)
       refine oM rfl rfl ?_
       all_goals first | refine oT rfl rfl ?_ | refine o1 rfl rfl rfl ?_ | refine o0 rfl rfl rfl ?_ | refine ogP1 rfl rfl rfl (fun hg => ?_) (fun hg => ?_) | refine ogP0 rfl rfl rfl (fun hg => ?_) (fun hg => ?_)
       all_goals try simp only [s1, s2, s3, s4, s5, s6, s7, s8, s9, s10, s11, s12] at hg
       all_goals first | (refine oM rfl rfl ?_) | skip
       all_goals first | refine oT rfl rfl ?_ | refine o1 rfl rfl rfl ?_ | refine o0 rfl rfl rfl ?_ | refine ogP1 rfl rfl rfl (fun hg => ?_) (fun hg => ?_) | refine ogP0 rfl rfl rfl (fun hg => ?_) (fun hg => ?_)
       all_goals try simp only [s1, s2, s3, s4, s5, s6, s7, s8, s9, s10, s11, s12] at hg
       all_goals first | (refine oM rfl rfl ?_) | skip
       all_goals first | refine oT rfl rfl ?_ | refine o1 rfl rfl rfl ?_ | refine o0 rfl rfl rfl ?_ | refine ogP1 rfl rfl rfl (fun hg => ?_) (fun hg => ?_) | refine ogP0 rfl rfl rfl (fun hg => ?_) (fun hg => ?_)
       all_goals try simp only [s1, s2, s3, s4, s5, s6, s7, s8, s9, s10, s11, s12] at hg
       all_goals first | ((exfalso; first | exact hc hcd | exact hcd hc)) | skip
       all_goals first | refine oT rfl rfl ?_ | refine o1 rfl rfl rfl ?_ | refine o0 rfl rfl rfl ?_ | refine ogP1 rfl rfl rfl (fun hg => ?_) (fun hg => ?_) | refine ogP0 rfl rfl rfl (fun hg => ?_) (fun hg => ?_)
       all_goals try simp only [s1, s2, s3, s4, s5, s6, s7, s8, s9, s10, s11, s12] at hg
       all_goals first | refine oQ (Q_len rfl rfl rfl rfl) rfl rfl ?_ | refine oQ (Q_len0 rfl rfl rfl rfl) rfl rfl ?_ | skip
       all_goals first | refine oT rfl rfl ?_ | refine o1 rfl rfl rfl ?_ | refine o0 rfl rfl rfl ?_ | refine ogP1 rfl rfl rfl (fun hg => ?_) (fun hg => ?_) | refine ogP0 rfl rfl rfl (fun hg => ?_) (fun hg => ?_)
       all_goals try simp only [s1, s2, s3, s4, s5, s6, s7, s8, s9, s10, s11, s12] at hg
       all_goals first | (refine oQ (Q_bin rfl rfl rfl) rfl rfl ?_) | skip
       all_goals first | refine oQ (Q_pick_t rfl (by with_reducible rfl) rfl rfl) rfl rfl ?_ | refine oQ (Q_pick_f rfl (by with_reducible rfl) rfl rfl) rfl rfl ?_
       all_goals first | (refine oA rfl rfl ?_)
       all_goals first | (refine oA rfl rfl ?_)
       all_goals refine oN ?_
       all_goals (
        refine CW_ret ?_))
    all_goals (
     first | (exfalso; first | exact hc hcd | exact hcd hc; done) | ((refine exitQ (.inr rfl) 0 (.cons (.tmp rfl rfl) (.cons (.tmp rfl rfl) .nil)) ?_ rfl vHn rfl rfl); exact tup_bv (compV_no hcd)))
theorem spec_FreePoints_M (p : Int) (M : List Int) (n k : Nat) (hM : n * 3 ≤ M.length) (hn : n ≤ 1000000000) (hnk : n ≤ k) : Con Try.prog [] 43 [.int p, .slice 0 0 n k] [(0, .ints 49 M)] (listO 49 [(0, .ints 49 M)] 1 (arcCM p M n) (freeM p M n).flatten (freeM p M n).length) := by
  have e := chunk_split hM
  have h := spec_FreePoints_con p (chunk M n) (M.drop (n * 3)) k (chunk_three hM) (by rw [chunk_length]; exact hn)
  rw [chunk_length, ← e] at h
  exact h
theorem spec_IsCompleteArc_M (p : Int) (M : List Int) (n k : Nat) (hM : n * 3 ≤ M.length) (hn : n ≤ 1000000000) (hnk : n ≤ k) : ConQ Try.prog [] 41 [.int p, .slice 0 0 n k] [(0, .ints 49 M)] (.tuple [.bool (compM p M n), .int (setM p M n)]) := by
  have e := chunk_split hM
  have h := spec_IsCompleteArc_con p (chunk M n) (M.drop (n * 3)) k (chunk_three hM) (by rw [chunk_length]; exact hn)
  rw [chunk_length, ← e] at h
  exact h
theorem impl_FreePoints_M (p : Int) (M : List Int) (n k : Nat) (hM : n * 3 ≤ M.length) (hn : n ≤ 1000000000) (hnk : n ≤ k) : Con Try.prog [] 44 [.int p, .slice 0 0 n k] [(0, .ints 49 M)] (listO 49 [(0, .ints 49 M)] 1 (arcCM p M n) (freeM p M n).flatten (freeM p M n).length) := by
  have e := chunk_split hM
  have h := impl_FreePoints_con p (chunk M n) (M.drop (n * 3)) k (chunk_three hM) (by rw [chunk_length]; exact hn) (by rw [chunk_length]; exact hnk)
  rw [chunk_length, ← e] at h
  exact h
theorem impl_IsCompleteArc_M (p : Int) (M : List Int) (n k : Nat) (hM : n * 3 ≤ M.length) (hn : n ≤ 1000000000) (hnk : n ≤ k) : ConQ Try.prog [] 42 [.int p, .slice 0 0 n k] [(0, .ints 49 M)] (.tuple [.bool (compM p M n), .int (setM p M n)]) := by
  have e := chunk_split hM
  have h := impl_IsCompleteArc_con p (chunk M n) (M.drop (n * 3)) k (chunk_three hM) (by rw [chunk_length]; exact hn) (by rw [chunk_length]; exact hnk)
  rw [chunk_length, ← e] at h
  exact h
end Go.Proofs.Ytmcmbpoebhjecaa
