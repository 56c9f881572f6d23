/- Thinned blocking sets. Printed by gen_r7.py. -/
import Derived.Test.YtmcmbpoebhjecaaR6
import Derived.Test.YtmcmbpoebhjecaaR2
namespace Go.Proofs.Ytmcmbpoebhjecaa
set_option maxRecDepth 10000
set_option linter.unusedSimpArgs false
set_option linter.unusedVariables false
def thinC (p : Int) (L : List (List Int)) : Int := if setC p L = 0 then (if blkB p L = true then 0 else 5) else setC p L
theorem thinC_a {p : Int} {L : List (List Int)} (h : ¬ setC p L = 0) : thinC p L = setC p L := if_neg h
theorem thinC_b {p : Int} {L : List (List Int)} (h : setC p L = 0) (hb : blkB p L = false) : thinC p L = 5 := by rw [thinC, if_pos h, hb]; rfl
theorem thinC_c {p : Int} {L : List (List Int)} (h : setC p L = 0) (hb : blkB p L = true) : thinC p L = 0 := by rw [thinC, if_pos h, hb]; rfl
def thM (p : Int) (M : List Int) (n : Nat) : List (List Int) := thO p (chunk M n) n
def thinCM (p : Int) (M : List Int) (n : Nat) : Int := thinC p (chunk M n)
/-- the point that is looked at stands at its place -/
theorem thO_wo {p : Int} {L : List (List Int)} {i : Nat} (hi : i < L.length) : wo (thO p L i) (thK p L i).length = thR p L i ∧ (thK p L i).length < (thO p L i).length := by
  unfold thO thR wo
  rw [drop_at hi]
  constructor
  · rw [List.take_left, ← List.drop_drop, List.drop_left]
    rfl
  · rw [List.length_append, List.length_cons]; omega
theorem thK_yes {p : Int} {L : List (List Int)} {i : Nat} (h : blkB p (thR p L i) = true) : thK p L (i + 1) = thK p L i := by
  have h' : blkB p (thK p L i ++ L.drop (i + 1)) = true := h
  rw [thK, if_pos h']
theorem thK_no {p : Int} {L : List (List Int)} {i : Nat} (h : ¬ blkB p (thR p L i) = true) : (thK p L (i + 1)).length = (thK p L i).length + 1 := by
  have h' : ¬ blkB p (thK p L i ++ L.drop (i + 1)) = true := h
  rw [thK, if_neg h', List.length_append]; rfl
theorem thO_lt {p : Int} {L : List (List Int)} {i : Nat} (hi : i ≤ L.length) (h : (thK p L i).length < (thO p L i).length) : i < L.length := by
  unfold thO at h
  rw [List.length_append, List.length_drop] at h
  omega
theorem thO_ge {p : Int} {L : List (List Int)} {i : Nat} (hi : i ≤ L.length) (h : (thO p L i).length ≤ (thK p L i).length) : i = L.length := by
  unfold thO at h
  rw [List.length_append, List.length_drop] at h
  omega
attribute [local irreducible] CW OW QW QOp Con thenP inBlockP

theorem impl_ThinBlocking_con (p : Int) (L : List (List Int)) (sp : List Int) (k : Nat) (h3 : ∀ x ∈ L, x.length = 3) (hn9 : L.length ≤ 1000000000) : Con Try.prog [] 40 [.int p, .slice 0 0 L.length k] [(0, .ints 49 (L.flatten ++ sp))] (listO 49 [(0, .ints 49 (L.flatten ++ sp))] 1 (thinC p L) (thO p L L.length).flatten (thO p L L.length).length) := by
  by_cases hcd : setC p L = 0
  · have hp := (setC_zero hcd).1
    have hbc := isBlocking_con p L sp k h3 hcd
    cases hb : blkB p L
    · rw [hb] at hbc
      have htc := thinC_b hcd hb
      have hne : ¬ thinC p L = 0 := by rw [htc]; decide
      refine conW tab_ok [(0, .int p), (1, .slice 0 0 L.length k)] 1 [0] [0] Try.func40 rfl rfl rfl rfl rfl rfl rfl rfl rfl ?_
      refine cR ?_
      iterate 2 refine oA rfl rfl ?_
      refine oN ?_
      refine CW_seq ?_
      refine cR ?_
      iterate 2 refine oM rfl rfl ?_
      refine oQ (Q_call (setCode_con p L sp k h3 hn9) [] rfl rfl (Fits.mk' (vHc rfl vHn) rfl rfl (by simp)) rfl rfl) rfl rfl ?_
      refine oA rfl rfl ?_
      refine oN ?_
      refine cR ?_
      refine oM rfl rfl ?_
      refine oQ (Q_bin rfl rfl rfl) rfl rfl ?_
      refine oN ?_
      first | refine cT rfl ?_ | refine cF rfl ?_ | refine CW_cond rfl (fun hc => ?_) (fun hc => ?_)
      all_goals try simp only [s1, s2, s3, s4, s5, s6, s7, s8, s9, s10, s11, s12] at hc
      all_goals try (exfalso; first | exact absurd hcd hc | exact absurd hc hcd | (simp at hc; done); done)
      all_goals first
        | (
         refine CW_skip ?_)
        | (
         refine cR ?_
         refine oM rfl rfl ?_
         iterate 2 refine oA rfl rfl ?_
         refine oN ?_
         refine CW_ret ?_)
      all_goals first
        | with_reducible refine tR ?_
        | with_reducible refine tE ?_
        | (
         with_reducible refine tN ?_
         refine CW_seq ?_
         refine cR ?_
         iterate 2 refine oM rfl rfl ?_
         refine oQ (Q_call (hbc) [] rfl rfl (Fits.mk' (vHc rfl vHn) rfl rfl (by simp)) rfl rfl) rfl rfl ?_
         refine oQ (Q_not rfl) rfl rfl ?_
         refine oN ?_
         first | refine cT rfl ?_ | refine cF rfl ?_ | refine CW_cond rfl (fun hc => ?_) (fun hc => ?_)
         all_goals try simp only [s1, s2, s3, s4, s5, s6, s7, s8, s9, s10, s11, s12] at hc
         all_goals try (exfalso; first | exact absurd hcd hc | exact absurd hc hcd | (simp at hc; done); done)
         all_goals first
           | (
            refine CW_skip ?_)
           | (
            refine cR ?_
            iterate 2 refine oA rfl rfl ?_
            refine oN ?_
            refine CW_ret ?_)
         all_goals first
           | with_reducible refine tR ?_
           | with_reducible refine tE ?_
           | (
            with_reducible refine tN ?_
            refine cR ?_
            iterate 2 refine oM rfl rfl ?_
            (exfalso; simp at hc; done)
            iterate 2 refine oA rfl rfl ?_
            refine oN ?_
            refine CW_ret ?_))
      all_goals (
       first | (exfalso; first | exact hc hcd | exact hcd hc | (simp at hc; done); done) | exact exitH (r0 := .tuple [.nilsl, .int (thinC p L)]) (H0 := [(0, .ints 49 (L.flatten ++ sp))]) (.inr rfl) [] 1 (.cons (.tmp rfl rfl) (.cons (.tmp rfl rfl) .nil)) (by rw [htc]; rfl) rfl rfl (vHc rfl vHn) rfl rfl (listO_no hne))
    · rw [hb] at hbc
      have htc := thinC_c hcd hb
      refine conW tab_ok [(0, .int p), (1, .slice 0 0 L.length k)] 1 [0] [0] Try.func40 rfl rfl rfl rfl rfl rfl rfl rfl rfl ?_
      refine cR ?_
      iterate 2 refine oA rfl rfl ?_
      refine oN ?_
      refine CW_seq ?_
      refine cR ?_
      iterate 2 refine oM rfl rfl ?_
      refine oQ (Q_call (setCode_con p L sp k h3 hn9) [] rfl rfl (Fits.mk' (vHc rfl vHn) rfl rfl (by simp)) rfl rfl) rfl rfl ?_
      refine oA rfl rfl ?_
      refine oN ?_
      refine cR ?_
      refine oM rfl rfl ?_
      refine oQ (Q_bin rfl rfl rfl) rfl rfl ?_
      refine oN ?_
      first | refine cT rfl ?_ | refine cF rfl ?_ | refine CW_cond rfl (fun hc => ?_) (fun hc => ?_)
      all_goals try simp only [s1, s2, s3, s4, s5, s6, s7, s8, s9, s10, s11, s12] at hc
      all_goals try (exfalso; first | exact absurd hcd hc | exact absurd hc hcd | (simp at hc; done); done)
      all_goals first
        | (
         refine CW_skip ?_)
        | (
         refine cR ?_
         refine oM rfl rfl ?_
         iterate 2 refine oA rfl rfl ?_
         refine oN ?_
         refine CW_ret ?_)
      all_goals first
        | with_reducible refine tR ?_
        | with_reducible refine tE ?_
        | (
         with_reducible refine tN ?_
         refine CW_seq ?_
         refine cR ?_
         iterate 2 refine oM rfl rfl ?_
         refine oQ (Q_call (hbc) [] rfl rfl (Fits.mk' (vHc rfl vHn) rfl rfl (by simp)) rfl rfl) rfl rfl ?_
         refine oQ (Q_not rfl) rfl rfl ?_
         refine oN ?_
         first | refine cT rfl ?_ | refine cF rfl ?_ | refine CW_cond rfl (fun hc => ?_) (fun hc => ?_)
         all_goals try simp only [s1, s2, s3, s4, s5, s6, s7, s8, s9, s10, s11, s12] at hc
         all_goals try (exfalso; first | exact absurd hcd hc | exact absurd hc hcd | (simp at hc; done); done)
         all_goals first
           | (
            refine CW_skip ?_)
           | (
            refine cR ?_
            iterate 2 refine oA rfl rfl ?_
            refine oN ?_
            refine CW_ret ?_)
         all_goals first
           | with_reducible refine tR ?_
           | with_reducible refine tE ?_
           | (
            with_reducible refine tN ?_
            refine cR ?_
            iterate 2 refine oM rfl rfl ?_
            refine oCall (thinned_con p L sp k h3 hcd) [] 2 rfl rfl (Fits.mk' (vHc rfl vHn) rfl rfl (by simp)) rfl rfl ?_
            rintro r H1 ⟨k9, sp9, hk9, hs9, rfl, rfl⟩
            refine ⟨.slice 2 0 (thO p L L.length).length k9, [(0, .ints 49 (L.flatten ++ sp)), (2, .ints 49 ((thO p L L.length).flatten ++ sp9))], rfl, rfl, rfl, ?_⟩
            iterate 2 refine oA rfl rfl ?_
            refine oN ?_
            refine CW_ret ?_))
      all_goals (
       first | (exfalso; first | exact hc hcd | exact hcd hc | (simp at hc; done); done) | exact exitH (r0 := .tuple [.slice 1 0 (thO p L L.length).length k9, .int 0]) (H0 := [(0, .ints 49 (L.flatten ++ sp)), (1, .ints 49 ((thO p L L.length).flatten ++ sp9))]) (.inr rfl) [(1, 2)] 2 (.cons (.tmp rfl rfl) (.cons (.tmp rfl rfl) .nil)) rfl rfl rfl (vHc rfl (vHc rfl vHn)) rfl rfl (listO_ok htc hk9))
  · have hne : ¬ thinC p L = 0 := by rw [thinC_a hcd]; exact hcd
    refine conW tab_ok [(0, .int p), (1, .slice 0 0 L.length k)] 1 [0] [0] Try.func40 rfl rfl rfl rfl rfl rfl rfl rfl rfl ?_
    refine cR ?_
    iterate 2 refine oA rfl rfl ?_
    refine oN ?_
    refine CW_seq ?_
    refine cR ?_
    iterate 2 refine oM rfl rfl ?_
    refine oQ (Q_call (setCode_con p L sp k h3 hn9) [] rfl rfl (Fits.mk' (vHc rfl vHn) rfl rfl (by simp)) rfl rfl) rfl rfl ?_
    refine oA rfl rfl ?_
    refine oN ?_
    refine cR ?_
    refine oM rfl rfl ?_
    refine oQ (Q_bin rfl rfl rfl) rfl rfl ?_
    refine oN ?_
    first | refine cT rfl ?_ | refine cF rfl ?_ | refine CW_cond rfl (fun hc => ?_) (fun hc => ?_)
    all_goals try simp only [s1, s2, s3, s4, s5, s6, s7, s8, s9, s10, s11, s12] at hc
    all_goals try (exfalso; first | exact absurd hcd hc | exact absurd hc hcd; done)
    all_goals first
      | (
       refine CW_skip ?_)
      | (
       refine cR ?_
       refine oM rfl rfl ?_
       iterate 2 refine oA rfl rfl ?_
       refine oN ?_
       refine CW_ret ?_)
    all_goals first
      | with_reducible refine tR ?_
      | with_reducible refine tE ?_
      | (
       with_reducible refine tN ?_
       refine CW_seq ?_
       refine cR ?_
       iterate 2 refine oM rfl rfl ?_
       (exfalso; first | exact hc hcd | exact hcd hc)
       refine oQ (Q_not rfl) rfl rfl ?_
       refine oN ?_
       first | refine cT rfl ?_ | refine cF rfl ?_ | refine CW_cond rfl (fun hc => ?_) (fun hc => ?_)
       all_goals try simp only [s1, s2, s3, s4, s5, s6, s7, s8, s9, s10, s11, s12] at hc
       all_goals try (exfalso; first | exact absurd hcd hc | exact absurd hc hcd; done)
       all_goals first
         | (
          refine CW_skip ?_)
         | (
          refine cR ?_
          iterate 2 refine oA rfl rfl ?_
          refine oN ?_
          refine CW_ret ?_)
       all_goals first
         | with_reducible refine tR ?_
         | with_reducible refine tE ?_
         | (
          with_reducible refine tN ?_
          refine cR ?_
          iterate 2 refine oM rfl rfl ?_
          fail "call of loop.example/g01310/impl.thinned at slot 19"
          iterate 2 refine oA rfl rfl ?_
          refine oN ?_
          refine CW_ret ?_))
    all_goals (
     first | (exfalso; first | exact hc hcd | exact hcd hc; done) | exact exitH (r0 := .tuple [.nilsl, .int (thinC p L)]) (H0 := [(0, .ints 49 (L.flatten ++ sp))]) (.inr rfl) [] 1 (.cons (.tmp rfl rfl) (.cons (.tmp rfl rfl) .nil)) (by rw [thinC_a hcd]; rfl) rfl rfl (vHc rfl vHn) rfl rfl (listO_no hne))
theorem impl_ThinBlocking_nil (p : Int) : Con Try.prog [] 40 [.int p, .nilsl] [] (listO 49 [] 0 (thinC p ([] : List (List Int))) (thO p ([] : List (List Int)) ([] : List (List Int)).length).flatten (thO p ([] : List (List Int)) ([] : List (List Int)).length).length) := by
  by_cases hcd : setC p ([] : List (List Int)) = 0
  · have hp := (setC_zero hcd).1
    have hbc := isBlocking_nil p hp
    cases hb : blkB p ([] : List (List Int))
    · rw [hb] at hbc
      have htc := thinC_b hcd hb
      have hne : ¬ thinC p ([] : List (List Int)) = 0 := by rw [htc]; decide
      refine conW tab_ok [(0, .int p), (1, .nilsl)] 0 [] [] Try.func40 rfl rfl rfl rfl rfl rfl rfl rfl rfl ?_
      refine cR ?_
      iterate 2 refine oA rfl rfl ?_
      refine oN ?_
      refine CW_seq ?_
      refine cR ?_
      iterate 2 refine oM rfl rfl ?_
      refine oQ (Q_call0 (setCode_nil p ) rfl rfl rfl) rfl rfl ?_
      refine oA rfl rfl ?_
      refine oN ?_
      refine cR ?_
      refine oM rfl rfl ?_
      refine oQ (Q_bin rfl rfl rfl) rfl rfl ?_
      refine oN ?_
      first | refine cT rfl ?_ | refine cF rfl ?_ | refine CW_cond rfl (fun hc => ?_) (fun hc => ?_)
      all_goals try simp only [s1, s2, s3, s4, s5, s6, s7, s8, s9, s10, s11, s12] at hc
      all_goals try (exfalso; first | exact absurd hcd hc | exact absurd hc hcd | (simp at hc; done); done)
      all_goals first
        | (
         refine CW_skip ?_)
        | (
         refine cR ?_
         refine oM rfl rfl ?_
         iterate 2 refine oA rfl rfl ?_
         refine oN ?_
         refine CW_ret ?_)
      all_goals first
        | with_reducible refine tR ?_
        | with_reducible refine tE ?_
        | (
         with_reducible refine tN ?_
         refine CW_seq ?_
         refine cR ?_
         iterate 2 refine oM rfl rfl ?_
         refine oQ (Q_call0 (hbc) rfl rfl rfl) rfl rfl ?_
         refine oQ (Q_not rfl) rfl rfl ?_
         refine oN ?_
         first | refine cT rfl ?_ | refine cF rfl ?_ | refine CW_cond rfl (fun hc => ?_) (fun hc => ?_)
         all_goals try simp only [s1, s2, s3, s4, s5, s6, s7, s8, s9, s10, s11, s12] at hc
         all_goals try (exfalso; first | exact absurd hcd hc | exact absurd hc hcd | (simp at hc; done); done)
         all_goals first
           | (
            refine CW_skip ?_)
           | (
            refine cR ?_
            iterate 2 refine oA rfl rfl ?_
            refine oN ?_
            refine CW_ret ?_)
         all_goals first
           | with_reducible refine tR ?_
           | with_reducible refine tE ?_
           | (
            with_reducible refine tN ?_
            refine cR ?_
            iterate 2 refine oM rfl rfl ?_
            (exfalso; simp at hc; done)
            iterate 2 refine oA rfl rfl ?_
            refine oN ?_
            refine CW_ret ?_))
      all_goals (
       first | (exfalso; first | exact hc hcd | exact hcd hc | (simp at hc; done); done) | exact exitH (r0 := .tuple [.nilsl, .int (thinC p ([] : List (List Int)))]) (H0 := []) (.inr rfl) [] 0 (.cons (.tmp rfl rfl) (.cons (.tmp rfl rfl) .nil)) (by rw [htc]; rfl) rfl rfl vHn rfl rfl (listO_no hne))
    · rw [blkB_nil hp] at hb; cases hb
  · have hne : ¬ thinC p ([] : List (List Int)) = 0 := by rw [thinC_a hcd]; exact hcd
    refine conW tab_ok [(0, .int p), (1, .nilsl)] 0 [] [] Try.func40 rfl rfl rfl rfl rfl rfl rfl rfl rfl ?_
    refine cR ?_
    iterate 2 refine oA rfl rfl ?_
    refine oN ?_
    refine CW_seq ?_
    refine cR ?_
    iterate 2 refine oM rfl rfl ?_
    refine oQ (Q_call0 (setCode_nil p ) rfl rfl rfl) rfl rfl ?_
    refine oA rfl rfl ?_
    refine oN ?_
    refine cR ?_
    refine oM rfl rfl ?_
    refine oQ (Q_bin rfl rfl rfl) rfl rfl ?_
    refine oN ?_
    first | refine cT rfl ?_ | refine cF rfl ?_ | refine CW_cond rfl (fun hc => ?_) (fun hc => ?_)
    all_goals try simp only [s1, s2, s3, s4, s5, s6, s7, s8, s9, s10, s11, s12] at hc
    all_goals try (exfalso; first | exact absurd hcd hc | exact absurd hc hcd; done)
    all_goals first
      | (
       refine CW_skip ?_)
      | (
       refine cR ?_
       refine oM rfl rfl ?_
       iterate 2 refine oA rfl rfl ?_
       refine oN ?_
       refine CW_ret ?_)
    all_goals first
      | with_reducible refine tR ?_
      | with_reducible refine tE ?_
      | (
       with_reducible refine tN ?_
       refine CW_seq ?_
       refine cR ?_
       iterate 2 refine oM rfl rfl ?_
       (exfalso; first | exact hc hcd | exact hcd hc)
       refine oQ (Q_not rfl) rfl rfl ?_
       refine oN ?_
       first | refine cT rfl ?_ | refine cF rfl ?_ | refine CW_cond rfl (fun hc => ?_) (fun hc => ?_)
       all_goals try simp only [s1, s2, s3, s4, s5, s6, s7, s8, s9, s10, s11, s12] at hc
       all_goals try (exfalso; first | exact absurd hcd hc | exact absurd hc hcd; done)
       all_goals first
         | (
          refine CW_skip ?_)
         | (
          refine cR ?_
          iterate 2 refine oA rfl rfl ?_
          refine oN ?_
          refine CW_ret ?_)
       all_goals first
         | with_reducible refine tR ?_
         | with_reducible refine tE ?_
         | (
          with_reducible refine tN ?_
          refine cR ?_
          iterate 2 refine oM rfl rfl ?_
          fail "call of loop.example/g01310/impl.thinned at slot 19"
          iterate 2 refine oA rfl rfl ?_
          refine oN ?_
          refine CW_ret ?_))
    all_goals (
     first | (exfalso; first | exact hc hcd | exact hcd hc; done) | exact exitH (r0 := .tuple [.nilsl, .int (thinC p ([] : List (List Int)))]) (H0 := []) (.inr rfl) [] 0 (.cons (.tmp rfl rfl) (.cons (.tmp rfl rfl) .nil)) (by rw [thinC_a hcd]; rfl) rfl rfl vHn rfl rfl (listO_no hne))
theorem spec_ThinBlocking_con (p : Int) (L : List (List Int)) (sp : List Int) (k : Nat) (h3 : ∀ x ∈ L, x.length = 3) (hn9 : L.length ≤ 1000000000) : Con Try.prog [] 39 [.int p, .slice 0 0 L.length k] [(0, .ints 49 (L.flatten ++ sp))] (listO 49 [(0, .ints 49 (L.flatten ++ sp))] 1 (thinC p L) (thO p L L.length).flatten (thO p L L.length).length) := by
  by_cases hcd : setC p L = 0
  · obtain ⟨hp, hv, _, hn60⟩ := setC_zero hcd
    have hf3 := flat3 h3
    have hcc := l07Code_con p L sp k h3 hn9
    have hbc := l07Blocking_con p L sp k h3 hcd
    rw [hcd] at hcc
    cases hb : blkB p L
    · rw [hb] at hbc
      have htc := thinC_b hcd hb
      have hne : ¬ thinC p L = 0 := by rw [htc]; decide
      refine conW tab_ok [(0, .int p), (1, .slice 0 0 L.length k)] 1 [0] [0] Try.func39 rfl rfl rfl rfl rfl rfl rfl rfl rfl ?_
      refine cR ?_
      iterate 2 refine oA rfl rfl ?_
      refine oN ?_
      refine cR ?_
      iterate 2 refine oM rfl rfl ?_
      refine oQ (Q_call (hcc) [] rfl rfl (Fits.mk' (vHc rfl vHn) rfl rfl (by simp)) rfl rfl) rfl rfl ?_
      refine oA rfl rfl ?_
      refine oN ?_
      refine CW_seq ?_
      refine cR ?_
      refine oM rfl rfl ?_
      refine oQ (Q_bin rfl rfl rfl) rfl rfl ?_
      refine oM rfl rfl ?_
      all_goals first | refine oT rfl rfl ?_ | refine o1 rfl rfl rfl ?_ | refine o0 rfl rfl rfl ?_ | refine ogP1 rfl rfl rfl (fun hg => ?_) (fun hg => ?_) | refine ogP0 rfl rfl rfl (fun hg => ?_) (fun hg => ?_)
      all_goals try simp only [s1, s2, s3, s4, s5, s6, s7, s8, s9, s10, s11, s12] at hg
      all_goals first | (refine oM rfl rfl ?_) | skip
      all_goals first | refine oT rfl rfl ?_ | refine o1 rfl rfl rfl ?_ | refine o0 rfl rfl rfl ?_ | refine ogP1 rfl rfl rfl (fun hg => ?_) (fun hg => ?_) | refine ogP0 rfl rfl rfl (fun hg => ?_) (fun hg => ?_)
      all_goals try simp only [s1, s2, s3, s4, s5, s6, s7, s8, s9, s10, s11, s12] at hg
      all_goals first | (refine oM rfl rfl ?_) | skip
      all_goals first | refine oT rfl rfl ?_ | refine o1 rfl rfl rfl ?_ | refine o0 rfl rfl rfl ?_ | refine ogP1 rfl rfl rfl (fun hg => ?_) (fun hg => ?_) | refine ogP0 rfl rfl rfl (fun hg => ?_) (fun hg => ?_)
      all_goals try simp only [s1, s2, s3, s4, s5, s6, s7, s8, s9, s10, s11, s12] at hg
      all_goals first | (refine oQ (Q_call (hbc) [] rfl rfl (Fits.mk' (vHc rfl vHn) rfl rfl (by simp)) rfl rfl) rfl rfl ?_) | skip
      all_goals first | refine oT rfl rfl ?_ | refine o1 rfl rfl rfl ?_ | refine o0 rfl rfl rfl ?_ | refine ogP1 rfl rfl rfl (fun hg => ?_) (fun hg => ?_) | refine ogP0 rfl rfl rfl (fun hg => ?_) (fun hg => ?_)
      all_goals try simp only [s1, s2, s3, s4, s5, s6, s7, s8, s9, s10, s11, s12] at hg
      all_goals first | (refine oQ (Q_not rfl) rfl rfl ?_) | skip
      all_goals first | refine oQ (Q_pick_t rfl (by with_reducible rfl) rfl rfl) rfl rfl ?_ | refine oQ (Q_pick_f rfl (by with_reducible rfl) rfl rfl) rfl rfl ?_
      all_goals refine oN ?_
      all_goals (
       first | refine cT rfl ?_ | refine cF rfl ?_ | refine CW_cond rfl (fun hc => ?_) (fun hc => ?_)
       all_goals try simp only [s1, s2, s3, s4, s5, s6, s7, s8, s9, s10, s11, s12] at hc
       all_goals try (exfalso; first | exact absurd trivial hc | (simp at hc; done) | (simp at hg; done); done)
       all_goals first
         | (
          refine CW_skip ?_)
         | (
          refine CW_region ?_
          refine oA rfl rfl ?_
          refine OW_nil ?_))
      all_goals with_reducible refine tN ?_
      all_goals (
       refine CW_seq ?_
       refine cR ?_
       refine oM rfl rfl ?_
       refine oQ (Q_bin rfl rfl rfl) rfl rfl ?_
       refine oN ?_
       first | refine cT rfl ?_ | refine cF rfl ?_ | refine CW_cond rfl (fun hc => ?_) (fun hc => ?_)
       all_goals try simp only [s1, s2, s3, s4, s5, s6, s7, s8, s9, s10, s11, s12] at hc
       all_goals try (exfalso; first | exact absurd trivial hc | (simp at hc; done) | (simp at hg; done); done)
       all_goals first
         | (
          refine CW_skip ?_)
         | (
          refine cR ?_
          refine oM rfl rfl ?_
          iterate 2 refine oA rfl rfl ?_
          refine oN ?_
          refine CW_ret ?_)
       all_goals first
         | with_reducible refine tR ?_
         | with_reducible refine tE ?_
         | (
          with_reducible refine tN ?_
          refine cR ?_
          refine oBsl rfl rfl rfl rfl (.inr ⟨rfl, rfl, by decide⟩) rfl rfl rfl rfl rfl rfl ?_
          refine oM rfl rfl ?_
          (exfalso; simp at hc; done)
          refine oA rfl rfl ?_
          refine oN ?_
          refine CW_seq ?_
          refine cR ?_
          refine oA rfl rfl ?_
          refine oN ?_
          refine CW_block ?_
          (exfalso; simp at hc; done)
          · first | trivial | omega | (simp; done) | (simp; omega)
          · refine View.mk' [] rfl rfl rfl ?_ ?_
            repeat' first | exact vFn | refine vFc rfl ?_ | exact vHn | refine vHc rfl ?_ | refine vFc (congrArg (fun z => some (V.int z)) ?_) ?_ | refine vHc (congrArg (fun z => some (Blk.ints _ z)) ?_) ?_ | refine vFc (congrArg (fun z => some (V.bool z)) ?_) ?_ | refine vFs rfl rfl ?_ ?_
          intro i hi
          refine CW_seq ?_
          refine cR ?_
          iterate 2 refine oM rfl rfl ?_
          first | refine oQ (Q_len rfl rfl rfl rfl) rfl rfl ?_ | refine oQ (Q_len0 rfl rfl rfl rfl) rfl rfl ?_
          refine oQ (Q_bin rfl rfl rfl) rfl rfl ?_
          refine oN ?_
          first | refine cT rfl ?_ | refine cF rfl ?_ | refine CW_cond rfl (fun hc => ?_) (fun hc => ?_)
          all_goals try simp only [s1, s2, s3, s4, s5, s6, s7, s8, s9, s10, s11, s12] at hc
          all_goals try (exfalso; first | exact absurd trivial hc | (simp at hc; done) | (simp at hg; done); done)
          all_goals first
            | (
             refine CW_skip ?_)
            | (
             refine CW_exit ?_)
          all_goals first
            | with_reducible refine tR ?_
            | with_reducible refine tE ?_
            | (
             with_reducible refine tN ?_
             refine CW_block ?_
             refine cR ?_
             iterate 2 refine oM rfl rfl ?_
             fail
             refine oA rfl rfl ?_
             refine oN ?_
             refine cR ?_
             iterate 2 refine oM rfl rfl ?_
             fail
             refine oN ?_
             first | refine cT rfl ?_ | refine cF rfl ?_ | refine CW_cond rfl (fun hc => ?_) (fun hc => ?_)
             all_goals try simp only [s1, s2, s3, s4, s5, s6, s7, s8, s9, s10, s11, s12] at hc
             all_goals try (exfalso; first | exact absurd trivial hc | (simp at hc; done) | (simp at hg; done); done)
             all_goals first
               | (
                refine CW_region ?_
                refine oM rfl rfl ?_
                refine oA rfl rfl ?_
                refine OW_nil ?_)
               | (
                refine CW_region ?_
                refine oM rfl rfl ?_
                first | refine oQ (Q_binu rfl rfl rfl (by omega)) rfl rfl ?_ | refine oQ (Q_bin rfl rfl rfl) rfl rfl ?_
                refine oA rfl rfl ?_
                refine OW_nil ?_)
             all_goals first | with_reducible refine bN ?_ | with_reducible refine bE ?_ | with_reducible refine bR ?_ | refine bX rfl ?_)
          all_goals first
            | with_reducible refine tR ?_
            | with_reducible refine tE ?_
            | (
             with_reducible refine tN ?_
             fail "again 0")
          all_goals first | with_reducible refine bN ?_ | with_reducible refine bE ?_ | with_reducible refine bR ?_ | refine bX rfl ?_
          all_goals with_reducible refine tN ?_
          all_goals (
           refine cR ?_
           refine oM rfl rfl ?_
           iterate 2 refine oA rfl rfl ?_
           refine oN ?_
           refine CW_ret ?_)))
      all_goals (
       first | (exfalso; first | (simp at hg; done) | (simp at hc; done); done) | exact exitH (r0 := .tuple [.nilsl, .int (thinC p L)]) (H0 := [(0, .ints 49 (L.flatten ++ sp))]) (.inr rfl) [] 1 (.cons (.tmp rfl rfl) (.cons (.tmp rfl rfl) .nil)) (by rw [htc]; rfl) rfl rfl (vHc rfl vHn) rfl rfl (listO_no hne))
    · rw [hb] at hbc
      have htc := thinC_c hcd hb
      refine conW tab_ok [(0, .int p), (1, .slice 0 0 L.length k)] 1 [0] [0] Try.func39 rfl rfl rfl rfl rfl rfl rfl rfl rfl ?_
      refine cR ?_
      iterate 2 refine oA rfl rfl ?_
      refine oN ?_
      refine cR ?_
      iterate 2 refine oM rfl rfl ?_
      refine oQ (Q_call (hcc) [] rfl rfl (Fits.mk' (vHc rfl vHn) rfl rfl (by simp)) rfl rfl) rfl rfl ?_
      refine oA rfl rfl ?_
      refine oN ?_
      refine CW_seq ?_
      refine cR ?_
      refine oM rfl rfl ?_
      refine oQ (Q_bin rfl rfl rfl) rfl rfl ?_
      refine oM rfl rfl ?_
      all_goals first | refine oT rfl rfl ?_ | refine o1 rfl rfl rfl ?_ | refine o0 rfl rfl rfl ?_ | refine ogP1 rfl rfl rfl (fun hg => ?_) (fun hg => ?_) | refine ogP0 rfl rfl rfl (fun hg => ?_) (fun hg => ?_)
      all_goals try simp only [s1, s2, s3, s4, s5, s6, s7, s8, s9, s10, s11, s12] at hg
      all_goals first | (refine oM rfl rfl ?_) | skip
      all_goals first | refine oT rfl rfl ?_ | refine o1 rfl rfl rfl ?_ | refine o0 rfl rfl rfl ?_ | refine ogP1 rfl rfl rfl (fun hg => ?_) (fun hg => ?_) | refine ogP0 rfl rfl rfl (fun hg => ?_) (fun hg => ?_)
      all_goals try simp only [s1, s2, s3, s4, s5, s6, s7, s8, s9, s10, s11, s12] at hg
      all_goals first | (refine oM rfl rfl ?_) | skip
      all_goals first | refine oT rfl rfl ?_ | refine o1 rfl rfl rfl ?_ | refine o0 rfl rfl rfl ?_ | refine ogP1 rfl rfl rfl (fun hg => ?_) (fun hg => ?_) | refine ogP0 rfl rfl rfl (fun hg => ?_) (fun hg => ?_)
      all_goals try simp only [s1, s2, s3, s4, s5, s6, s7, s8, s9, s10, s11, s12] at hg
      all_goals first | (refine oQ (Q_call (hbc) [] rfl rfl (Fits.mk' (vHc rfl vHn) rfl rfl (by simp)) rfl rfl) rfl rfl ?_) | skip
      all_goals first | refine oT rfl rfl ?_ | refine o1 rfl rfl rfl ?_ | refine o0 rfl rfl rfl ?_ | refine ogP1 rfl rfl rfl (fun hg => ?_) (fun hg => ?_) | refine ogP0 rfl rfl rfl (fun hg => ?_) (fun hg => ?_)
      all_goals try simp only [s1, s2, s3, s4, s5, s6, s7, s8, s9, s10, s11, s12] at hg
      all_goals first | (refine oQ (Q_not rfl) rfl rfl ?_) | skip
      all_goals first | refine oQ (Q_pick_t rfl (by with_reducible rfl) rfl rfl) rfl rfl ?_ | refine oQ (Q_pick_f rfl (by with_reducible rfl) rfl rfl) rfl rfl ?_
      all_goals refine oN ?_
      all_goals (
       first | refine cT rfl ?_ | refine cF rfl ?_ | refine CW_cond rfl (fun hc => ?_) (fun hc => ?_)
       all_goals try simp only [s1, s2, s3, s4, s5, s6, s7, s8, s9, s10, s11, s12] at hc
       all_goals try (exfalso; first | exact absurd trivial hc | (simp at hc; done) | (simp at hg; done); done)
       all_goals first
         | (
          refine CW_skip ?_)
         | (
          refine CW_region ?_
          refine oA rfl rfl ?_
          refine OW_nil ?_))
      all_goals with_reducible refine tN ?_
      all_goals (
       refine CW_seq ?_
       refine cR ?_
       refine oM rfl rfl ?_
       refine oQ (Q_bin rfl rfl rfl) rfl rfl ?_
       refine oN ?_
       first | refine cT rfl ?_ | refine cF rfl ?_ | refine CW_cond rfl (fun hc => ?_) (fun hc => ?_)
       all_goals try simp only [s1, s2, s3, s4, s5, s6, s7, s8, s9, s10, s11, s12] at hc
       all_goals try (exfalso; first | exact absurd trivial hc | (simp at hc; done) | (simp at hg; done); done)
       all_goals first
         | (
          refine CW_skip ?_)
         | (
          refine cR ?_
          refine oM rfl rfl ?_
          iterate 2 refine oA rfl rfl ?_
          refine oN ?_
          refine CW_ret ?_)
       all_goals first
         | with_reducible refine tR ?_
         | with_reducible refine tE ?_
         | (
          with_reducible refine tN ?_
          refine cR ?_
          refine oBsl rfl rfl rfl rfl (.inr ⟨rfl, rfl, by decide⟩) rfl rfl rfl rfl rfl rfl ?_
          refine oM rfl rfl ?_
          refine oAppOwn (sz := 3) (by_ := 24) (l := []) (m := 0) (k := 0) rfl rfl rfl rfl rfl rfl ⟨by decide, rfl, .inr rfl⟩ rfl rfl rfl rfl rfl (isSl_flat rfl h3) (by simp) (by omega) (by omega) (by omega) rfl rfl (fun k2 sp2 h1 h2 => ?_)
          (rw [Nat.zero_add] at h1 h2 ⊢)
          refine oA rfl rfl ?_
          refine oN ?_
          refine CW_seq ?_
          refine cR ?_
          refine oA rfl rfl ?_
          refine oN ?_
          refine CW_block ?_
          refine CW_loop (ι := Nat × Nat × List Int) (fun x => x.1 ≤ L.length ∧ (thO p L x.1).length ≤ x.2.1 ∧ x.2.1 * 3 ≤ (thO p L x.1).length * 3 + x.2.2.length) (fun x => ⟨[(0, .int p), (7, .slice 2 0 (thO p L x.1).length x.2.1), (8, .int ((thK p L x.1).length : Nat))], [(0, .ints 49 (L.flatten ++ sp)), (2, .ints 49 ((thO p L x.1).flatten ++ x.2.2))], 3⟩) (fun x => L.length - x.1) (0, k2, sp2) ?_ ?_ ?_
          · (rw [thO_zero]; exact ⟨Nat.zero_le _, h1, h2⟩)
          · refine View.mk' [] rfl rfl rfl ?_ ?_
            repeat' first | exact vFn | refine vFc rfl ?_ | exact vHn | refine vHc rfl ?_ | refine vFc (congrArg (fun z => some (V.int z)) ?_) ?_ | refine vHc (congrArg (fun z => some (Blk.ints _ z)) ?_) ?_ | refine vFc (congrArg (fun z => some (V.bool z)) ?_) ?_ | refine vFs rfl rfl ?_ ?_
            all_goals try dsimp only
            all_goals rw [thO_zero]
            all_goals rfl
          rintro ⟨i, kk, ss⟩ ⟨hi, hk, hsp⟩
          dsimp only at hi hk hsp ⊢
          have hlt := fun h : (thK p L i).length < (thO p L i).length => thO_lt hi h
          obtain ⟨hSO, h3O⟩ := setC_sub (K := thO p L i) h3 (thO_sub hi) hcd
          have hlO := (thO_sub (p := p) hi).length_le
          have hR := fun h : i < L.length => setC_sub (K := thR p L i) h3 (thR_sub h) hcd
          refine CW_seq ?_
          refine cR ?_
          iterate 2 refine oM rfl rfl ?_
          first | refine oQ (Q_len rfl rfl rfl rfl) rfl rfl ?_ | refine oQ (Q_len0 rfl rfl rfl rfl) rfl rfl ?_
          refine oQ (Q_bin rfl rfl rfl) rfl rfl ?_
          refine oN ?_
          first | refine cT rfl ?_ | refine cF rfl ?_ | refine CW_cond rfl (fun hc => ?_) (fun hc => ?_)
          all_goals try simp only [s1, s2, s3, s4, s5, s6, s7, s8, s9, s10, s11, s12] at hc
          all_goals try (exfalso; first | exact absurd trivial hc | (simp at hc; done) | (simp at hg; done); done)
          all_goals first
            | (
             refine CW_skip ?_)
            | (
             refine CW_exit ?_)
          all_goals first
            | with_reducible refine tR ?_
            | with_reducible refine tE ?_
            | (
             with_reducible refine tN ?_
             refine CW_block ?_
             refine cR ?_
             iterate 2 refine oM rfl rfl ?_
             (have hil := hlt (by omega))
             (have hR := hR hil)
             (have hw := thO_wo (p := p) hil)
             refine oCall (without_con (thO p L i) ss kk h3O (thK p L i).length hw.2 hk (by omega)) [(0, 2)] 2 rfl rfl (Fits.mk' (vHc rfl vHn) rfl rfl (by simp)) rfl rfl ?_
             rw [hw.1]
             rintro r H1 ⟨kw, spw, hkw, hsw, rfl, rfl⟩
             refine ⟨.slice 4 0 (thR p L i).length kw, [(2, .ints 49 ((thO p L i).flatten ++ ss)), (4, .ints 49 ((thR p L i).flatten ++ spw))], rfl, rfl, rfl, ?_⟩
             refine oA rfl rfl ?_
             refine oN ?_
             refine cR ?_
             iterate 2 refine oM rfl rfl ?_
             refine oQ (Q_call (l07Blocking_con p (thR p L i) spw kw hR.2 hR.1) [(0, 4)] rfl rfl (Fits.mk' (vHc rfl vHn) rfl rfl (by simp)) rfl rfl) rfl rfl ?_
             refine oN ?_
             first | refine cT rfl ?_ | refine cF rfl ?_ | refine CW_cond rfl (fun hc => ?_) (fun hc => ?_)
             all_goals try simp only [s1, s2, s3, s4, s5, s6, s7, s8, s9, s10, s11, s12] at hc
             all_goals try (exfalso; first | exact absurd trivial hc | (simp at hc; done) | (simp at hg; done); done)
             all_goals first
               | (
                refine CW_region ?_
                refine oM rfl rfl ?_
                refine oA rfl rfl ?_
                refine OW_nil ?_)
               | (
                refine CW_region ?_
                refine oM rfl rfl ?_
                first | refine oQ (Q_binu rfl rfl rfl (by omega)) rfl rfl ?_ | refine oQ (Q_bin rfl rfl rfl) rfl rfl ?_
                refine oA rfl rfl ?_
                refine OW_nil ?_)
             all_goals first | with_reducible refine bN ?_ | with_reducible refine bE ?_ | with_reducible refine bR ?_ | refine bX rfl ?_)
          all_goals first
            | with_reducible refine tR ?_
            | with_reducible refine tE ?_
            | (
             with_reducible refine tN ?_
             first
               | (
                refine ⟨(i + 1, kw, spw), ?_, ?_, View.mk' [(2, 4)] rfl rfl rfl ?_ ?_⟩
                · dsimp only
                  first
                    | (rw [thO_yes hc]; exact ⟨by omega, hkw, hsw⟩)
                    | (rw [thO_no (by omega) (by simpa using hc)]; exact ⟨by omega, hk, hsp⟩)
                · omega
                all_goals (repeat' first | exact vFn | refine vFc rfl ?_ | exact vHn | refine vHc rfl ?_ | refine vFc (congrArg (fun z => some (V.int z)) ?_) ?_ | refine vHc (congrArg (fun z => some (Blk.ints _ z)) ?_) ?_ | refine vFc (congrArg (fun z => some (V.bool z)) ?_) ?_ | refine vFs rfl rfl ?_ ?_)
                all_goals try dsimp only
                all_goals first
                  | (rw [thO_yes hc]; done)
                  | (rw [thK_yes hc]; done)
                  | (rw [thO_no (by omega) (by simpa using hc)]; done)
                  | (rw [thK_no (by simpa using hc)]; rfl)
                  | (rw [thK_no (by simpa using hc)]; omega))
               | (
                refine ⟨(i + 1, kk, ss), ?_, ?_, View.mk' [] rfl rfl rfl ?_ ?_⟩
                · dsimp only
                  first
                    | (rw [thO_yes hc]; exact ⟨by omega, hkw, hsw⟩)
                    | (rw [thO_no (by omega) (by simpa using hc)]; exact ⟨by omega, hk, hsp⟩)
                · omega
                all_goals (repeat' first | exact vFn | refine vFc rfl ?_ | exact vHn | refine vHc rfl ?_ | refine vFc (congrArg (fun z => some (V.int z)) ?_) ?_ | refine vHc (congrArg (fun z => some (Blk.ints _ z)) ?_) ?_ | refine vFc (congrArg (fun z => some (V.bool z)) ?_) ?_ | refine vFs rfl rfl ?_ ?_)
                all_goals try dsimp only
                all_goals first
                  | (rw [thO_yes hc]; done)
                  | (rw [thK_yes hc]; done)
                  | (rw [thO_no (by omega) (by simpa using hc)]; done)
                  | (rw [thK_no (by simpa using hc)]; rfl)
                  | (rw [thK_no (by simpa using hc)]; omega)))
          all_goals first | with_reducible refine bN ?_ | with_reducible refine bE ?_ | with_reducible refine bR ?_ | refine bX rfl ?_
          all_goals with_reducible refine tN ?_
          all_goals (
           refine cR ?_
           refine oM rfl rfl ?_
           iterate 2 refine oA rfl rfl ?_
           refine oN ?_
           refine CW_ret ?_)))
      all_goals (
       first
         | (exfalso; first | (simp at hg; done) | (simp at hc; done); done)
         | (have e : i = L.length := thO_ge (p := p) hi (by omega)
            subst e
            exact exitH (r0 := .tuple [.slice 1 0 (thO p L L.length).length kk, .int 0]) (H0 := [(0, .ints 49 (L.flatten ++ sp)), (1, .ints 49 ((thO p L L.length).flatten ++ ss))]) (.inr rfl) [(1, 2)] 2 (.cons (.tmp rfl rfl) (.cons (.tmp rfl rfl) .nil)) rfl rfl rfl (vHc rfl (vHc rfl vHn)) rfl rfl (listO_ok htc hk)))
  · have hne : ¬ thinC p L = 0 := by rw [thinC_a hcd]; exact hcd
    refine conW tab_ok [(0, .int p), (1, .slice 0 0 L.length k)] 1 [0] [0] Try.func39 rfl rfl rfl rfl rfl rfl rfl rfl rfl ?_
    refine cR ?_
    iterate 2 refine oA rfl rfl ?_
    refine oN ?_
    refine cR ?_
    iterate 2 refine oM rfl rfl ?_
    refine oQ (Q_call (l07Code_con p L sp k h3 hn9) [] rfl rfl (Fits.mk' (vHc rfl vHn) rfl rfl (by simp)) rfl rfl) rfl rfl ?_
    refine oA rfl rfl ?_
    refine oN ?_
    refine CW_seq ?_
    refine cR ?_
    refine oM rfl rfl ?_
    refine oQ (Q_bin rfl rfl rfl) rfl rfl ?_
    refine oM rfl rfl ?_
    all_goals first | refine oT rfl rfl ?_ | refine o1 rfl rfl rfl ?_ | refine o0 rfl rfl rfl ?_ | refine ogP1 rfl rfl rfl (fun hg => ?_) (fun hg => ?_) | refine ogP0 rfl rfl rfl (fun hg => ?_) (fun hg => ?_)
    all_goals try simp only [s1, s2, s3, s4, s5, s6, s7, s8, s9, s10, s11, s12] at hg
    all_goals first | (refine oM rfl rfl ?_) | skip
    all_goals first | refine oT rfl rfl ?_ | refine o1 rfl rfl rfl ?_ | refine o0 rfl rfl rfl ?_ | refine ogP1 rfl rfl rfl (fun hg => ?_) (fun hg => ?_) | refine ogP0 rfl rfl rfl (fun hg => ?_) (fun hg => ?_)
    all_goals try simp only [s1, s2, s3, s4, s5, s6, s7, s8, s9, s10, s11, s12] at hg
    all_goals first | (refine oM rfl rfl ?_) | skip
    all_goals first | refine oT rfl rfl ?_ | refine o1 rfl rfl rfl ?_ | refine o0 rfl rfl rfl ?_ | refine ogP1 rfl rfl rfl (fun hg => ?_) (fun hg => ?_) | refine ogP0 rfl rfl rfl (fun hg => ?_) (fun hg => ?_)
    all_goals try simp only [s1, s2, s3, s4, s5, s6, s7, s8, s9, s10, s11, s12] at hg
    all_goals first | ((exfalso; exact hcd hg)) | skip
    all_goals first | refine oT rfl rfl ?_ | refine o1 rfl rfl rfl ?_ | refine o0 rfl rfl rfl ?_ | refine ogP1 rfl rfl rfl (fun hg => ?_) (fun hg => ?_) | refine ogP0 rfl rfl rfl (fun hg => ?_) (fun hg => ?_)
    all_goals try simp only [s1, s2, s3, s4, s5, s6, s7, s8, s9, s10, s11, s12] at hg
    all_goals first | (refine oQ (Q_not rfl) rfl rfl ?_) | skip
    all_goals first | refine oQ (Q_pick_t rfl (by with_reducible rfl) rfl rfl) rfl rfl ?_ | refine oQ (Q_pick_f rfl (by with_reducible rfl) rfl rfl) rfl rfl ?_
    all_goals refine oN ?_
    all_goals (
     first | refine cT rfl ?_ | refine cF rfl ?_ | refine CW_cond rfl (fun hc => ?_) (fun hc => ?_)
     all_goals try simp only [s1, s2, s3, s4, s5, s6, s7, s8, s9, s10, s11, s12] at hc
     all_goals try (exfalso; first | exact absurd hcd hc | exact absurd hc hcd; done)
     all_goals first
       | (
        refine CW_skip ?_)
       | (
        refine CW_region ?_
        refine oA rfl rfl ?_
        refine OW_nil ?_))
    all_goals with_reducible refine tN ?_
    all_goals (
     refine CW_seq ?_
     refine cR ?_
     refine oM rfl rfl ?_
     refine oQ (Q_bin rfl rfl rfl) rfl rfl ?_
     refine oN ?_
     first | refine cT rfl ?_ | refine cF rfl ?_ | refine CW_cond rfl (fun hc => ?_) (fun hc => ?_)
     all_goals try simp only [s1, s2, s3, s4, s5, s6, s7, s8, s9, s10, s11, s12] at hc
     all_goals try (exfalso; first | exact absurd hcd hc | exact absurd hc hcd; done)
     all_goals first
       | (
        refine CW_skip ?_)
       | (
        refine cR ?_
        refine oM rfl rfl ?_
        iterate 2 refine oA rfl rfl ?_
        refine oN ?_
        refine CW_ret ?_)
     all_goals first
       | with_reducible refine tR ?_
       | with_reducible refine tE ?_
       | (
        with_reducible refine tN ?_
        refine cR ?_
        refine oBsl rfl rfl rfl rfl (.inr ⟨rfl, rfl, by decide⟩) rfl rfl rfl rfl rfl rfl ?_
        refine oM rfl rfl ?_
        (exfalso; first | exact hc hcd | exact hcd hc)
        refine oA rfl rfl ?_
        refine oN ?_
        refine CW_seq ?_
        refine cR ?_
        refine oA rfl rfl ?_
        refine oN ?_
        refine CW_block ?_
        skip
        · first | trivial | omega | (simp; done) | (simp; omega)
        · refine View.mk' [] rfl rfl rfl ?_ ?_
          repeat' first | exact vFn | refine vFc rfl ?_ | exact vHn | refine vHc rfl ?_ | refine vFc (congrArg (fun z => some (V.int z)) ?_) ?_ | refine vHc (congrArg (fun z => some (Blk.ints _ z)) ?_) ?_ | refine vFc (congrArg (fun z => some (V.bool z)) ?_) ?_ | refine vFs rfl rfl ?_ ?_
        intro i hi
        refine CW_seq ?_
        refine cR ?_
        iterate 2 refine oM rfl rfl ?_
        first | refine oQ (Q_len rfl rfl rfl rfl) rfl rfl ?_ | refine oQ (Q_len0 rfl rfl rfl rfl) rfl rfl ?_
        refine oQ (Q_bin rfl rfl rfl) rfl rfl ?_
        refine oN ?_
        first | refine cT rfl ?_ | refine cF rfl ?_ | refine CW_cond rfl (fun hc => ?_) (fun hc => ?_)
        all_goals try simp only [s1, s2, s3, s4, s5, s6, s7, s8, s9, s10, s11, s12] at hc
        all_goals try (exfalso; first | exact absurd hcd hc | exact absurd hc hcd; done)
        all_goals first
          | (
           refine CW_skip ?_)
          | (
           refine CW_exit ?_)
        all_goals first
          | with_reducible refine tR ?_
          | with_reducible refine tE ?_
          | (
           with_reducible refine tN ?_
           refine CW_block ?_
           refine cR ?_
           iterate 2 refine oM rfl rfl ?_
           fail "call of loop.example/g01310/spec.l07Without at slot 33"
           refine oA rfl rfl ?_
           refine oN ?_
           refine cR ?_
           iterate 2 refine oM rfl rfl ?_
           fail "call of loop.example/g01310/spec.l07Blocking at slot 36"
           refine oN ?_
           first | refine cT rfl ?_ | refine cF rfl ?_ | refine CW_cond rfl (fun hc => ?_) (fun hc => ?_)
           all_goals try simp only [s1, s2, s3, s4, s5, s6, s7, s8, s9, s10, s11, s12] at hc
           all_goals try (exfalso; first | exact absurd hcd hc | exact absurd hc hcd; done)
           all_goals first
             | (
              refine CW_region ?_
              refine oM rfl rfl ?_
              refine oA rfl rfl ?_
              refine OW_nil ?_)
             | (
              refine CW_region ?_
              refine oM rfl rfl ?_
              first | refine oQ (Q_binu rfl rfl rfl (by omega)) rfl rfl ?_ | refine oQ (Q_bin rfl rfl rfl) rfl rfl ?_
              refine oA rfl rfl ?_
              refine OW_nil ?_)
           all_goals first | with_reducible refine bN ?_ | with_reducible refine bE ?_ | with_reducible refine bR ?_ | refine bX rfl ?_)
        all_goals first
          | with_reducible refine tR ?_
          | with_reducible refine tE ?_
          | (
           with_reducible refine tN ?_
           fail "again 0")
        all_goals first | with_reducible refine bN ?_ | with_reducible refine bE ?_ | with_reducible refine bR ?_ | refine bX rfl ?_
        all_goals with_reducible refine tN ?_
        all_goals (
         refine cR ?_
         refine oM rfl rfl ?_
         iterate 2 refine oA rfl rfl ?_
         refine oN ?_
         refine CW_ret ?_)))
    all_goals (
     first | (exfalso; first | exact hc hcd | exact hcd hc | exact hcd hg; done) | exact exitH (r0 := .tuple [.nilsl, .int (thinC p L)]) (H0 := [(0, .ints 49 (L.flatten ++ sp))]) (.inr rfl) [] 1 (.cons (.tmp rfl rfl) (.cons (.tmp rfl rfl) .nil)) (by rw [thinC_a hcd]; rfl) rfl rfl (vHc rfl vHn) rfl rfl (listO_no hne))
theorem spec_ThinBlocking_M (p : Int) (M : List Int) (n k : Nat) (hM : n * 3 ≤ M.length) (hn : n ≤ 1000000000) : Con Try.prog [] 39 [.int p, .slice 0 0 n k] [(0, .ints 49 M)] (listO 49 [(0, .ints 49 M)] 1 (thinCM p M n) (thM p M n).flatten (thM p M n).length) := by
  have e := chunk_split hM
  have h := spec_ThinBlocking_con p (chunk M n) (M.drop (n * 3)) k (chunk_three hM) (by rw [chunk_length]; exact hn)
  rw [chunk_length, ← e] at h
  exact h
theorem impl_ThinBlocking_M (p : Int) (M : List Int) (n k : Nat) (hM : n * 3 ≤ M.length) (hn : n ≤ 1000000000) : Con Try.prog [] 40 [.int p, .slice 0 0 n k] [(0, .ints 49 M)] (listO 49 [(0, .ints 49 M)] 1 (thinCM p M n) (thM p M n).flatten (thM p M n).length) := by
  have e := chunk_split hM
  have h := impl_ThinBlocking_con p (chunk M n) (M.drop (n * 3)) k (chunk_three hM) (by rw [chunk_length]; exact hn)
  rw [chunk_length, ← e] at h
  exact h
end Go.Proofs.Ytmcmbpoebhjecaa
