/- The set of a list, both sides. Printed by gen_s5.py. -/
import Derived.Test.YtmcmbpoebhjecaaS4
namespace Go.Proofs.Ytmcmbpoebhjecaa
open Go.Shelf
set_option maxRecDepth 10000
set_option linter.unusedSimpArgs false
set_option linter.unusedVariables false
def pcV (p : Int) (L : List (List Int)) : Int := codeB p (L.all (pointB p))
def stoC (p : Int) (L : List (List Int)) : Int := if pcV p L = 0 then (if 60 < (srtV L).length then 3 else 0) else pcV p L
theorem stoC_a {p : Int} {L : List (List Int)} (h : ¬ pcV p L = 0) : stoC p L = pcV p L := if_neg h
theorem stoC_b {p : Int} {L : List (List Int)} (h : pcV p L = 0) (hb : 60 < (srtV L).length) : stoC p L = 3 := by rw [stoC, if_pos h, if_pos hb]
theorem stoC_c {p : Int} {L : List (List Int)} (h : pcV p L = 0) (hb : ¬ 60 < (srtV L).length) : stoC p L = 0 := by rw [stoC, if_pos h, if_neg hb]
theorem stoC_len {p : Int} {L : List (List Int)} (h : stoC p L = 0) : (srtV L).length ≤ 60 := by
  unfold stoC at h
  split at h
  · split at h
    · cases h
    · omega
  · contradiction
theorem stoC_nil (p : Int) : pcV p [] = stoC p [] := by
  unfold stoC
  split
  · rename_i h; rw [h]; rfl
  · rfl
def stoM (p : Int) (M : List Int) (n : Nat) : List (List Int) := srtV (chunk M n)
def stoCM (p : Int) (M : List Int) (n : Nat) : Int := stoC p (chunk M n)

theorem sortFunc_nil : Con Try.prog [] 107 [.nilsl, .func 108 [] []] [] (fun r H' => r = .tuple [] ∧ H' = []) := by
  refine ⟨⟨_, Try.func107, by kernel_rfl, by kernel_rfl⟩, fun ρ w hr hg => ?_⟩
  have hcon := AnyF.slices_SortFunc_none sortP none 0 (.func (.func 108) #[] #[]) w
  change Calls Try.prog 107 _ _ _ at hcon
  refine hcon.mono ?_
  rintro e w' ⟨rfl, rfl⟩
  exact ⟨.tuple [], [], ρ, ⟨rfl, rfl⟩, rfl, hr, ⟨fun _ _ => rfl, fun b kk hl => by simp [lkB] at hl, rfl, rfl, rfl, Nat.le_refl _, Nat.le_refl _, fun _ _ _ => rfl⟩⟩
attribute [local irreducible] CW OW QW QOp Con thenP inBlockP
theorem compact_nil  : ConQ Try.prog [] 109 [.nilsl] [] (.nilsl) := by
  refine conW tab_ok [(0, .nilsl)] 0 [] [] Try.func109 rfl rfl rfl rfl rfl rfl rfl rfl rfl ?_
  refine cR ?_
  refine oA rfl rfl ?_
  refine oN ?_
  refine CW_seq ?_
  refine cR ?_
  refine oM rfl rfl ?_
  first | refine oQ (Q_len rfl rfl rfl rfl) rfl rfl ?_ | refine oQ (Q_len0 rfl rfl rfl rfl) rfl rfl ?_
  refine oQ (Q_bin rfl rfl rfl) rfl rfl ?_
  refine oN ?_
  first | refine cT rfl ?_ | refine cF rfl ?_ | refine CW_cond rfl (fun hc => ?_) (fun hc => ?_)
  all_goals try simp only [s1, s2, s3, s4, s5, s6, s7, s8, s9, s10, s11, s12] at hc
  all_goals try (exfalso; first | exact absurd trivial hc | omega | (simp at hc; done); done)
  all_goals first
    | (
     refine CW_skip ?_)
    | (
     refine cR ?_
     refine oM rfl rfl ?_
     refine oA rfl rfl ?_
     refine oN ?_
     refine CW_ret ?_)
  all_goals first
    | with_reducible refine tR ?_
    | with_reducible refine tE ?_
    | (
     with_reducible refine tN ?_
     refine CW_seq ?_
     refine cR ?_
     refine oA rfl rfl ?_
     refine oN ?_
     refine CW_block ?_
     skip
     · first | trivial | omega | (simp; done) | (simp; omega)
     · refine View.mk' [] rfl rfl rfl ?_ ?_
       repeat' first | exact vFn | refine vFc rfl ?_ | exact vHn | refine vHc rfl ?_ | refine vFc (congrArg (fun z => some (V.int z)) ?_) ?_ | refine vHc (congrArg (fun z => some (Blk.ints _ z)) ?_) ?_ | refine vFc (congrArg (fun z => some (V.bool z)) ?_) ?_ | refine vFs rfl rfl ?_ ?_
     intro i hi
     refine CW_seq ?_
     refine cR ?_
     iterate 2 refine oM rfl rfl ?_
     first | refine oQ (Q_len rfl rfl rfl rfl) rfl rfl ?_ | refine oQ (Q_len0 rfl rfl rfl rfl) rfl rfl ?_
     refine oQ (Q_bin rfl rfl rfl) rfl rfl ?_
     refine oN ?_
     first | refine cT rfl ?_ | refine cF rfl ?_ | refine CW_cond rfl (fun hc => ?_) (fun hc => ?_)
     all_goals try simp only [s1, s2, s3, s4, s5, s6, s7, s8, s9, s10, s11, s12] at hc
     all_goals try (exfalso; first | exact absurd trivial hc | omega | (simp at hc; done); done)
     all_goals first
       | (
        refine CW_skip ?_)
       | (
        refine CW_exit ?_)
     all_goals first
       | with_reducible refine tR ?_
       | with_reducible refine tE ?_
       | (
        with_reducible refine tN ?_
        refine CW_seq ?_
        refine CW_block ?_
        refine CW_seq ?_
        refine CW_draw lateOk (by decide +kernel) ?_
        iterate 2 refine qM rfl rfl ?_
        first | refine qQ (Q_ixs0z 3 rfl rfl rfl rfl rfl rfl (by first | omega | (dsimp only; omega) | (simp; omega) | (simp; done))) rfl rfl ?_ | refine qQ (Q_ixsz 3 rfl rfl rfl rfl rfl rfl (by first | omega | (dsimp only; omega) | (simp; omega) | (simp; done))) rfl rfl ?_
        first | refine qQ (Lw rfl rfl rfl rfl) rfl rfl ?_ | refine qQ (La rfl rfl rfl rfl rfl) rfl rfl ?_
        iterate 2 refine qM rfl rfl ?_
        first | refine qQ (Q_binu rfl rfl rfl (by omega)) rfl rfl ?_ | refine qQ (Q_bin rfl rfl rfl) rfl rfl ?_
        first | refine qQ (Q_ixs0z 3 rfl rfl rfl rfl rfl rfl (by first | omega | (dsimp only; omega) | (simp; omega) | (simp; done))) rfl rfl ?_ | refine qQ (Q_ixsz 3 rfl rfl rfl rfl rfl rfl (by first | omega | (dsimp only; omega) | (simp; omega) | (simp; done))) rfl rfl ?_
        first | refine qQ (Lw rfl rfl rfl rfl) rfl rfl ?_ | refine qQ (La rfl rfl rfl rfl rfl) rfl rfl ?_
        refine qQ (Q_arrb rfl rfl rfl rfl rfl rfl rfl rfl rfl (by first | omega | (dsimp only; omega) | (simp; omega) | (simp; done)) (by first | omega | (dsimp only; omega) | (simp; omega) | (simp; done))) rfl rfl ?_
        refine QW_nil ?_
        all_goals with_reducible refine tN ?_
        all_goals (
         first | refine cT rfl ?_ | refine cF rfl ?_ | refine CW_cond rfl (fun hc => ?_) (fun hc => ?_)
         all_goals try simp only [s1, s2, s3, s4, s5, s6, s7, s8, s9, s10, s11, s12] at hc
         all_goals try (exfalso; first | exact absurd trivial hc | omega | (simp at hc; done); done)
         all_goals first
           | (
            refine CW_skip ?_)
           | (
            refine cR ?_
            iterate 2 refine oM rfl rfl ?_
            refine oQ (Q_slsL 3 rfl rfl rfl rfl rfl rfl (by first | omega | (dsimp only; omega) | (simp; omega) | (simp; done)) (by first | omega | (dsimp only; omega) | (simp; omega) | (simp; done))) rfl rfl ?_
            refine oA rfl rfl ?_
            refine oN ?_
            refine CW_seq ?_
            refine cR ?_
            refine oA rfl rfl ?_
            refine oN ?_
            refine CW_block ?_
            fail "loop 1 wants its states"
            · first | trivial | omega | (simp; done) | (simp; omega)
            · refine View.mk' [] rfl rfl rfl ?_ ?_
              repeat' first | exact vFn | refine vFc rfl ?_ | exact vHn | refine vHc rfl ?_ | refine vFc (congrArg (fun z => some (V.int z)) ?_) ?_ | refine vHc (congrArg (fun z => some (Blk.ints _ z)) ?_) ?_ | refine vFc (congrArg (fun z => some (V.bool z)) ?_) ?_ | refine vFs rfl rfl ?_ ?_
            intro i hi
            refine CW_seq ?_
            refine cR ?_
            iterate 2 refine oM rfl rfl ?_
            first | refine oQ (Q_len rfl rfl rfl rfl) rfl rfl ?_ | refine oQ (Q_len0 rfl rfl rfl rfl) rfl rfl ?_
            refine oQ (Q_bin rfl rfl rfl) rfl rfl ?_
            refine oN ?_
            first | refine cT rfl ?_ | refine cF rfl ?_ | refine CW_cond rfl (fun hc => ?_) (fun hc => ?_)
            all_goals try simp only [s1, s2, s3, s4, s5, s6, s7, s8, s9, s10, s11, s12] at hc
            all_goals try (exfalso; first | exact absurd trivial hc | omega | (simp at hc; done); done)
            all_goals first
              | (
               refine CW_skip ?_)
              | (
               refine CW_exit ?_)
            all_goals first
              | with_reducible refine tR ?_
              | with_reducible refine tE ?_
              | (
               with_reducible refine tN ?_
               refine CW_seq ?_
               refine CW_block ?_
               refine CW_seq ?_
               refine CW_draw lateOk (by decide +kernel) ?_
               iterate 2 refine qM rfl rfl ?_
               first | refine qQ (Q_ixs0z 3 rfl rfl rfl rfl rfl rfl (by first | omega | (dsimp only; omega) | (simp; omega) | (simp; done))) rfl rfl ?_ | refine qQ (Q_ixsz 3 rfl rfl rfl rfl rfl rfl (by first | omega | (dsimp only; omega) | (simp; omega) | (simp; done))) rfl rfl ?_
               first | refine qQ (Lw rfl rfl rfl rfl) rfl rfl ?_ | refine qQ (La rfl rfl rfl rfl rfl) rfl rfl ?_
               iterate 2 refine qM rfl rfl ?_
               first | refine qQ (Q_binu rfl rfl rfl (by omega)) rfl rfl ?_ | refine qQ (Q_bin rfl rfl rfl) rfl rfl ?_
               first | refine qQ (Q_ixs0z 3 rfl rfl rfl rfl rfl rfl (by first | omega | (dsimp only; omega) | (simp; omega) | (simp; done))) rfl rfl ?_ | refine qQ (Q_ixsz 3 rfl rfl rfl rfl rfl rfl (by first | omega | (dsimp only; omega) | (simp; omega) | (simp; done))) rfl rfl ?_
               first | refine qQ (Lw rfl rfl rfl rfl) rfl rfl ?_ | refine qQ (La rfl rfl rfl rfl rfl) rfl rfl ?_
               refine qQ (Q_arrb rfl rfl rfl rfl rfl rfl rfl rfl rfl (by first | omega | (dsimp only; omega) | (simp; omega) | (simp; done)) (by first | omega | (dsimp only; omega) | (simp; omega) | (simp; done))) rfl rfl ?_
               refine QW_nil ?_
               all_goals with_reducible refine tN ?_
               all_goals (
                first | refine cT rfl ?_ | refine cF rfl ?_ | refine CW_cond rfl (fun hc => ?_) (fun hc => ?_)
                all_goals try simp only [s1, s2, s3, s4, s5, s6, s7, s8, s9, s10, s11, s12] at hc
                all_goals try (exfalso; first | exact absurd trivial hc | omega | (simp at hc; done); done)
                all_goals first
                  | (
                   refine CW_skip ?_)
                  | (
                   refine cR ?_
                   iterate 4 refine oM rfl rfl ?_
                   first | refine oQ (Q_ixs0z 3 rfl rfl rfl rfl rfl rfl (by first | omega | (dsimp only; omega) | (simp; omega) | (simp; done))) rfl rfl ?_ | refine oQ (Q_ixsz 3 rfl rfl rfl rfl rfl rfl (by first | omega | (dsimp only; omega) | (simp; omega) | (simp; done))) rfl rfl ?_
                   first | refine oQ (Lw rfl rfl rfl rfl) rfl rfl ?_ | refine oQ (La rfl rfl rfl rfl rfl) rfl rfl ?_
                   first | refine oQ (Q_ixs0z 3 rfl rfl rfl rfl rfl rfl (by first | omega | (dsimp only; omega) | (simp; omega) | (simp; done))) rfl rfl ?_ | refine oQ (Q_ixsz 3 rfl rfl rfl rfl rfl rfl (by first | omega | (dsimp only; omega) | (simp; omega) | (simp; done))) rfl rfl ?_
                   first | refine oSw rfl rfl rfl rfl ?_ | refine oSa rfl rfl rfl rfl ?_
                   refine oN ?_
                   refine CW_region ?_
                   refine oM rfl rfl ?_
                   first | refine oQ (Q_binu rfl rfl rfl (by omega)) rfl rfl ?_ | refine oQ (Q_bin rfl rfl rfl) rfl rfl ?_
                   refine oA rfl rfl ?_
                   refine OW_nil ?_))
               all_goals first | with_reducible refine bN ?_ | with_reducible refine bE ?_ | with_reducible refine bR ?_ | refine bX rfl ?_
               all_goals with_reducible refine tN ?_
               all_goals (
                refine CW_region ?_
                refine oM rfl rfl ?_
                first | refine oQ (Q_binu rfl rfl rfl (by omega)) rfl rfl ?_ | refine oQ (Q_bin rfl rfl rfl) rfl rfl ?_
                refine oA rfl rfl ?_
                refine OW_nil ?_))
            all_goals first
              | with_reducible refine tR ?_
              | with_reducible refine tE ?_
              | (
               with_reducible refine tN ?_
               fail "again 1")
            all_goals first | with_reducible refine bN ?_ | with_reducible refine bE ?_ | with_reducible refine bR ?_ | refine bX rfl ?_
            all_goals with_reducible refine tN ?_
            all_goals (
             refine cR ?_
             iterate 2 refine oM rfl rfl ?_
             refine oQ (Q_slsL 3 rfl rfl rfl rfl rfl rfl (by first | omega | (dsimp only; omega) | (simp; omega) | (simp; done)) (by first | omega | (dsimp only; omega) | (simp; omega) | (simp; done))) rfl rfl ?_
             fail "builtin clear at slot None"
             refine oN ?_
             refine cR ?_
             iterate 2 refine oM rfl rfl ?_
             refine oQ (Q_slsH rfl rfl rfl rfl rfl (by first | omega | (dsimp only; omega) | (simp; omega) | (simp; done))) rfl rfl ?_
             refine oA rfl rfl ?_
             refine oN ?_
             refine CW_ret ?_)))
        all_goals first | with_reducible refine bN ?_ | with_reducible refine bE ?_ | with_reducible refine bR ?_ | refine bX rfl ?_
        all_goals first
          | with_reducible refine tR ?_
          | with_reducible refine tE ?_
          | (
           with_reducible refine tN ?_
           refine CW_region ?_
           refine oM rfl rfl ?_
           first | refine oQ (Q_binu rfl rfl rfl (by omega)) rfl rfl ?_ | refine oQ (Q_bin rfl rfl rfl) rfl rfl ?_
           refine oA rfl rfl ?_
           refine OW_nil ?_))
     all_goals first
       | with_reducible refine tR ?_
       | with_reducible refine tE ?_
       | (
        with_reducible refine tN ?_
        fail "again 0")
     all_goals first | with_reducible refine bN ?_ | with_reducible refine bE ?_ | with_reducible refine bR ?_ | refine bX rfl ?_
     all_goals first
       | with_reducible refine tR ?_
       | with_reducible refine tE ?_
       | (
        with_reducible refine tN ?_
        refine cR ?_
        refine oM rfl rfl ?_
        refine oA rfl rfl ?_
        refine oN ?_
        refine CW_ret ?_))
  all_goals (
   ((refine exitQ (.inr rfl) 0 (.cons (.tmp rfl rfl) .nil) ?_ rfl vHn rfl rfl); rfl))
theorem sorted_nil  : ConQ Try.prog [] 79 [.nilsl] [] (.nilsl) := by
  refine conW tab_ok [(0, .nilsl)] 0 [] [] Try.func79 rfl rfl rfl rfl rfl rfl rfl rfl rfl ?_
  refine cR ?_
  refine oA rfl rfl ?_
  refine oN ?_
  refine cR ?_
  refine oM rfl rfl ?_
  refine oQ (Q_call0 (clone_nil) rfl rfl rfl) rfl rfl ?_
  refine oA rfl rfl ?_
  refine oN ?_
  refine cR ?_
  refine oM rfl rfl ?_
  refine oCall (sortFunc_nil) [] 0 rfl rfl (Fits.mk' vHn rfl rfl (by simp)) rfl rfl ?_
  rintro r H1 ⟨rfl, rfl⟩
  refine ⟨.tuple [], [], rfl, rfl, rfl, ?_⟩
  refine oN ?_
  refine cR ?_
  refine oM rfl rfl ?_
  refine oQ (Q_call0 (compact_nil) rfl rfl rfl) rfl rfl ?_
  refine oA rfl rfl ?_
  refine oN ?_
  refine CW_ret ?_
  all_goals (
   ((refine exitQ (.inr rfl) 0 (.cons (.tmp rfl rfl) .nil) ?_ rfl vHn rfl rfl); rfl))
theorem impl_SetOf_con (p : Int) (L : List (List Int)) (sp : List Int) (k : Nat) (h3 : ∀ x ∈ L, x.length = 3) (hn9 : L.length ≤ 1000000) : Con Try.prog [] 46 [.int p, .slice 0 0 L.length k] [(0, .ints 49 (L.flatten ++ sp))] (listO 49 [(0, .ints 49 (L.flatten ++ sp))] 1 (stoC p L) (srtV L).flatten (srtV L).length) := by
  have hf3 := flat3 h3
  have e1 := allF_flat (g := pointB p) (sp := sp) h3
  have hle : L.length * 3 ≤ (L.flatten ++ sp).length := by rw [List.length_append, hf3]; omega
  have hq1 := pointsCode_con p (L.flatten ++ sp) L.length k hle (by omega)
  rw [e1] at hq1
  have hsl := srt_len L
  by_cases hcd : pcV p L = 0
  · by_cases h60 : 60 < (srtV L).length
    · have hst := stoC_b hcd h60
      refine conW tab_ok [(0, .int p), (1, .slice 0 0 L.length k)] 1 [0] [0] Try.func46 rfl rfl rfl rfl rfl rfl rfl rfl rfl ?_
      refine cR ?_
      iterate 2 refine oA rfl rfl ?_
      refine oN ?_
      refine CW_seq ?_
      refine cR ?_
      iterate 2 refine oM rfl rfl ?_
      refine oQ (Q_call (hq1) [] rfl rfl (Fits.mk' (vHc rfl vHn) rfl rfl (by simp)) rfl rfl) rfl rfl ?_
      refine oA rfl rfl ?_
      refine oN ?_
      refine cR ?_
      refine oM rfl rfl ?_
      refine oQ (Q_bin rfl rfl rfl) rfl rfl ?_
      refine oN ?_
      first | refine cT rfl ?_ | refine cF rfl ?_ | refine CW_cond rfl (fun hc => ?_) (fun hc => ?_)
      all_goals try simp only [s1, s2, s3, s4, s5, s6, s7, s8, s9, s10, s11, s12] at hc
      all_goals try (exfalso; first | exact absurd hcd hc | exact absurd hc hcd | omega; done)
      all_goals first
        | (
         refine CW_skip ?_)
        | (
         refine cR ?_
         refine oM rfl rfl ?_
         iterate 2 refine oA rfl rfl ?_
         refine oN ?_
         refine CW_ret ?_)
      all_goals first
        | with_reducible refine tR ?_
        | with_reducible refine tE ?_
        | (
         with_reducible refine tN ?_
         refine cR ?_
         refine oM rfl rfl ?_
         refine oCall (sorted_con L sp k h3 hn9) [] 2 rfl rfl (Fits.mk' (vHc rfl vHn) rfl rfl (by simp)) rfl rfl ?_
         rintro r H1 ⟨k9, sp9, hk9, hs9, rfl, rfl⟩
         refine ⟨.slice 2 0 (srtV L).length k9, [(0, .ints 49 (L.flatten ++ sp)), (2, .ints 49 ((srtV L).flatten ++ sp9))], rfl, rfl, rfl, ?_⟩
         refine oA rfl rfl ?_
         refine oN ?_
         refine CW_seq ?_
         refine cR ?_
         refine oM rfl rfl ?_
         first | refine oQ (Q_len rfl rfl rfl rfl) rfl rfl ?_ | refine oQ (Q_len0 rfl rfl rfl rfl) rfl rfl ?_
         refine oQ (Q_bin rfl rfl rfl) rfl rfl ?_
         refine oN ?_
         first | refine cT rfl ?_ | refine cF rfl ?_ | refine CW_cond rfl (fun hc => ?_) (fun hc => ?_)
         all_goals try simp only [s1, s2, s3, s4, s5, s6, s7, s8, s9, s10, s11, s12] at hc
         all_goals try (exfalso; first | exact absurd hcd hc | exact absurd hc hcd | omega; done)
         all_goals first
           | (
            refine CW_skip ?_)
           | (
            refine cR ?_
            iterate 2 refine oA rfl rfl ?_
            refine oN ?_
            refine CW_ret ?_)
         all_goals first
           | with_reducible refine tR ?_
           | with_reducible refine tE ?_
           | (
            with_reducible refine tN ?_
            refine cR ?_
            refine oM rfl rfl ?_
            iterate 2 refine oA rfl rfl ?_
            refine oN ?_
            refine CW_ret ?_))
      all_goals (
       first | (exfalso; first | exact hc hcd | exact hcd hc; done) | exact exitH (r0 := .tuple [.nilsl, .int 3]) (H0 := [(0, .ints 49 (L.flatten ++ sp))]) (.inr rfl) [] 1 (.cons (.tmp rfl rfl) (.cons (.tmp rfl rfl) .nil)) rfl rfl rfl (vHc rfl vHn) rfl rfl (by have := listO_no (T := 49) (H0 := [(0, .ints 49 (L.flatten ++ sp))]) (b := 1) (code := stoC p L) (R := (srtV L).flatten) (n := (srtV L).length) (by rw [hst]; decide); rwa [hst] at this ⊢))
    · have hst := stoC_c hcd h60
      refine conW tab_ok [(0, .int p), (1, .slice 0 0 L.length k)] 1 [0] [0] Try.func46 rfl rfl rfl rfl rfl rfl rfl rfl rfl ?_
      refine cR ?_
      iterate 2 refine oA rfl rfl ?_
      refine oN ?_
      refine CW_seq ?_
      refine cR ?_
      iterate 2 refine oM rfl rfl ?_
      refine oQ (Q_call (hq1) [] rfl rfl (Fits.mk' (vHc rfl vHn) rfl rfl (by simp)) rfl rfl) rfl rfl ?_
      refine oA rfl rfl ?_
      refine oN ?_
      refine cR ?_
      refine oM rfl rfl ?_
      refine oQ (Q_bin rfl rfl rfl) rfl rfl ?_
      refine oN ?_
      first | refine cT rfl ?_ | refine cF rfl ?_ | refine CW_cond rfl (fun hc => ?_) (fun hc => ?_)
      all_goals try simp only [s1, s2, s3, s4, s5, s6, s7, s8, s9, s10, s11, s12] at hc
      all_goals try (exfalso; first | exact absurd hcd hc | exact absurd hc hcd | omega; done)
      all_goals first
        | (
         refine CW_skip ?_)
        | (
         refine cR ?_
         refine oM rfl rfl ?_
         iterate 2 refine oA rfl rfl ?_
         refine oN ?_
         refine CW_ret ?_)
      all_goals first
        | with_reducible refine tR ?_
        | with_reducible refine tE ?_
        | (
         with_reducible refine tN ?_
         refine cR ?_
         refine oM rfl rfl ?_
         refine oCall (sorted_con L sp k h3 hn9) [] 2 rfl rfl (Fits.mk' (vHc rfl vHn) rfl rfl (by simp)) rfl rfl ?_
         rintro r H1 ⟨k9, sp9, hk9, hs9, rfl, rfl⟩
         refine ⟨.slice 2 0 (srtV L).length k9, [(0, .ints 49 (L.flatten ++ sp)), (2, .ints 49 ((srtV L).flatten ++ sp9))], rfl, rfl, rfl, ?_⟩
         refine oA rfl rfl ?_
         refine oN ?_
         refine CW_seq ?_
         refine cR ?_
         refine oM rfl rfl ?_
         first | refine oQ (Q_len rfl rfl rfl rfl) rfl rfl ?_ | refine oQ (Q_len0 rfl rfl rfl rfl) rfl rfl ?_
         refine oQ (Q_bin rfl rfl rfl) rfl rfl ?_
         refine oN ?_
         first | refine cT rfl ?_ | refine cF rfl ?_ | refine CW_cond rfl (fun hc => ?_) (fun hc => ?_)
         all_goals try simp only [s1, s2, s3, s4, s5, s6, s7, s8, s9, s10, s11, s12] at hc
         all_goals try (exfalso; first | exact absurd hcd hc | exact absurd hc hcd | omega; done)
         all_goals first
           | (
            refine CW_skip ?_)
           | (
            refine cR ?_
            iterate 2 refine oA rfl rfl ?_
            refine oN ?_
            refine CW_ret ?_)
         all_goals first
           | with_reducible refine tR ?_
           | with_reducible refine tE ?_
           | (
            with_reducible refine tN ?_
            refine cR ?_
            refine oM rfl rfl ?_
            iterate 2 refine oA rfl rfl ?_
            refine oN ?_
            refine CW_ret ?_))
      all_goals (
       first | (exfalso; first | exact hc hcd | exact hcd hc; done) | exact exitH (r0 := .tuple [.slice 1 0 (srtV L).length k9, .int 0]) (H0 := [(0, .ints 49 (L.flatten ++ sp)), (1, .ints 49 ((srtV L).flatten ++ sp9))]) (.inr rfl) [(1, 2)] 2 (.cons (.tmp rfl rfl) (.cons (.tmp rfl rfl) .nil)) rfl rfl rfl (vHc rfl (vHc rfl vHn)) rfl rfl (listO_ok hst hk9))
  · have hst := stoC_a hcd
    refine conW tab_ok [(0, .int p), (1, .slice 0 0 L.length k)] 1 [0] [0] Try.func46 rfl rfl rfl rfl rfl rfl rfl rfl rfl ?_
    refine cR ?_
    iterate 2 refine oA rfl rfl ?_
    refine oN ?_
    refine CW_seq ?_
    refine cR ?_
    iterate 2 refine oM rfl rfl ?_
    refine oQ (Q_call (hq1) [] rfl rfl (Fits.mk' (vHc rfl vHn) rfl rfl (by simp)) rfl rfl) rfl rfl ?_
    refine oA rfl rfl ?_
    refine oN ?_
    refine cR ?_
    refine oM rfl rfl ?_
    refine oQ (Q_bin rfl rfl rfl) rfl rfl ?_
    refine oN ?_
    first | refine cT rfl ?_ | refine cF rfl ?_ | refine CW_cond rfl (fun hc => ?_) (fun hc => ?_)
    all_goals try simp only [s1, s2, s3, s4, s5, s6, s7, s8, s9, s10, s11, s12] at hc
    all_goals try (exfalso; first | exact absurd hcd hc | exact absurd hc hcd; done)
    all_goals first
      | (
       refine CW_skip ?_)
      | (
       refine cR ?_
       refine oM rfl rfl ?_
       iterate 2 refine oA rfl rfl ?_
       refine oN ?_
       refine CW_ret ?_)
    all_goals first
      | with_reducible refine tR ?_
      | with_reducible refine tE ?_
      | (
       with_reducible refine tN ?_
       refine cR ?_
       refine oM rfl rfl ?_
       (exfalso; first | exact hc hcd | exact hcd hc)
       refine oA rfl rfl ?_
       refine oN ?_
       refine CW_seq ?_
       refine cR ?_
       refine oM rfl rfl ?_
       first | refine oQ (Q_len rfl rfl rfl rfl) rfl rfl ?_ | refine oQ (Q_len0 rfl rfl rfl rfl) rfl rfl ?_
       refine oQ (Q_bin rfl rfl rfl) rfl rfl ?_
       refine oN ?_
       first | refine cT rfl ?_ | refine cF rfl ?_ | refine CW_cond rfl (fun hc => ?_) (fun hc => ?_)
       all_goals try simp only [s1, s2, s3, s4, s5, s6, s7, s8, s9, s10, s11, s12] at hc
       all_goals try (exfalso; first | exact absurd hcd hc | exact absurd hc hcd; done)
       all_goals first
         | (
          refine CW_skip ?_)
         | (
          refine cR ?_
          iterate 2 refine oA rfl rfl ?_
          refine oN ?_
          refine CW_ret ?_)
       all_goals first
         | with_reducible refine tR ?_
         | with_reducible refine tE ?_
         | (
          with_reducible refine tN ?_
          refine cR ?_
          refine oM rfl rfl ?_
          iterate 2 refine oA rfl rfl ?_
          refine oN ?_
          refine CW_ret ?_))
    all_goals (
     first | (exfalso; first | exact hc hcd | exact hcd hc; done) | exact exitH (r0 := .tuple [.nilsl, .int (pcV p L)]) (H0 := [(0, .ints 49 (L.flatten ++ sp))]) (.inr rfl) [] 1 (.cons (.tmp rfl rfl) (.cons (.tmp rfl rfl) .nil)) rfl rfl rfl (vHc rfl vHn) rfl rfl (by have := listO_no (T := 49) (H0 := [(0, .ints 49 (L.flatten ++ sp))]) (b := 1) (code := stoC p L) (R := (srtV L).flatten) (n := (srtV L).length) (by rw [hst]; exact hcd); rwa [hst] at this ⊢))
theorem impl_SetOf_nil0 (p : Int) : ConQ Try.prog [] 46 [.int p, .nilsl] [] (.tuple [.nilsl, .int (pcV p [])]) := by
  have hq1 := pointsCode_nil p
  by_cases hcd : pcV p [] = 0
  · skip
    refine conW tab_ok [(0, .int p), (1, .nilsl)] 0 [] [] Try.func46 rfl rfl rfl rfl rfl rfl rfl rfl rfl ?_
    refine cR ?_
    iterate 2 refine oA rfl rfl ?_
    refine oN ?_
    refine CW_seq ?_
    refine cR ?_
    iterate 2 refine oM rfl rfl ?_
    refine oQ (Q_call0 (hq1) rfl rfl rfl) rfl rfl ?_
    refine oA rfl rfl ?_
    refine oN ?_
    refine cR ?_
    refine oM rfl rfl ?_
    refine oQ (Q_bin rfl rfl rfl) rfl rfl ?_
    refine oN ?_
    first | refine cT rfl ?_ | refine cF rfl ?_ | refine CW_cond rfl (fun hc => ?_) (fun hc => ?_)
    all_goals try simp only [s1, s2, s3, s4, s5, s6, s7, s8, s9, s10, s11, s12] at hc
    all_goals try (exfalso; first | exact absurd hcd hc | exact absurd hc hcd | omega | (simp at hc; done); done)
    all_goals first
      | (
       refine CW_skip ?_)
      | (
       refine cR ?_
       refine oM rfl rfl ?_
       iterate 2 refine oA rfl rfl ?_
       refine oN ?_
       refine CW_ret ?_)
    all_goals first
      | with_reducible refine tR ?_
      | with_reducible refine tE ?_
      | (
       with_reducible refine tN ?_
       refine cR ?_
       refine oM rfl rfl ?_
       refine oQ (Q_call0 (sorted_nil) rfl rfl rfl) rfl rfl ?_
       refine oA rfl rfl ?_
       refine oN ?_
       refine CW_seq ?_
       refine cR ?_
       refine oM rfl rfl ?_
       first | refine oQ (Q_len rfl rfl rfl rfl) rfl rfl ?_ | refine oQ (Q_len0 rfl rfl rfl rfl) rfl rfl ?_
       refine oQ (Q_bin rfl rfl rfl) rfl rfl ?_
       refine oN ?_
       first | refine cT rfl ?_ | refine cF rfl ?_ | refine CW_cond rfl (fun hc => ?_) (fun hc => ?_)
       all_goals try simp only [s1, s2, s3, s4, s5, s6, s7, s8, s9, s10, s11, s12] at hc
       all_goals try (exfalso; first | exact absurd hcd hc | exact absurd hc hcd | omega | (simp at hc; done); done)
       all_goals first
         | (
          refine CW_skip ?_)
         | (
          refine cR ?_
          iterate 2 refine oA rfl rfl ?_
          refine oN ?_
          refine CW_ret ?_)
       all_goals first
         | with_reducible refine tR ?_
         | with_reducible refine tE ?_
         | (
          with_reducible refine tN ?_
          refine cR ?_
          refine oM rfl rfl ?_
          iterate 2 refine oA rfl rfl ?_
          refine oN ?_
          refine CW_ret ?_))
    all_goals (
     first | (exfalso; first | exact hc hcd | exact hcd hc; done) | ((refine exitQ (.inr rfl) 0 (.cons (.tmp rfl rfl) (.cons (.tmp rfl rfl) .nil)) ?_ rfl vHn rfl rfl); rw [hcd]; rfl))
  · skip
    refine conW tab_ok [(0, .int p), (1, .nilsl)] 0 [] [] Try.func46 rfl rfl rfl rfl rfl rfl rfl rfl rfl ?_
    refine cR ?_
    iterate 2 refine oA rfl rfl ?_
    refine oN ?_
    refine CW_seq ?_
    refine cR ?_
    iterate 2 refine oM rfl rfl ?_
    refine oQ (Q_call0 (hq1) rfl rfl rfl) rfl rfl ?_
    refine oA rfl rfl ?_
    refine oN ?_
    refine cR ?_
    refine oM rfl rfl ?_
    refine oQ (Q_bin rfl rfl rfl) rfl rfl ?_
    refine oN ?_
    first | refine cT rfl ?_ | refine cF rfl ?_ | refine CW_cond rfl (fun hc => ?_) (fun hc => ?_)
    all_goals try simp only [s1, s2, s3, s4, s5, s6, s7, s8, s9, s10, s11, s12] at hc
    all_goals try (exfalso; first | exact absurd hcd hc | exact absurd hc hcd | omega; done)
    all_goals first
      | (
       refine CW_skip ?_)
      | (
       refine cR ?_
       refine oM rfl rfl ?_
       iterate 2 refine oA rfl rfl ?_
       refine oN ?_
       refine CW_ret ?_)
    all_goals first
      | with_reducible refine tR ?_
      | with_reducible refine tE ?_
      | (
       with_reducible refine tN ?_
       refine cR ?_
       refine oM rfl rfl ?_
       (exfalso; first | exact hc hcd | exact hcd hc)
       refine oA rfl rfl ?_
       refine oN ?_
       refine CW_seq ?_
       refine cR ?_
       refine oM rfl rfl ?_
       first | refine oQ (Q_len rfl rfl rfl rfl) rfl rfl ?_ | refine oQ (Q_len0 rfl rfl rfl rfl) rfl rfl ?_
       refine oQ (Q_bin rfl rfl rfl) rfl rfl ?_
       refine oN ?_
       first | refine cT rfl ?_ | refine cF rfl ?_ | refine CW_cond rfl (fun hc => ?_) (fun hc => ?_)
       all_goals try simp only [s1, s2, s3, s4, s5, s6, s7, s8, s9, s10, s11, s12] at hc
       all_goals try (exfalso; first | exact absurd hcd hc | exact absurd hc hcd | omega; done)
       all_goals first
         | (
          refine CW_skip ?_)
         | (
          refine cR ?_
          iterate 2 refine oA rfl rfl ?_
          refine oN ?_
          refine CW_ret ?_)
       all_goals first
         | with_reducible refine tR ?_
         | with_reducible refine tE ?_
         | (
          with_reducible refine tN ?_
          refine cR ?_
          refine oM rfl rfl ?_
          iterate 2 refine oA rfl rfl ?_
          refine oN ?_
          refine CW_ret ?_))
    all_goals (
     first | (exfalso; first | exact hc hcd | exact hcd hc; done) | ((refine exitQ (.inr rfl) 0 (.cons (.tmp rfl rfl) (.cons (.tmp rfl rfl) .nil)) ?_ rfl vHn rfl rfl); rfl))
theorem impl_SetOf_nil (p : Int) : ConQ Try.prog [] 46 [.int p, .nilsl] [] (.tuple [.nilsl, .int (stoC p [])]) := by
  have h := impl_SetOf_nil0 p
  rwa [stoC_nil] at h
theorem spec_SetOf_con (p : Int) (L : List (List Int)) (sp : List Int) (k : Nat) (h3 : ∀ x ∈ L, x.length = 3) (hn9 : L.length ≤ 1000000) : Con Try.prog [] 45 [.int p, .slice 0 0 L.length k] [(0, .ints 49 (L.flatten ++ sp))] (listO 49 [(0, .ints 49 (L.flatten ++ sp))] 1 (stoC p L) (srtV L).flatten (srtV L).length) := by
  have hf3 := flat3 h3
  have e1 := allF_flat (g := pointB p) (sp := sp) h3
  have hle : L.length * 3 ≤ (L.flatten ++ sp).length := by rw [List.length_append, hf3]; omega
  have hq1 := l01Code_con p 49 (L.flatten ++ sp) L.length k hle (by omega)
  rw [e1] at hq1
  have hsl := srt_len L
  by_cases hcd : pcV p L = 0
  · by_cases h60 : 60 < (srtV L).length
    · have hst := stoC_b hcd h60
      refine conW tab_ok [(0, .int p), (1, .slice 0 0 L.length k)] 1 [0] [0] Try.func45 rfl rfl rfl rfl rfl rfl rfl rfl rfl ?_
      refine cR ?_
      iterate 2 refine oA rfl rfl ?_
      refine oN ?_
      refine CW_seq ?_
      refine cR ?_
      iterate 2 refine oM rfl rfl ?_
      refine oQ (Q_call (hq1) [] rfl rfl (Fits.mk' (vHc rfl vHn) rfl rfl (by simp)) rfl rfl) rfl rfl ?_
      refine oA rfl rfl ?_
      refine oN ?_
      refine cR ?_
      refine oM rfl rfl ?_
      refine oQ (Q_bin rfl rfl rfl) rfl rfl ?_
      refine oN ?_
      first | refine cT rfl ?_ | refine cF rfl ?_ | refine CW_cond rfl (fun hc => ?_) (fun hc => ?_)
      all_goals try simp only [s1, s2, s3, s4, s5, s6, s7, s8, s9, s10, s11, s12] at hc
      all_goals try (exfalso; first | exact absurd hcd hc | exact absurd hc hcd; done)
      all_goals first
        | (
         refine CW_skip ?_)
        | (
         refine cR ?_
         refine oM rfl rfl ?_
         iterate 2 refine oA rfl rfl ?_
         refine oN ?_
         refine CW_ret ?_)
      all_goals first
        | with_reducible refine tR ?_
        | with_reducible refine tE ?_
        | (
         with_reducible refine tN ?_
         refine cR ?_
         refine oBsl rfl rfl rfl rfl (.inr ⟨rfl, rfl, by decide⟩) rfl rfl rfl rfl rfl rfl ?_
         refine oA rfl rfl ?_
         refine oN ?_
         refine CW_seq ?_
         refine cR ?_
         refine oA rfl rfl ?_
         refine oN ?_
         refine CW_block ?_
         refine CW_loop (ι := Nat × Nat × List Int) (fun x => x.1 ≤ L.length ∧ (srtV (L.take x.1)).length ≤ x.2.1 ∧ x.2.1 * 3 ≤ (srtV (L.take x.1)).length * 3 + x.2.2.length) (fun x => ⟨[(1, .slice 0 0 L.length k), (7, .slice 1 0 (srtV (L.take x.1)).length x.2.1), (8, .int (x.1 : Nat))], [(0, .ints 49 (L.flatten ++ sp)), (1, .ints 49 ((srtV (L.take x.1)).flatten ++ x.2.2))], 2⟩) (fun x => L.length - x.1) (0, 0, []) ?_ ?_ ?_
         · exact ⟨Nat.zero_le _, Nat.le_refl _, Nat.le_refl _⟩
         · refine View.mk' [] rfl rfl rfl ?_ ?_
           repeat' first | exact vFn | refine vFc rfl ?_ | exact vHn | refine vHc rfl ?_ | refine vFc (congrArg (fun z => some (V.int z)) ?_) ?_ | refine vHc (congrArg (fun z => some (Blk.ints _ z)) ?_) ?_ | refine vFc (congrArg (fun z => some (V.bool z)) ?_) ?_ | refine vFs rfl rfl ?_ ?_
         rintro ⟨i, kk, ss⟩ ⟨hi, hk, hsp⟩
         dsimp only at hi hk hsp ⊢
         have hT3 : T3 (L.take i) := fun x hx => h3 x (List.mem_of_mem_take hx)
         have hS3 := srt_three hT3
         have hSl := srt_len (L.take i)
         have hTl : (L.take i).length ≤ L.length := by rw [List.length_take]; omega
         have hsn := fun h : i < L.length => srt_snoc h
         have h3i := fun h : i < L.length => h3 _ (getD_mem h)
         refine CW_seq ?_
         refine cR ?_
         iterate 2 refine oM rfl rfl ?_
         first | refine oQ (Q_len rfl rfl rfl rfl) rfl rfl ?_ | refine oQ (Q_len0 rfl rfl rfl rfl) rfl rfl ?_
         refine oQ (Q_bin rfl rfl rfl) rfl rfl ?_
         refine oN ?_
         first | refine cT rfl ?_ | refine cF rfl ?_ | refine CW_cond rfl (fun hc => ?_) (fun hc => ?_)
         all_goals try simp only [s1, s2, s3, s4, s5, s6, s7, s8, s9, s10, s11, s12] at hc
         all_goals try (exfalso; first | exact absurd hcd hc | exact absurd hc hcd; done)
         all_goals first
           | (
            refine CW_skip ?_)
           | (
            refine CW_exit ?_)
         all_goals first
           | with_reducible refine tR ?_
           | with_reducible refine tE ?_
           | (
            with_reducible refine tN ?_
            refine CW_seq ?_
            refine CW_block ?_
            refine CW_region ?_
            iterate 3 refine oM rfl rfl ?_
            (have hil : i < L.length := by omega); (have hsn := hsn hil); (have h3i := h3i hil); refine oQ (Q_ixs0z 3 rfl rfl rfl rfl rfl rfl (by omega)) rfl rfl ?_
            refine oQ (Q_lda (n := 3) rfl rfl rfl rfl rfl (by rw [List.length_append, hf3]; omega)) rfl rfl ?_; rw [flat_get h3 hil]
            refine oCall (l07Put_con (srtV (L.take i)) ss kk hS3 (L.getD i []) h3i (by omega)) [(0, 1)] 2 rfl rfl (Fits.mk' (vHc rfl vHn) rfl rfl (by simp)) rfl rfl ?_
            rintro r H1 ⟨k5, sp5, hk5, hs5, rfl, rfl⟩
            refine ⟨.slice 3 0 (putL (srtV (L.take i)) (L.getD i [])).length k5, [(1, .ints 49 ((srtV (L.take i)).flatten ++ ss)), (3, .ints 49 ((putL (srtV (L.take i)) (L.getD i [])).flatten ++ sp5))], rfl, rfl, rfl, ?_⟩
            rw [← hsn] at hk5 hs5 ⊢
            refine oA rfl rfl ?_
            refine OW_nil ?_
            all_goals first | with_reducible refine bN ?_ | with_reducible refine bE ?_ | with_reducible refine bR ?_ | refine bX rfl ?_
            all_goals with_reducible refine tN ?_
            all_goals (
             refine CW_region ?_
             refine oM rfl rfl ?_
             first | refine oQ (Q_binu rfl rfl rfl (by omega)) rfl rfl ?_ | refine oQ (Q_bin rfl rfl rfl) rfl rfl ?_
             refine oA rfl rfl ?_
             refine OW_nil ?_))
         all_goals first
           | with_reducible refine tR ?_
           | with_reducible refine tE ?_
           | (
            with_reducible refine tN ?_
            refine ⟨(i + 1, k5, sp5), ?_, ?_, View.mk' [(1, 3)] rfl rfl rfl ?_ ?_⟩
            · exact ⟨by dsimp only; omega, hk5, hs5⟩
            · omega
            all_goals (repeat' first | exact vFn | refine vFc rfl ?_ | exact vHn | refine vHc rfl ?_ | refine vFc (congrArg (fun z => some (V.int z)) ?_) ?_ | refine vHc (congrArg (fun z => some (Blk.ints _ z)) ?_) ?_ | refine vFc (congrArg (fun z => some (V.bool z)) ?_) ?_ | refine vFs rfl rfl ?_ ?_))
         all_goals first | with_reducible refine bN ?_ | with_reducible refine bE ?_ | with_reducible refine bR ?_ | refine bX rfl ?_
         all_goals with_reducible refine tN ?_
         all_goals (
          refine CW_seq ?_
          refine cR ?_
          refine oM rfl rfl ?_
          first | refine oQ (Q_len rfl rfl rfl rfl) rfl rfl ?_ | refine oQ (Q_len0 rfl rfl rfl rfl) rfl rfl ?_
          refine oQ (Q_bin rfl rfl rfl) rfl rfl ?_
          refine oN ?_
          first | refine cT rfl ?_ | refine cF rfl ?_ | refine CW_cond rfl (fun hc => ?_) (fun hc => ?_)
          all_goals try simp only [s1, s2, s3, s4, s5, s6, s7, s8, s9, s10, s11, s12] at hc
          all_goals try (exfalso; first | exact absurd hcd hc | exact absurd hc hcd; done)
          all_goals first
            | (
             refine CW_skip ?_)
            | (
             refine cR ?_
             iterate 2 refine oA rfl rfl ?_
             refine oN ?_
             refine CW_ret ?_)
          all_goals first
            | with_reducible refine tR ?_
            | with_reducible refine tE ?_
            | (
             with_reducible refine tN ?_
             refine cR ?_
             refine oM rfl rfl ?_
             iterate 2 refine oA rfl rfl ?_
             refine oN ?_
             refine CW_ret ?_)))
      all_goals (
       first
         | (exfalso; first | exact hc hcd | exact hcd hc; done)
         | (have hc6 := hc
            have e : i = L.length := (by omega)
            subst e
            rw [List.take_length] at hc6 hk hsp
            first
              | (exfalso; omega)
              | exact exitH (r0 := .tuple [.nilsl, .int 3]) (H0 := [(0, .ints 49 (L.flatten ++ sp))]) (.inr rfl) [] 1 (.cons (.tmp rfl rfl) (.cons (.tmp rfl rfl) .nil)) rfl rfl rfl (vHc rfl vHn) rfl rfl (by have := listO_no (T := 49) (H0 := [(0, .ints 49 (L.flatten ++ sp))]) (b := 1) (code := stoC p L) (R := (srtV L).flatten) (n := (srtV L).length) (by rw [hst]; decide); rwa [hst] at this ⊢)))
    · have hst := stoC_c hcd h60
      refine conW tab_ok [(0, .int p), (1, .slice 0 0 L.length k)] 1 [0] [0] Try.func45 rfl rfl rfl rfl rfl rfl rfl rfl rfl ?_
      refine cR ?_
      iterate 2 refine oA rfl rfl ?_
      refine oN ?_
      refine CW_seq ?_
      refine cR ?_
      iterate 2 refine oM rfl rfl ?_
      refine oQ (Q_call (hq1) [] rfl rfl (Fits.mk' (vHc rfl vHn) rfl rfl (by simp)) rfl rfl) rfl rfl ?_
      refine oA rfl rfl ?_
      refine oN ?_
      refine cR ?_
      refine oM rfl rfl ?_
      refine oQ (Q_bin rfl rfl rfl) rfl rfl ?_
      refine oN ?_
      first | refine cT rfl ?_ | refine cF rfl ?_ | refine CW_cond rfl (fun hc => ?_) (fun hc => ?_)
      all_goals try simp only [s1, s2, s3, s4, s5, s6, s7, s8, s9, s10, s11, s12] at hc
      all_goals try (exfalso; first | exact absurd hcd hc | exact absurd hc hcd; done)
      all_goals first
        | (
         refine CW_skip ?_)
        | (
         refine cR ?_
         refine oM rfl rfl ?_
         iterate 2 refine oA rfl rfl ?_
         refine oN ?_
         refine CW_ret ?_)
      all_goals first
        | with_reducible refine tR ?_
        | with_reducible refine tE ?_
        | (
         with_reducible refine tN ?_
         refine cR ?_
         refine oBsl rfl rfl rfl rfl (.inr ⟨rfl, rfl, by decide⟩) rfl rfl rfl rfl rfl rfl ?_
         refine oA rfl rfl ?_
         refine oN ?_
         refine CW_seq ?_
         refine cR ?_
         refine oA rfl rfl ?_
         refine oN ?_
         refine CW_block ?_
         refine CW_loop (ι := Nat × Nat × List Int) (fun x => x.1 ≤ L.length ∧ (srtV (L.take x.1)).length ≤ x.2.1 ∧ x.2.1 * 3 ≤ (srtV (L.take x.1)).length * 3 + x.2.2.length) (fun x => ⟨[(1, .slice 0 0 L.length k), (7, .slice 1 0 (srtV (L.take x.1)).length x.2.1), (8, .int (x.1 : Nat))], [(0, .ints 49 (L.flatten ++ sp)), (1, .ints 49 ((srtV (L.take x.1)).flatten ++ x.2.2))], 2⟩) (fun x => L.length - x.1) (0, 0, []) ?_ ?_ ?_
         · exact ⟨Nat.zero_le _, Nat.le_refl _, Nat.le_refl _⟩
         · refine View.mk' [] rfl rfl rfl ?_ ?_
           repeat' first | exact vFn | refine vFc rfl ?_ | exact vHn | refine vHc rfl ?_ | refine vFc (congrArg (fun z => some (V.int z)) ?_) ?_ | refine vHc (congrArg (fun z => some (Blk.ints _ z)) ?_) ?_ | refine vFc (congrArg (fun z => some (V.bool z)) ?_) ?_ | refine vFs rfl rfl ?_ ?_
         rintro ⟨i, kk, ss⟩ ⟨hi, hk, hsp⟩
         dsimp only at hi hk hsp ⊢
         have hT3 : T3 (L.take i) := fun x hx => h3 x (List.mem_of_mem_take hx)
         have hS3 := srt_three hT3
         have hSl := srt_len (L.take i)
         have hTl : (L.take i).length ≤ L.length := by rw [List.length_take]; omega
         have hsn := fun h : i < L.length => srt_snoc h
         have h3i := fun h : i < L.length => h3 _ (getD_mem h)
         refine CW_seq ?_
         refine cR ?_
         iterate 2 refine oM rfl rfl ?_
         first | refine oQ (Q_len rfl rfl rfl rfl) rfl rfl ?_ | refine oQ (Q_len0 rfl rfl rfl rfl) rfl rfl ?_
         refine oQ (Q_bin rfl rfl rfl) rfl rfl ?_
         refine oN ?_
         first | refine cT rfl ?_ | refine cF rfl ?_ | refine CW_cond rfl (fun hc => ?_) (fun hc => ?_)
         all_goals try simp only [s1, s2, s3, s4, s5, s6, s7, s8, s9, s10, s11, s12] at hc
         all_goals try (exfalso; first | exact absurd hcd hc | exact absurd hc hcd; done)
         all_goals first
           | (
            refine CW_skip ?_)
           | (
            refine CW_exit ?_)
         all_goals first
           | with_reducible refine tR ?_
           | with_reducible refine tE ?_
           | (
            with_reducible refine tN ?_
            refine CW_seq ?_
            refine CW_block ?_
            refine CW_region ?_
            iterate 3 refine oM rfl rfl ?_
            (have hil : i < L.length := by omega); (have hsn := hsn hil); (have h3i := h3i hil); refine oQ (Q_ixs0z 3 rfl rfl rfl rfl rfl rfl (by omega)) rfl rfl ?_
            refine oQ (Q_lda (n := 3) rfl rfl rfl rfl rfl (by rw [List.length_append, hf3]; omega)) rfl rfl ?_; rw [flat_get h3 hil]
            refine oCall (l07Put_con (srtV (L.take i)) ss kk hS3 (L.getD i []) h3i (by omega)) [(0, 1)] 2 rfl rfl (Fits.mk' (vHc rfl vHn) rfl rfl (by simp)) rfl rfl ?_
            rintro r H1 ⟨k5, sp5, hk5, hs5, rfl, rfl⟩
            refine ⟨.slice 3 0 (putL (srtV (L.take i)) (L.getD i [])).length k5, [(1, .ints 49 ((srtV (L.take i)).flatten ++ ss)), (3, .ints 49 ((putL (srtV (L.take i)) (L.getD i [])).flatten ++ sp5))], rfl, rfl, rfl, ?_⟩
            rw [← hsn] at hk5 hs5 ⊢
            refine oA rfl rfl ?_
            refine OW_nil ?_
            all_goals first | with_reducible refine bN ?_ | with_reducible refine bE ?_ | with_reducible refine bR ?_ | refine bX rfl ?_
            all_goals with_reducible refine tN ?_
            all_goals (
             refine CW_region ?_
             refine oM rfl rfl ?_
             first | refine oQ (Q_binu rfl rfl rfl (by omega)) rfl rfl ?_ | refine oQ (Q_bin rfl rfl rfl) rfl rfl ?_
             refine oA rfl rfl ?_
             refine OW_nil ?_))
         all_goals first
           | with_reducible refine tR ?_
           | with_reducible refine tE ?_
           | (
            with_reducible refine tN ?_
            refine ⟨(i + 1, k5, sp5), ?_, ?_, View.mk' [(1, 3)] rfl rfl rfl ?_ ?_⟩
            · exact ⟨by dsimp only; omega, hk5, hs5⟩
            · omega
            all_goals (repeat' first | exact vFn | refine vFc rfl ?_ | exact vHn | refine vHc rfl ?_ | refine vFc (congrArg (fun z => some (V.int z)) ?_) ?_ | refine vHc (congrArg (fun z => some (Blk.ints _ z)) ?_) ?_ | refine vFc (congrArg (fun z => some (V.bool z)) ?_) ?_ | refine vFs rfl rfl ?_ ?_))
         all_goals first | with_reducible refine bN ?_ | with_reducible refine bE ?_ | with_reducible refine bR ?_ | refine bX rfl ?_
         all_goals with_reducible refine tN ?_
         all_goals (
          refine CW_seq ?_
          refine cR ?_
          refine oM rfl rfl ?_
          first | refine oQ (Q_len rfl rfl rfl rfl) rfl rfl ?_ | refine oQ (Q_len0 rfl rfl rfl rfl) rfl rfl ?_
          refine oQ (Q_bin rfl rfl rfl) rfl rfl ?_
          refine oN ?_
          first | refine cT rfl ?_ | refine cF rfl ?_ | refine CW_cond rfl (fun hc => ?_) (fun hc => ?_)
          all_goals try simp only [s1, s2, s3, s4, s5, s6, s7, s8, s9, s10, s11, s12] at hc
          all_goals try (exfalso; first | exact absurd hcd hc | exact absurd hc hcd; done)
          all_goals first
            | (
             refine CW_skip ?_)
            | (
             refine cR ?_
             iterate 2 refine oA rfl rfl ?_
             refine oN ?_
             refine CW_ret ?_)
          all_goals first
            | with_reducible refine tR ?_
            | with_reducible refine tE ?_
            | (
             with_reducible refine tN ?_
             refine cR ?_
             refine oM rfl rfl ?_
             iterate 2 refine oA rfl rfl ?_
             refine oN ?_
             refine CW_ret ?_)))
      all_goals (
       first
         | (exfalso; first | exact hc hcd | exact hcd hc; done)
         | (have hc6 := hc
            have e : i = L.length := (by omega)
            subst e
            rw [List.take_length] at hc6 hk hsp
            first
              | (exfalso; omega)
              | exact exitH (r0 := .tuple [.slice 1 0 (srtV L).length kk, .int 0]) (H0 := [(0, .ints 49 (L.flatten ++ sp)), (1, .ints 49 ((srtV L).flatten ++ ss))]) (.inr rfl) [] 2 (.cons (.tmp rfl rfl) (.cons (.tmp rfl rfl) .nil)) (by simp only [List.take_length]; rfl) rfl rfl (vHc rfl (vHc (by simp only [List.take_length]; rfl) vHn)) rfl rfl (listO_ok hst hk)))
  · have hst := stoC_a hcd
    refine conW tab_ok [(0, .int p), (1, .slice 0 0 L.length k)] 1 [0] [0] Try.func45 rfl rfl rfl rfl rfl rfl rfl rfl rfl ?_
    refine cR ?_
    iterate 2 refine oA rfl rfl ?_
    refine oN ?_
    refine CW_seq ?_
    refine cR ?_
    iterate 2 refine oM rfl rfl ?_
    refine oQ (Q_call (hq1) [] rfl rfl (Fits.mk' (vHc rfl vHn) rfl rfl (by simp)) rfl rfl) rfl rfl ?_
    refine oA rfl rfl ?_
    refine oN ?_
    refine cR ?_
    refine oM rfl rfl ?_
    refine oQ (Q_bin rfl rfl rfl) rfl rfl ?_
    refine oN ?_
    first | refine cT rfl ?_ | refine cF rfl ?_ | refine CW_cond rfl (fun hc => ?_) (fun hc => ?_)
    all_goals try simp only [s1, s2, s3, s4, s5, s6, s7, s8, s9, s10, s11, s12] at hc
    all_goals try (exfalso; first | exact absurd hcd hc | exact absurd hc hcd; done)
    all_goals first
      | (
       refine CW_skip ?_)
      | (
       refine cR ?_
       refine oM rfl rfl ?_
       iterate 2 refine oA rfl rfl ?_
       refine oN ?_
       refine CW_ret ?_)
    all_goals first
      | with_reducible refine tR ?_
      | with_reducible refine tE ?_
      | (
       with_reducible refine tN ?_
       refine cR ?_
       refine oBsl rfl rfl rfl rfl (.inr ⟨rfl, rfl, by decide⟩) rfl rfl rfl rfl rfl rfl ?_
       refine oA rfl rfl ?_
       refine oN ?_
       refine CW_seq ?_
       refine cR ?_
       refine oA rfl rfl ?_
       refine oN ?_
       refine CW_block ?_
       skip
       · first | trivial | omega | (simp; done) | (simp; omega)
       · refine View.mk' [] rfl rfl rfl ?_ ?_
         repeat' first | exact vFn | refine vFc rfl ?_ | exact vHn | refine vHc rfl ?_ | refine vFc (congrArg (fun z => some (V.int z)) ?_) ?_ | refine vHc (congrArg (fun z => some (Blk.ints _ z)) ?_) ?_ | refine vFc (congrArg (fun z => some (V.bool z)) ?_) ?_ | refine vFs rfl rfl ?_ ?_
       intro i hi
       refine CW_seq ?_
       refine cR ?_
       iterate 2 refine oM rfl rfl ?_
       first | refine oQ (Q_len rfl rfl rfl rfl) rfl rfl ?_ | refine oQ (Q_len0 rfl rfl rfl rfl) rfl rfl ?_
       refine oQ (Q_bin rfl rfl rfl) rfl rfl ?_
       refine oN ?_
       first | refine cT rfl ?_ | refine cF rfl ?_ | refine CW_cond rfl (fun hc => ?_) (fun hc => ?_)
       all_goals try simp only [s1, s2, s3, s4, s5, s6, s7, s8, s9, s10, s11, s12] at hc
       all_goals try (exfalso; first | exact absurd hcd hc | exact absurd hc hcd; done)
       all_goals first
         | (
          refine CW_skip ?_)
         | (
          refine CW_exit ?_)
       all_goals first
         | with_reducible refine tR ?_
         | with_reducible refine tE ?_
         | (
          with_reducible refine tN ?_
          refine CW_seq ?_
          refine CW_block ?_
          refine CW_region ?_
          iterate 3 refine oM rfl rfl ?_
          first | refine oQ (Q_ixs0z 3 rfl rfl rfl rfl rfl rfl (by first | omega | (dsimp only; omega) | (simp; omega) | (simp; done))) rfl rfl ?_ | refine oQ (Q_ixsz 3 rfl rfl rfl rfl rfl rfl (by first | omega | (dsimp only; omega) | (simp; omega) | (simp; done))) rfl rfl ?_
          first | refine oQ (Lw rfl rfl rfl rfl) rfl rfl ?_ | refine oQ (La rfl rfl rfl rfl rfl) rfl rfl ?_
          fail "call of loop.example/g01310/spec.l07Put at slot 27"
          refine oA rfl rfl ?_
          refine OW_nil ?_
          all_goals first | with_reducible refine bN ?_ | with_reducible refine bE ?_ | with_reducible refine bR ?_ | refine bX rfl ?_
          all_goals with_reducible refine tN ?_
          all_goals (
           refine CW_region ?_
           refine oM rfl rfl ?_
           first | refine oQ (Q_binu rfl rfl rfl (by omega)) rfl rfl ?_ | refine oQ (Q_bin rfl rfl rfl) rfl rfl ?_
           refine oA rfl rfl ?_
           refine OW_nil ?_))
       all_goals first
         | with_reducible refine tR ?_
         | with_reducible refine tE ?_
         | (
          with_reducible refine tN ?_
          fail "again 0")
       all_goals first | with_reducible refine bN ?_ | with_reducible refine bE ?_ | with_reducible refine bR ?_ | refine bX rfl ?_
       all_goals with_reducible refine tN ?_
       all_goals (
        refine CW_seq ?_
        refine cR ?_
        refine oM rfl rfl ?_
        first | refine oQ (Q_len rfl rfl rfl rfl) rfl rfl ?_ | refine oQ (Q_len0 rfl rfl rfl rfl) rfl rfl ?_
        refine oQ (Q_bin rfl rfl rfl) rfl rfl ?_
        refine oN ?_
        first | refine cT rfl ?_ | refine cF rfl ?_ | refine CW_cond rfl (fun hc => ?_) (fun hc => ?_)
        all_goals try simp only [s1, s2, s3, s4, s5, s6, s7, s8, s9, s10, s11, s12] at hc
        all_goals try (exfalso; first | exact absurd hcd hc | exact absurd hc hcd; done)
        all_goals first
          | (
           refine CW_skip ?_)
          | (
           refine cR ?_
           iterate 2 refine oA rfl rfl ?_
           refine oN ?_
           refine CW_ret ?_)
        all_goals first
          | with_reducible refine tR ?_
          | with_reducible refine tE ?_
          | (
           with_reducible refine tN ?_
           refine cR ?_
           refine oM rfl rfl ?_
           iterate 2 refine oA rfl rfl ?_
           refine oN ?_
           refine CW_ret ?_)))
    all_goals (
     first | (exfalso; first | exact hc hcd | exact hcd hc; done) | exact exitH (r0 := .tuple [.nilsl, .int (pcV p L)]) (H0 := [(0, .ints 49 (L.flatten ++ sp))]) (.inr rfl) [] 1 (.cons (.tmp rfl rfl) (.cons (.tmp rfl rfl) .nil)) rfl rfl rfl (vHc rfl vHn) rfl rfl (by have := listO_no (T := 49) (H0 := [(0, .ints 49 (L.flatten ++ sp))]) (b := 1) (code := stoC p L) (R := (srtV L).flatten) (n := (srtV L).length) (by rw [hst]; exact hcd); rwa [hst] at this ⊢))
theorem spec_SetOf_M (p : Int) (M : List Int) (n k : Nat) (hM : n * 3 ≤ M.length) (hn : n ≤ 1000000) : Con Try.prog [] 45 [.int p, .slice 0 0 n k] [(0, .ints 49 M)] (listO 49 [(0, .ints 49 M)] 1 (stoCM p M n) (stoM p M n).flatten (stoM p M n).length) := by
  have e := chunk_split hM
  have h := spec_SetOf_con p (chunk M n) (M.drop (n * 3)) k (chunk_three hM) (by rw [chunk_length]; exact hn)
  rw [chunk_length, ← e] at h
  exact h
theorem impl_SetOf_M (p : Int) (M : List Int) (n k : Nat) (hM : n * 3 ≤ M.length) (hn : n ≤ 1000000) : Con Try.prog [] 46 [.int p, .slice 0 0 n k] [(0, .ints 49 M)] (listO 49 [(0, .ints 49 M)] 1 (stoCM p M n) (stoM p M n).flatten (stoM p M n).length) := by
  have e := chunk_split hM
  have h := impl_SetOf_con p (chunk M n) (M.drop (n * 3)) k (chunk_three hM) (by rw [chunk_length]; exact hn)
  rw [chunk_length, ← e] at h
  exact h
theorem eqPointS_ns (t' : TypeId) (B : List Int) (m k' : Nat) (hm : m = 0) : ConQ Try.prog [] 19 [.nilsl, .slice 0 0 m k'] [(0, .ints t' B)] (.bool true) := by
  refine conW tab_ok [(0, .nilsl), (1, .slice 0 0 m k')] 1 [0] [0] Try.func19 rfl rfl rfl rfl rfl rfl rfl rfl rfl ?_
  refine cR ?_
  refine oA rfl rfl ?_
  refine oN ?_
  refine CW_seq ?_
  refine cR ?_
  refine oM rfl rfl ?_
  first | refine oQ (Q_len rfl rfl rfl rfl) rfl rfl ?_ | refine oQ (Q_len0 rfl rfl rfl rfl) rfl rfl ?_
  refine oM rfl rfl ?_
  first | refine oQ (Q_len rfl rfl rfl rfl) rfl rfl ?_ | refine oQ (Q_len0 rfl rfl rfl rfl) rfl rfl ?_
  refine oQ (Q_bin rfl rfl rfl) rfl rfl ?_
  refine oN ?_
  first | refine cT rfl ?_ | refine cF rfl ?_ | refine CW_cond rfl (fun hc => ?_) (fun hc => ?_)
  all_goals try simp only [s1, s2, s3, s4, s5, s6, s7, s8, s9, s10, s11, s12] at hc
  all_goals try (exfalso; (omega); done)
  all_goals first
    | (
     refine CW_skip ?_)
    | (
     refine cR ?_
     refine oA rfl rfl ?_
     refine oN ?_
     refine CW_ret ?_)
  all_goals first
    | with_reducible refine tR ?_
    | with_reducible refine tE ?_
    | (
     with_reducible refine tN ?_
     refine CW_seq ?_
     refine cR ?_
     refine oA rfl rfl ?_
     refine oN ?_
     refine CW_block ?_
     refine CW_loop (ι := Unit) (fun _ => True) (fun _ => ⟨[(0, .nilsl), (1, .slice 0 0 m k'), (5, .int 0)], [(0, .ints t' B)], 1⟩) (fun _ => 0) () ?_ ?_ ?_
     · first | trivial | omega | (simp; done) | (simp; omega)
     · refine View.mk' [] rfl rfl rfl ?_ ?_
       repeat' first | exact vFn | refine vFc rfl ?_ | exact vHn | refine vHc rfl ?_ | refine vFc (congrArg (fun z => some (V.int z)) ?_) ?_ | refine vHc (congrArg (fun z => some (Blk.ints _ z)) ?_) ?_ | refine vFc (congrArg (fun z => some (V.bool z)) ?_) ?_ | refine vFs rfl rfl ?_ ?_
     rintro ⟨⟩ _
     refine CW_seq ?_
     refine cR ?_
     iterate 2 refine oM rfl rfl ?_
     first | refine oQ (Q_len rfl rfl rfl rfl) rfl rfl ?_ | refine oQ (Q_len0 rfl rfl rfl rfl) rfl rfl ?_
     refine oQ (Q_bin rfl rfl rfl) rfl rfl ?_
     refine oN ?_
     first | refine cT rfl ?_ | refine cF rfl ?_ | refine CW_cond rfl (fun hc => ?_) (fun hc => ?_)
     all_goals try simp only [s1, s2, s3, s4, s5, s6, s7, s8, s9, s10, s11, s12] at hc
     all_goals try (exfalso; (omega); done)
     all_goals first
       | (
        refine CW_skip ?_)
       | (
        refine CW_exit ?_)
     all_goals first
       | with_reducible refine tR ?_
       | with_reducible refine tE ?_
       | (
        with_reducible refine tN ?_
        refine CW_seq ?_
        refine CW_block ?_
        refine CW_seq ?_
        refine CW_draw lateOk (by decide +kernel) ?_
        iterate 2 refine qM rfl rfl ?_
        first | refine qQ (Q_ixs0z 3 rfl rfl rfl rfl rfl rfl (by first | omega | (dsimp only; omega) | (simp; omega) | (simp; done))) rfl rfl ?_ | refine qQ (Q_ixsz 3 rfl rfl rfl rfl rfl rfl (by first | omega | (dsimp only; omega) | (simp; omega) | (simp; done))) rfl rfl ?_
        first | refine qQ (Lw rfl rfl rfl rfl) rfl rfl ?_ | refine qQ (La rfl rfl rfl rfl rfl) rfl rfl ?_
        iterate 2 refine qM rfl rfl ?_
        first | refine qQ (Q_ixs0z 3 rfl rfl rfl rfl rfl rfl (by first | omega | (dsimp only; omega) | (simp; omega) | (simp; done))) rfl rfl ?_ | refine qQ (Q_ixsz 3 rfl rfl rfl rfl rfl rfl (by first | omega | (dsimp only; omega) | (simp; omega) | (simp; done))) rfl rfl ?_
        first | refine qQ (Lw rfl rfl rfl rfl) rfl rfl ?_ | refine qQ (La rfl rfl rfl rfl rfl) rfl rfl ?_
        fail "call of loop.example/g01310/laws.eqPoint at slot 25"
        refine qQ (Q_not rfl) rfl rfl ?_
        refine QW_nil ?_
        all_goals with_reducible refine tN ?_
        all_goals (
         first | refine cT rfl ?_ | refine cF rfl ?_ | refine CW_cond rfl (fun hc => ?_) (fun hc => ?_)
         all_goals try simp only [s1, s2, s3, s4, s5, s6, s7, s8, s9, s10, s11, s12] at hc
         all_goals try (exfalso; (omega); done)
         all_goals first
           | (
            refine CW_skip ?_)
           | (
            refine cR ?_
            refine oA rfl rfl ?_
            refine oN ?_
            refine CW_ret ?_))
        all_goals first | with_reducible refine bN ?_ | with_reducible refine bE ?_ | with_reducible refine bR ?_ | refine bX rfl ?_
        all_goals first
          | with_reducible refine tR ?_
          | with_reducible refine tE ?_
          | (
           with_reducible refine tN ?_
           refine CW_region ?_
           refine oM rfl rfl ?_
           first | refine oQ (Q_binu rfl rfl rfl (by omega)) rfl rfl ?_ | refine oQ (Q_bin rfl rfl rfl) rfl rfl ?_
           refine oA rfl rfl ?_
           refine OW_nil ?_))
     all_goals first
       | with_reducible refine tR ?_
       | with_reducible refine tE ?_
       | (
        with_reducible refine tN ?_
        fail "again 0")
     all_goals first | with_reducible refine bN ?_ | with_reducible refine bE ?_ | with_reducible refine bR ?_ | refine bX rfl ?_
     all_goals first
       | with_reducible refine tR ?_
       | with_reducible refine tE ?_
       | (
        with_reducible refine tN ?_
        refine cR ?_
        refine oA rfl rfl ?_
        refine oN ?_
        refine CW_ret ?_))
  all_goals (
   ((refine exitQ (.inr rfl) 1 (.cons (.tmp rfl rfl) .nil) ?_ rfl (vHc rfl vHn) rfl rfl); rfl))
end Go.Proofs.Ytmcmbpoebhjecaa
