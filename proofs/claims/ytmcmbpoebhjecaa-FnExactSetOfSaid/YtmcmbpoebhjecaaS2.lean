/- slices.Compact at points. Printed by gen_s2.py. -/
import Derived.Test.YtmcmbpoebhjecaaEngL
import Derived.Test.YtmcmbpoebhjecaaA1
import Derived.Test.YtmcmbpoebhjecaaPs
namespace Go.Proofs.Ytmcmbpoebhjecaa
set_option maxRecDepth 10000
set_option linter.unusedSimpArgs false
set_option linter.unusedVariables false
attribute [local irreducible] CW OW QW QOp Con thenP inBlockP

theorem compact_con (L : List (List Int)) (sp : List Int) (k : Nat) (h3 : ∀ x ∈ L, x.length = 3) (hn9 : L.length ≤ 1000000) (hkL : L.length ≤ k) : Con Try.prog [] 109 [.slice 0 0 L.length k] [(0, .ints 49 (L.flatten ++ sp))] (fun r H' => ∃ z, z.length = (L.length - (ddL L).length) * 3 ∧ r = .slice 0 0 (ddL L).length k ∧ H' = [(0, .ints 49 ((ddL L).flatten ++ (z ++ sp)))]) := by
  have hf3 := flat3 h3
  by_cases h2 : L.length < 2
  · rw [ddL_small h2]
    refine conW tab_ok [(0, .slice 0 0 L.length k)] 1 [0] [0] Try.func109 rfl rfl rfl rfl rfl rfl rfl rfl rfl ?_
    refine cR ?_
    refine oA rfl rfl ?_
    refine oN ?_
    refine CW_seq ?_
    refine cR ?_
    refine oM rfl rfl ?_
    first | refine oQ (Q_len rfl rfl rfl rfl) rfl rfl ?_ | refine oQ (Q_len0 rfl rfl rfl rfl) rfl rfl ?_
    refine oQ (Q_bin rfl rfl rfl) rfl rfl ?_
    refine oN ?_
    first | refine cT rfl ?_ | refine cF rfl ?_ | refine CW_cond rfl (fun hc => ?_) (fun hc => ?_)
    all_goals try simp only [s1, s2, s3, s4, s5, s6, s7, s8, s9, s10, s11, s12] at hc
    all_goals try (exfalso; (omega); done)
    all_goals first
      | (
       refine CW_skip ?_)
      | (
       refine cR ?_
       refine oM rfl rfl ?_
       refine oA rfl rfl ?_
       refine oN ?_
       refine CW_ret ?_)
    all_goals first
      | with_reducible refine tR ?_
      | with_reducible refine tE ?_
      | (
       with_reducible refine tN ?_
       refine CW_seq ?_
       refine cR ?_
       refine oA rfl rfl ?_
       refine oN ?_
       refine CW_block ?_
       fail "loop 0 wants its states"
       · first | trivial | omega | (simp; done) | (simp; omega)
       · refine View.mk' [] rfl rfl rfl ?_ ?_
         repeat' first | exact vFn | refine vFc rfl ?_ | exact vHn | refine vHc rfl ?_ | refine vFc (congrArg (fun z => some (V.int z)) ?_) ?_ | refine vHc (congrArg (fun z => some (Blk.ints _ z)) ?_) ?_ | refine vFc (congrArg (fun z => some (V.bool z)) ?_) ?_ | refine vFs rfl rfl ?_ ?_
       intro i hi
       refine CW_seq ?_
       refine cR ?_
       iterate 2 refine oM rfl rfl ?_
       first | refine oQ (Q_len rfl rfl rfl rfl) rfl rfl ?_ | refine oQ (Q_len0 rfl rfl rfl rfl) rfl rfl ?_
       refine oQ (Q_bin rfl rfl rfl) rfl rfl ?_
       refine oN ?_
       first | refine cT rfl ?_ | refine cF rfl ?_ | refine CW_cond rfl (fun hc => ?_) (fun hc => ?_)
       all_goals try simp only [s1, s2, s3, s4, s5, s6, s7, s8, s9, s10, s11, s12] at hc
       all_goals try (exfalso; (omega); done)
       all_goals first
         | (
          refine CW_skip ?_)
         | (
          refine CW_exit ?_)
       all_goals first
         | with_reducible refine tR ?_
         | with_reducible refine tE ?_
         | (
          with_reducible refine tN ?_
          refine CW_seq ?_
          refine CW_block ?_
          refine CW_seq ?_
          refine CW_draw lateOk (by decide +kernel) ?_
          iterate 2 refine qM rfl rfl ?_
          first | refine qQ (Q_ixs0z 3 rfl rfl rfl rfl rfl rfl (by first | omega | (dsimp only; omega) | (simp; omega) | (simp; done))) rfl rfl ?_ | refine qQ (Q_ixsz 3 rfl rfl rfl rfl rfl rfl (by first | omega | (dsimp only; omega) | (simp; omega) | (simp; done))) rfl rfl ?_
          first | refine qQ (Lw rfl rfl rfl rfl) rfl rfl ?_ | refine qQ (La rfl rfl rfl rfl rfl) rfl rfl ?_
          iterate 2 refine qM rfl rfl ?_
          first | refine qQ (Q_binu rfl rfl rfl (by omega)) rfl rfl ?_ | refine qQ (Q_bin rfl rfl rfl) rfl rfl ?_
          first | refine qQ (Q_ixs0z 3 rfl rfl rfl rfl rfl rfl (by first | omega | (dsimp only; omega) | (simp; omega) | (simp; done))) rfl rfl ?_ | refine qQ (Q_ixsz 3 rfl rfl rfl rfl rfl rfl (by first | omega | (dsimp only; omega) | (simp; omega) | (simp; done))) rfl rfl ?_
          first | refine qQ (Lw rfl rfl rfl rfl) rfl rfl ?_ | refine qQ (La rfl rfl rfl rfl rfl) rfl rfl ?_
          refine qQ (Q_arrb rfl rfl rfl rfl rfl rfl rfl rfl rfl (by first | omega | (dsimp only; omega) | (simp; omega) | (simp; done)) (by first | omega | (dsimp only; omega) | (simp; omega) | (simp; done))) rfl rfl ?_
          refine QW_nil ?_
          all_goals with_reducible refine tN ?_
          all_goals (
           first | refine cT rfl ?_ | refine cF rfl ?_ | refine CW_cond rfl (fun hc => ?_) (fun hc => ?_)
           all_goals try simp only [s1, s2, s3, s4, s5, s6, s7, s8, s9, s10, s11, s12] at hc
           all_goals try (exfalso; (omega); done)
           all_goals first
             | (
              refine CW_skip ?_)
             | (
              refine cR ?_
              iterate 2 refine oM rfl rfl ?_
              refine oQ (Q_slsL 3 rfl rfl rfl rfl rfl rfl (by first | omega | (dsimp only; omega) | (simp; omega) | (simp; done)) (by first | omega | (dsimp only; omega) | (simp; omega) | (simp; done))) rfl rfl ?_
              refine oA rfl rfl ?_
              refine oN ?_
              refine CW_seq ?_
              refine cR ?_
              refine oA rfl rfl ?_
              refine oN ?_
              refine CW_block ?_
              fail "loop 1 wants its states"
              · first | trivial | omega | (simp; done) | (simp; omega)
              · refine View.mk' [] rfl rfl rfl ?_ ?_
                repeat' first | exact vFn | refine vFc rfl ?_ | exact vHn | refine vHc rfl ?_ | refine vFc (congrArg (fun z => some (V.int z)) ?_) ?_ | refine vHc (congrArg (fun z => some (Blk.ints _ z)) ?_) ?_ | refine vFc (congrArg (fun z => some (V.bool z)) ?_) ?_ | refine vFs rfl rfl ?_ ?_
              intro i hi
              refine CW_seq ?_
              refine cR ?_
              iterate 2 refine oM rfl rfl ?_
              first | refine oQ (Q_len rfl rfl rfl rfl) rfl rfl ?_ | refine oQ (Q_len0 rfl rfl rfl rfl) rfl rfl ?_
              refine oQ (Q_bin rfl rfl rfl) rfl rfl ?_
              refine oN ?_
              first | refine cT rfl ?_ | refine cF rfl ?_ | refine CW_cond rfl (fun hc => ?_) (fun hc => ?_)
              all_goals try simp only [s1, s2, s3, s4, s5, s6, s7, s8, s9, s10, s11, s12] at hc
              all_goals try (exfalso; (omega); done)
              all_goals first
                | (
                 refine CW_skip ?_)
                | (
                 refine CW_exit ?_)
              all_goals first
                | with_reducible refine tR ?_
                | with_reducible refine tE ?_
                | (
                 with_reducible refine tN ?_
                 refine CW_seq ?_
                 refine CW_block ?_
                 refine CW_seq ?_
                 refine CW_draw lateOk (by decide +kernel) ?_
                 iterate 2 refine qM rfl rfl ?_
                 first | refine qQ (Q_ixs0z 3 rfl rfl rfl rfl rfl rfl (by first | omega | (dsimp only; omega) | (simp; omega) | (simp; done))) rfl rfl ?_ | refine qQ (Q_ixsz 3 rfl rfl rfl rfl rfl rfl (by first | omega | (dsimp only; omega) | (simp; omega) | (simp; done))) rfl rfl ?_
                 first | refine qQ (Lw rfl rfl rfl rfl) rfl rfl ?_ | refine qQ (La rfl rfl rfl rfl rfl) rfl rfl ?_
                 iterate 2 refine qM rfl rfl ?_
                 first | refine qQ (Q_binu rfl rfl rfl (by omega)) rfl rfl ?_ | refine qQ (Q_bin rfl rfl rfl) rfl rfl ?_
                 first | refine qQ (Q_ixs0z 3 rfl rfl rfl rfl rfl rfl (by first | omega | (dsimp only; omega) | (simp; omega) | (simp; done))) rfl rfl ?_ | refine qQ (Q_ixsz 3 rfl rfl rfl rfl rfl rfl (by first | omega | (dsimp only; omega) | (simp; omega) | (simp; done))) rfl rfl ?_
                 first | refine qQ (Lw rfl rfl rfl rfl) rfl rfl ?_ | refine qQ (La rfl rfl rfl rfl rfl) rfl rfl ?_
                 refine qQ (Q_arrb rfl rfl rfl rfl rfl rfl rfl rfl rfl (by first | omega | (dsimp only; omega) | (simp; omega) | (simp; done)) (by first | omega | (dsimp only; omega) | (simp; omega) | (simp; done))) rfl rfl ?_
                 refine QW_nil ?_
                 all_goals with_reducible refine tN ?_
                 all_goals (
                  first | refine cT rfl ?_ | refine cF rfl ?_ | refine CW_cond rfl (fun hc => ?_) (fun hc => ?_)
                  all_goals try simp only [s1, s2, s3, s4, s5, s6, s7, s8, s9, s10, s11, s12] at hc
                  all_goals try (exfalso; (omega); done)
                  all_goals first
                    | (
                     refine CW_skip ?_)
                    | (
                     refine cR ?_
                     iterate 4 refine oM rfl rfl ?_
                     first | refine oQ (Q_ixs0z 3 rfl rfl rfl rfl rfl rfl (by first | omega | (dsimp only; omega) | (simp; omega) | (simp; done))) rfl rfl ?_ | refine oQ (Q_ixsz 3 rfl rfl rfl rfl rfl rfl (by first | omega | (dsimp only; omega) | (simp; omega) | (simp; done))) rfl rfl ?_
                     first | refine oQ (Lw rfl rfl rfl rfl) rfl rfl ?_ | refine oQ (La rfl rfl rfl rfl rfl) rfl rfl ?_
                     first | refine oQ (Q_ixs0z 3 rfl rfl rfl rfl rfl rfl (by first | omega | (dsimp only; omega) | (simp; omega) | (simp; done))) rfl rfl ?_ | refine oQ (Q_ixsz 3 rfl rfl rfl rfl rfl rfl (by first | omega | (dsimp only; omega) | (simp; omega) | (simp; done))) rfl rfl ?_
                     first | refine oSw rfl rfl rfl rfl ?_ | refine oSa rfl rfl rfl rfl ?_
                     refine oN ?_
                     refine CW_region ?_
                     refine oM rfl rfl ?_
                     first | refine oQ (Q_binu rfl rfl rfl (by omega)) rfl rfl ?_ | refine oQ (Q_bin rfl rfl rfl) rfl rfl ?_
                     refine oA rfl rfl ?_
                     refine OW_nil ?_))
                 all_goals first | with_reducible refine bN ?_ | with_reducible refine bE ?_ | with_reducible refine bR ?_ | refine bX rfl ?_
                 all_goals with_reducible refine tN ?_
                 all_goals (
                  refine CW_region ?_
                  refine oM rfl rfl ?_
                  first | refine oQ (Q_binu rfl rfl rfl (by omega)) rfl rfl ?_ | refine oQ (Q_bin rfl rfl rfl) rfl rfl ?_
                  refine oA rfl rfl ?_
                  refine OW_nil ?_))
              all_goals first
                | with_reducible refine tR ?_
                | with_reducible refine tE ?_
                | (
                 with_reducible refine tN ?_
                 fail "again 1")
              all_goals first | with_reducible refine bN ?_ | with_reducible refine bE ?_ | with_reducible refine bR ?_ | refine bX rfl ?_
              all_goals with_reducible refine tN ?_
              all_goals (
               refine cR ?_
               iterate 2 refine oM rfl rfl ?_
               refine oQ (Q_slsL 3 rfl rfl rfl rfl rfl rfl (by first | omega | (dsimp only; omega) | (simp; omega) | (simp; done)) (by first | omega | (dsimp only; omega) | (simp; omega) | (simp; done))) rfl rfl ?_
               fail "builtin clear at slot None"
               refine oN ?_
               refine cR ?_
               iterate 2 refine oM rfl rfl ?_
               refine oQ (Q_slsH rfl rfl rfl rfl rfl (by first | omega | (dsimp only; omega) | (simp; omega) | (simp; done))) rfl rfl ?_
               refine oA rfl rfl ?_
               refine oN ?_
               refine CW_ret ?_)))
          all_goals first | with_reducible refine bN ?_ | with_reducible refine bE ?_ | with_reducible refine bR ?_ | refine bX rfl ?_
          all_goals first
            | with_reducible refine tR ?_
            | with_reducible refine tE ?_
            | (
             with_reducible refine tN ?_
             refine CW_region ?_
             refine oM rfl rfl ?_
             first | refine oQ (Q_binu rfl rfl rfl (by omega)) rfl rfl ?_ | refine oQ (Q_bin rfl rfl rfl) rfl rfl ?_
             refine oA rfl rfl ?_
             refine OW_nil ?_))
       all_goals first
         | with_reducible refine tR ?_
         | with_reducible refine tE ?_
         | (
          with_reducible refine tN ?_
          fail "again 0")
       all_goals first | with_reducible refine bN ?_ | with_reducible refine bE ?_ | with_reducible refine bR ?_ | refine bX rfl ?_
       all_goals first
         | with_reducible refine tR ?_
         | with_reducible refine tE ?_
         | (
          with_reducible refine tN ?_
          refine cR ?_
          refine oM rfl rfl ?_
          refine oA rfl rfl ?_
          refine oN ?_
          refine CW_ret ?_))
    all_goals (
     exact exitH (r0 := .slice 0 0 L.length k) (.inr rfl) [] 1 (.cons (.tmp rfl rfl) .nil) rfl rfl rfl (vHc rfl vHn) rfl rfl ⟨[], by simp, rfl, rfl⟩)
  · have hddl := ddL_len L
    refine conW tab_ok [(0, .slice 0 0 L.length k)] 1 [0] [0] Try.func109 rfl rfl rfl rfl rfl rfl rfl rfl rfl ?_
    refine cR ?_
    refine oA rfl rfl ?_
    refine oN ?_
    refine CW_seq ?_
    refine cR ?_
    refine oM rfl rfl ?_
    first | refine oQ (Q_len rfl rfl rfl rfl) rfl rfl ?_ | refine oQ (Q_len0 rfl rfl rfl rfl) rfl rfl ?_
    refine oQ (Q_bin rfl rfl rfl) rfl rfl ?_
    refine oN ?_
    first | refine cT rfl ?_ | refine cF rfl ?_ | refine CW_cond rfl (fun hc => ?_) (fun hc => ?_)
    all_goals try simp only [s1, s2, s3, s4, s5, s6, s7, s8, s9, s10, s11, s12] at hc
    all_goals try (exfalso; (omega); done)
    all_goals first
      | (
       refine CW_skip ?_)
      | (
       refine cR ?_
       refine oM rfl rfl ?_
       refine oA rfl rfl ?_
       refine oN ?_
       refine CW_ret ?_)
    all_goals first
      | with_reducible refine tR ?_
      | with_reducible refine tE ?_
      | (
       with_reducible refine tN ?_
       refine CW_seq ?_
       refine cR ?_
       refine oA rfl rfl ?_
       refine oN ?_
       refine CW_block ?_
       refine CW_loop (ι := Nat) (fun j => j + 1 ≤ L.length ∧ ddK L (j + 1) = L.take (j + 1)) (fun j => ⟨[(0, .slice 0 0 L.length k), (3, .int ((j + 1 : Nat) : Int))], [(0, .ints 49 (L.flatten ++ sp))], 1⟩) (fun j => L.length - j) 0 ?_ ?_ ?_
       · exact ⟨by omega, ddK_one L (by omega)⟩
       · refine View.mk' [] rfl rfl rfl ?_ ?_
         repeat' first | exact vFn | refine vFc rfl ?_ | exact vHn | refine vHc rfl ?_ | refine vFc (congrArg (fun z => some (V.int z)) ?_) ?_ | refine vHc (congrArg (fun z => some (Blk.ints _ z)) ?_) ?_ | refine vFc (congrArg (fun z => some (V.bool z)) ?_) ?_ | refine vFs rfl rfl ?_ ?_
       rintro j ⟨hj, hdj⟩
       have h3j := fun h : j + 1 < L.length => h3 _ (getD_mem h)
       have h3p := fun h : j + 1 < L.length => h3 _ (getD_mem (show j < L.length by omega))
       refine CW_seq ?_
       refine cR ?_
       iterate 2 refine oM rfl rfl ?_
       first | refine oQ (Q_len rfl rfl rfl rfl) rfl rfl ?_ | refine oQ (Q_len0 rfl rfl rfl rfl) rfl rfl ?_
       refine oQ (Q_bin rfl rfl rfl) rfl rfl ?_
       refine oN ?_
       first | refine cT rfl ?_ | refine cF rfl ?_ | refine CW_cond rfl (fun hc => ?_) (fun hc => ?_)
       all_goals try simp only [s1, s2, s3, s4, s5, s6, s7, s8, s9, s10, s11, s12] at hc
       all_goals try (exfalso; (omega); done)
       all_goals first
         | (
          refine CW_skip ?_)
         | (
          refine CW_exit ?_)
       all_goals first
         | with_reducible refine tR ?_
         | with_reducible refine tE ?_
         | (
          with_reducible refine tN ?_
          refine CW_seq ?_
          refine CW_block ?_
          refine CW_seq ?_
          refine CW_draw lateOk (by decide +kernel) ?_
          iterate 2 refine qM rfl rfl ?_
          (have hjl : j + 1 < L.length := by omega); (have h3j := h3j hjl); (have h3p := h3p hjl); refine qQ (Q_ixs0z 3 rfl rfl rfl rfl rfl rfl (by omega)) rfl rfl ?_
          refine qQ (Q_lda (n := 3) rfl rfl rfl rfl rfl (by rw [List.length_append, hf3]; omega)) rfl rfl ?_; rw [flat_get h3 hjl]
          iterate 2 refine qM rfl rfl ?_
          refine qQ (Q_binu (z := ((j : Nat) : Int)) rfl rfl (congrArg some (by omega)) (by omega)) rfl rfl ?_
          refine qQ (Q_ixs0z 3 rfl rfl rfl rfl rfl rfl (by omega)) rfl rfl ?_
          refine qQ (Q_lda (n := 3) rfl rfl rfl rfl rfl (by rw [List.length_append, hf3]; omega)) rfl rfl ?_; rw [flat_get h3 (show j < L.length by omega)]
          refine qQ (Q_arrb rfl rfl rfl rfl rfl rfl rfl rfl rfl h3j h3p) rfl rfl ?_
          refine QW_nil ?_
          all_goals with_reducible refine tN ?_
          all_goals (
           first | refine cT rfl ?_ | refine cF rfl ?_ | refine CW_cond rfl (fun hc => ?_) (fun hc => ?_)
           all_goals try simp only [s1, s2, s3, s4, s5, s6, s7, s8, s9, s10, s11, s12] at hc
           all_goals try (exfalso; (omega); done)
           all_goals first
             | (
              refine CW_skip ?_)
             | (
              refine cR ?_
              iterate 2 refine oM rfl rfl ?_
              refine oQ (Q_slsL 3 rfl rfl rfl rfl rfl rfl (by omega) (by omega)) rfl rfl ?_; rw [if_neg (show ¬ k = j + 1 by omega), Nat.zero_add]
              refine oA rfl rfl ?_
              refine oN ?_
              refine CW_seq ?_
              refine cR ?_
              refine oA rfl rfl ?_
              refine oN ?_
              refine CW_block ?_
              refine CW_loop (ι := Nat × List Int) (fun x => j + 1 + x.1 + 1 ≤ L.length ∧ x.2.length + (ddK L (j + x.1 + 2)).length * 3 = (j + x.1 + 1) * 3) (fun x => ⟨[(0, .slice 0 0 L.length k), (3, .int ((ddK L (j + x.1 + 2)).length : Nat)), (4, .slice 0 ((j + 1) * 3) (L.length - (j + 1)) (k - (j + 1))), (5, .int ((x.1 + 1 : Nat) : Int))], [(0, .ints 49 (cmM L (j + x.1 + 2) x.2 sp))], 1⟩) (fun x => L.length - x.1) (0, []) ?_ ?_ ?_
              · have he : L.getD (j + 1) [] = L.getD (j + 1 - 1) [] := by simpa using hc
                dsimp only
                rw [show j + 0 + 2 = (j + 1) + 1 by omega, ddK_no (by omega) he, hdj, List.length_take]
                exact ⟨by omega, by simp; omega⟩
              · refine View.mk' [] rfl rfl rfl ?_ ?_
                repeat' first | exact vFn | refine vFc rfl ?_ | exact vHn | refine vHc rfl ?_ | refine vFc (congrArg (fun z => some (V.int z)) ?_) ?_ | refine vHc (congrArg (fun z => some (Blk.ints _ z)) ?_) ?_ | refine vFc (congrArg (fun z => some (V.bool z)) ?_) ?_ | refine vFs rfl rfl ?_ ?_
                all_goals have he : L.getD (j + 1) [] = L.getD (j + 1 - 1) [] := by simpa using hc
                all_goals dsimp only
                all_goals first
                  | (rw [show j + 0 + 2 = (j + 1) + 1 by omega, ddK_no (by omega) he, hdj, List.length_take, Nat.min_eq_left (by omega)]; done)
                  | exact cm_start (i := j + 1) (by omega) hdj he
              rintro ⟨m, junk⟩ ⟨hm, hju⟩
              dsimp only at hm hju ⊢
              have hd3 := ddK_three h3 (i := j + m + 2) (by omega)
              have hle : (ddK L (j + m + 2)).length ≤ j + m + 1 := by omega
              have hcl := cm_len (L := L) (j := j + m + 2) (junk := junk) (sp := sp) h3 (by omega) (by omega) hju hd3
              have hg1 := fun h : j + m + 2 < L.length => cm_get (L := L) (j := j + m + 2) (q := j + m + 2) (junk := junk) (sp := sp) h3 (by omega) h hju hd3
              have hg0 := fun h : j + m + 2 < L.length => cm_get (L := L) (j := j + m + 2) (q := j + m + 1) (junk := junk) (sp := sp) h3 (by omega) (by omega) hju hd3
              have l1 := fun h : j + m + 2 < L.length => h3 _ (getD_mem h)
              have l0 := fun h : j + m + 2 < L.length => h3 _ (getD_mem (show j + m + 1 < L.length by omega))
              refine CW_seq ?_
              refine cR ?_
              iterate 2 refine oM rfl rfl ?_
              first | refine oQ (Q_len rfl rfl rfl rfl) rfl rfl ?_ | refine oQ (Q_len0 rfl rfl rfl rfl) rfl rfl ?_
              refine oQ (Q_bin rfl rfl rfl) rfl rfl ?_
              refine oN ?_
              first | refine cT rfl ?_ | refine cF rfl ?_ | refine CW_cond rfl (fun hc => ?_) (fun hc => ?_)
              all_goals try simp only [s1, s2, s3, s4, s5, s6, s7, s8, s9, s10, s11, s12] at hc
              all_goals try (exfalso; (omega); done)
              all_goals first
                | (
                 refine CW_skip ?_)
                | (
                 refine CW_exit ?_)
              all_goals first
                | with_reducible refine tR ?_
                | with_reducible refine tE ?_
                | (
                 with_reducible refine tN ?_
                 refine CW_seq ?_
                 refine CW_block ?_
                 refine CW_seq ?_
                 refine CW_draw lateOk (by decide +kernel) ?_
                 iterate 2 refine qM rfl rfl ?_
                 (have hml : j + m + 2 < L.length := by omega); (have hg1 := hg1 hml); (have hg0 := hg0 hml); (have l1 := l1 hml); (have l0 := l0 hml); refine qQ (Q_ixsz 3 rfl rfl rfl rfl rfl rfl (by omega)) rfl rfl ?_
                 refine qQ (Q_lda (n := 3) rfl rfl rfl rfl rfl (by rw [hcl]; omega)) rfl rfl ?_; rw [show (j + 1) * 3 + (m + 1) * 3 = (j + m + 2) * 3 by omega, hg1]
                 iterate 2 refine qM rfl rfl ?_
                 refine qQ (Q_binu (z := ((m : Nat) : Int)) rfl rfl (congrArg some (by omega)) (by omega)) rfl rfl ?_
                 refine qQ (Q_ixsz 3 rfl rfl rfl rfl rfl rfl (by omega)) rfl rfl ?_
                 refine qQ (Q_lda (n := 3) rfl rfl rfl rfl rfl (by rw [hcl]; omega)) rfl rfl ?_; rw [show (j + 1) * 3 + m * 3 = (j + m + 1) * 3 by omega, hg0]
                 refine qQ (Q_arrb rfl rfl rfl rfl rfl rfl rfl rfl rfl l1 l0) rfl rfl ?_
                 refine QW_nil ?_
                 all_goals with_reducible refine tN ?_
                 all_goals (
                  first | refine cT rfl ?_ | refine cF rfl ?_ | refine CW_cond rfl (fun hc => ?_) (fun hc => ?_)
                  all_goals try simp only [s1, s2, s3, s4, s5, s6, s7, s8, s9, s10, s11, s12] at hc
                  all_goals try (exfalso; (omega); done)
                  all_goals first
                    | (
                     refine CW_skip ?_)
                    | (
                     refine cR ?_
                     iterate 4 refine oM rfl rfl ?_
                     refine oQ (Q_ixsz 3 rfl rfl rfl rfl rfl rfl (by omega)) rfl rfl ?_
                     refine oQ (Q_lda (n := 3) rfl rfl rfl rfl rfl (by rw [hcl]; omega)) rfl rfl ?_; rw [show (j + 1) * 3 + (m + 1) * 3 = (j + m + 2) * 3 by omega, hg1]
                     refine oQ (Q_ixs0z 3 rfl rfl rfl rfl rfl rfl (by omega)) rfl rfl ?_
                     first | refine oSw rfl rfl rfl rfl ?_ | refine oSa rfl rfl rfl rfl ?_
                     refine oN ?_
                     refine CW_region ?_
                     refine oM rfl rfl ?_
                     first | refine oQ (Q_binu rfl rfl rfl (by omega)) rfl rfl ?_ | refine oQ (Q_bin rfl rfl rfl) rfl rfl ?_
                     refine oA rfl rfl ?_
                     refine OW_nil ?_))
                 all_goals first | with_reducible refine bN ?_ | with_reducible refine bE ?_ | with_reducible refine bR ?_ | refine bX rfl ?_
                 all_goals with_reducible refine tN ?_
                 all_goals (
                  refine CW_region ?_
                  refine oM rfl rfl ?_
                  first | refine oQ (Q_binu rfl rfl rfl (by omega)) rfl rfl ?_ | refine oQ (Q_bin rfl rfl rfl) rfl rfl ?_
                  refine oA rfl rfl ?_
                  refine OW_nil ?_))
              all_goals first
                | with_reducible refine tR ?_
                | with_reducible refine tE ?_
                | (
                 with_reducible refine tN ?_
                 first
                   | (
                    refine ⟨(m + 1, (junk ++ L.getD (j + m + 1) []).drop 3), ?_, ?_, View.mk' [] rfl rfl rfl ?_ ?_⟩
                    · dsimp only
                      first
                        | (have he : ¬ L.getD (j + m + 2) [] = L.getD (j + m + 2 - 1) [] := (by simpa using hc)
                           rw [show j + (m + 1) + 2 = (j + m + 2) + 1 by omega, ddK_yes he, List.length_drop, List.length_append, List.length_append, List.length_singleton, l0]
                           exact ⟨by omega, by omega⟩)
                        | (have he : L.getD (j + m + 2) [] = L.getD (j + m + 2 - 1) [] := (by simpa using hc)
                           rw [show j + (m + 1) + 2 = (j + m + 2) + 1 by omega, ddK_no (by omega) he, List.length_append, l0]
                           exact ⟨by omega, by omega⟩)
                    · omega
                    all_goals (repeat' first | exact vFn | refine vFc rfl ?_ | exact vHn | refine vHc rfl ?_ | refine vFc (congrArg (fun z => some (V.int z)) ?_) ?_ | refine vHc (congrArg (fun z => some (Blk.ints _ z)) ?_) ?_ | refine vFc (congrArg (fun z => some (V.bool z)) ?_) ?_ | refine vFs rfl rfl ?_ ?_)
                    all_goals dsimp only
                    all_goals first
                      | (have he : ¬ L.getD (j + m + 2) [] = L.getD (j + m + 2 - 1) [] := (by simpa using hc)
                         first
                           | (rw [show j + (m + 1) + 2 = (j + m + 2) + 1 by omega, ddK_yes he, List.length_append, List.length_singleton]; rfl)
                           | exact cm_keep (j := j + m + 2) h3 (by omega) hml he hd3)
                      | (have he : L.getD (j + m + 2) [] = L.getD (j + m + 2 - 1) [] := (by simpa using hc)
                         first
                           | (rw [show j + (m + 1) + 2 = (j + m + 2) + 1 by omega, ddK_no (by omega) he]; done)
                           | exact cm_skip (j := j + m + 2) (by omega) hml he))
                   | (
                    refine ⟨(m + 1, junk ++ L.getD (j + m + 1) []), ?_, ?_, View.mk' [] rfl rfl rfl ?_ ?_⟩
                    · dsimp only
                      first
                        | (have he : ¬ L.getD (j + m + 2) [] = L.getD (j + m + 2 - 1) [] := (by simpa using hc)
                           rw [show j + (m + 1) + 2 = (j + m + 2) + 1 by omega, ddK_yes he, List.length_drop, List.length_append, List.length_append, List.length_singleton, l0]
                           exact ⟨by omega, by omega⟩)
                        | (have he : L.getD (j + m + 2) [] = L.getD (j + m + 2 - 1) [] := (by simpa using hc)
                           rw [show j + (m + 1) + 2 = (j + m + 2) + 1 by omega, ddK_no (by omega) he, List.length_append, l0]
                           exact ⟨by omega, by omega⟩)
                    · omega
                    all_goals (repeat' first | exact vFn | refine vFc rfl ?_ | exact vHn | refine vHc rfl ?_ | refine vFc (congrArg (fun z => some (V.int z)) ?_) ?_ | refine vHc (congrArg (fun z => some (Blk.ints _ z)) ?_) ?_ | refine vFc (congrArg (fun z => some (V.bool z)) ?_) ?_ | refine vFs rfl rfl ?_ ?_)
                    all_goals dsimp only
                    all_goals first
                      | (have he : ¬ L.getD (j + m + 2) [] = L.getD (j + m + 2 - 1) [] := (by simpa using hc)
                         first
                           | (rw [show j + (m + 1) + 2 = (j + m + 2) + 1 by omega, ddK_yes he, List.length_append, List.length_singleton]; rfl)
                           | exact cm_keep (j := j + m + 2) h3 (by omega) hml he hd3)
                      | (have he : L.getD (j + m + 2) [] = L.getD (j + m + 2 - 1) [] := (by simpa using hc)
                         first
                           | (rw [show j + (m + 1) + 2 = (j + m + 2) + 1 by omega, ddK_no (by omega) he]; done)
                           | exact cm_skip (j := j + m + 2) (by omega) hml he)))
              all_goals first | with_reducible refine bN ?_ | with_reducible refine bE ?_ | with_reducible refine bR ?_ | refine bX rfl ?_
              all_goals with_reducible refine tN ?_
              all_goals (
               refine cR ?_
               iterate 2 refine oM rfl rfl ?_
               (have em : j + m + 2 = L.length := by omega); refine oQ (Q_slsL 3 rfl rfl rfl rfl rfl rfl (by omega) (by omega)) rfl rfl ?_; rw [if_neg (show ¬ k = (ddK L (j + m + 2)).length by omega), Nat.zero_add]
               refine oClear (sz := 3) rfl rfl rfl rfl ⟨by decide, rfl, .inr rfl⟩ rfl rfl (by rw [hcl]; omega) ?_
               refine oN ?_
               refine cR ?_
               iterate 2 refine oM rfl rfl ?_
               refine oQ (Q_slsH rfl rfl rfl rfl rfl (by omega)) rfl rfl ?_
               refine oA rfl rfl ?_
               refine oN ?_
               refine CW_ret ?_)))
          all_goals first | with_reducible refine bN ?_ | with_reducible refine bE ?_ | with_reducible refine bR ?_ | refine bX rfl ?_
          all_goals first
            | with_reducible refine tR ?_
            | with_reducible refine tE ?_
            | (
             with_reducible refine tN ?_
             refine CW_region ?_
             refine oM rfl rfl ?_
             first | refine oQ (Q_binu rfl rfl rfl (by omega)) rfl rfl ?_ | refine oQ (Q_bin rfl rfl rfl) rfl rfl ?_
             refine oA rfl rfl ?_
             refine OW_nil ?_))
       all_goals first
         | with_reducible refine tR ?_
         | with_reducible refine tE ?_
         | (
          with_reducible refine tN ?_
          refine ⟨j + 1, ?_, ?_, View.mk' [] rfl rfl rfl ?_ ?_⟩
          · exact ⟨by omega, ddK_take hjl hdj (.inr (by simpa using hc))⟩
          · omega
          all_goals (repeat' first | exact vFn | refine vFc rfl ?_ | exact vHn | refine vHc rfl ?_ | refine vFc (congrArg (fun z => some (V.int z)) ?_) ?_ | refine vHc (congrArg (fun z => some (Blk.ints _ z)) ?_) ?_ | refine vFc (congrArg (fun z => some (V.bool z)) ?_) ?_ | refine vFs rfl rfl ?_ ?_))
       all_goals first | with_reducible refine bN ?_ | with_reducible refine bE ?_ | with_reducible refine bR ?_ | refine bX rfl ?_
       all_goals first
         | with_reducible refine tR ?_
         | with_reducible refine tE ?_
         | (
          with_reducible refine tN ?_
          refine cR ?_
          refine oM rfl rfl ?_
          refine oA rfl rfl ?_
          refine oN ?_
          refine CW_ret ?_))
    all_goals (
     first
       | (have e : j + 1 = L.length := (by omega)
          have hR : ddL L = L := (by rw [ddL, ← e, hdj, e, List.take_length])
          rw [hR]
          exact exitH (r0 := .slice 0 0 L.length k) (.inr rfl) [] 1 (.cons (.tmp rfl rfl) .nil) rfl rfl rfl (vHc rfl vHn) rfl rfl ⟨[], by simp, rfl, rfl⟩)
       | (rw [em] at hju
          have hE := cm_end (L := L) (junk := junk) (sp := sp) h3 (by omega) (by rw [ddL]; omega) (ddK_three h3 (Nat.le_refl _))
          refine exitH (r0 := .slice 0 0 (ddL L).length k) (H0 := [(0, .ints 49 ((ddL L).flatten ++ (List.replicate ((L.length - (ddL L).length) * 3) 0 ++ sp)))]) (.inr rfl) [] 1 (.cons (.tmp rfl rfl) .nil) ?_ rfl rfl (vHc ?_ vHn) rfl rfl ⟨_, by simp, rfl, rfl⟩
          · rw [em]; rfl
          · rw [em, ← hE]; rfl))
end Go.Proofs.Ytmcmbpoebhjecaa
