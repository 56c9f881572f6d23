/- What the last text of ThirdPoint needs, part 10: contracts of functions and plain mathematics. No conditions beyond those each theorem states. -/
import Derived.Test.YtcklfkblhmlbbaaDoorBThirdPointI
namespace Go.Proofs.YtcklfkblhmlbbaaDoor
set_option maxRecDepth 10000
set_option linter.unusedSimpArgs false
set_option linter.unusedVariables false
attribute [local irreducible] CW OW QW QOp Con thenP inBlockP AW QX RW AX
theorem third_con (p : Int) (c a b : List Int) (hp : primeB p = true) (hcl : c.length = 10) (qc : smN 12 c) (ha : a ∈ allPts p) (hb : b ∈ allPts p) : ConQ Tryd.prog [(0, 2000)] 65 [.arr c, .int p, .arr a, .arr b] [(2000, .ro 0 cuT)] (.tuple [.arr (thV p c a b), .bool (thK p c a b)]) := by
  have hal := allPts_three ha
  have hbl := allPts_three hb
  have hpb := prime_bd hp
  have htal : (tgL p c a).length = 3 := by unfold tgL; rw [normL_length]; rfl
  have htbl : (tgL p c b).length = 3 := by unfold tgL; rw [normL_length]; rfl
  have hcrl := crN_len p a b
  have hO : thO p c a b = if okT p c a = true ∧ okT p c b = true ∧ meB p c (thL p c a b) = false then (thF a b (mePts p c (thL p c a b)) (meCts p c (thL p c a b))).map fun i => (mePts p c (thL p c a b)).getD i [] else none := rfl
  have hta := tangent_con p c a hp hcl hal qc (allPts_smN hp ha)
  change ConQ _ _ _ _ _ (.tuple [.arr (tgL p c a), .bool (okT p c a)]) at hta
  have htb := tangent_con p c b hp hcl hbl qc (allPts_smN hp hb)
  change ConQ _ _ _ _ _ (.tuple [.arr (tgL p c b), .bool (okT p c b)]) at htb
  by_cases hk : okT p c a = true ∧ okT p c b = true
  · obtain ⟨hka, hkb⟩ := hk
    rw [hka] at hta
    rw [hkb] at htb
    cases hz : meB p c (thL p c a b) with
    | false =>
      have htm := thL_mem hp ha hb hka
      have htl := allPts_three htm
      have hm := mult_con p c (thL p c a b) hp hcl qc htm hz
      have h3 : ∀ x ∈ mePts p c (thL p c a b), x.length = 3 := fun x hx => allPts_three (me_mem hx)
      have hf3 := flat3 h3
      have hcl2 := me_len p c (thL p c a b)
      have hbd := fun (i : Nat) (hi : i < (mePts p c (thL p c a b)).length) => me_bd (p := p) (c := c) (l := thL p c a b) hi
      have hln : (mePts p c (thL p c a b)).length ≤ 1000000000 := by
        have h1 := mPts_len p c (lnV p (thL p c a b)) (lnV p (thL p c a b)).length
        have h2 := lnV_len hp htm
        unfold mePts
        omega
      rw [if_pos ⟨hka, hkb, hz⟩] at hO
      generalize mePts p c (thL p c a b) = PP at *
      generalize meCts p c (thL p c a b) = CC at *
      have hP3 := h3
      refine conW tab_ok [(0, .arr c), (1, .int p), (2, .arr a), (3, .arr b)] 0 [2000] [] Tryd.func65 rfl rfl rfl rfl rfl rfl rfl rfl rfl ?_
      refine cR ?_
      iterate 3 refine oBox rfl rfl rfl rfl rfl rfl ?_
      refine oAlloc rfl rfl rfl rfl rfl rfl rfl ?_
      refine oA rfl rfl ?_
      refine oN ?_
      refine cR ?_
      first | refine oQ (Lw rfl rfl rfl rfl) rfl rfl ?_ | refine oQ (La rfl rfl rfl rfl rfl) rfl rfl ?_
      refine oM rfl rfl ?_
      first | refine oQ (Lw rfl rfl rfl rfl) rfl rfl ?_ | refine oQ (La rfl rfl rfl rfl rfl) rfl rfl ?_
      refine oQe (Q_call (hta) [] rfl rfl (Fits.mk' (vHc rfl vHn) rfl rfl (by first | (simp; done) | exact glOk rfl rfl rfl)) rfl rfl) (show _ = .tuple [.arr (tgL p c a), .bool true] from rfl) rfl rfl ?_
      refine oM rfl rfl ?_
      iterate 2 refine oQ (Q_extract rfl rfl) rfl rfl ?_
      refine oAlloc rfl rfl rfl rfl rfl rfl rfl ?_
      first | refine oSw rfl rfl rfl rfl ?_ | refine oSa rfl rfl rfl rfl ?_
      refine oA rfl rfl ?_
      refine oN ?_
      refine cR ?_
      first | refine oQ (Lw rfl rfl rfl rfl) rfl rfl ?_ | refine oQ (La rfl rfl rfl rfl rfl) rfl rfl ?_
      refine oM rfl rfl ?_
      first | refine oQ (Lw rfl rfl rfl rfl) rfl rfl ?_ | refine oQ (La rfl rfl rfl rfl rfl) rfl rfl ?_
      refine oQe (Q_call (htb) [] rfl rfl (Fits.mk' (vHc rfl vHn) rfl rfl (by first | (simp; done) | exact glOk rfl rfl rfl)) rfl rfl) (show _ = .tuple [.arr (tgL p c b), .bool true] from rfl) rfl rfl ?_
      refine oM rfl rfl ?_
      iterate 2 refine oQ (Q_extract rfl rfl) rfl rfl ?_
      refine oAlloc rfl rfl rfl rfl rfl rfl rfl ?_
      first | refine oSw rfl rfl rfl rfl ?_ | refine oSa rfl rfl rfl rfl ?_
      refine oA rfl rfl ?_
      refine oN ?_
      refine CW_seq ?_
      refine cR ?_
      refine oM rfl rfl ?_
      refine oQe (Q_not rfl) (show _ = V.bool false from rfl) rfl rfl ?_
      refine oM rfl rfl ?_
      all_goals first | refine oT rfl rfl ?_ | refine o1 rfl rfl rfl ?_ | refine o0 rfl rfl rfl ?_ | refine ogP1 rfl rfl rfl (fun hg => ?_) (fun hg => ?_) | refine ogP0 rfl rfl rfl (fun hg => ?_) (fun hg => ?_)
      all_goals try simp only [s1, s2, s3, s4, s5, s6, s7, s8, s9, s10, s11, s12] at hg
      all_goals first | (refine oM rfl rfl ?_) | skip
      all_goals first | refine oT rfl rfl ?_ | refine o1 rfl rfl rfl ?_ | refine o0 rfl rfl rfl ?_ | refine ogP1 rfl rfl rfl (fun hg => ?_) (fun hg => ?_) | refine ogP0 rfl rfl rfl (fun hg => ?_) (fun hg => ?_)
      all_goals try simp only [s1, s2, s3, s4, s5, s6, s7, s8, s9, s10, s11, s12] at hg
      all_goals first | (refine oQe (Q_not rfl) (show _ = V.bool false from rfl) rfl rfl ?_) | skip
      all_goals first | refine oQ (Q_pick_t rfl (by with_reducible rfl) rfl rfl) rfl rfl ?_ | refine oQ (Q_pick_f rfl (by with_reducible rfl) rfl rfl) rfl rfl ?_
      all_goals refine oN ?_
      all_goals (
       first | refine cT rfl ?_ | refine cF rfl ?_ | refine CW_cond rfl (fun hc => ?_) (fun hc => ?_)
       all_goals try simp only [s1, s2, s3, s4, s5, s6, s7, s8, s9, s10, s11, s12] at hc
       all_goals try (exfalso; (cases hc; done); done)
       all_goals first
         | (
          refine CW_skip ?_)
         | (
          refine cR ?_
          refine oQ (Q_build rfl rfl rfl rfl rfl rfl rfl rfl) rfl rfl ?_
          first | refine oSw rfl rfl rfl rfl ?_ | refine oSa rfl rfl rfl rfl ?_
          refine oA rfl rfl ?_
          refine oN ?_
          refine CW_ret ?_))
      all_goals first
        | with_reducible refine tR ?_
        | with_reducible refine tE ?_
        | (
         with_reducible refine tN ?_
         refine CW_cut (ι := Unit) (fun _ => True) (fun _ => ⟨[(1, .int p), (4, .ptr 0 0), (6, .ptr 1 0), (7, .ptr 2 0), (8, .ptr 3 0), (10, .ptr 4 0)], [(0, .ints 27 c), (1, .ints 29 a), (2, .ints 29 b), (3, .ints 29 [0, 0, 0]), (4, .ints 24 (thL p c a b)), (2000, .ro 0 cuT)], 6⟩) ?_ ?_
         · (
          refine cR ?_
          first | refine oQ (Lw rfl rfl rfl rfl) rfl rfl ?_ | refine oQ (La rfl rfl rfl rfl rfl) rfl rfl ?_
          first | refine oQ (Lw rfl rfl rfl rfl) rfl rfl ?_ | refine oQ (La rfl rfl rfl rfl rfl) rfl rfl ?_
          refine oQ (Q_arrb rfl rfl rfl rfl rfl rfl rfl rfl rfl (by first | omega | (dsimp only; omega) | (simp; omega) | (simp; done)) (by first | omega | (dsimp only; omega) | (simp; omega) | (simp; done))) rfl rfl ?_
          refine oN ?_
          first | refine cT rfl ?_ | refine cF rfl ?_ | refine CW_cond rfl (fun hc => ?_) (fun hc => ?_)
          all_goals try simp only [s1, s2, s3, s4, s5, s6, s7, s8, s9, s10, s11, s12] at hc
          all_goals try (exfalso; (cases hc; done); done)
          all_goals first
            | (
             refine CW_skip ?_)
            | (
             refine CW_region ?_
             refine oM rfl rfl ?_
             first | refine oQ (Lw rfl rfl rfl rfl) rfl rfl ?_ | refine oQ (La rfl rfl rfl rfl rfl) rfl rfl ?_
             first | refine oQ (Lw rfl rfl rfl rfl) rfl rfl ?_ | refine oQ (La rfl rfl rfl rfl rfl) rfl rfl ?_
             refine oQ (Q_call0 (join_con p a b hp hal hbl (allPts_sm hp ha) (allPts_sm hp hb)) rfl rfl rfl) rfl rfl ?_
             first | refine oSw rfl rfl rfl rfl ?_ | refine oSa rfl rfl rfl rfl ?_
             refine OW_nil ?_)
          all_goals with_reducible refine tN ?_
          all_goals (
           refine ⟨(), ?_, View.mk' [] rfl rfl rfl ?_ ?_⟩
           · first | trivial | omega
           all_goals (repeat' first | exact vFn | refine vFc rfl ?_ | exact vHn | refine vHc rfl ?_ | refine vFc (congrArg (fun z => some (V.int z)) ?_) ?_ | refine vHc (congrArg (fun z => some (Blk.ints _ z)) ?_) ?_ | refine vFc (congrArg (fun z => some (V.bool z)) ?_) ?_ | refine vFs rfl rfl ?_ ?_)
           all_goals first | exact (if_pos (by simpa using hc)).symm | exact (if_neg (by simpa using hc)).symm))
         intro _ _
         refine cR ?_
         first | refine oQ (Lw rfl rfl rfl rfl) rfl rfl ?_ | refine oQ (La rfl rfl rfl rfl rfl) rfl rfl ?_
         refine oM rfl rfl ?_
         first | refine oQ (Lw rfl rfl rfl rfl) rfl rfl ?_ | refine oQ (La rfl rfl rfl rfl rfl) rfl rfl ?_
         refine oCall (hm) [] 2 rfl rfl (Fits.mk' (vHc rfl vHn) rfl rfl (by first | (simp; done) | exact glOk rfl rfl rfl)) rfl rfl ?_
         rintro r H1 ⟨k, sp, k', sp', h1, h2, h3, h4, rfl, rfl⟩
         refine ⟨.tuple [.slice 6 0 PP.length k, .slice 7 0 PP.length k', .bool true], [(2000, .ro 0 cuT), (6, .ints 29 (PP.flatten ++ sp)), (7, .ints 2 (CC ++ sp'))], rfl, rfl, rfl, ?_⟩
         refine oM rfl rfl ?_
         iterate 3 refine oQ (Q_extract rfl rfl) rfl rfl ?_
         iterate 3 refine oA rfl rfl ?_
         refine oN ?_
         refine CW_seq ?_
         refine cR ?_
         refine oM rfl rfl ?_
         refine oQ (Q_not rfl) rfl rfl ?_
         refine oN ?_
         first | refine cT rfl ?_ | refine cF rfl ?_ | refine CW_cond rfl (fun hc => ?_) (fun hc => ?_)
         all_goals try simp only [s1, s2, s3, s4, s5, s6, s7, s8, s9, s10, s11, s12] at hc
         all_goals try (exfalso; (cases hc; done); done)
         all_goals first
           | (
            refine CW_skip ?_)
           | (
            refine cR ?_
            refine oQ (Q_build rfl rfl rfl rfl rfl rfl rfl rfl) rfl rfl ?_
            first | refine oSw rfl rfl rfl rfl ?_ | refine oSa rfl rfl rfl rfl ?_
            refine oA rfl rfl ?_
            refine oN ?_
            refine CW_ret ?_)
         all_goals first
           | with_reducible refine tR ?_
           | with_reducible refine tE ?_
           | (
            with_reducible refine tN ?_
            refine CW_seq ?_
            refine cR ?_
            refine oM rfl rfl ?_
            first | refine oQ (Q_len rfl rfl rfl rfl) rfl rfl ?_ | refine oQ (Q_len0 rfl rfl rfl rfl) rfl rfl ?_
            refine oM rfl rfl ?_
            refine oN ?_
            refine CW_block ?_
            refine CW_loop (ι := Nat × List Int) (fun x => x.1 ≤ PP.length ∧ x.2.length = (CC ++ sp').length ∧ (∀ j, x.1 ≤ j → j < PP.length → x.2.getD j 0 = CC.getD j 0) ∧ ∀ j, j < x.1 → ¬ 0 < lf a b PP CC j) (fun x => ⟨[(6, .ptr 1 0), (7, .ptr 2 0), (8, .ptr 3 0), (15, .slice 7 0 PP.length k'), (58, .slice 6 0 PP.length k), (59, .int (PP.length : Nat)), (60, .int (x.1 : Nat))], [(1, .ints 29 a), (2, .ints 29 b), (3, .ints 29 [0, 0, 0]), (6, .ints 29 (PP.flatten ++ sp)), (7, .ints 2 x.2), (2000, .ro 0 cuT)], 8⟩) (fun x => PP.length - x.1) (0, CC ++ sp') ?_ ?_ ?_
            · exact ⟨Nat.zero_le _, rfl, fun j _ hj => by simp [List.getD, List.getElem?_append, show j < CC.length by omega], fun j h => absurd h (Nat.not_lt_zero _)⟩
            · refine View.mk' [] rfl rfl rfl ?_ ?_
              repeat' first | exact vFn | refine vFc rfl ?_ | exact vHn | refine vHc rfl ?_ | refine vFc (congrArg (fun z => some (V.int z)) ?_) ?_ | refine vHc (congrArg (fun z => some (Blk.ints _ z)) ?_) ?_ | refine vFc (congrArg (fun z => some (V.bool z)) ?_) ?_ | refine vFs rfl rfl ?_ ?_
            rintro ⟨i, C'⟩ ⟨hi, hCl, hag, hno⟩
            dsimp only at hi hCl hag hno ⊢
            rw [List.length_append] at hCl
            refine cR ?_
            refine oQ (Q_bin rfl rfl rfl) rfl rfl ?_
            refine oN ?_
            refine CW_seq ?_
            first | refine cT rfl ?_ | refine cF rfl ?_ | refine CW_cond rfl (fun hc => ?_) (fun hc => ?_)
            all_goals try simp only [s1, s2, s3, s4, s5, s6, s7, s8, s9, s10, s11, s12] at hc
            all_goals try (exfalso; (cases hc; done); done)
            all_goals first
              | (
               refine CW_skip ?_)
              | (
               refine CW_exit ?_)
            all_goals first
              | with_reducible refine tR ?_
              | with_reducible refine tE ?_
              | (
               with_reducible refine tN ?_
               refine CW_seq ?_
               refine CW_block ?_
               refine cR ?_
               refine oM rfl rfl ?_
               (have hiL : i < PP.length := by omega); (have h3i := hP3 _ (getD_mem hiL)); (have hci := hag i (Nat.le_refl _) hiL); (have hcb := hbd i hiL); (have hiC : i < C'.length := by omega); refine oQ (Q_ixs0z 3 rfl rfl rfl rfl rfl rfl (by omega)) rfl rfl ?_
               refine oQ (Q_lda (n := 3) rfl rfl rfl rfl rfl (by rw [List.length_append, hf3]; omega)) rfl rfl ?_; rw [flat_get hP3 hiL]
               refine oAlloc rfl rfl rfl rfl rfl rfl rfl ?_
               refine oA rfl rfl ?_
               first | refine oSw rfl rfl rfl rfl ?_ | refine oSa rfl rfl rfl rfl ?_
               refine oN ?_
               refine CW_seq ?_
               refine cR ?_
               first | refine oQ (Lw rfl rfl rfl rfl) rfl rfl ?_ | refine oQ (La rfl rfl rfl rfl rfl) rfl rfl ?_
               first | refine oQ (Lw rfl rfl rfl rfl) rfl rfl ?_ | refine oQ (La rfl rfl rfl rfl rfl) rfl rfl ?_
               refine oQ (Q_arrb rfl rfl rfl rfl rfl rfl rfl rfl rfl (by first | omega | (dsimp only; omega) | (simp; omega) | (simp; done)) (by first | omega | (dsimp only; omega) | (simp; omega) | (simp; done))) rfl rfl ?_
               refine oN ?_
               first | refine cT rfl ?_ | refine cF rfl ?_ | refine CW_cond rfl (fun hc => ?_) (fun hc => ?_)
               all_goals try simp only [s1, s2, s3, s4, s5, s6, s7, s8, s9, s10, s11, s12] at hc
               all_goals try (exfalso; (cases hc; done); done)
               all_goals first
                 | (
                  refine CW_skip ?_)
                 | (
                  refine CW_region ?_
                  iterate 2 refine oM rfl rfl ?_
                  first | refine oQ (Is0 rfl rfl rfl rfl rfl rfl) rfl rfl ?_ | refine oQ (Is1 rfl rfl rfl rfl rfl rfl) rfl rfl ?_
                  refine oQ (Ld rfl rfl rfl rfl) rfl rfl ?_
                  first | refine oQ (Q_binu rfl rfl rfl (by omega)) rfl rfl ?_ | refine oQ (Q_bin rfl rfl rfl) rfl rfl ?_
                  first | refine oQ (Is0 rfl rfl rfl rfl rfl rfl) rfl rfl ?_ | refine oQ (Is1 rfl rfl rfl rfl rfl rfl) rfl rfl ?_
                  refine oS rfl rfl rfl rfl rfl ?_
                  refine OW_nil ?_)
               all_goals with_reducible refine tN ?_
               all_goals (
                refine CW_seq ?_
                refine cR ?_
                (have hca := hc); refine oQ (Q_ldw rfl rfl rfl rfl h3i) rfl rfl ?_
                first | refine oQ (Lw rfl rfl rfl rfl) rfl rfl ?_ | refine oQ (La rfl rfl rfl rfl rfl) rfl rfl ?_
                refine oQ (Q_arrb rfl rfl rfl rfl rfl rfl rfl rfl rfl (by first | omega | (dsimp only; omega) | (simp; omega) | (simp; done)) (by first | omega | (dsimp only; omega) | (simp; omega) | (simp; done))) rfl rfl ?_
                refine oN ?_
                first | refine cT rfl ?_ | refine cF rfl ?_ | refine CW_cond rfl (fun hc => ?_) (fun hc => ?_)
                all_goals try simp only [s1, s2, s3, s4, s5, s6, s7, s8, s9, s10, s11, s12] at hc
                all_goals try (exfalso; (cases hc; done); done)
                all_goals first
                  | (
                   refine CW_skip ?_)
                  | (
                   refine CW_region ?_
                   iterate 2 refine oM rfl rfl ?_
                   first | refine oQ (Is0 rfl rfl rfl rfl rfl rfl) rfl rfl ?_ | refine oQ (Is1 rfl rfl rfl rfl rfl rfl) rfl rfl ?_
                   refine oQ (Ld rfl rfl rfl rfl (by first | omega | (rw [List.length_set]; omega))) rfl rfl ?_; try rw [gs hiC]
                   first | refine oQ (Q_binu rfl rfl rfl (by omega)) rfl rfl ?_ | refine oQ (Q_bin rfl rfl rfl) rfl rfl ?_
                   first | refine oQ (Is0 rfl rfl rfl rfl rfl rfl) rfl rfl ?_ | refine oQ (Is1 rfl rfl rfl rfl rfl rfl) rfl rfl ?_
                   refine oS rfl rfl rfl rfl rfl ?_
                   refine OW_nil ?_)
                all_goals with_reducible refine tN ?_
                all_goals (
                 refine cR ?_
                 (have hcb2 := hc); refine oM rfl rfl ?_
                 refine oM rfl rfl ?_
                 first | refine oQ (Is0 rfl rfl rfl rfl rfl rfl) rfl rfl ?_ | refine oQ (Is1 rfl rfl rfl rfl rfl rfl) rfl rfl ?_
                 refine oQ (Ld rfl rfl rfl rfl (by first | omega | (rw [List.length_set]; omega) | (rw [List.length_set, List.length_set]; omega))) rfl rfl ?_
                 refine oName (fun z86 hz86 => ?_)
                 (have hlf : z86 = lf a b PP CC i := by rw [hz86]; unfold lf; first | rw [if_pos hcb2, if_pos hca, gs (by rw [List.length_set]; exact hiC), hci] | rw [if_pos hcb2, if_neg hca, gs hiC, hci] | rw [if_neg hcb2, if_pos hca, gs hiC, hci] | rw [if_neg hcb2, if_neg hca, hci])
                 subst hlf
                 refine oQ (Q_bin rfl rfl rfl) rfl rfl ?_
                 refine oN ?_
                 first | refine cT rfl ?_ | refine cF rfl ?_ | refine CW_cond rfl (fun hc => ?_) (fun hc => ?_)
                 all_goals try simp only [s1, s2, s3, s4, s5, s6, s7, s8, s9, s10, s11, s12] at hc
                 all_goals try (exfalso; (cases hc; done); done)
                 all_goals first
                   | (
                    refine CW_skip ?_)
                   | (
                    refine cR ?_
                    first | refine oQ (Lw rfl rfl rfl rfl) rfl rfl ?_ | refine oQ (La rfl rfl rfl rfl rfl) rfl rfl ?_
                    first | refine oSw rfl rfl rfl rfl ?_ | refine oSa rfl rfl rfl rfl ?_
                    refine oA rfl rfl ?_
                    refine oN ?_
                    refine CW_ret ?_)))
               all_goals first | with_reducible refine bN ?_ | with_reducible refine bE ?_ | with_reducible refine bR ?_ | refine bX rfl ?_
               all_goals first
                 | with_reducible refine tR ?_
                 | with_reducible refine tE ?_
                 | (
                  with_reducible refine tN ?_
                  refine CW_region ?_
                  first | refine oQ (Q_binu rfl rfl rfl (by omega)) rfl rfl ?_ | refine oQ (Q_bin rfl rfl rfl) rfl rfl ?_
                  refine oM rfl rfl ?_
                  refine OW_nil ?_))
            all_goals first
              | with_reducible refine tR ?_
              | with_reducible refine tE ?_
              | (
               with_reducible refine tN ?_
               first
                 | (
                  refine ⟨(i + 1, (C'.set i (C'.getD i 0 - 1)).set i (C'.getD i 0 - 1 - 1)), ?_, ?_, View.mk' [] rfl rfl rfl ?_ ?_⟩
                  · refine ⟨by dsimp only; omega, by simp [hCl], fun j hj1 hj2 => ?_, fun j hj => ?_⟩
                    · dsimp only at hj1 hj2 ⊢
                      first | (rw [gsn (by omega), gsn (by omega)]; exact hag j (by omega) hj2) | (rw [gsn (by omega)]; exact hag j (by omega) hj2) | exact hag j (by omega) hj2
                    · dsimp only at hj
                      by_cases e : j = i
                      · subst e; omega
                      · exact hno j (by omega)
                  · omega
                  all_goals (repeat' first | exact vFn | refine vFc rfl ?_ | exact vHn | refine vHc rfl ?_ | refine vFc (congrArg (fun z => some (V.int z)) ?_) ?_ | refine vHc (congrArg (fun z => some (Blk.ints _ z)) ?_) ?_ | refine vFc (congrArg (fun z => some (V.bool z)) ?_) ?_ | refine vFs rfl rfl ?_ ?_)
                  done)
                 | (
                  refine ⟨(i + 1, C'.set i (C'.getD i 0 - 1)), ?_, ?_, View.mk' [] rfl rfl rfl ?_ ?_⟩
                  · refine ⟨by dsimp only; omega, by simp [hCl], fun j hj1 hj2 => ?_, fun j hj => ?_⟩
                    · dsimp only at hj1 hj2 ⊢
                      first | (rw [gsn (by omega), gsn (by omega)]; exact hag j (by omega) hj2) | (rw [gsn (by omega)]; exact hag j (by omega) hj2) | exact hag j (by omega) hj2
                    · dsimp only at hj
                      by_cases e : j = i
                      · subst e; omega
                      · exact hno j (by omega)
                  · omega
                  all_goals (repeat' first | exact vFn | refine vFc rfl ?_ | exact vHn | refine vHc rfl ?_ | refine vFc (congrArg (fun z => some (V.int z)) ?_) ?_ | refine vHc (congrArg (fun z => some (Blk.ints _ z)) ?_) ?_ | refine vFc (congrArg (fun z => some (V.bool z)) ?_) ?_ | refine vFs rfl rfl ?_ ?_)
                  done)
                 | (
                  refine ⟨(i + 1, C'), ?_, ?_, View.mk' [] rfl rfl rfl ?_ ?_⟩
                  · refine ⟨by dsimp only; omega, by simp [hCl], fun j hj1 hj2 => ?_, fun j hj => ?_⟩
                    · dsimp only at hj1 hj2 ⊢
                      first | (rw [gsn (by omega), gsn (by omega)]; exact hag j (by omega) hj2) | (rw [gsn (by omega)]; exact hag j (by omega) hj2) | exact hag j (by omega) hj2
                    · dsimp only at hj
                      by_cases e : j = i
                      · subst e; omega
                      · exact hno j (by omega)
                  · omega
                  all_goals (repeat' first | exact vFn | refine vFc rfl ?_ | exact vHn | refine vHc rfl ?_ | refine vFc (congrArg (fun z => some (V.int z)) ?_) ?_ | refine vHc (congrArg (fun z => some (Blk.ints _ z)) ?_) ?_ | refine vFc (congrArg (fun z => some (V.bool z)) ?_) ?_ | refine vFs rfl rfl ?_ ?_)
                  done))
            all_goals first | with_reducible refine bN ?_ | with_reducible refine bE ?_ | with_reducible refine bR ?_ | refine bX rfl ?_
            all_goals first
              | with_reducible refine tR ?_
              | with_reducible refine tE ?_
              | (
               with_reducible refine tN ?_
               refine cR ?_
               refine oQ (Q_build rfl rfl rfl rfl rfl rfl rfl rfl) rfl rfl ?_
               first | refine oSw rfl rfl rfl rfl ?_ | refine oSa rfl rfl rfl rfl ?_
               refine oA rfl rfl ?_
               refine oN ?_
               refine CW_ret ?_)))
      all_goals (
       first
         | (have hf := thF_some (a := a) (b := b) (P := PP) (C := CC) (i := i) (by omega) hno (by omega)
            have e : thO p c a b = some (PP.getD i []) := hO.trans (by rw [hf, Option.map_some])
            obtain ⟨e1, e2⟩ := th_yes e
            refine exitQ (.inr rfl) 0 (.cons (.arr rfl rfl rfl rfl (by first | omega | (dsimp only; omega) | (simp; omega) | (simp; done))) (.cons (.tmp rfl rfl) .nil)) ?_ rfl (vHc rfl vHn) rfl rfl
            rw [e1, e2]
            rfl)
         | (have hf := thF_none (a := a) (b := b) (P := PP) (C := CC) (fun j hj => hno j (by omega))
            have e : thO p c a b = none := hO.trans (by rw [hf, Option.map_none])
            obtain ⟨e1, e2⟩ := th_no e
            refine exitQ (.inr rfl) 0 (.cons (.arr rfl rfl rfl rfl (by first | omega | (dsimp only; omega) | (simp; omega) | (simp; done))) (.cons (.tmp rfl rfl) .nil)) ?_ rfl (vHc rfl vHn) rfl rfl
            rw [e1, e2]
            rfl))
    | true =>
      have htm := thL_mem hp ha hb hka
      have htl := allPts_three htm
      have hm := multZ p c (thL p c a b) hp hcl qc htm hz
      rw [if_neg (fun x => by rw [hz] at x; cases x.2.2)] at hO
      obtain ⟨e1, e2⟩ := th_no hO
      refine conW tab_ok [(0, .arr c), (1, .int p), (2, .arr a), (3, .arr b)] 0 [2000] [] Tryd.func65 rfl rfl rfl rfl rfl rfl rfl rfl rfl ?_
      refine cR ?_
      iterate 3 refine oBox rfl rfl rfl rfl rfl rfl ?_
      refine oAlloc rfl rfl rfl rfl rfl rfl rfl ?_
      refine oA rfl rfl ?_
      refine oN ?_
      refine cR ?_
      first | refine oQ (Lw rfl rfl rfl rfl) rfl rfl ?_ | refine oQ (La rfl rfl rfl rfl rfl) rfl rfl ?_
      refine oM rfl rfl ?_
      first | refine oQ (Lw rfl rfl rfl rfl) rfl rfl ?_ | refine oQ (La rfl rfl rfl rfl rfl) rfl rfl ?_
      refine oQe (Q_call (hta) [] rfl rfl (Fits.mk' (vHc rfl vHn) rfl rfl (by first | (simp; done) | exact glOk rfl rfl rfl)) rfl rfl) (show _ = .tuple [.arr (tgL p c a), .bool true] from rfl) rfl rfl ?_
      refine oM rfl rfl ?_
      iterate 2 refine oQ (Q_extract rfl rfl) rfl rfl ?_
      refine oAlloc rfl rfl rfl rfl rfl rfl rfl ?_
      first | refine oSw rfl rfl rfl rfl ?_ | refine oSa rfl rfl rfl rfl ?_
      refine oA rfl rfl ?_
      refine oN ?_
      refine cR ?_
      first | refine oQ (Lw rfl rfl rfl rfl) rfl rfl ?_ | refine oQ (La rfl rfl rfl rfl rfl) rfl rfl ?_
      refine oM rfl rfl ?_
      first | refine oQ (Lw rfl rfl rfl rfl) rfl rfl ?_ | refine oQ (La rfl rfl rfl rfl rfl) rfl rfl ?_
      refine oQe (Q_call (htb) [] rfl rfl (Fits.mk' (vHc rfl vHn) rfl rfl (by first | (simp; done) | exact glOk rfl rfl rfl)) rfl rfl) (show _ = .tuple [.arr (tgL p c b), .bool true] from rfl) rfl rfl ?_
      refine oM rfl rfl ?_
      iterate 2 refine oQ (Q_extract rfl rfl) rfl rfl ?_
      refine oAlloc rfl rfl rfl rfl rfl rfl rfl ?_
      first | refine oSw rfl rfl rfl rfl ?_ | refine oSa rfl rfl rfl rfl ?_
      refine oA rfl rfl ?_
      refine oN ?_
      refine CW_seq ?_
      refine cR ?_
      refine oM rfl rfl ?_
      refine oQe (Q_not rfl) (show _ = V.bool false from rfl) rfl rfl ?_
      refine oM rfl rfl ?_
      all_goals first | refine oT rfl rfl ?_ | refine o1 rfl rfl rfl ?_ | refine o0 rfl rfl rfl ?_ | refine ogP1 rfl rfl rfl (fun hg => ?_) (fun hg => ?_) | refine ogP0 rfl rfl rfl (fun hg => ?_) (fun hg => ?_)
      all_goals try simp only [s1, s2, s3, s4, s5, s6, s7, s8, s9, s10, s11, s12] at hg
      all_goals first | (refine oM rfl rfl ?_) | skip
      all_goals first | refine oT rfl rfl ?_ | refine o1 rfl rfl rfl ?_ | refine o0 rfl rfl rfl ?_ | refine ogP1 rfl rfl rfl (fun hg => ?_) (fun hg => ?_) | refine ogP0 rfl rfl rfl (fun hg => ?_) (fun hg => ?_)
      all_goals try simp only [s1, s2, s3, s4, s5, s6, s7, s8, s9, s10, s11, s12] at hg
      all_goals first | (refine oQe (Q_not rfl) (show _ = V.bool false from rfl) rfl rfl ?_) | skip
      all_goals first | refine oQ (Q_pick_t rfl (by with_reducible rfl) rfl rfl) rfl rfl ?_ | refine oQ (Q_pick_f rfl (by with_reducible rfl) rfl rfl) rfl rfl ?_
      all_goals refine oN ?_
      all_goals (
       first | refine cT rfl ?_ | refine cF rfl ?_ | refine CW_cond rfl (fun hc => ?_) (fun hc => ?_)
       all_goals try simp only [s1, s2, s3, s4, s5, s6, s7, s8, s9, s10, s11, s12] at hc
       all_goals try (exfalso; first | (cases hc; done) | (simp at hc; done); done)
       all_goals first
         | (
          refine CW_skip ?_)
         | (
          refine cR ?_
          refine oQ (Q_build rfl rfl rfl rfl rfl rfl rfl rfl) rfl rfl ?_
          first | refine oSw rfl rfl rfl rfl ?_ | refine oSa rfl rfl rfl rfl ?_
          refine oA rfl rfl ?_
          refine oN ?_
          refine CW_ret ?_))
      all_goals first
        | with_reducible refine tR ?_
        | with_reducible refine tE ?_
        | (
         with_reducible refine tN ?_
         refine CW_cut (ι := Unit) (fun _ => True) (fun _ => ⟨[(1, .int p), (4, .ptr 0 0), (6, .ptr 1 0), (7, .ptr 2 0), (8, .ptr 3 0), (10, .ptr 4 0)], [(0, .ints 27 c), (1, .ints 29 a), (2, .ints 29 b), (3, .ints 29 [0, 0, 0]), (4, .ints 24 (thL p c a b)), (2000, .ro 0 cuT)], 6⟩) ?_ ?_
         · (
          refine cR ?_
          first | refine oQ (Lw rfl rfl rfl rfl) rfl rfl ?_ | refine oQ (La rfl rfl rfl rfl rfl) rfl rfl ?_
          first | refine oQ (Lw rfl rfl rfl rfl) rfl rfl ?_ | refine oQ (La rfl rfl rfl rfl rfl) rfl rfl ?_
          refine oQ (Q_arrb rfl rfl rfl rfl rfl rfl rfl rfl rfl (by first | omega | (dsimp only; omega) | (simp; omega) | (simp; done)) (by first | omega | (dsimp only; omega) | (simp; omega) | (simp; done))) rfl rfl ?_
          refine oN ?_
          first | refine cT rfl ?_ | refine cF rfl ?_ | refine CW_cond rfl (fun hc => ?_) (fun hc => ?_)
          all_goals try simp only [s1, s2, s3, s4, s5, s6, s7, s8, s9, s10, s11, s12] at hc
          all_goals try (exfalso; first | (cases hc; done) | (simp at hc; done); done)
          all_goals first
            | (
             refine CW_skip ?_)
            | (
             refine CW_region ?_
             refine oM rfl rfl ?_
             first | refine oQ (Lw rfl rfl rfl rfl) rfl rfl ?_ | refine oQ (La rfl rfl rfl rfl rfl) rfl rfl ?_
             first | refine oQ (Lw rfl rfl rfl rfl) rfl rfl ?_ | refine oQ (La rfl rfl rfl rfl rfl) rfl rfl ?_
             refine oQ (Q_call0 (join_con p a b hp hal hbl (allPts_sm hp ha) (allPts_sm hp hb)) rfl rfl rfl) rfl rfl ?_
             first | refine oSw rfl rfl rfl rfl ?_ | refine oSa rfl rfl rfl rfl ?_
             refine OW_nil ?_)
          all_goals with_reducible refine tN ?_
          all_goals (
           refine ⟨(), ?_, View.mk' [] rfl rfl rfl ?_ ?_⟩
           · first | trivial | omega
           all_goals (repeat' first | exact vFn | refine vFc rfl ?_ | exact vHn | refine vHc rfl ?_ | refine vFc (congrArg (fun z => some (V.int z)) ?_) ?_ | refine vHc (congrArg (fun z => some (Blk.ints _ z)) ?_) ?_ | refine vFc (congrArg (fun z => some (V.bool z)) ?_) ?_ | refine vFs rfl rfl ?_ ?_)
           all_goals first | exact (if_pos (by simpa using hc)).symm | exact (if_neg (by simpa using hc)).symm))
         intro _ _
         refine cR ?_
         first | refine oQ (Lw rfl rfl rfl rfl) rfl rfl ?_ | refine oQ (La rfl rfl rfl rfl rfl) rfl rfl ?_
         refine oM rfl rfl ?_
         first | refine oQ (Lw rfl rfl rfl rfl) rfl rfl ?_ | refine oQ (La rfl rfl rfl rfl rfl) rfl rfl ?_
         refine oQe (Q_call (hm) [] rfl rfl (Fits.mk' (vHc rfl vHn) rfl rfl (by first | (simp; done) | exact glOk rfl rfl rfl)) rfl rfl) (show _ = .tuple [.nilsl, .nilsl, .bool false] from rfl) rfl rfl ?_
         refine oM rfl rfl ?_
         iterate 3 refine oQ (Q_extract rfl rfl) rfl rfl ?_
         iterate 3 refine oA rfl rfl ?_
         refine oN ?_
         refine CW_seq ?_
         refine cR ?_
         refine oM rfl rfl ?_
         refine oQ (Q_not rfl) rfl rfl ?_
         refine oN ?_
         first | refine cT rfl ?_ | refine cF rfl ?_ | refine CW_cond rfl (fun hc => ?_) (fun hc => ?_)
         all_goals try simp only [s1, s2, s3, s4, s5, s6, s7, s8, s9, s10, s11, s12] at hc
         all_goals try (exfalso; first | (cases hc; done) | (simp at hc; done); done)
         all_goals first
           | (
            refine CW_skip ?_)
           | (
            refine cR ?_
            refine oQ (Q_build rfl rfl rfl rfl rfl rfl rfl rfl) rfl rfl ?_
            first | refine oSw rfl rfl rfl rfl ?_ | refine oSa rfl rfl rfl rfl ?_
            refine oA rfl rfl ?_
            refine oN ?_
            refine CW_ret ?_)
         all_goals first
           | with_reducible refine tR ?_
           | with_reducible refine tE ?_
           | (
            with_reducible refine tN ?_
            refine CW_seq ?_
            refine cR ?_
            refine oM rfl rfl ?_
            first | refine oQ (Q_len rfl rfl rfl rfl) rfl rfl ?_ | refine oQ (Q_len0 rfl rfl rfl rfl) rfl rfl ?_
            refine oM rfl rfl ?_
            refine oN ?_
            refine CW_block ?_
            fail "loop 0 wants its states"
            · first | trivial | omega | (simp; done) | (simp; omega)
            · refine View.mk' [] rfl rfl rfl ?_ ?_
              repeat' first | exact vFn | refine vFc rfl ?_ | exact vHn | refine vHc rfl ?_ | refine vFc (congrArg (fun z => some (V.int z)) ?_) ?_ | refine vHc (congrArg (fun z => some (Blk.ints _ z)) ?_) ?_ | refine vFc (congrArg (fun z => some (V.bool z)) ?_) ?_ | refine vFs rfl rfl ?_ ?_
            intro i hi
            refine cR ?_
            refine oQ (Q_bin rfl rfl rfl) rfl rfl ?_
            refine oN ?_
            refine CW_seq ?_
            first | refine cT rfl ?_ | refine cF rfl ?_ | refine CW_cond rfl (fun hc => ?_) (fun hc => ?_)
            all_goals try simp only [s1, s2, s3, s4, s5, s6, s7, s8, s9, s10, s11, s12] at hc
            all_goals try (exfalso; first | (cases hc; done) | (simp at hc; done); done)
            all_goals first
              | (
               refine CW_skip ?_)
              | (
               refine CW_exit ?_)
            all_goals first
              | with_reducible refine tR ?_
              | with_reducible refine tE ?_
              | (
               with_reducible refine tN ?_
               refine CW_seq ?_
               refine CW_block ?_
               refine cR ?_
               refine oM rfl rfl ?_
               first | refine oQ (Q_ixs0z 3 rfl rfl rfl rfl rfl rfl (by first | omega | (dsimp only; omega) | (simp; omega) | (simp; done))) rfl rfl ?_ | refine oQ (Q_ixsz 3 rfl rfl rfl rfl rfl rfl (by first | omega | (dsimp only; omega) | (simp; omega) | (simp; done))) rfl rfl ?_
               first | refine oQ (Lw rfl rfl rfl rfl) rfl rfl ?_ | refine oQ (La rfl rfl rfl rfl rfl) rfl rfl ?_
               refine oAlloc rfl rfl rfl rfl rfl rfl rfl ?_
               refine oA rfl rfl ?_
               first | refine oSw rfl rfl rfl rfl ?_ | refine oSa rfl rfl rfl rfl ?_
               refine oN ?_
               refine CW_seq ?_
               refine cR ?_
               first | refine oQ (Lw rfl rfl rfl rfl) rfl rfl ?_ | refine oQ (La rfl rfl rfl rfl rfl) rfl rfl ?_
               first | refine oQ (Lw rfl rfl rfl rfl) rfl rfl ?_ | refine oQ (La rfl rfl rfl rfl rfl) rfl rfl ?_
               refine oQ (Q_arrb rfl rfl rfl rfl rfl rfl rfl rfl rfl (by first | omega | (dsimp only; omega) | (simp; omega) | (simp; done)) (by first | omega | (dsimp only; omega) | (simp; omega) | (simp; done))) rfl rfl ?_
               refine oN ?_
               first | refine cT rfl ?_ | refine cF rfl ?_ | refine CW_cond rfl (fun hc => ?_) (fun hc => ?_)
               all_goals try simp only [s1, s2, s3, s4, s5, s6, s7, s8, s9, s10, s11, s12] at hc
               all_goals try (exfalso; first | (cases hc; done) | (simp at hc; done); done)
               all_goals first
                 | (
                  refine CW_skip ?_)
                 | (
                  refine CW_region ?_
                  iterate 2 refine oM rfl rfl ?_
                  first | refine oQ (Is0 rfl rfl rfl rfl rfl rfl) rfl rfl ?_ | refine oQ (Is1 rfl rfl rfl rfl rfl rfl) rfl rfl ?_
                  refine oQ (Ld rfl rfl rfl rfl) rfl rfl ?_
                  first | refine oQ (Q_binu rfl rfl rfl (by omega)) rfl rfl ?_ | refine oQ (Q_bin rfl rfl rfl) rfl rfl ?_
                  first | refine oQ (Is0 rfl rfl rfl rfl rfl rfl) rfl rfl ?_ | refine oQ (Is1 rfl rfl rfl rfl rfl rfl) rfl rfl ?_
                  refine oS rfl rfl rfl rfl rfl ?_
                  refine OW_nil ?_)
               all_goals with_reducible refine tN ?_
               all_goals (
                refine CW_seq ?_
                refine cR ?_
                first | refine oQ (Lw rfl rfl rfl rfl) rfl rfl ?_ | refine oQ (La rfl rfl rfl rfl rfl) rfl rfl ?_
                first | refine oQ (Lw rfl rfl rfl rfl) rfl rfl ?_ | refine oQ (La rfl rfl rfl rfl rfl) rfl rfl ?_
                refine oQ (Q_arrb rfl rfl rfl rfl rfl rfl rfl rfl rfl (by first | omega | (dsimp only; omega) | (simp; omega) | (simp; done)) (by first | omega | (dsimp only; omega) | (simp; omega) | (simp; done))) rfl rfl ?_
                refine oN ?_
                first | refine cT rfl ?_ | refine cF rfl ?_ | refine CW_cond rfl (fun hc => ?_) (fun hc => ?_)
                all_goals try simp only [s1, s2, s3, s4, s5, s6, s7, s8, s9, s10, s11, s12] at hc
                all_goals try (exfalso; first | (cases hc; done) | (simp at hc; done); done)
                all_goals first
                  | (
                   refine CW_skip ?_)
                  | (
                   refine CW_region ?_
                   iterate 2 refine oM rfl rfl ?_
                   first | refine oQ (Is0 rfl rfl rfl rfl rfl rfl) rfl rfl ?_ | refine oQ (Is1 rfl rfl rfl rfl rfl rfl) rfl rfl ?_
                   refine oQ (Ld rfl rfl rfl rfl) rfl rfl ?_
                   first | refine oQ (Q_binu rfl rfl rfl (by omega)) rfl rfl ?_ | refine oQ (Q_bin rfl rfl rfl) rfl rfl ?_
                   first | refine oQ (Is0 rfl rfl rfl rfl rfl rfl) rfl rfl ?_ | refine oQ (Is1 rfl rfl rfl rfl rfl rfl) rfl rfl ?_
                   refine oS rfl rfl rfl rfl rfl ?_
                   refine OW_nil ?_)
                all_goals with_reducible refine tN ?_
                all_goals (
                 refine cR ?_
                 iterate 2 refine oM rfl rfl ?_
                 first | refine oQ (Is0 rfl rfl rfl rfl rfl rfl) rfl rfl ?_ | refine oQ (Is1 rfl rfl rfl rfl rfl rfl) rfl rfl ?_
                 refine oQ (Ld rfl rfl rfl rfl) rfl rfl ?_
                 refine oQ (Q_bin rfl rfl rfl) rfl rfl ?_
                 refine oN ?_
                 first | refine cT rfl ?_ | refine cF rfl ?_ | refine CW_cond rfl (fun hc => ?_) (fun hc => ?_)
                 all_goals try simp only [s1, s2, s3, s4, s5, s6, s7, s8, s9, s10, s11, s12] at hc
                 all_goals try (exfalso; first | (cases hc; done) | (simp at hc; done); done)
                 all_goals first
                   | (
                    refine CW_skip ?_)
                   | (
                    refine cR ?_
                    first | refine oQ (Lw rfl rfl rfl rfl) rfl rfl ?_ | refine oQ (La rfl rfl rfl rfl rfl) rfl rfl ?_
                    first | refine oSw rfl rfl rfl rfl ?_ | refine oSa rfl rfl rfl rfl ?_
                    refine oA rfl rfl ?_
                    refine oN ?_
                    refine CW_ret ?_)))
               all_goals first | with_reducible refine bN ?_ | with_reducible refine bE ?_ | with_reducible refine bR ?_ | refine bX rfl ?_
               all_goals first
                 | with_reducible refine tR ?_
                 | with_reducible refine tE ?_
                 | (
                  with_reducible refine tN ?_
                  refine CW_region ?_
                  first | refine oQ (Q_binu rfl rfl rfl (by omega)) rfl rfl ?_ | refine oQ (Q_bin rfl rfl rfl) rfl rfl ?_
                  refine oM rfl rfl ?_
                  refine OW_nil ?_))
            all_goals first
              | with_reducible refine tR ?_
              | with_reducible refine tE ?_
              | (
               with_reducible refine tN ?_
               fail "again 0")
            all_goals first | with_reducible refine bN ?_ | with_reducible refine bE ?_ | with_reducible refine bR ?_ | refine bX rfl ?_
            all_goals first
              | with_reducible refine tR ?_
              | with_reducible refine tE ?_
              | (
               with_reducible refine tN ?_
               refine cR ?_
               refine oQ (Q_build rfl rfl rfl rfl rfl rfl rfl rfl) rfl rfl ?_
               first | refine oSw rfl rfl rfl rfl ?_ | refine oSa rfl rfl rfl rfl ?_
               refine oA rfl rfl ?_
               refine oN ?_
               refine CW_ret ?_)))
      all_goals (
       refine exitQ (.inr rfl) 0 (.cons (.arr rfl rfl rfl rfl (by first | omega | (dsimp only; omega) | (simp; omega) | (simp; done))) (.cons (.tmp rfl rfl) .nil)) ?_ rfl (vHc rfl vHn) rfl rfl
       rw [e1, e2]
       rfl)
  · have hk2 : okT p c a = true → okT p c b = true → False := fun h1 h2 => hk ⟨h1, h2⟩
    rw [if_neg (fun x => hk ⟨x.1, x.2.1⟩)] at hO
    obtain ⟨e1, e2⟩ := th_no hO
    rw [e1, e2]
    generalize okT p c a = b1 at *
    generalize okT p c b = b2 at *
    refine conW tab_ok [(0, .arr c), (1, .int p), (2, .arr a), (3, .arr b)] 0 [2000] [] Tryd.func65 rfl rfl rfl rfl rfl rfl rfl rfl rfl ?_
    refine cR ?_
    iterate 3 refine oBox rfl rfl rfl rfl rfl rfl ?_
    refine oAlloc rfl rfl rfl rfl rfl rfl rfl ?_
    refine oA rfl rfl ?_
    refine oN ?_
    refine cR ?_
    first | refine oQ (Lw rfl rfl rfl rfl) rfl rfl ?_ | refine oQ (La rfl rfl rfl rfl rfl) rfl rfl ?_
    refine oM rfl rfl ?_
    first | refine oQ (Lw rfl rfl rfl rfl) rfl rfl ?_ | refine oQ (La rfl rfl rfl rfl rfl) rfl rfl ?_
    refine oQe (Q_call (hta) [] rfl rfl (Fits.mk' (vHc rfl vHn) rfl rfl (by first | (simp; done) | exact glOk rfl rfl rfl)) rfl rfl) (show _ = .tuple [.arr (tgL p c a), .bool b1] from rfl) rfl rfl ?_
    refine oM rfl rfl ?_
    iterate 2 refine oQ (Q_extract rfl rfl) rfl rfl ?_
    refine oAlloc rfl rfl rfl rfl rfl rfl rfl ?_
    first | refine oSw rfl rfl rfl rfl ?_ | refine oSa rfl rfl rfl rfl ?_
    refine oA rfl rfl ?_
    refine oN ?_
    refine cR ?_
    first | refine oQ (Lw rfl rfl rfl rfl) rfl rfl ?_ | refine oQ (La rfl rfl rfl rfl rfl) rfl rfl ?_
    refine oM rfl rfl ?_
    first | refine oQ (Lw rfl rfl rfl rfl) rfl rfl ?_ | refine oQ (La rfl rfl rfl rfl rfl) rfl rfl ?_
    refine oQe (Q_call (htb) [] rfl rfl (Fits.mk' (vHc rfl vHn) rfl rfl (by first | (simp; done) | exact glOk rfl rfl rfl)) rfl rfl) (show _ = .tuple [.arr (tgL p c b), .bool b2] from rfl) rfl rfl ?_
    refine oM rfl rfl ?_
    iterate 2 refine oQ (Q_extract rfl rfl) rfl rfl ?_
    refine oAlloc rfl rfl rfl rfl rfl rfl rfl ?_
    first | refine oSw rfl rfl rfl rfl ?_ | refine oSa rfl rfl rfl rfl ?_
    refine oA rfl rfl ?_
    refine oN ?_
    refine CW_seq ?_
    refine cR ?_
    refine oM rfl rfl ?_
    refine oQ (Q_not rfl) rfl rfl ?_
    refine oM rfl rfl ?_
    all_goals first | refine oT rfl rfl ?_ | refine o1 rfl rfl rfl ?_ | refine o0 rfl rfl rfl ?_ | refine ogP1 rfl rfl rfl (fun hg => ?_) (fun hg => ?_) | refine ogP0 rfl rfl rfl (fun hg => ?_) (fun hg => ?_)
    all_goals try simp only [s1, s2, s3, s4, s5, s6, s7, s8, s9, s10, s11, s12] at hg
    all_goals first | (refine oM rfl rfl ?_) | skip
    all_goals first | refine oT rfl rfl ?_ | refine o1 rfl rfl rfl ?_ | refine o0 rfl rfl rfl ?_ | refine ogP1 rfl rfl rfl (fun hg => ?_) (fun hg => ?_) | refine ogP0 rfl rfl rfl (fun hg => ?_) (fun hg => ?_)
    all_goals try simp only [s1, s2, s3, s4, s5, s6, s7, s8, s9, s10, s11, s12] at hg
    all_goals first | (refine oQ (Q_not rfl) rfl rfl ?_) | skip
    all_goals first | refine oQ (Q_pick_t rfl (by with_reducible rfl) rfl rfl) rfl rfl ?_ | refine oQ (Q_pick_f rfl (by with_reducible rfl) rfl rfl) rfl rfl ?_
    all_goals refine oN ?_
    all_goals (
     first | refine cT rfl ?_ | refine cF rfl ?_ | refine CW_cond rfl (fun hc => ?_) (fun hc => ?_)
     all_goals try simp only [s1, s2, s3, s4, s5, s6, s7, s8, s9, s10, s11, s12] at hc
     all_goals try (exfalso; first | (cases hc; done) | (simp at hc; done) | (simp_all; done); done)
     all_goals first
       | (
        refine CW_skip ?_)
       | (
        refine cR ?_
        refine oQ (Q_build rfl rfl rfl rfl rfl rfl rfl rfl) rfl rfl ?_
        first | refine oSw rfl rfl rfl rfl ?_ | refine oSa rfl rfl rfl rfl ?_
        refine oA rfl rfl ?_
        refine oN ?_
        refine CW_ret ?_))
    all_goals first
      | with_reducible refine tR ?_
      | with_reducible refine tE ?_
      | (
       with_reducible refine tN ?_
       refine CW_seq ?_
       refine cR ?_
       (exfalso; simp_all; done)
       first | refine oQ (Lw rfl rfl rfl rfl) rfl rfl ?_ | refine oQ (La rfl rfl rfl rfl rfl) rfl rfl ?_
       refine oQ (Q_arrb rfl rfl rfl rfl rfl rfl rfl rfl rfl (by first | omega | (dsimp only; omega) | (simp; omega) | (simp; done)) (by first | omega | (dsimp only; omega) | (simp; omega) | (simp; done))) rfl rfl ?_
       refine oN ?_
       first | refine cT rfl ?_ | refine cF rfl ?_ | refine CW_cond rfl (fun hc => ?_) (fun hc => ?_)
       all_goals try simp only [s1, s2, s3, s4, s5, s6, s7, s8, s9, s10, s11, s12] at hc
       all_goals try (exfalso; first | (cases hc; done) | (simp at hc; done) | (simp_all; done); done)
       all_goals first
         | (
          refine CW_skip ?_)
         | (
          refine CW_region ?_
          refine oM rfl rfl ?_
          first | refine oQ (Lw rfl rfl rfl rfl) rfl rfl ?_ | refine oQ (La rfl rfl rfl rfl rfl) rfl rfl ?_
          first | refine oQ (Lw rfl rfl rfl rfl) rfl rfl ?_ | refine oQ (La rfl rfl rfl rfl rfl) rfl rfl ?_
          fail "call of loop.example/g01310/impl.join at slot 46"
          first | refine oSw rfl rfl rfl rfl ?_ | refine oSa rfl rfl rfl rfl ?_
          refine OW_nil ?_)
       all_goals with_reducible refine tN ?_
       all_goals (
        refine cR ?_
        first | refine oQ (Lw rfl rfl rfl rfl) rfl rfl ?_ | refine oQ (La rfl rfl rfl rfl rfl) rfl rfl ?_
        refine oM rfl rfl ?_
        first | refine oQ (Lw rfl rfl rfl rfl) rfl rfl ?_ | refine oQ (La rfl rfl rfl rfl rfl) rfl rfl ?_
        fail "call of (loop.example/g01310/impl.Cubic).multiplicities at slot 51"
        refine oM rfl rfl ?_
        iterate 3 refine oQ (Q_extract rfl rfl) rfl rfl ?_
        iterate 3 refine oA rfl rfl ?_
        refine oN ?_
        refine CW_seq ?_
        refine cR ?_
        refine oM rfl rfl ?_
        refine oQ (Q_not rfl) rfl rfl ?_
        refine oN ?_
        first | refine cT rfl ?_ | refine cF rfl ?_ | refine CW_cond rfl (fun hc => ?_) (fun hc => ?_)
        all_goals try simp only [s1, s2, s3, s4, s5, s6, s7, s8, s9, s10, s11, s12] at hc
        all_goals try (exfalso; first | (cases hc; done) | (simp at hc; done) | (simp_all; done); done)
        all_goals first
          | (
           refine CW_skip ?_)
          | (
           refine cR ?_
           refine oQ (Q_build rfl rfl rfl rfl rfl rfl rfl rfl) rfl rfl ?_
           first | refine oSw rfl rfl rfl rfl ?_ | refine oSa rfl rfl rfl rfl ?_
           refine oA rfl rfl ?_
           refine oN ?_
           refine CW_ret ?_)
        all_goals first
          | with_reducible refine tR ?_
          | with_reducible refine tE ?_
          | (
           with_reducible refine tN ?_
           refine CW_seq ?_
           refine cR ?_
           refine oM rfl rfl ?_
           first | refine oQ (Q_len rfl rfl rfl rfl) rfl rfl ?_ | refine oQ (Q_len0 rfl rfl rfl rfl) rfl rfl ?_
           refine oM rfl rfl ?_
           refine oN ?_
           refine CW_block ?_
           fail "loop 0 wants its states"
           · first | trivial | omega | (simp; done) | (simp; omega)
           · refine View.mk' [] rfl rfl rfl ?_ ?_
             repeat' first | exact vFn | refine vFc rfl ?_ | exact vHn | refine vHc rfl ?_ | refine vFc (congrArg (fun z => some (V.int z)) ?_) ?_ | refine vHc (congrArg (fun z => some (Blk.ints _ z)) ?_) ?_ | refine vFc (congrArg (fun z => some (V.bool z)) ?_) ?_ | refine vFs rfl rfl ?_ ?_
           intro i hi
           refine cR ?_
           refine oQ (Q_bin rfl rfl rfl) rfl rfl ?_
           refine oN ?_
           refine CW_seq ?_
           first | refine cT rfl ?_ | refine cF rfl ?_ | refine CW_cond rfl (fun hc => ?_) (fun hc => ?_)
           all_goals try simp only [s1, s2, s3, s4, s5, s6, s7, s8, s9, s10, s11, s12] at hc
           all_goals try (exfalso; first | (cases hc; done) | (simp at hc; done) | (simp_all; done); done)
           all_goals first
             | (
              refine CW_skip ?_)
             | (
              refine CW_exit ?_)
           all_goals first
             | with_reducible refine tR ?_
             | with_reducible refine tE ?_
             | (
              with_reducible refine tN ?_
              refine CW_seq ?_
              refine CW_block ?_
              refine cR ?_
              refine oM rfl rfl ?_
              first | refine oQ (Q_ixs0z 3 rfl rfl rfl rfl rfl rfl (by first | omega | (dsimp only; omega) | (simp; omega) | (simp; done))) rfl rfl ?_ | refine oQ (Q_ixsz 3 rfl rfl rfl rfl rfl rfl (by first | omega | (dsimp only; omega) | (simp; omega) | (simp; done))) rfl rfl ?_
              first | refine oQ (Lw rfl rfl rfl rfl) rfl rfl ?_ | refine oQ (La rfl rfl rfl rfl rfl) rfl rfl ?_
              refine oAlloc rfl rfl rfl rfl rfl rfl rfl ?_
              refine oA rfl rfl ?_
              first | refine oSw rfl rfl rfl rfl ?_ | refine oSa rfl rfl rfl rfl ?_
              refine oN ?_
              refine CW_seq ?_
              refine cR ?_
              first | refine oQ (Lw rfl rfl rfl rfl) rfl rfl ?_ | refine oQ (La rfl rfl rfl rfl rfl) rfl rfl ?_
              first | refine oQ (Lw rfl rfl rfl rfl) rfl rfl ?_ | refine oQ (La rfl rfl rfl rfl rfl) rfl rfl ?_
              refine oQ (Q_arrb rfl rfl rfl rfl rfl rfl rfl rfl rfl (by first | omega | (dsimp only; omega) | (simp; omega) | (simp; done)) (by first | omega | (dsimp only; omega) | (simp; omega) | (simp; done))) rfl rfl ?_
              refine oN ?_
              first | refine cT rfl ?_ | refine cF rfl ?_ | refine CW_cond rfl (fun hc => ?_) (fun hc => ?_)
              all_goals try simp only [s1, s2, s3, s4, s5, s6, s7, s8, s9, s10, s11, s12] at hc
              all_goals try (exfalso; first | (cases hc; done) | (simp at hc; done) | (simp_all; done); done)
              all_goals first
                | (
                 refine CW_skip ?_)
                | (
                 refine CW_region ?_
                 iterate 2 refine oM rfl rfl ?_
                 first | refine oQ (Is0 rfl rfl rfl rfl rfl rfl) rfl rfl ?_ | refine oQ (Is1 rfl rfl rfl rfl rfl rfl) rfl rfl ?_
                 refine oQ (Ld rfl rfl rfl rfl) rfl rfl ?_
                 first | refine oQ (Q_binu rfl rfl rfl (by omega)) rfl rfl ?_ | refine oQ (Q_bin rfl rfl rfl) rfl rfl ?_
                 first | refine oQ (Is0 rfl rfl rfl rfl rfl rfl) rfl rfl ?_ | refine oQ (Is1 rfl rfl rfl rfl rfl rfl) rfl rfl ?_
                 refine oS rfl rfl rfl rfl rfl ?_
                 refine OW_nil ?_)
              all_goals with_reducible refine tN ?_
              all_goals (
               refine CW_seq ?_
               refine cR ?_
               first | refine oQ (Lw rfl rfl rfl rfl) rfl rfl ?_ | refine oQ (La rfl rfl rfl rfl rfl) rfl rfl ?_
               first | refine oQ (Lw rfl rfl rfl rfl) rfl rfl ?_ | refine oQ (La rfl rfl rfl rfl rfl) rfl rfl ?_
               refine oQ (Q_arrb rfl rfl rfl rfl rfl rfl rfl rfl rfl (by first | omega | (dsimp only; omega) | (simp; omega) | (simp; done)) (by first | omega | (dsimp only; omega) | (simp; omega) | (simp; done))) rfl rfl ?_
               refine oN ?_
               first | refine cT rfl ?_ | refine cF rfl ?_ | refine CW_cond rfl (fun hc => ?_) (fun hc => ?_)
               all_goals try simp only [s1, s2, s3, s4, s5, s6, s7, s8, s9, s10, s11, s12] at hc
               all_goals try (exfalso; first | (cases hc; done) | (simp at hc; done) | (simp_all; done); done)
               all_goals first
                 | (
                  refine CW_skip ?_)
                 | (
                  refine CW_region ?_
                  iterate 2 refine oM rfl rfl ?_
                  first | refine oQ (Is0 rfl rfl rfl rfl rfl rfl) rfl rfl ?_ | refine oQ (Is1 rfl rfl rfl rfl rfl rfl) rfl rfl ?_
                  refine oQ (Ld rfl rfl rfl rfl) rfl rfl ?_
                  first | refine oQ (Q_binu rfl rfl rfl (by omega)) rfl rfl ?_ | refine oQ (Q_bin rfl rfl rfl) rfl rfl ?_
                  first | refine oQ (Is0 rfl rfl rfl rfl rfl rfl) rfl rfl ?_ | refine oQ (Is1 rfl rfl rfl rfl rfl rfl) rfl rfl ?_
                  refine oS rfl rfl rfl rfl rfl ?_
                  refine OW_nil ?_)
               all_goals with_reducible refine tN ?_
               all_goals (
                refine cR ?_
                iterate 2 refine oM rfl rfl ?_
                first | refine oQ (Is0 rfl rfl rfl rfl rfl rfl) rfl rfl ?_ | refine oQ (Is1 rfl rfl rfl rfl rfl rfl) rfl rfl ?_
                refine oQ (Ld rfl rfl rfl rfl) rfl rfl ?_
                refine oQ (Q_bin rfl rfl rfl) rfl rfl ?_
                refine oN ?_
                first | refine cT rfl ?_ | refine cF rfl ?_ | refine CW_cond rfl (fun hc => ?_) (fun hc => ?_)
                all_goals try simp only [s1, s2, s3, s4, s5, s6, s7, s8, s9, s10, s11, s12] at hc
                all_goals try (exfalso; first | (cases hc; done) | (simp at hc; done) | (simp_all; done); done)
                all_goals first
                  | (
                   refine CW_skip ?_)
                  | (
                   refine cR ?_
                   first | refine oQ (Lw rfl rfl rfl rfl) rfl rfl ?_ | refine oQ (La rfl rfl rfl rfl rfl) rfl rfl ?_
                   first | refine oSw rfl rfl rfl rfl ?_ | refine oSa rfl rfl rfl rfl ?_
                   refine oA rfl rfl ?_
                   refine oN ?_
                   refine CW_ret ?_)))
              all_goals first | with_reducible refine bN ?_ | with_reducible refine bE ?_ | with_reducible refine bR ?_ | refine bX rfl ?_
              all_goals first
                | with_reducible refine tR ?_
                | with_reducible refine tE ?_
                | (
                 with_reducible refine tN ?_
                 refine CW_region ?_
                 first | refine oQ (Q_binu rfl rfl rfl (by omega)) rfl rfl ?_ | refine oQ (Q_bin rfl rfl rfl) rfl rfl ?_
                 refine oM rfl rfl ?_
                 refine OW_nil ?_))
           all_goals first
             | with_reducible refine tR ?_
             | with_reducible refine tE ?_
             | (
              with_reducible refine tN ?_
              fail "again 0")
           all_goals first | with_reducible refine bN ?_ | with_reducible refine bE ?_ | with_reducible refine bR ?_ | refine bX rfl ?_
           all_goals first
             | with_reducible refine tR ?_
             | with_reducible refine tE ?_
             | (
              with_reducible refine tN ?_
              refine cR ?_
              refine oQ (Q_build rfl rfl rfl rfl rfl rfl rfl rfl) rfl rfl ?_
              first | refine oSw rfl rfl rfl rfl ?_ | refine oSa rfl rfl rfl rfl ?_
              refine oA rfl rfl ?_
              refine oN ?_
              refine CW_ret ?_))))
    all_goals (
     first | ((refine exitQ (.inr rfl) 0 (.cons (.arr rfl rfl rfl rfl (by first | omega | (dsimp only; omega) | (simp; omega) | (simp; done))) (.cons (.tmp rfl rfl) .nil)) ?_ rfl (vHc rfl vHn) rfl rfl); rfl) | (exfalso; simp_all; done))
theorem l06Third_con (p : Int) (c a b : List Int) (hp : primeB p = true) (hcl : c.length = 10) (qc : smN 12 c) (ha : a ∈ allPts p) (hb : b ∈ allPts p) : ConQ Tryd.prog [] 64 [.int p, .arr c, .arr a, .arr b] [] (.tuple [.arr (thV p c a b), .bool (thK p c a b)]) := by
  have hal := allPts_three ha
  have hbl := allPts_three hb
  have hpb := prime_bd hp
  have htal : (tgL p c a).length = 3 := by unfold tgL; rw [normL_length]; rfl
  have htbl : (tgL p c b).length = 3 := by unfold tgL; rw [normL_length]; rfl
  have hcrl := crN_len p a b
  have hO : thO p c a b = if okT p c a = true ∧ okT p c b = true ∧ meB p c (thL p c a b) = false then (thF a b (mePts p c (thL p c a b)) (meCts p c (thL p c a b))).map fun i => (mePts p c (thL p c a b)).getD i [] else none := rfl
  have hta := l06Tangent_con p c a hp hcl hal qc (allPts_smN hp ha)
  change ConQ _ _ _ _ _ (.tuple [.arr (tgL p c a), .bool (facP p (slL p c a) != 0)]) at hta
  have htb := l06Tangent_con p c b hp hcl hbl qc (allPts_smN hp hb)
  change ConQ _ _ _ _ _ (.tuple [.arr (tgL p c b), .bool (facP p (slL p c b) != 0)]) at htb
  have hona := l06On_con p c a hp hcl hal qc (allPts_smN hp ha)
  have honb := l06On_con p c b hp hcl hbl qc (allPts_smN hp hb)
  by_cases hk : okT p c a = true ∧ okT p c b = true
  · obtain ⟨hka, hkb⟩ := hk
    have hka2 := hka
    have hkb2 := hkb
    simp only [okT, Bool.and_eq_true] at hka2 hkb2
    rw [hka2.1] at hta
    rw [hkb2.1] at htb
    rw [hka2.2] at hona
    rw [hkb2.2] at honb
    cases hz : meB p c (thL p c a b) with
    | false =>
      have htm := thL_mem hp ha hb hka
      have htl := allPts_three htm
      have hm := meet_con6 p c (thL p c a b) hp hcl qc htm hz
      have h3 : ∀ x ∈ mePts p c (thL p c a b), x.length = 3 := fun x hx => allPts_three (me_mem hx)
      have hf3 := flat3 h3
      have hcl2 := me_len p c (thL p c a b)
      have hbd := fun (i : Nat) (hi : i < (mePts p c (thL p c a b)).length) => me_bd (p := p) (c := c) (l := thL p c a b) hi
      have hln : (mePts p c (thL p c a b)).length ≤ 1000000000 := by
        have h1 := mPts_len p c (lnV p (thL p c a b)) (lnV p (thL p c a b)).length
        have h2 := lnV_len hp htm
        unfold mePts
        omega
      rw [if_pos ⟨hka, hkb, hz⟩] at hO
      generalize mePts p c (thL p c a b) = PP at *
      generalize meCts p c (thL p c a b) = CC at *
      have hP3 := h3
      refine conW tab_ok [(0, .int p), (1, .arr c), (2, .arr a), (3, .arr b)] 0 [] [] Tryd.func64 rfl rfl rfl rfl rfl rfl rfl rfl rfl ?_
      refine cR ?_
      iterate 3 refine oBox rfl rfl rfl rfl rfl rfl ?_
      refine oAlloc rfl rfl rfl rfl rfl rfl rfl ?_
      refine oA rfl rfl ?_
      refine oN ?_
      refine cR ?_
      refine oM rfl rfl ?_
      first | refine oQ (Lw rfl rfl rfl rfl) rfl rfl ?_ | refine oQ (La rfl rfl rfl rfl rfl) rfl rfl ?_
      first | refine oQ (Lw rfl rfl rfl rfl) rfl rfl ?_ | refine oQ (La rfl rfl rfl rfl rfl) rfl rfl ?_
      refine oQe (Q_call (hta) [] rfl rfl (Fits.mk' vHn rfl rfl (by first | (simp; done) | exact glOk rfl rfl rfl)) rfl rfl) (show _ = .tuple [.arr (tgL p c a), .bool true] from rfl) rfl rfl ?_
      refine oM rfl rfl ?_
      iterate 2 refine oQ (Q_extract rfl rfl) rfl rfl ?_
      refine oAlloc rfl rfl rfl rfl rfl rfl rfl ?_
      first | refine oSw rfl rfl rfl rfl ?_ | refine oSa rfl rfl rfl rfl ?_
      refine oA rfl rfl ?_
      refine oN ?_
      refine cR ?_
      refine oM rfl rfl ?_
      first | refine oQ (Lw rfl rfl rfl rfl) rfl rfl ?_ | refine oQ (La rfl rfl rfl rfl rfl) rfl rfl ?_
      first | refine oQ (Lw rfl rfl rfl rfl) rfl rfl ?_ | refine oQ (La rfl rfl rfl rfl rfl) rfl rfl ?_
      refine oQe (Q_call (htb) [] rfl rfl (Fits.mk' vHn rfl rfl (by first | (simp; done) | exact glOk rfl rfl rfl)) rfl rfl) (show _ = .tuple [.arr (tgL p c b), .bool true] from rfl) rfl rfl ?_
      refine oM rfl rfl ?_
      iterate 2 refine oQ (Q_extract rfl rfl) rfl rfl ?_
      refine oAlloc rfl rfl rfl rfl rfl rfl rfl ?_
      first | refine oSw rfl rfl rfl rfl ?_ | refine oSa rfl rfl rfl rfl ?_
      refine oA rfl rfl ?_
      refine oN ?_
      refine CW_seq ?_
      refine cR ?_
      refine oM rfl rfl ?_
      refine oQe (Q_not rfl) (show _ = V.bool false from rfl) rfl rfl ?_
      refine oM rfl rfl ?_
      all_goals first | refine oT rfl rfl ?_ | refine o1 rfl rfl rfl ?_ | refine o0 rfl rfl rfl ?_ | refine ogP1 rfl rfl rfl (fun hg => ?_) (fun hg => ?_) | refine ogP0 rfl rfl rfl (fun hg => ?_) (fun hg => ?_)
      all_goals try simp only [s1, s2, s3, s4, s5, s6, s7, s8, s9, s10, s11, s12] at hg
      all_goals first | (refine oM rfl rfl ?_) | skip
      all_goals first | refine oT rfl rfl ?_ | refine o1 rfl rfl rfl ?_ | refine o0 rfl rfl rfl ?_ | refine ogP1 rfl rfl rfl (fun hg => ?_) (fun hg => ?_) | refine ogP0 rfl rfl rfl (fun hg => ?_) (fun hg => ?_)
      all_goals try simp only [s1, s2, s3, s4, s5, s6, s7, s8, s9, s10, s11, s12] at hg
      all_goals first | (refine oQe (Q_not rfl) (show _ = V.bool false from rfl) rfl rfl ?_) | skip
      all_goals first | refine oQ (Q_pick_t rfl (by with_reducible rfl) rfl rfl) rfl rfl ?_ | refine oQ (Q_pick_f rfl (by with_reducible rfl) rfl rfl) rfl rfl ?_
      all_goals first | (refine oM rfl rfl ?_)
      all_goals first | refine oT rfl rfl ?_ | refine o1 rfl rfl rfl ?_ | refine o0 rfl rfl rfl ?_ | refine ogP1 rfl rfl rfl (fun hg => ?_) (fun hg => ?_) | refine ogP0 rfl rfl rfl (fun hg => ?_) (fun hg => ?_)
      all_goals try simp only [s1, s2, s3, s4, s5, s6, s7, s8, s9, s10, s11, s12] at hg
      all_goals first | (refine oM rfl rfl ?_) | skip
      all_goals first | refine oT rfl rfl ?_ | refine o1 rfl rfl rfl ?_ | refine o0 rfl rfl rfl ?_ | refine ogP1 rfl rfl rfl (fun hg => ?_) (fun hg => ?_) | refine ogP0 rfl rfl rfl (fun hg => ?_) (fun hg => ?_)
      all_goals try simp only [s1, s2, s3, s4, s5, s6, s7, s8, s9, s10, s11, s12] at hg
      all_goals first | refine oQ (Lw rfl rfl rfl rfl) rfl rfl ?_ | refine oQ (La rfl rfl rfl rfl rfl) rfl rfl ?_ | skip
      all_goals first | refine oT rfl rfl ?_ | refine o1 rfl rfl rfl ?_ | refine o0 rfl rfl rfl ?_ | refine ogP1 rfl rfl rfl (fun hg => ?_) (fun hg => ?_) | refine ogP0 rfl rfl rfl (fun hg => ?_) (fun hg => ?_)
      all_goals try simp only [s1, s2, s3, s4, s5, s6, s7, s8, s9, s10, s11, s12] at hg
      all_goals first | refine oQ (Lw rfl rfl rfl rfl) rfl rfl ?_ | refine oQ (La rfl rfl rfl rfl rfl) rfl rfl ?_ | skip
      all_goals first | refine oT rfl rfl ?_ | refine o1 rfl rfl rfl ?_ | refine o0 rfl rfl rfl ?_ | refine ogP1 rfl rfl rfl (fun hg => ?_) (fun hg => ?_) | refine ogP0 rfl rfl rfl (fun hg => ?_) (fun hg => ?_)
      all_goals try simp only [s1, s2, s3, s4, s5, s6, s7, s8, s9, s10, s11, s12] at hg
      all_goals first | (refine oQ (Q_call0 (hona) rfl rfl rfl) rfl rfl ?_) | skip
      all_goals first | refine oT rfl rfl ?_ | refine o1 rfl rfl rfl ?_ | refine o0 rfl rfl rfl ?_ | refine ogP1 rfl rfl rfl (fun hg => ?_) (fun hg => ?_) | refine ogP0 rfl rfl rfl (fun hg => ?_) (fun hg => ?_)
      all_goals try simp only [s1, s2, s3, s4, s5, s6, s7, s8, s9, s10, s11, s12] at hg
      all_goals first | (refine oQe (Q_not rfl) (show _ = V.bool false from rfl) rfl rfl ?_) | skip
      all_goals first | refine oQ (Q_pick_t rfl (by with_reducible rfl) rfl rfl) rfl rfl ?_ | refine oQ (Q_pick_f rfl (by with_reducible rfl) rfl rfl) rfl rfl ?_
      all_goals first | (refine oM rfl rfl ?_)
      all_goals first | refine oT rfl rfl ?_ | refine o1 rfl rfl rfl ?_ | refine o0 rfl rfl rfl ?_ | refine ogP1 rfl rfl rfl (fun hg => ?_) (fun hg => ?_) | refine ogP0 rfl rfl rfl (fun hg => ?_) (fun hg => ?_)
      all_goals try simp only [s1, s2, s3, s4, s5, s6, s7, s8, s9, s10, s11, s12] at hg
      all_goals first | (refine oM rfl rfl ?_) | skip
      all_goals first | refine oT rfl rfl ?_ | refine o1 rfl rfl rfl ?_ | refine o0 rfl rfl rfl ?_ | refine ogP1 rfl rfl rfl (fun hg => ?_) (fun hg => ?_) | refine ogP0 rfl rfl rfl (fun hg => ?_) (fun hg => ?_)
      all_goals try simp only [s1, s2, s3, s4, s5, s6, s7, s8, s9, s10, s11, s12] at hg
      all_goals first | refine oQ (Lw rfl rfl rfl rfl) rfl rfl ?_ | refine oQ (La rfl rfl rfl rfl rfl) rfl rfl ?_ | skip
      all_goals first | refine oT rfl rfl ?_ | refine o1 rfl rfl rfl ?_ | refine o0 rfl rfl rfl ?_ | refine ogP1 rfl rfl rfl (fun hg => ?_) (fun hg => ?_) | refine ogP0 rfl rfl rfl (fun hg => ?_) (fun hg => ?_)
      all_goals try simp only [s1, s2, s3, s4, s5, s6, s7, s8, s9, s10, s11, s12] at hg
      all_goals first | refine oQ (Lw rfl rfl rfl rfl) rfl rfl ?_ | refine oQ (La rfl rfl rfl rfl rfl) rfl rfl ?_ | skip
      all_goals first | refine oT rfl rfl ?_ | refine o1 rfl rfl rfl ?_ | refine o0 rfl rfl rfl ?_ | refine ogP1 rfl rfl rfl (fun hg => ?_) (fun hg => ?_) | refine ogP0 rfl rfl rfl (fun hg => ?_) (fun hg => ?_)
      all_goals try simp only [s1, s2, s3, s4, s5, s6, s7, s8, s9, s10, s11, s12] at hg
      all_goals first | (refine oQ (Q_call0 (honb) rfl rfl rfl) rfl rfl ?_) | skip
      all_goals first | refine oT rfl rfl ?_ | refine o1 rfl rfl rfl ?_ | refine o0 rfl rfl rfl ?_ | refine ogP1 rfl rfl rfl (fun hg => ?_) (fun hg => ?_) | refine ogP0 rfl rfl rfl (fun hg => ?_) (fun hg => ?_)
      all_goals try simp only [s1, s2, s3, s4, s5, s6, s7, s8, s9, s10, s11, s12] at hg
      all_goals first | (refine oQe (Q_not rfl) (show _ = V.bool false from rfl) rfl rfl ?_) | skip
      all_goals first | refine oQ (Q_pick_t rfl (by with_reducible rfl) rfl rfl) rfl rfl ?_ | refine oQ (Q_pick_f rfl (by with_reducible rfl) rfl rfl) rfl rfl ?_
      all_goals refine oN ?_
      all_goals (
       first | refine cT rfl ?_ | refine cF rfl ?_ | refine CW_cond rfl (fun hc => ?_) (fun hc => ?_)
       all_goals try simp only [s1, s2, s3, s4, s5, s6, s7, s8, s9, s10, s11, s12] at hc
       all_goals try (exfalso; (cases hc; done); done)
       all_goals first
         | (
          refine CW_skip ?_)
         | (
          refine cR ?_
          refine oQ (Q_build rfl rfl rfl rfl rfl rfl rfl rfl) rfl rfl ?_
          first | refine oSw rfl rfl rfl rfl ?_ | refine oSa rfl rfl rfl rfl ?_
          refine oA rfl rfl ?_
          refine oN ?_
          refine CW_ret ?_))
      all_goals first
        | with_reducible refine tR ?_
        | with_reducible refine tE ?_
        | (
         with_reducible refine tN ?_
         refine CW_cut (ι := Unit) (fun _ => True) (fun _ => ⟨[(0, .int p), (5, .ptr 0 0), (6, .ptr 1 0), (7, .ptr 2 0), (8, .ptr 3 0), (10, .ptr 4 0)], [(0, .ints 27 c), (1, .ints 29 a), (2, .ints 29 b), (3, .ints 29 [0, 0, 0]), (4, .ints 24 (thL p c a b))], 6⟩) ?_ ?_
         · (
          refine cR ?_
          first | refine oQ (Lw rfl rfl rfl rfl) rfl rfl ?_ | refine oQ (La rfl rfl rfl rfl rfl) rfl rfl ?_
          first | refine oQ (Lw rfl rfl rfl rfl) rfl rfl ?_ | refine oQ (La rfl rfl rfl rfl rfl) rfl rfl ?_
          refine oQ (Q_arrb rfl rfl rfl rfl rfl rfl rfl rfl rfl (by first | omega | (dsimp only; omega) | (simp; omega) | (simp; done)) (by first | omega | (dsimp only; omega) | (simp; omega) | (simp; done))) rfl rfl ?_
          refine oN ?_
          first | refine cT rfl ?_ | refine cF rfl ?_ | refine CW_cond rfl (fun hc => ?_) (fun hc => ?_)
          all_goals try simp only [s1, s2, s3, s4, s5, s6, s7, s8, s9, s10, s11, s12] at hc
          all_goals try (exfalso; (cases hc; done); done)
          all_goals first
            | (
             refine CW_skip ?_)
            | (
             refine cR ?_
             refine oM rfl rfl ?_
             first | refine oQ (Lw rfl rfl rfl rfl) rfl rfl ?_ | refine oQ (La rfl rfl rfl rfl rfl) rfl rfl ?_
             first | refine oQ (Lw rfl rfl rfl rfl) rfl rfl ?_ | refine oQ (La rfl rfl rfl rfl rfl) rfl rfl ?_
             refine oQ (Q_call0 (l01Join_con p a b hp hal hbl (allPts_sm hp ha) (allPts_sm hp hb)) rfl rfl rfl) rfl rfl ?_
             refine oM rfl rfl ?_
             iterate 2 refine oQ (Q_extract rfl rfl) rfl rfl ?_
             refine oAlloc rfl rfl rfl rfl rfl rfl rfl ?_
             first | refine oSw rfl rfl rfl rfl ?_ | refine oSa rfl rfl rfl rfl ?_
             refine oA rfl rfl ?_
             refine oN ?_
             refine CW_region ?_
             first | refine oQ (Lw rfl rfl rfl rfl) rfl rfl ?_ | refine oQ (La rfl rfl rfl rfl rfl) rfl rfl ?_
             first | refine oSw rfl rfl rfl rfl ?_ | refine oSa rfl rfl rfl rfl ?_
             refine OW_nil ?_)
          all_goals with_reducible refine tN ?_
          all_goals (
           refine ⟨(), ?_, View.mk' [] rfl rfl rfl ?_ ?_⟩
           · first | trivial | omega
           all_goals (repeat' first | exact vFn | refine vFc rfl ?_ | exact vHn | refine vHc rfl ?_ | refine vFc (congrArg (fun z => some (V.int z)) ?_) ?_ | refine vHc (congrArg (fun z => some (Blk.ints _ z)) ?_) ?_ | refine vFc (congrArg (fun z => some (V.bool z)) ?_) ?_ | refine vFs rfl rfl ?_ ?_)
           all_goals first | exact (if_pos (by simpa using hc)).symm | exact (if_neg (by simpa using hc)).symm))
         intro _ _
         refine cR ?_
         refine oM rfl rfl ?_
         first | refine oQ (Lw rfl rfl rfl rfl) rfl rfl ?_ | refine oQ (La rfl rfl rfl rfl rfl) rfl rfl ?_
         first | refine oQ (Lw rfl rfl rfl rfl) rfl rfl ?_ | refine oQ (La rfl rfl rfl rfl rfl) rfl rfl ?_
         refine oCall (hm) [] 2 rfl rfl (Fits.mk' vHn rfl rfl (by first | (simp; done) | exact glOk rfl rfl rfl)) rfl rfl ?_
         rintro r H1 ⟨k, sp, k', sp', h1, h2, h3, h4, rfl, rfl⟩
         refine ⟨.tuple [.slice 6 0 PP.length k, .slice 7 0 PP.length k', .bool true], [(6, .ints 29 (PP.flatten ++ sp)), (7, .ints 2 (CC ++ sp'))], rfl, rfl, rfl, ?_⟩
         refine oM rfl rfl ?_
         iterate 3 refine oQ (Q_extract rfl rfl) rfl rfl ?_
         iterate 3 refine oA rfl rfl ?_
         refine oN ?_
         refine CW_seq ?_
         refine cR ?_
         refine oA rfl rfl ?_
         refine oN ?_
         refine CW_block ?_
         refine CW_loop (ι := Nat) (fun i => i ≤ PP.length ∧ ∀ j, j < i → ¬ 0 < lf a b PP CC j) (fun i => ⟨[(6, .ptr 1 0), (7, .ptr 2 0), (8, .ptr 3 0), (16, .slice 6 0 PP.length k), (17, .slice 7 0 PP.length k'), (18, .bool true), (19, .int (i : Nat))], [(1, .ints 29 a), (2, .ints 29 b), (3, .ints 29 [0, 0, 0]), (6, .ints 29 (PP.flatten ++ sp)), (7, .ints 2 (CC ++ sp'))], 8⟩) (fun i => PP.length - i) 0 ?_ ?_ ?_
         · exact ⟨Nat.zero_le _, fun j h => absurd h (Nat.not_lt_zero _)⟩
         · refine View.mk' [] rfl rfl rfl ?_ ?_
           repeat' first | exact vFn | refine vFc rfl ?_ | exact vHn | refine vHc rfl ?_ | refine vFc (congrArg (fun z => some (V.int z)) ?_) ?_ | refine vHc (congrArg (fun z => some (Blk.ints _ z)) ?_) ?_ | refine vFc (congrArg (fun z => some (V.bool z)) ?_) ?_ | refine vFs rfl rfl ?_ ?_
         rintro i ⟨hi, hno⟩
         refine CW_seq ?_
         refine cR ?_
         iterate 2 refine oM rfl rfl ?_
         first | refine oQ (Q_len rfl rfl rfl rfl) rfl rfl ?_ | refine oQ (Q_len0 rfl rfl rfl rfl) rfl rfl ?_
         refine oQ (Q_bin rfl rfl rfl) rfl rfl ?_
         refine oM rfl rfl ?_
         all_goals first | refine oT rfl rfl ?_ | refine o1 rfl rfl rfl ?_ | refine o0 rfl rfl rfl ?_ | refine ogP1 rfl rfl rfl (fun hg => ?_) (fun hg => ?_) | refine ogP0 rfl rfl rfl (fun hg => ?_) (fun hg => ?_)
         all_goals try simp only [s1, s2, s3, s4, s5, s6, s7, s8, s9, s10, s11, s12] at hg
         all_goals first | (refine oM rfl rfl ?_) | skip
         all_goals first | refine oQ (Q_pick_t rfl (by with_reducible rfl) rfl rfl) rfl rfl ?_ | refine oQ (Q_pick_f rfl (by with_reducible rfl) rfl rfl) rfl rfl ?_
         all_goals refine oN ?_
         all_goals (
          first | refine cT rfl ?_ | refine cF rfl ?_ | refine CW_cond rfl (fun hc => ?_) (fun hc => ?_)
          all_goals try simp only [s1, s2, s3, s4, s5, s6, s7, s8, s9, s10, s11, s12] at hc
          all_goals try (exfalso; (cases hc; done); done)
          all_goals first
            | (
             refine CW_skip ?_)
            | (
             refine CW_exit ?_))
         all_goals first
           | with_reducible refine tR ?_
           | with_reducible refine tE ?_
           | (
            with_reducible refine tN ?_
            refine CW_seq ?_
            refine CW_block ?_
            refine cR ?_
            refine oM rfl rfl ?_
            (have hiL : i < PP.length := by omega); (have h3i := hP3 _ (getD_mem hiL)); (have hcb := hbd i hiL); (have hcg : (CC ++ sp').getD i 0 = CC.getD i 0 := by simp [List.getD, List.getElem?_append, show i < CC.length by omega]); refine oM rfl rfl ?_
            first | refine oQ (Is0 rfl rfl rfl rfl rfl rfl) rfl rfl ?_ | refine oQ (Is1 rfl rfl rfl rfl rfl rfl) rfl rfl ?_
            refine oQ (Ld rfl rfl rfl rfl (by rw [List.length_append]; omega)) rfl rfl ?_; rw [hcg]
            refine oA rfl rfl ?_
            refine oN ?_
            iterate 2 refine CW_seq ?_
            refine CW_draw lateOk (by decide +kernel) ?_
            iterate 2 refine qM rfl rfl ?_
            refine qQ (Q_ixs0z 3 rfl rfl rfl rfl rfl rfl (by omega)) rfl rfl ?_
            refine qQ (Q_lda (n := 3) rfl rfl rfl rfl rfl (by rw [List.length_append, hf3]; omega)) rfl rfl ?_; rw [flat_get hP3 hiL]
            first | refine qQ (Lw rfl rfl rfl rfl) rfl rfl ?_ | refine qQ (La rfl rfl rfl rfl rfl) rfl rfl ?_
            refine qQ (Q_arrb rfl rfl rfl rfl rfl rfl rfl rfl rfl (by first | omega | (dsimp only; omega) | (simp; omega) | (simp; done)) (by first | omega | (dsimp only; omega) | (simp; omega) | (simp; done))) rfl rfl ?_
            refine QW_nil ?_
            all_goals with_reducible refine tN ?_
            all_goals (
             first | refine cT rfl ?_ | refine cF rfl ?_ | refine CW_cond rfl (fun hc => ?_) (fun hc => ?_)
             all_goals try simp only [s1, s2, s3, s4, s5, s6, s7, s8, s9, s10, s11, s12] at hc
             all_goals try (exfalso; (cases hc; done); done)
             all_goals first
               | (
                refine CW_skip ?_)
               | (
                refine CW_region ?_
                refine oM rfl rfl ?_
                first | refine oQ (Q_binu rfl rfl rfl (by omega)) rfl rfl ?_ | refine oQ (Q_bin rfl rfl rfl) rfl rfl ?_
                refine oA rfl rfl ?_
                refine OW_nil ?_))
            all_goals with_reducible refine tN ?_
            all_goals (
             iterate 2 refine CW_seq ?_
             refine CW_draw lateOk (by decide +kernel) ?_
             (have hca := hc); refine qM rfl rfl ?_
             refine qM rfl rfl ?_
             refine qQ (Q_ixs0z 3 rfl rfl rfl rfl rfl rfl (by omega)) rfl rfl ?_
             refine qQ (Q_lda (n := 3) rfl rfl rfl rfl rfl (by rw [List.length_append, hf3]; omega)) rfl rfl ?_; rw [flat_get hP3 hiL]
             first | refine qQ (Lw rfl rfl rfl rfl) rfl rfl ?_ | refine qQ (La rfl rfl rfl rfl rfl) rfl rfl ?_
             refine qQ (Q_arrb rfl rfl rfl rfl rfl rfl rfl rfl rfl (by first | omega | (dsimp only; omega) | (simp; omega) | (simp; done)) (by first | omega | (dsimp only; omega) | (simp; omega) | (simp; done))) rfl rfl ?_
             refine QW_nil ?_
             all_goals with_reducible refine tN ?_
             all_goals (
              first | refine cT rfl ?_ | refine cF rfl ?_ | refine CW_cond rfl (fun hc => ?_) (fun hc => ?_)
              all_goals try simp only [s1, s2, s3, s4, s5, s6, s7, s8, s9, s10, s11, s12] at hc
              all_goals try (exfalso; (cases hc; done); done)
              all_goals first
                | (
                 refine CW_skip ?_)
                | (
                 refine CW_region ?_
                 refine oM rfl rfl ?_
                 first | refine oQ (Q_binu rfl rfl rfl (by omega)) rfl rfl ?_ | refine oQ (Q_bin rfl rfl rfl) rfl rfl ?_
                 refine oA rfl rfl ?_
                 refine OW_nil ?_))
             all_goals with_reducible refine tN ?_
             all_goals (
              refine cR ?_
              (have hcb2 := hc)
              refine oM rfl rfl ?_
              refine oName (fun z104 hz104 => ?_)
              (have hlf : z104 = lf a b PP CC i := by rw [hz104]; unfold lf; first | rw [if_pos hcb2, if_pos hca] | rw [if_pos hcb2, if_neg hca] | rw [if_neg hcb2, if_pos hca] | rw [if_neg hcb2, if_neg hca])
              subst hlf
              refine oQ (Q_bin rfl rfl rfl) rfl rfl ?_
              refine oN ?_
              first | refine cT rfl ?_ | refine cF rfl ?_ | refine CW_cond rfl (fun hc => ?_) (fun hc => ?_)
              all_goals try simp only [s1, s2, s3, s4, s5, s6, s7, s8, s9, s10, s11, s12] at hc
              all_goals try (exfalso; (cases hc; done); done)
              all_goals first
                | (
                 refine CW_skip ?_)
                | (
                 refine cR ?_
                 iterate 2 refine oM rfl rfl ?_
                 refine oQ (Q_ixs0z 3 rfl rfl rfl rfl rfl rfl (by omega)) rfl rfl ?_
                 refine oQ (Q_lda (n := 3) rfl rfl rfl rfl rfl (by rw [List.length_append, hf3]; omega)) rfl rfl ?_; rw [flat_get hP3 hiL]
                 first | refine oSw rfl rfl rfl rfl ?_ | refine oSa rfl rfl rfl rfl ?_
                 refine oA rfl rfl ?_
                 refine oN ?_
                 refine CW_ret ?_)))
            all_goals first | with_reducible refine bN ?_ | with_reducible refine bE ?_ | with_reducible refine bR ?_ | refine bX rfl ?_
            all_goals first
              | with_reducible refine tR ?_
              | with_reducible refine tE ?_
              | (
               with_reducible refine tN ?_
               refine CW_region ?_
               refine oM rfl rfl ?_
               first | refine oQ (Q_binu rfl rfl rfl (by omega)) rfl rfl ?_ | refine oQ (Q_bin rfl rfl rfl) rfl rfl ?_
               refine oA rfl rfl ?_
               refine OW_nil ?_))
         all_goals first
           | with_reducible refine tR ?_
           | with_reducible refine tE ?_
           | (
            with_reducible refine tN ?_
            refine ⟨i + 1, ?_, ?_, View.mk' [] rfl rfl rfl ?_ ?_⟩
            · refine ⟨by omega, fun j hj => ?_⟩
              by_cases e : j = i
              · subst e; omega
              · exact hno j (by omega)
            · omega
            all_goals (repeat' first | exact vFn | refine vFc rfl ?_ | exact vHn | refine vHc rfl ?_ | refine vFc (congrArg (fun z => some (V.int z)) ?_) ?_ | refine vHc (congrArg (fun z => some (Blk.ints _ z)) ?_) ?_ | refine vFc (congrArg (fun z => some (V.bool z)) ?_) ?_ | refine vFs rfl rfl ?_ ?_))
         all_goals first | with_reducible refine bN ?_ | with_reducible refine bE ?_ | with_reducible refine bR ?_ | refine bX rfl ?_
         all_goals first
           | with_reducible refine tR ?_
           | with_reducible refine tE ?_
           | (
            with_reducible refine tN ?_
            refine cR ?_
            refine oQ (Q_build rfl rfl rfl rfl rfl rfl rfl rfl) rfl rfl ?_
            first | refine oSw rfl rfl rfl rfl ?_ | refine oSa rfl rfl rfl rfl ?_
            refine oA rfl rfl ?_
            refine oN ?_
            refine CW_ret ?_))
      all_goals (
       first
         | (have hf := thF_some (a := a) (b := b) (P := PP) (C := CC) (i := i) (by omega) hno (by omega)
            have e : thO p c a b = some (PP.getD i []) := hO.trans (by rw [hf, Option.map_some])
            obtain ⟨e1, e2⟩ := th_yes e
            refine exitQ (.inr rfl) 0 (.cons (.arr rfl rfl rfl rfl (by first | omega | (dsimp only; omega) | (simp; omega) | (simp; done))) (.cons (.tmp rfl rfl) .nil)) ?_ rfl vHn rfl rfl
            rw [e1, e2]
            rfl)
         | (have hf := thF_none (a := a) (b := b) (P := PP) (C := CC) (fun j hj => hno j (by omega))
            have e : thO p c a b = none := hO.trans (by rw [hf, Option.map_none])
            obtain ⟨e1, e2⟩ := th_no e
            refine exitQ (.inr rfl) 0 (.cons (.arr rfl rfl rfl rfl (by first | omega | (dsimp only; omega) | (simp; omega) | (simp; done))) (.cons (.tmp rfl rfl) .nil)) ?_ rfl vHn rfl rfl
            rw [e1, e2]
            rfl))
    | true =>
      have htm := thL_mem hp ha hb hka
      have htl := allPts_three htm
      have hm := meetZ6 p c (thL p c a b) hp hcl qc htm hz
      rw [if_neg (fun x => by rw [hz] at x; cases x.2.2)] at hO
      obtain ⟨e1, e2⟩ := th_no hO
      refine conW tab_ok [(0, .int p), (1, .arr c), (2, .arr a), (3, .arr b)] 0 [] [] Tryd.func64 rfl rfl rfl rfl rfl rfl rfl rfl rfl ?_
      refine cR ?_
      iterate 3 refine oBox rfl rfl rfl rfl rfl rfl ?_
      refine oAlloc rfl rfl rfl rfl rfl rfl rfl ?_
      refine oA rfl rfl ?_
      refine oN ?_
      refine cR ?_
      refine oM rfl rfl ?_
      first | refine oQ (Lw rfl rfl rfl rfl) rfl rfl ?_ | refine oQ (La rfl rfl rfl rfl rfl) rfl rfl ?_
      first | refine oQ (Lw rfl rfl rfl rfl) rfl rfl ?_ | refine oQ (La rfl rfl rfl rfl rfl) rfl rfl ?_
      refine oQe (Q_call (hta) [] rfl rfl (Fits.mk' vHn rfl rfl (by first | (simp; done) | exact glOk rfl rfl rfl)) rfl rfl) (show _ = .tuple [.arr (tgL p c a), .bool true] from rfl) rfl rfl ?_
      refine oM rfl rfl ?_
      iterate 2 refine oQ (Q_extract rfl rfl) rfl rfl ?_
      refine oAlloc rfl rfl rfl rfl rfl rfl rfl ?_
      first | refine oSw rfl rfl rfl rfl ?_ | refine oSa rfl rfl rfl rfl ?_
      refine oA rfl rfl ?_
      refine oN ?_
      refine cR ?_
      refine oM rfl rfl ?_
      first | refine oQ (Lw rfl rfl rfl rfl) rfl rfl ?_ | refine oQ (La rfl rfl rfl rfl rfl) rfl rfl ?_
      first | refine oQ (Lw rfl rfl rfl rfl) rfl rfl ?_ | refine oQ (La rfl rfl rfl rfl rfl) rfl rfl ?_
      refine oQe (Q_call (htb) [] rfl rfl (Fits.mk' vHn rfl rfl (by first | (simp; done) | exact glOk rfl rfl rfl)) rfl rfl) (show _ = .tuple [.arr (tgL p c b), .bool true] from rfl) rfl rfl ?_
      refine oM rfl rfl ?_
      iterate 2 refine oQ (Q_extract rfl rfl) rfl rfl ?_
      refine oAlloc rfl rfl rfl rfl rfl rfl rfl ?_
      first | refine oSw rfl rfl rfl rfl ?_ | refine oSa rfl rfl rfl rfl ?_
      refine oA rfl rfl ?_
      refine oN ?_
      refine CW_seq ?_
      refine cR ?_
      refine oM rfl rfl ?_
      refine oQe (Q_not rfl) (show _ = V.bool false from rfl) rfl rfl ?_
      refine oM rfl rfl ?_
      all_goals first | refine oT rfl rfl ?_ | refine o1 rfl rfl rfl ?_ | refine o0 rfl rfl rfl ?_ | refine ogP1 rfl rfl rfl (fun hg => ?_) (fun hg => ?_) | refine ogP0 rfl rfl rfl (fun hg => ?_) (fun hg => ?_)
      all_goals try simp only [s1, s2, s3, s4, s5, s6, s7, s8, s9, s10, s11, s12] at hg
      all_goals first | (refine oM rfl rfl ?_) | skip
      all_goals first | refine oT rfl rfl ?_ | refine o1 rfl rfl rfl ?_ | refine o0 rfl rfl rfl ?_ | refine ogP1 rfl rfl rfl (fun hg => ?_) (fun hg => ?_) | refine ogP0 rfl rfl rfl (fun hg => ?_) (fun hg => ?_)
      all_goals try simp only [s1, s2, s3, s4, s5, s6, s7, s8, s9, s10, s11, s12] at hg
      all_goals first | (refine oQe (Q_not rfl) (show _ = V.bool false from rfl) rfl rfl ?_) | skip
      all_goals first | refine oQ (Q_pick_t rfl (by with_reducible rfl) rfl rfl) rfl rfl ?_ | refine oQ (Q_pick_f rfl (by with_reducible rfl) rfl rfl) rfl rfl ?_
      all_goals first | (refine oM rfl rfl ?_)
      all_goals first | refine oT rfl rfl ?_ | refine o1 rfl rfl rfl ?_ | refine o0 rfl rfl rfl ?_ | refine ogP1 rfl rfl rfl (fun hg => ?_) (fun hg => ?_) | refine ogP0 rfl rfl rfl (fun hg => ?_) (fun hg => ?_)
      all_goals try simp only [s1, s2, s3, s4, s5, s6, s7, s8, s9, s10, s11, s12] at hg
      all_goals first | (refine oM rfl rfl ?_) | skip
      all_goals first | refine oT rfl rfl ?_ | refine o1 rfl rfl rfl ?_ | refine o0 rfl rfl rfl ?_ | refine ogP1 rfl rfl rfl (fun hg => ?_) (fun hg => ?_) | refine ogP0 rfl rfl rfl (fun hg => ?_) (fun hg => ?_)
      all_goals try simp only [s1, s2, s3, s4, s5, s6, s7, s8, s9, s10, s11, s12] at hg
      all_goals first | refine oQ (Lw rfl rfl rfl rfl) rfl rfl ?_ | refine oQ (La rfl rfl rfl rfl rfl) rfl rfl ?_ | skip
      all_goals first | refine oT rfl rfl ?_ | refine o1 rfl rfl rfl ?_ | refine o0 rfl rfl rfl ?_ | refine ogP1 rfl rfl rfl (fun hg => ?_) (fun hg => ?_) | refine ogP0 rfl rfl rfl (fun hg => ?_) (fun hg => ?_)
      all_goals try simp only [s1, s2, s3, s4, s5, s6, s7, s8, s9, s10, s11, s12] at hg
      all_goals first | refine oQ (Lw rfl rfl rfl rfl) rfl rfl ?_ | refine oQ (La rfl rfl rfl rfl rfl) rfl rfl ?_ | skip
      all_goals first | refine oT rfl rfl ?_ | refine o1 rfl rfl rfl ?_ | refine o0 rfl rfl rfl ?_ | refine ogP1 rfl rfl rfl (fun hg => ?_) (fun hg => ?_) | refine ogP0 rfl rfl rfl (fun hg => ?_) (fun hg => ?_)
      all_goals try simp only [s1, s2, s3, s4, s5, s6, s7, s8, s9, s10, s11, s12] at hg
      all_goals first | (refine oQ (Q_call0 (hona) rfl rfl rfl) rfl rfl ?_) | skip
      all_goals first | refine oT rfl rfl ?_ | refine o1 rfl rfl rfl ?_ | refine o0 rfl rfl rfl ?_ | refine ogP1 rfl rfl rfl (fun hg => ?_) (fun hg => ?_) | refine ogP0 rfl rfl rfl (fun hg => ?_) (fun hg => ?_)
      all_goals try simp only [s1, s2, s3, s4, s5, s6, s7, s8, s9, s10, s11, s12] at hg
      all_goals first | (refine oQe (Q_not rfl) (show _ = V.bool false from rfl) rfl rfl ?_) | skip
      all_goals first | refine oQ (Q_pick_t rfl (by with_reducible rfl) rfl rfl) rfl rfl ?_ | refine oQ (Q_pick_f rfl (by with_reducible rfl) rfl rfl) rfl rfl ?_
      all_goals first | (refine oM rfl rfl ?_)
      all_goals first | refine oT rfl rfl ?_ | refine o1 rfl rfl rfl ?_ | refine o0 rfl rfl rfl ?_ | refine ogP1 rfl rfl rfl (fun hg => ?_) (fun hg => ?_) | refine ogP0 rfl rfl rfl (fun hg => ?_) (fun hg => ?_)
      all_goals try simp only [s1, s2, s3, s4, s5, s6, s7, s8, s9, s10, s11, s12] at hg
      all_goals first | (refine oM rfl rfl ?_) | skip
      all_goals first | refine oT rfl rfl ?_ | refine o1 rfl rfl rfl ?_ | refine o0 rfl rfl rfl ?_ | refine ogP1 rfl rfl rfl (fun hg => ?_) (fun hg => ?_) | refine ogP0 rfl rfl rfl (fun hg => ?_) (fun hg => ?_)
      all_goals try simp only [s1, s2, s3, s4, s5, s6, s7, s8, s9, s10, s11, s12] at hg
      all_goals first | refine oQ (Lw rfl rfl rfl rfl) rfl rfl ?_ | refine oQ (La rfl rfl rfl rfl rfl) rfl rfl ?_ | skip
      all_goals first | refine oT rfl rfl ?_ | refine o1 rfl rfl rfl ?_ | refine o0 rfl rfl rfl ?_ | refine ogP1 rfl rfl rfl (fun hg => ?_) (fun hg => ?_) | refine ogP0 rfl rfl rfl (fun hg => ?_) (fun hg => ?_)
      all_goals try simp only [s1, s2, s3, s4, s5, s6, s7, s8, s9, s10, s11, s12] at hg
      all_goals first | refine oQ (Lw rfl rfl rfl rfl) rfl rfl ?_ | refine oQ (La rfl rfl rfl rfl rfl) rfl rfl ?_ | skip
      all_goals first | refine oT rfl rfl ?_ | refine o1 rfl rfl rfl ?_ | refine o0 rfl rfl rfl ?_ | refine ogP1 rfl rfl rfl (fun hg => ?_) (fun hg => ?_) | refine ogP0 rfl rfl rfl (fun hg => ?_) (fun hg => ?_)
      all_goals try simp only [s1, s2, s3, s4, s5, s6, s7, s8, s9, s10, s11, s12] at hg
      all_goals first | (refine oQ (Q_call0 (honb) rfl rfl rfl) rfl rfl ?_) | skip
      all_goals first | refine oT rfl rfl ?_ | refine o1 rfl rfl rfl ?_ | refine o0 rfl rfl rfl ?_ | refine ogP1 rfl rfl rfl (fun hg => ?_) (fun hg => ?_) | refine ogP0 rfl rfl rfl (fun hg => ?_) (fun hg => ?_)
      all_goals try simp only [s1, s2, s3, s4, s5, s6, s7, s8, s9, s10, s11, s12] at hg
      all_goals first | (refine oQe (Q_not rfl) (show _ = V.bool false from rfl) rfl rfl ?_) | skip
      all_goals first | refine oQ (Q_pick_t rfl (by with_reducible rfl) rfl rfl) rfl rfl ?_ | refine oQ (Q_pick_f rfl (by with_reducible rfl) rfl rfl) rfl rfl ?_
      all_goals refine oN ?_
      all_goals (
       first | refine cT rfl ?_ | refine cF rfl ?_ | refine CW_cond rfl (fun hc => ?_) (fun hc => ?_)
       all_goals try simp only [s1, s2, s3, s4, s5, s6, s7, s8, s9, s10, s11, s12] at hc
       all_goals try (exfalso; first | (cases hc; done) | (simp at hc; done); done)
       all_goals first
         | (
          refine CW_skip ?_)
         | (
          refine cR ?_
          refine oQ (Q_build rfl rfl rfl rfl rfl rfl rfl rfl) rfl rfl ?_
          first | refine oSw rfl rfl rfl rfl ?_ | refine oSa rfl rfl rfl rfl ?_
          refine oA rfl rfl ?_
          refine oN ?_
          refine CW_ret ?_))
      all_goals first
        | with_reducible refine tR ?_
        | with_reducible refine tE ?_
        | (
         with_reducible refine tN ?_
         refine CW_cut (ι := Unit) (fun _ => True) (fun _ => ⟨[(0, .int p), (5, .ptr 0 0), (6, .ptr 1 0), (7, .ptr 2 0), (8, .ptr 3 0), (10, .ptr 4 0)], [(0, .ints 27 c), (1, .ints 29 a), (2, .ints 29 b), (3, .ints 29 [0, 0, 0]), (4, .ints 24 (thL p c a b))], 6⟩) ?_ ?_
         · (
          refine cR ?_
          first | refine oQ (Lw rfl rfl rfl rfl) rfl rfl ?_ | refine oQ (La rfl rfl rfl rfl rfl) rfl rfl ?_
          first | refine oQ (Lw rfl rfl rfl rfl) rfl rfl ?_ | refine oQ (La rfl rfl rfl rfl rfl) rfl rfl ?_
          refine oQ (Q_arrb rfl rfl rfl rfl rfl rfl rfl rfl rfl (by first | omega | (dsimp only; omega) | (simp; omega) | (simp; done)) (by first | omega | (dsimp only; omega) | (simp; omega) | (simp; done))) rfl rfl ?_
          refine oN ?_
          first | refine cT rfl ?_ | refine cF rfl ?_ | refine CW_cond rfl (fun hc => ?_) (fun hc => ?_)
          all_goals try simp only [s1, s2, s3, s4, s5, s6, s7, s8, s9, s10, s11, s12] at hc
          all_goals try (exfalso; first | (cases hc; done) | (simp at hc; done); done)
          all_goals first
            | (
             refine CW_skip ?_)
            | (
             refine cR ?_
             refine oM rfl rfl ?_
             first | refine oQ (Lw rfl rfl rfl rfl) rfl rfl ?_ | refine oQ (La rfl rfl rfl rfl rfl) rfl rfl ?_
             first | refine oQ (Lw rfl rfl rfl rfl) rfl rfl ?_ | refine oQ (La rfl rfl rfl rfl rfl) rfl rfl ?_
             refine oQ (Q_call0 (l01Join_con p a b hp hal hbl (allPts_sm hp ha) (allPts_sm hp hb)) rfl rfl rfl) rfl rfl ?_
             refine oM rfl rfl ?_
             iterate 2 refine oQ (Q_extract rfl rfl) rfl rfl ?_
             refine oAlloc rfl rfl rfl rfl rfl rfl rfl ?_
             first | refine oSw rfl rfl rfl rfl ?_ | refine oSa rfl rfl rfl rfl ?_
             refine oA rfl rfl ?_
             refine oN ?_
             refine CW_region ?_
             first | refine oQ (Lw rfl rfl rfl rfl) rfl rfl ?_ | refine oQ (La rfl rfl rfl rfl rfl) rfl rfl ?_
             first | refine oSw rfl rfl rfl rfl ?_ | refine oSa rfl rfl rfl rfl ?_
             refine OW_nil ?_)
          all_goals with_reducible refine tN ?_
          all_goals (
           refine ⟨(), ?_, View.mk' [] rfl rfl rfl ?_ ?_⟩
           · first | trivial | omega
           all_goals (repeat' first | exact vFn | refine vFc rfl ?_ | exact vHn | refine vHc rfl ?_ | refine vFc (congrArg (fun z => some (V.int z)) ?_) ?_ | refine vHc (congrArg (fun z => some (Blk.ints _ z)) ?_) ?_ | refine vFc (congrArg (fun z => some (V.bool z)) ?_) ?_ | refine vFs rfl rfl ?_ ?_)
           all_goals first | exact (if_pos (by simpa using hc)).symm | exact (if_neg (by simpa using hc)).symm))
         intro _ _
         refine cR ?_
         refine oM rfl rfl ?_
         first | refine oQ (Lw rfl rfl rfl rfl) rfl rfl ?_ | refine oQ (La rfl rfl rfl rfl rfl) rfl rfl ?_
         first | refine oQ (Lw rfl rfl rfl rfl) rfl rfl ?_ | refine oQ (La rfl rfl rfl rfl rfl) rfl rfl ?_
         refine oQe (Q_call (hm) [] rfl rfl (Fits.mk' vHn rfl rfl (by first | (simp; done) | exact glOk rfl rfl rfl)) rfl rfl) (show _ = .tuple [.nilsl, .nilsl, .bool false] from rfl) rfl rfl ?_
         refine oM rfl rfl ?_
         iterate 3 refine oQ (Q_extract rfl rfl) rfl rfl ?_
         iterate 3 refine oA rfl rfl ?_
         refine oN ?_
         refine CW_seq ?_
         refine cR ?_
         refine oA rfl rfl ?_
         refine oN ?_
         refine CW_block ?_
         refine CW_rounds 1 ?_
         refine RW_succ ?_
         refine CW_seq ?_
         refine cR ?_
         iterate 2 refine oM rfl rfl ?_
         first | refine oQ (Q_len rfl rfl rfl rfl) rfl rfl ?_ | refine oQ (Q_len0 rfl rfl rfl rfl) rfl rfl ?_
         refine oQ (Q_bin rfl rfl rfl) rfl rfl ?_
         refine oM rfl rfl ?_
         all_goals first | refine oT rfl rfl ?_ | refine o1 rfl rfl rfl ?_ | refine o0 rfl rfl rfl ?_ | refine ogP1 rfl rfl rfl (fun hg => ?_) (fun hg => ?_) | refine ogP0 rfl rfl rfl (fun hg => ?_) (fun hg => ?_)
         all_goals try simp only [s1, s2, s3, s4, s5, s6, s7, s8, s9, s10, s11, s12] at hg
         all_goals first | (refine oM rfl rfl ?_) | skip
         all_goals first | refine oQ (Q_pick_t rfl (by with_reducible rfl) rfl rfl) rfl rfl ?_ | refine oQ (Q_pick_f rfl (by with_reducible rfl) rfl rfl) rfl rfl ?_
         all_goals refine oN ?_
         all_goals (
          first | refine cT rfl ?_ | refine cF rfl ?_ | refine CW_cond rfl (fun hc => ?_) (fun hc => ?_)
          all_goals try simp only [s1, s2, s3, s4, s5, s6, s7, s8, s9, s10, s11, s12] at hc
          all_goals try (exfalso; first | (cases hc; done) | (simp at hc; done); done)
          all_goals first
            | (
             refine CW_skip ?_)
            | (
             refine CW_exit ?_))
         all_goals first
           | with_reducible refine tR ?_
           | with_reducible refine tE ?_
           | (
            with_reducible refine tN ?_
            refine CW_seq ?_
            refine CW_block ?_
            refine cR ?_
            iterate 2 refine oM rfl rfl ?_
            first | refine oQ (Is0 rfl rfl rfl rfl rfl rfl) rfl rfl ?_ | refine oQ (Is1 rfl rfl rfl rfl rfl rfl) rfl rfl ?_
            refine oQ (Ld rfl rfl rfl rfl) rfl rfl ?_
            refine oA rfl rfl ?_
            refine oN ?_
            iterate 2 refine CW_seq ?_
            refine CW_draw lateOk (by decide +kernel) ?_
            iterate 2 refine qM rfl rfl ?_
            first | refine qQ (Q_ixs0z 3 rfl rfl rfl rfl rfl rfl (by first | omega | (dsimp only; omega) | (simp; omega) | (simp; done))) rfl rfl ?_ | refine qQ (Q_ixsz 3 rfl rfl rfl rfl rfl rfl (by first | omega | (dsimp only; omega) | (simp; omega) | (simp; done))) rfl rfl ?_
            first | refine qQ (Lw rfl rfl rfl rfl) rfl rfl ?_ | refine qQ (La rfl rfl rfl rfl rfl) rfl rfl ?_
            first | refine qQ (Lw rfl rfl rfl rfl) rfl rfl ?_ | refine qQ (La rfl rfl rfl rfl rfl) rfl rfl ?_
            refine qQ (Q_arrb rfl rfl rfl rfl rfl rfl rfl rfl rfl (by first | omega | (dsimp only; omega) | (simp; omega) | (simp; done)) (by first | omega | (dsimp only; omega) | (simp; omega) | (simp; done))) rfl rfl ?_
            refine QW_nil ?_
            all_goals with_reducible refine tN ?_
            all_goals (
             first | refine cT rfl ?_ | refine cF rfl ?_ | refine CW_cond rfl (fun hc => ?_) (fun hc => ?_)
             all_goals try simp only [s1, s2, s3, s4, s5, s6, s7, s8, s9, s10, s11, s12] at hc
             all_goals try (exfalso; first | (cases hc; done) | (simp at hc; done); done)
             all_goals first
               | (
                refine CW_skip ?_)
               | (
                refine CW_region ?_
                refine oM rfl rfl ?_
                first | refine oQ (Q_binu rfl rfl rfl (by omega)) rfl rfl ?_ | refine oQ (Q_bin rfl rfl rfl) rfl rfl ?_
                refine oA rfl rfl ?_
                refine OW_nil ?_))
            all_goals with_reducible refine tN ?_
            all_goals (
             iterate 2 refine CW_seq ?_
             refine CW_draw lateOk (by decide +kernel) ?_
             iterate 2 refine qM rfl rfl ?_
             first | refine qQ (Q_ixs0z 3 rfl rfl rfl rfl rfl rfl (by first | omega | (dsimp only; omega) | (simp; omega) | (simp; done))) rfl rfl ?_ | refine qQ (Q_ixsz 3 rfl rfl rfl rfl rfl rfl (by first | omega | (dsimp only; omega) | (simp; omega) | (simp; done))) rfl rfl ?_
             first | refine qQ (Lw rfl rfl rfl rfl) rfl rfl ?_ | refine qQ (La rfl rfl rfl rfl rfl) rfl rfl ?_
             first | refine qQ (Lw rfl rfl rfl rfl) rfl rfl ?_ | refine qQ (La rfl rfl rfl rfl rfl) rfl rfl ?_
             refine qQ (Q_arrb rfl rfl rfl rfl rfl rfl rfl rfl rfl (by first | omega | (dsimp only; omega) | (simp; omega) | (simp; done)) (by first | omega | (dsimp only; omega) | (simp; omega) | (simp; done))) rfl rfl ?_
             refine QW_nil ?_
             all_goals with_reducible refine tN ?_
             all_goals (
              first | refine cT rfl ?_ | refine cF rfl ?_ | refine CW_cond rfl (fun hc => ?_) (fun hc => ?_)
              all_goals try simp only [s1, s2, s3, s4, s5, s6, s7, s8, s9, s10, s11, s12] at hc
              all_goals try (exfalso; first | (cases hc; done) | (simp at hc; done); done)
              all_goals first
                | (
                 refine CW_skip ?_)
                | (
                 refine CW_region ?_
                 refine oM rfl rfl ?_
                 first | refine oQ (Q_binu rfl rfl rfl (by omega)) rfl rfl ?_ | refine oQ (Q_bin rfl rfl rfl) rfl rfl ?_
                 refine oA rfl rfl ?_
                 refine OW_nil ?_))
             all_goals with_reducible refine tN ?_
             all_goals (
              refine cR ?_
              refine oM rfl rfl ?_
              refine oQ (Q_bin rfl rfl rfl) rfl rfl ?_
              refine oN ?_
              first | refine cT rfl ?_ | refine cF rfl ?_ | refine CW_cond rfl (fun hc => ?_) (fun hc => ?_)
              all_goals try simp only [s1, s2, s3, s4, s5, s6, s7, s8, s9, s10, s11, s12] at hc
              all_goals try (exfalso; first | (cases hc; done) | (simp at hc; done); done)
              all_goals first
                | (
                 refine CW_skip ?_)
                | (
                 refine cR ?_
                 iterate 2 refine oM rfl rfl ?_
                 first | refine oQ (Q_ixs0z 3 rfl rfl rfl rfl rfl rfl (by first | omega | (dsimp only; omega) | (simp; omega) | (simp; done))) rfl rfl ?_ | refine oQ (Q_ixsz 3 rfl rfl rfl rfl rfl rfl (by first | omega | (dsimp only; omega) | (simp; omega) | (simp; done))) rfl rfl ?_
                 first | refine oQ (Lw rfl rfl rfl rfl) rfl rfl ?_ | refine oQ (La rfl rfl rfl rfl rfl) rfl rfl ?_
                 first | refine oSw rfl rfl rfl rfl ?_ | refine oSa rfl rfl rfl rfl ?_
                 refine oA rfl rfl ?_
                 refine oN ?_
                 refine CW_ret ?_)))
            all_goals first | with_reducible refine bN ?_ | with_reducible refine bE ?_ | with_reducible refine bR ?_ | refine bX rfl ?_
            all_goals first
              | with_reducible refine tR ?_
              | with_reducible refine tE ?_
              | (
               with_reducible refine tN ?_
               refine CW_region ?_
               refine oM rfl rfl ?_
               first | refine oQ (Q_binu rfl rfl rfl (by omega)) rfl rfl ?_ | refine oQ (Q_bin rfl rfl rfl) rfl rfl ?_
               refine oA rfl rfl ?_
               refine OW_nil ?_))
         all_goals first
           | with_reducible refine tR ?_
           | with_reducible refine tE ?_
           | (
            with_reducible refine tN ?_
            exfalso; first | omega | (simp at hc; done) | (simp_all; done))
         all_goals first | with_reducible refine bN ?_ | with_reducible refine bE ?_ | with_reducible refine bR ?_ | refine bX rfl ?_
         all_goals first
           | with_reducible refine tR ?_
           | with_reducible refine tE ?_
           | (
            with_reducible refine tN ?_
            refine cR ?_
            refine oQ (Q_build rfl rfl rfl rfl rfl rfl rfl rfl) rfl rfl ?_
            first | refine oSw rfl rfl rfl rfl ?_ | refine oSa rfl rfl rfl rfl ?_
            refine oA rfl rfl ?_
            refine oN ?_
            refine CW_ret ?_))
      all_goals (
       refine exitQ (.inr rfl) 0 (.cons (.arr rfl rfl rfl rfl (by first | omega | (dsimp only; omega) | (simp; omega) | (simp; done))) (.cons (.tmp rfl rfl) .nil)) ?_ rfl vHn rfl rfl
       rw [e1, e2]
       rfl)
  · have hk2 : (facP p (slL p c a) != 0) = true → cuG p c a = true → (facP p (slL p c b) != 0) = true → cuG p c b = true → False := fun h1 h2 h3 h4 => hk ⟨by simp only [okT, h1, h2]; rfl, by simp only [okT, h3, h4]; rfl⟩
    rw [if_neg (fun x => hk ⟨x.1, x.2.1⟩)] at hO
    obtain ⟨e1, e2⟩ := th_no hO
    rw [e1, e2]
    clear hO
    generalize (facP p (slL p c a) != 0) = b1 at *
    generalize (facP p (slL p c b) != 0) = b2 at *
    generalize cuG p c a = b3 at *
    generalize cuG p c b = b4 at *
    refine conW tab_ok [(0, .int p), (1, .arr c), (2, .arr a), (3, .arr b)] 0 [] [] Tryd.func64 rfl rfl rfl rfl rfl rfl rfl rfl rfl ?_
    refine cR ?_
    iterate 3 refine oBox rfl rfl rfl rfl rfl rfl ?_
    refine oAlloc rfl rfl rfl rfl rfl rfl rfl ?_
    refine oA rfl rfl ?_
    refine oN ?_
    refine cR ?_
    refine oM rfl rfl ?_
    first | refine oQ (Lw rfl rfl rfl rfl) rfl rfl ?_ | refine oQ (La rfl rfl rfl rfl rfl) rfl rfl ?_
    first | refine oQ (Lw rfl rfl rfl rfl) rfl rfl ?_ | refine oQ (La rfl rfl rfl rfl rfl) rfl rfl ?_
    refine oQe (Q_call (hta) [] rfl rfl (Fits.mk' vHn rfl rfl (by first | (simp; done) | exact glOk rfl rfl rfl)) rfl rfl) (show _ = .tuple [.arr (tgL p c a), .bool b1] from rfl) rfl rfl ?_
    refine oM rfl rfl ?_
    iterate 2 refine oQ (Q_extract rfl rfl) rfl rfl ?_
    refine oAlloc rfl rfl rfl rfl rfl rfl rfl ?_
    first | refine oSw rfl rfl rfl rfl ?_ | refine oSa rfl rfl rfl rfl ?_
    refine oA rfl rfl ?_
    refine oN ?_
    refine cR ?_
    refine oM rfl rfl ?_
    first | refine oQ (Lw rfl rfl rfl rfl) rfl rfl ?_ | refine oQ (La rfl rfl rfl rfl rfl) rfl rfl ?_
    first | refine oQ (Lw rfl rfl rfl rfl) rfl rfl ?_ | refine oQ (La rfl rfl rfl rfl rfl) rfl rfl ?_
    refine oQe (Q_call (htb) [] rfl rfl (Fits.mk' vHn rfl rfl (by first | (simp; done) | exact glOk rfl rfl rfl)) rfl rfl) (show _ = .tuple [.arr (tgL p c b), .bool b2] from rfl) rfl rfl ?_
    refine oM rfl rfl ?_
    iterate 2 refine oQ (Q_extract rfl rfl) rfl rfl ?_
    refine oAlloc rfl rfl rfl rfl rfl rfl rfl ?_
    first | refine oSw rfl rfl rfl rfl ?_ | refine oSa rfl rfl rfl rfl ?_
    refine oA rfl rfl ?_
    refine oN ?_
    refine CW_seq ?_
    refine cR ?_
    refine oM rfl rfl ?_
    refine oQ (Q_not rfl) rfl rfl ?_
    refine oM rfl rfl ?_
    all_goals first | refine oT rfl rfl ?_ | refine o1 rfl rfl rfl ?_ | refine o0 rfl rfl rfl ?_ | refine ogP1 rfl rfl rfl (fun hg => ?_) (fun hg => ?_) | refine ogP0 rfl rfl rfl (fun hg => ?_) (fun hg => ?_)
    all_goals try simp only [s1, s2, s3, s4, s5, s6, s7, s8, s9, s10, s11, s12] at hg
    all_goals first | (refine oM rfl rfl ?_) | skip
    all_goals first | refine oT rfl rfl ?_ | refine o1 rfl rfl rfl ?_ | refine o0 rfl rfl rfl ?_ | refine ogP1 rfl rfl rfl (fun hg => ?_) (fun hg => ?_) | refine ogP0 rfl rfl rfl (fun hg => ?_) (fun hg => ?_)
    all_goals try simp only [s1, s2, s3, s4, s5, s6, s7, s8, s9, s10, s11, s12] at hg
    all_goals first | (refine oQ (Q_not rfl) rfl rfl ?_) | skip
    all_goals first | refine oQ (Q_pick_t rfl (by with_reducible rfl) rfl rfl) rfl rfl ?_ | refine oQ (Q_pick_f rfl (by with_reducible rfl) rfl rfl) rfl rfl ?_
    all_goals first | (refine oM rfl rfl ?_)
    all_goals first | refine oT rfl rfl ?_ | refine o1 rfl rfl rfl ?_ | refine o0 rfl rfl rfl ?_ | refine ogP1 rfl rfl rfl (fun hg => ?_) (fun hg => ?_) | refine ogP0 rfl rfl rfl (fun hg => ?_) (fun hg => ?_)
    all_goals try simp only [s1, s2, s3, s4, s5, s6, s7, s8, s9, s10, s11, s12] at hg
    all_goals first | (refine oM rfl rfl ?_) | skip
    all_goals first | refine oT rfl rfl ?_ | refine o1 rfl rfl rfl ?_ | refine o0 rfl rfl rfl ?_ | refine ogP1 rfl rfl rfl (fun hg => ?_) (fun hg => ?_) | refine ogP0 rfl rfl rfl (fun hg => ?_) (fun hg => ?_)
    all_goals try simp only [s1, s2, s3, s4, s5, s6, s7, s8, s9, s10, s11, s12] at hg
    all_goals first | refine oQ (Lw rfl rfl rfl rfl) rfl rfl ?_ | refine oQ (La rfl rfl rfl rfl rfl) rfl rfl ?_ | skip
    all_goals first | refine oT rfl rfl ?_ | refine o1 rfl rfl rfl ?_ | refine o0 rfl rfl rfl ?_ | refine ogP1 rfl rfl rfl (fun hg => ?_) (fun hg => ?_) | refine ogP0 rfl rfl rfl (fun hg => ?_) (fun hg => ?_)
    all_goals try simp only [s1, s2, s3, s4, s5, s6, s7, s8, s9, s10, s11, s12] at hg
    all_goals first | refine oQ (Lw rfl rfl rfl rfl) rfl rfl ?_ | refine oQ (La rfl rfl rfl rfl rfl) rfl rfl ?_ | skip
    all_goals first | refine oT rfl rfl ?_ | refine o1 rfl rfl rfl ?_ | refine o0 rfl rfl rfl ?_ | refine ogP1 rfl rfl rfl (fun hg => ?_) (fun hg => ?_) | refine ogP0 rfl rfl rfl (fun hg => ?_) (fun hg => ?_)
    all_goals try simp only [s1, s2, s3, s4, s5, s6, s7, s8, s9, s10, s11, s12] at hg
    all_goals first | (refine oQ (Q_call0 (hona) rfl rfl rfl) rfl rfl ?_) | skip
    all_goals first | refine oT rfl rfl ?_ | refine o1 rfl rfl rfl ?_ | refine o0 rfl rfl rfl ?_ | refine ogP1 rfl rfl rfl (fun hg => ?_) (fun hg => ?_) | refine ogP0 rfl rfl rfl (fun hg => ?_) (fun hg => ?_)
    all_goals try simp only [s1, s2, s3, s4, s5, s6, s7, s8, s9, s10, s11, s12] at hg
    all_goals first | (refine oQ (Q_not rfl) rfl rfl ?_) | skip
    all_goals first | refine oQ (Q_pick_t rfl (by with_reducible rfl) rfl rfl) rfl rfl ?_ | refine oQ (Q_pick_f rfl (by with_reducible rfl) rfl rfl) rfl rfl ?_
    all_goals first | (refine oM rfl rfl ?_)
    all_goals first | refine oT rfl rfl ?_ | refine o1 rfl rfl rfl ?_ | refine o0 rfl rfl rfl ?_ | refine ogP1 rfl rfl rfl (fun hg => ?_) (fun hg => ?_) | refine ogP0 rfl rfl rfl (fun hg => ?_) (fun hg => ?_)
    all_goals try simp only [s1, s2, s3, s4, s5, s6, s7, s8, s9, s10, s11, s12] at hg
    all_goals first | (refine oM rfl rfl ?_) | skip
    all_goals first | refine oT rfl rfl ?_ | refine o1 rfl rfl rfl ?_ | refine o0 rfl rfl rfl ?_ | refine ogP1 rfl rfl rfl (fun hg => ?_) (fun hg => ?_) | refine ogP0 rfl rfl rfl (fun hg => ?_) (fun hg => ?_)
    all_goals try simp only [s1, s2, s3, s4, s5, s6, s7, s8, s9, s10, s11, s12] at hg
    all_goals first | refine oQ (Lw rfl rfl rfl rfl) rfl rfl ?_ | refine oQ (La rfl rfl rfl rfl rfl) rfl rfl ?_ | skip
    all_goals first | refine oT rfl rfl ?_ | refine o1 rfl rfl rfl ?_ | refine o0 rfl rfl rfl ?_ | refine ogP1 rfl rfl rfl (fun hg => ?_) (fun hg => ?_) | refine ogP0 rfl rfl rfl (fun hg => ?_) (fun hg => ?_)
    all_goals try simp only [s1, s2, s3, s4, s5, s6, s7, s8, s9, s10, s11, s12] at hg
    all_goals first | refine oQ (Lw rfl rfl rfl rfl) rfl rfl ?_ | refine oQ (La rfl rfl rfl rfl rfl) rfl rfl ?_ | skip
    all_goals first | refine oT rfl rfl ?_ | refine o1 rfl rfl rfl ?_ | refine o0 rfl rfl rfl ?_ | refine ogP1 rfl rfl rfl (fun hg => ?_) (fun hg => ?_) | refine ogP0 rfl rfl rfl (fun hg => ?_) (fun hg => ?_)
    all_goals try simp only [s1, s2, s3, s4, s5, s6, s7, s8, s9, s10, s11, s12] at hg
    all_goals first | (refine oQ (Q_call0 (honb) rfl rfl rfl) rfl rfl ?_) | skip
    all_goals first | refine oT rfl rfl ?_ | refine o1 rfl rfl rfl ?_ | refine o0 rfl rfl rfl ?_ | refine ogP1 rfl rfl rfl (fun hg => ?_) (fun hg => ?_) | refine ogP0 rfl rfl rfl (fun hg => ?_) (fun hg => ?_)
    all_goals try simp only [s1, s2, s3, s4, s5, s6, s7, s8, s9, s10, s11, s12] at hg
    all_goals first | (refine oQ (Q_not rfl) rfl rfl ?_) | skip
    all_goals first | refine oQ (Q_pick_t rfl (by with_reducible rfl) rfl rfl) rfl rfl ?_ | refine oQ (Q_pick_f rfl (by with_reducible rfl) rfl rfl) rfl rfl ?_
    all_goals refine oN ?_
    all_goals (
     first | refine cT rfl ?_ | refine cF rfl ?_ | refine CW_cond rfl (fun hc => ?_) (fun hc => ?_)
     all_goals try simp only [s1, s2, s3, s4, s5, s6, s7, s8, s9, s10, s11, s12] at hc
     all_goals try (exfalso; first | (cases hc; done) | (simp at hc; done) | (simp_all; done); done)
     all_goals first
       | (
        refine CW_skip ?_)
       | (
        refine cR ?_
        refine oQ (Q_build rfl rfl rfl rfl rfl rfl rfl rfl) rfl rfl ?_
        first | refine oSw rfl rfl rfl rfl ?_ | refine oSa rfl rfl rfl rfl ?_
        refine oA rfl rfl ?_
        refine oN ?_
        refine CW_ret ?_))
    all_goals first
      | with_reducible refine tR ?_
      | with_reducible refine tE ?_
      | (
       with_reducible refine tN ?_
       refine CW_seq ?_
       refine cR ?_
       (exfalso; simp_all; done)
       first | refine oQ (Lw rfl rfl rfl rfl) rfl rfl ?_ | refine oQ (La rfl rfl rfl rfl rfl) rfl rfl ?_
       refine oQ (Q_arrb rfl rfl rfl rfl rfl rfl rfl rfl rfl (by first | omega | (dsimp only; omega) | (simp; omega) | (simp; done)) (by first | omega | (dsimp only; omega) | (simp; omega) | (simp; done))) rfl rfl ?_
       refine oN ?_
       first | refine cT rfl ?_ | refine cF rfl ?_ | refine CW_cond rfl (fun hc => ?_) (fun hc => ?_)
       all_goals try simp only [s1, s2, s3, s4, s5, s6, s7, s8, s9, s10, s11, s12] at hc
       all_goals try (exfalso; first | (cases hc; done) | (simp at hc; done) | (simp_all; done); done)
       all_goals first
         | (
          refine CW_skip ?_)
         | (
          refine cR ?_
          refine oM rfl rfl ?_
          first | refine oQ (Lw rfl rfl rfl rfl) rfl rfl ?_ | refine oQ (La rfl rfl rfl rfl rfl) rfl rfl ?_
          first | refine oQ (Lw rfl rfl rfl rfl) rfl rfl ?_ | refine oQ (La rfl rfl rfl rfl rfl) rfl rfl ?_
          fail "call of loop.example/g01310/spec.l01Join at slot 63"
          refine oM rfl rfl ?_
          iterate 2 refine oQ (Q_extract rfl rfl) rfl rfl ?_
          refine oAlloc rfl rfl rfl rfl rfl rfl rfl ?_
          first | refine oSw rfl rfl rfl rfl ?_ | refine oSa rfl rfl rfl rfl ?_
          refine oA rfl rfl ?_
          refine oN ?_
          refine CW_region ?_
          first | refine oQ (Lw rfl rfl rfl rfl) rfl rfl ?_ | refine oQ (La rfl rfl rfl rfl rfl) rfl rfl ?_
          first | refine oSw rfl rfl rfl rfl ?_ | refine oSa rfl rfl rfl rfl ?_
          refine OW_nil ?_)
       all_goals with_reducible refine tN ?_
       all_goals (
        refine cR ?_
        refine oM rfl rfl ?_
        first | refine oQ (Lw rfl rfl rfl rfl) rfl rfl ?_ | refine oQ (La rfl rfl rfl rfl rfl) rfl rfl ?_
        first | refine oQ (Lw rfl rfl rfl rfl) rfl rfl ?_ | refine oQ (La rfl rfl rfl rfl rfl) rfl rfl ?_
        fail "call of loop.example/g01310/spec.l06Meet at slot 71"
        refine oM rfl rfl ?_
        iterate 3 refine oQ (Q_extract rfl rfl) rfl rfl ?_
        iterate 3 refine oA rfl rfl ?_
        refine oN ?_
        refine CW_seq ?_
        refine cR ?_
        refine oA rfl rfl ?_
        refine oN ?_
        refine CW_block ?_
        fail "loop 0 wants its states"
        · first | trivial | omega | (simp; done) | (simp; omega)
        · refine View.mk' [] rfl rfl rfl ?_ ?_
          repeat' first | exact vFn | refine vFc rfl ?_ | exact vHn | refine vHc rfl ?_ | refine vFc (congrArg (fun z => some (V.int z)) ?_) ?_ | refine vHc (congrArg (fun z => some (Blk.ints _ z)) ?_) ?_ | refine vFc (congrArg (fun z => some (V.bool z)) ?_) ?_ | refine vFs rfl rfl ?_ ?_
        intro i hi
        refine CW_seq ?_
        refine cR ?_
        iterate 2 refine oM rfl rfl ?_
        first | refine oQ (Q_len rfl rfl rfl rfl) rfl rfl ?_ | refine oQ (Q_len0 rfl rfl rfl rfl) rfl rfl ?_
        refine oQ (Q_bin rfl rfl rfl) rfl rfl ?_
        refine oM rfl rfl ?_
        all_goals first | refine oT rfl rfl ?_ | refine o1 rfl rfl rfl ?_ | refine o0 rfl rfl rfl ?_ | refine ogP1 rfl rfl rfl (fun hg => ?_) (fun hg => ?_) | refine ogP0 rfl rfl rfl (fun hg => ?_) (fun hg => ?_)
        all_goals try simp only [s1, s2, s3, s4, s5, s6, s7, s8, s9, s10, s11, s12] at hg
        all_goals first | (refine oM rfl rfl ?_) | skip
        all_goals first | refine oQ (Q_pick_t rfl (by with_reducible rfl) rfl rfl) rfl rfl ?_ | refine oQ (Q_pick_f rfl (by with_reducible rfl) rfl rfl) rfl rfl ?_
        all_goals refine oN ?_
        all_goals (
         first | refine cT rfl ?_ | refine cF rfl ?_ | refine CW_cond rfl (fun hc => ?_) (fun hc => ?_)
         all_goals try simp only [s1, s2, s3, s4, s5, s6, s7, s8, s9, s10, s11, s12] at hc
         all_goals try (exfalso; first | (cases hc; done) | (simp at hc; done) | (simp_all; done); done)
         all_goals first
           | (
            refine CW_skip ?_)
           | (
            refine CW_exit ?_))
        all_goals first
          | with_reducible refine tR ?_
          | with_reducible refine tE ?_
          | (
           with_reducible refine tN ?_
           refine CW_seq ?_
           refine CW_block ?_
           refine cR ?_
           iterate 2 refine oM rfl rfl ?_
           first | refine oQ (Is0 rfl rfl rfl rfl rfl rfl) rfl rfl ?_ | refine oQ (Is1 rfl rfl rfl rfl rfl rfl) rfl rfl ?_
           refine oQ (Ld rfl rfl rfl rfl) rfl rfl ?_
           refine oA rfl rfl ?_
           refine oN ?_
           iterate 2 refine CW_seq ?_
           refine CW_draw lateOk (by decide +kernel) ?_
           iterate 2 refine qM rfl rfl ?_
           first | refine qQ (Q_ixs0z 3 rfl rfl rfl rfl rfl rfl (by first | omega | (dsimp only; omega) | (simp; omega) | (simp; done))) rfl rfl ?_ | refine qQ (Q_ixsz 3 rfl rfl rfl rfl rfl rfl (by first | omega | (dsimp only; omega) | (simp; omega) | (simp; done))) rfl rfl ?_
           first | refine qQ (Lw rfl rfl rfl rfl) rfl rfl ?_ | refine qQ (La rfl rfl rfl rfl rfl) rfl rfl ?_
           first | refine qQ (Lw rfl rfl rfl rfl) rfl rfl ?_ | refine qQ (La rfl rfl rfl rfl rfl) rfl rfl ?_
           refine qQ (Q_arrb rfl rfl rfl rfl rfl rfl rfl rfl rfl (by first | omega | (dsimp only; omega) | (simp; omega) | (simp; done)) (by first | omega | (dsimp only; omega) | (simp; omega) | (simp; done))) rfl rfl ?_
           refine QW_nil ?_
           all_goals with_reducible refine tN ?_
           all_goals (
            first | refine cT rfl ?_ | refine cF rfl ?_ | refine CW_cond rfl (fun hc => ?_) (fun hc => ?_)
            all_goals try simp only [s1, s2, s3, s4, s5, s6, s7, s8, s9, s10, s11, s12] at hc
            all_goals try (exfalso; first | (cases hc; done) | (simp at hc; done) | (simp_all; done); done)
            all_goals first
              | (
               refine CW_skip ?_)
              | (
               refine CW_region ?_
               refine oM rfl rfl ?_
               first | refine oQ (Q_binu rfl rfl rfl (by omega)) rfl rfl ?_ | refine oQ (Q_bin rfl rfl rfl) rfl rfl ?_
               refine oA rfl rfl ?_
               refine OW_nil ?_))
           all_goals with_reducible refine tN ?_
           all_goals (
            iterate 2 refine CW_seq ?_
            refine CW_draw lateOk (by decide +kernel) ?_
            iterate 2 refine qM rfl rfl ?_
            first | refine qQ (Q_ixs0z 3 rfl rfl rfl rfl rfl rfl (by first | omega | (dsimp only; omega) | (simp; omega) | (simp; done))) rfl rfl ?_ | refine qQ (Q_ixsz 3 rfl rfl rfl rfl rfl rfl (by first | omega | (dsimp only; omega) | (simp; omega) | (simp; done))) rfl rfl ?_
            first | refine qQ (Lw rfl rfl rfl rfl) rfl rfl ?_ | refine qQ (La rfl rfl rfl rfl rfl) rfl rfl ?_
            first | refine qQ (Lw rfl rfl rfl rfl) rfl rfl ?_ | refine qQ (La rfl rfl rfl rfl rfl) rfl rfl ?_
            refine qQ (Q_arrb rfl rfl rfl rfl rfl rfl rfl rfl rfl (by first | omega | (dsimp only; omega) | (simp; omega) | (simp; done)) (by first | omega | (dsimp only; omega) | (simp; omega) | (simp; done))) rfl rfl ?_
            refine QW_nil ?_
            all_goals with_reducible refine tN ?_
            all_goals (
             first | refine cT rfl ?_ | refine cF rfl ?_ | refine CW_cond rfl (fun hc => ?_) (fun hc => ?_)
             all_goals try simp only [s1, s2, s3, s4, s5, s6, s7, s8, s9, s10, s11, s12] at hc
             all_goals try (exfalso; first | (cases hc; done) | (simp at hc; done) | (simp_all; done); done)
             all_goals first
               | (
                refine CW_skip ?_)
               | (
                refine CW_region ?_
                refine oM rfl rfl ?_
                first | refine oQ (Q_binu rfl rfl rfl (by omega)) rfl rfl ?_ | refine oQ (Q_bin rfl rfl rfl) rfl rfl ?_
                refine oA rfl rfl ?_
                refine OW_nil ?_))
            all_goals with_reducible refine tN ?_
            all_goals (
             refine cR ?_
             refine oM rfl rfl ?_
             refine oQ (Q_bin rfl rfl rfl) rfl rfl ?_
             refine oN ?_
             first | refine cT rfl ?_ | refine cF rfl ?_ | refine CW_cond rfl (fun hc => ?_) (fun hc => ?_)
             all_goals try simp only [s1, s2, s3, s4, s5, s6, s7, s8, s9, s10, s11, s12] at hc
             all_goals try (exfalso; first | (cases hc; done) | (simp at hc; done) | (simp_all; done); done)
             all_goals first
               | (
                refine CW_skip ?_)
               | (
                refine cR ?_
                iterate 2 refine oM rfl rfl ?_
                first | refine oQ (Q_ixs0z 3 rfl rfl rfl rfl rfl rfl (by first | omega | (dsimp only; omega) | (simp; omega) | (simp; done))) rfl rfl ?_ | refine oQ (Q_ixsz 3 rfl rfl rfl rfl rfl rfl (by first | omega | (dsimp only; omega) | (simp; omega) | (simp; done))) rfl rfl ?_
                first | refine oQ (Lw rfl rfl rfl rfl) rfl rfl ?_ | refine oQ (La rfl rfl rfl rfl rfl) rfl rfl ?_
                first | refine oSw rfl rfl rfl rfl ?_ | refine oSa rfl rfl rfl rfl ?_
                refine oA rfl rfl ?_
                refine oN ?_
                refine CW_ret ?_)))
           all_goals first | with_reducible refine bN ?_ | with_reducible refine bE ?_ | with_reducible refine bR ?_ | refine bX rfl ?_
           all_goals first
             | with_reducible refine tR ?_
             | with_reducible refine tE ?_
             | (
              with_reducible refine tN ?_
              refine CW_region ?_
              refine oM rfl rfl ?_
              first | refine oQ (Q_binu rfl rfl rfl (by omega)) rfl rfl ?_ | refine oQ (Q_bin rfl rfl rfl) rfl rfl ?_
              refine oA rfl rfl ?_
              refine OW_nil ?_))
        all_goals first
          | with_reducible refine tR ?_
          | with_reducible refine tE ?_
          | (
           with_reducible refine tN ?_
           fail "again 0")
        all_goals first | with_reducible refine bN ?_ | with_reducible refine bE ?_ | with_reducible refine bR ?_ | refine bX rfl ?_
        all_goals first
          | with_reducible refine tR ?_
          | with_reducible refine tE ?_
          | (
           with_reducible refine tN ?_
           refine cR ?_
           refine oQ (Q_build rfl rfl rfl rfl rfl rfl rfl rfl) rfl rfl ?_
           first | refine oSw rfl rfl rfl rfl ?_ | refine oSa rfl rfl rfl rfl ?_
           refine oA rfl rfl ?_
           refine oN ?_
           refine CW_ret ?_)))
    all_goals (
     first | ((refine exitQ (.inr rfl) 0 (.cons (.arr rfl rfl rfl rfl (by first | omega | (dsimp only; omega) | (simp; omega) | (simp; done))) (.cons (.tmp rfl rfl) .nil)) ?_ rfl vHn rfl rfl); rfl) | (exfalso; simp_all; done))
end Go.Proofs.YtcklfkblhmlbbaaDoor
namespace Go.Proofs.YtcklfkblhmlbbaaDoor
set_option maxRecDepth 10000
set_option linter.unusedSimpArgs false
set_option linter.unusedVariables false
def ptC (cd : Int) (ok : Bool) : Int := if cd = 0 then (if ok = true then 0 else 5) else cd
def ptV (cd : Int) (ok : Bool) (v : List Int) : List Int := if cd = 0 ∧ ok = true then v else [0, 0, 0]
theorem ptV_len {cd : Int} {ok : Bool} {v : List Int} (h : v.length = 3) : (ptV cd ok v).length = 3 := by
  unfold ptV; split
  · exact h
  · rfl
theorem pt_no {cd : Int} {ok : Bool} {v : List Int} (h : ¬ cd = 0) : V.tuple [.arr (ptV cd ok v), .int (ptC cd ok)] = V.tuple [.arr [0, 0, 0], .int cd] := by
  unfold ptV ptC; rw [if_neg (fun x => h x.1), if_neg h]
theorem pt_f {cd : Int} {v : List Int} (h : cd = 0) : V.tuple [.arr (ptV cd false v), .int (ptC cd false)] = V.tuple [.arr [0, 0, 0], .int 5] := by
  unfold ptV ptC; rw [if_neg (fun x => by cases x.2), if_pos h, if_neg (by decide)]
theorem pt_t {cd : Int} {v : List Int} (h : cd = 0) : V.tuple [.arr (ptV cd true v), .int (ptC cd true)] = V.tuple [.arr v, .int 0] := by
  unfold ptV ptC; rw [if_pos ⟨h, rfl⟩, if_pos h, if_pos rfl]
theorem fill2 {a b : List Int} (ha : a.length = 3) (hb : b.length = 3) : fillI 3 (List.replicate (2 * 3) 0) [(0, V.arr a), (1, V.arr b)] = some (a ++ b) := by
  match a, ha, b, hb with
  | [_, _, _], _, [_, _, _], _ => rfl
theorem okp2 {a b : List Int} (ha : a.length = 3) (hb : b.length = 3) : okParts 3 (2 * 3) [(0, V.arr a), (1, V.arr b)] = true := by
  match a, ha, b, hb with
  | [_, _, _], _, [_, _, _], _ => rfl
theorem allF2 {g : List Int → Bool} {a b : List Int} (ha : a.length = 3) (hb : b.length = 3) : allF g 3 (a ++ b) 2 = (g a && g b) := allF_two ha hb
attribute [local irreducible] CW OW QW QOp Con thenP inBlockP AW QX RW AX
theorem impl_ThirdPoint_con (p : Int) (c a b : List Int) (hcl : c.length = 10) (hal : a.length = 3) (hbl : b.length = 3) : ConQ Tryd.prog [(0, 2000)] 34 [.int p, .arr c, .arr a, .arr b] [(2000, .ro 0 cuT)] (.tuple [.arr (ptV (codeB p (allF (pointB p) 3 (a ++ b) 2 && pointB p c)) (thK p c a b) (thV p c a b)), .int (ptC (codeB p (allF (pointB p) 3 (a ++ b) 2 && pointB p c)) (thK p c a b))]) := by
  by_cases hcd : codeB p (allF (pointB p) 3 (a ++ b) 2 && pointB p c) = 0
  · have hcc := (codeB_zero.1 hcd).2
    have hp := (codeB_zero.1 hcd).1
    rw [allF2 hal hbl] at hcc
    simp only [Bool.and_eq_true] at hcc
    obtain ⟨⟨hpa, hpb⟩, hpc⟩ := hcc
    have hq := smN_point hpc
    have hma := point_mem hal hpa
    have hmb := point_mem hbl hpb
    have h1 := third_con p c a b hp hcl hq hma hmb
    have hvl := thV_len p c a b
    generalize thK p c a b = b1 at *
    generalize thV p c a b = v1 at *
    refine conW tab_ok [(0, .int p), (1, .arr c), (2, .arr a), (3, .arr b)] 0 [2000] [] Tryd.func34 rfl rfl rfl rfl rfl rfl rfl rfl rfl ?_
    refine cR ?_
    iterate 3 refine oBox rfl rfl rfl rfl rfl rfl ?_
    refine oAlloc rfl rfl rfl rfl rfl rfl rfl ?_
    refine oA rfl rfl ?_
    refine oN ?_
    iterate 2 refine CW_seq ?_
    refine CW_any (fun _ => false) 9 rfl lateOk (by decide +kernel) (fun hst => ?_)
    refine aP 0 hst rfl rfl (by decide +kernel) (PX_move rfl rfl) rfl rfl ?_
    first | refine aQ 1 hst rfl rfl (by decide +kernel) (QX_of (Lw rfl rfl rfl rfl) NE_load) rfl rfl ?_ | refine aQ 1 hst rfl rfl (by decide +kernel) (QX_of (La rfl rfl rfl rfl rfl) NE_load) rfl rfl ?_
    refine aP 2 hst rfl rfl (by decide +kernel) (PX_move rfl rfl) rfl rfl ?_
    first | refine aQ 3 hst rfl rfl (by decide +kernel) (QX_of (Lw rfl rfl rfl rfl) NE_load) rfl rfl ?_ | refine aQ 3 hst rfl rfl (by decide +kernel) (QX_of (La rfl rfl rfl rfl rfl) NE_load) rfl rfl ?_
    first | refine aQ 4 hst rfl rfl (by decide +kernel) (QX_of (Lw rfl rfl rfl rfl) NE_load) rfl rfl ?_ | refine aQ 4 hst rfl rfl (by decide +kernel) (QX_of (La rfl rfl rfl rfl rfl) NE_load) rfl rfl ?_
    refine AW_one (i := 5) (by decide +kernel) ?_
    refine gBsl (zl := [0, 0, 0]) rfl rfl rfl rfl rfl rfl (.inr ⟨rfl, rfl, by decide⟩) rfl (fill2 hal hbl) (okp2 hal hbl) rfl rfl rfl ?_
    refine aQ 6 hst rfl rfl (by decide +kernel) (QX_call (arePoints_con p 29 (a ++ b) 2 2 (by simp; omega) (by omega)) [(0, 4)] rfl rfl (Fits.mk' (vHc rfl vHn) rfl rfl (by first | (simp; done) | exact glOk rfl rfl rfl)) rfl rfl rfl) rfl rfl ?_
    refine aQ 7 hst rfl rfl (by decide +kernel) (QX_call0 (cubicCode_con p (allF (pointB p) 3 (a ++ b) 2) c hcl) rfl rfl rfl) rfl rfl ?_
    refine aQ 8 hst rfl rfl (by decide +kernel) (QX_of (Q_assign rfl rfl) NE_assign) rfl rfl ?_
    refine AW_done (by decide +kernel) ?_
    all_goals with_reducible refine tN ?_
    all_goals (
     refine cR ?_
     refine oM rfl rfl ?_
     refine oQ (Q_bin rfl rfl rfl) rfl rfl ?_
     refine oN ?_
     first | refine cT rfl ?_ | refine cF rfl ?_ | refine CW_cond rfl (fun hc => ?_) (fun hc => ?_)
     all_goals try simp only [s1, s2, s3, s4, s5, s6, s7, s8, s9, s10, s11, s12] at hc
     all_goals try (exfalso; first | exact absurd hcd hc | exact absurd hc hcd | exact absurd (Eq.symm hc) (by decide) | (cases hc; done); done)
     all_goals first
       | (
        refine CW_skip ?_)
       | (
        refine cR ?_
        refine oQ (Q_build rfl rfl rfl rfl rfl rfl rfl rfl) rfl rfl ?_
        refine oM rfl rfl ?_
        first | refine oSw rfl rfl rfl rfl ?_ | refine oSa rfl rfl rfl rfl ?_
        refine oA rfl rfl ?_
        refine oN ?_
        refine CW_ret ?_))
    all_goals first
      | with_reducible refine tR ?_
      | with_reducible refine tE ?_
      | (
       with_reducible refine tN ?_
       refine cR ?_
       first | refine oQ (Lw rfl rfl rfl rfl) rfl rfl ?_ | refine oQ (La rfl rfl rfl rfl rfl) rfl rfl ?_
       refine oM rfl rfl ?_
       first | refine oQ (Lw rfl rfl rfl rfl) rfl rfl ?_ | refine oQ (La rfl rfl rfl rfl rfl) rfl rfl ?_
       first | refine oQ (Lw rfl rfl rfl rfl) rfl rfl ?_ | refine oQ (La rfl rfl rfl rfl rfl) rfl rfl ?_
       refine oQe (Q_call (h1) [] rfl rfl (Fits.mk' (vHc rfl vHn) rfl rfl (by first | (simp; done) | exact glOk rfl rfl rfl)) rfl rfl) (show _ = .tuple [.arr v1, .bool b1] from rfl) rfl rfl ?_
       refine oM rfl rfl ?_
       iterate 2 refine oQ (Q_extract rfl rfl) rfl rfl ?_
       refine oAlloc rfl rfl rfl rfl rfl rfl rfl ?_
       first | refine oSw rfl rfl rfl rfl ?_ | refine oSa rfl rfl rfl rfl ?_
       refine oA rfl rfl ?_
       refine oN ?_
       refine CW_seq ?_
       refine cR ?_
       refine oM rfl rfl ?_
       refine oQ (Q_not rfl) rfl rfl ?_
       refine oN ?_
       first | refine cT rfl ?_ | refine cF rfl ?_ | refine CW_cond rfl (fun hc => ?_) (fun hc => ?_)
       all_goals try simp only [s1, s2, s3, s4, s5, s6, s7, s8, s9, s10, s11, s12] at hc
       all_goals try (exfalso; first | exact absurd hcd hc | exact absurd hc hcd | exact absurd (Eq.symm hc) (by decide) | (cases hc; done); done)
       all_goals first
         | (
          refine CW_skip ?_)
         | (
          refine cR ?_
          refine oQ (Q_build rfl rfl rfl rfl rfl rfl rfl rfl) rfl rfl ?_
          first | refine oSw rfl rfl rfl rfl ?_ | refine oSa rfl rfl rfl rfl ?_
          refine oA rfl rfl ?_
          refine oN ?_
          refine CW_ret ?_)
       all_goals first
         | with_reducible refine tR ?_
         | with_reducible refine tE ?_
         | (
          with_reducible refine tN ?_
          refine cR ?_
          first | refine oQ (Lw rfl rfl rfl rfl) rfl rfl ?_ | refine oQ (La rfl rfl rfl rfl rfl) rfl rfl ?_
          first | refine oSw rfl rfl rfl rfl ?_ | refine oSa rfl rfl rfl rfl ?_
          refine oA rfl rfl ?_
          refine oN ?_
          refine CW_ret ?_))
    all_goals (
     refine exitQ (.inr rfl) 0 (.cons (.arr rfl rfl rfl rfl (by first | omega | (dsimp only; omega) | (simp; omega) | (simp; done))) (.cons (.tmp rfl rfl) .nil)) ?_ rfl (vHc rfl vHn) rfl rfl
     first
       | (rw [pt_t hcd]; rfl)
       | (rw [pt_f hcd]; rfl)
       | (exfalso; simp_all; done)
       | (cases b1 <;> first | (rw [pt_t hcd]; rfl) | (rw [pt_f hcd]; rfl) | (exfalso; simp_all; done))
       | (cases b1 <;> cases b2 <;> first | (rw [Bool.and_true, pt_t hcd]; rfl) | (rw [Bool.and_false, pt_f hcd]; rfl) | (rw [Bool.false_and, pt_f hcd]; rfl) | (exfalso; simp_all; done)))
  · skip
    refine conW tab_ok [(0, .int p), (1, .arr c), (2, .arr a), (3, .arr b)] 0 [2000] [] Tryd.func34 rfl rfl rfl rfl rfl rfl rfl rfl rfl ?_
    refine cR ?_
    iterate 3 refine oBox rfl rfl rfl rfl rfl rfl ?_
    refine oAlloc rfl rfl rfl rfl rfl rfl rfl ?_
    refine oA rfl rfl ?_
    refine oN ?_
    iterate 2 refine CW_seq ?_
    refine CW_any (fun _ => false) 9 rfl lateOk (by decide +kernel) (fun hst => ?_)
    refine aP 0 hst rfl rfl (by decide +kernel) (PX_move rfl rfl) rfl rfl ?_
    first | refine aQ 1 hst rfl rfl (by decide +kernel) (QX_of (Lw rfl rfl rfl rfl) NE_load) rfl rfl ?_ | refine aQ 1 hst rfl rfl (by decide +kernel) (QX_of (La rfl rfl rfl rfl rfl) NE_load) rfl rfl ?_
    refine aP 2 hst rfl rfl (by decide +kernel) (PX_move rfl rfl) rfl rfl ?_
    first | refine aQ 3 hst rfl rfl (by decide +kernel) (QX_of (Lw rfl rfl rfl rfl) NE_load) rfl rfl ?_ | refine aQ 3 hst rfl rfl (by decide +kernel) (QX_of (La rfl rfl rfl rfl rfl) NE_load) rfl rfl ?_
    first | refine aQ 4 hst rfl rfl (by decide +kernel) (QX_of (Lw rfl rfl rfl rfl) NE_load) rfl rfl ?_ | refine aQ 4 hst rfl rfl (by decide +kernel) (QX_of (La rfl rfl rfl rfl rfl) NE_load) rfl rfl ?_
    refine AW_one (i := 5) (by decide +kernel) ?_
    refine gBsl (zl := [0, 0, 0]) rfl rfl rfl rfl rfl rfl (.inr ⟨rfl, rfl, by decide⟩) rfl (fill2 hal hbl) (okp2 hal hbl) rfl rfl rfl ?_
    refine aQ 6 hst rfl rfl (by decide +kernel) (QX_call (arePoints_con p 29 (a ++ b) 2 2 (by simp; omega) (by omega)) [(0, 4)] rfl rfl (Fits.mk' (vHc rfl vHn) rfl rfl (by first | (simp; done) | exact glOk rfl rfl rfl)) rfl rfl rfl) rfl rfl ?_
    refine aQ 7 hst rfl rfl (by decide +kernel) (QX_call0 (cubicCode_con p (allF (pointB p) 3 (a ++ b) 2) c hcl) rfl rfl rfl) rfl rfl ?_
    refine aQ 8 hst rfl rfl (by decide +kernel) (QX_of (Q_assign rfl rfl) NE_assign) rfl rfl ?_
    refine AW_done (by decide +kernel) ?_
    all_goals with_reducible refine tN ?_
    all_goals (
     refine cR ?_
     refine oM rfl rfl ?_
     refine oQ (Q_bin rfl rfl rfl) rfl rfl ?_
     refine oN ?_
     first | refine cT rfl ?_ | refine cF rfl ?_ | refine CW_cond rfl (fun hc => ?_) (fun hc => ?_)
     all_goals try simp only [s1, s2, s3, s4, s5, s6, s7, s8, s9, s10, s11, s12] at hc
     all_goals try (exfalso; first | exact absurd hcd hc | exact absurd hc hcd; done)
     all_goals first
       | (
        refine CW_skip ?_)
       | (
        refine cR ?_
        refine oQ (Q_build rfl rfl rfl rfl rfl rfl rfl rfl) rfl rfl ?_
        refine oM rfl rfl ?_
        first | refine oSw rfl rfl rfl rfl ?_ | refine oSa rfl rfl rfl rfl ?_
        refine oA rfl rfl ?_
        refine oN ?_
        refine CW_ret ?_))
    all_goals first
      | with_reducible refine tR ?_
      | with_reducible refine tE ?_
      | (
       with_reducible refine tN ?_
       refine cR ?_
       first | refine oQ (Lw rfl rfl rfl rfl) rfl rfl ?_ | refine oQ (La rfl rfl rfl rfl rfl) rfl rfl ?_
       refine oM rfl rfl ?_
       first | refine oQ (Lw rfl rfl rfl rfl) rfl rfl ?_ | refine oQ (La rfl rfl rfl rfl rfl) rfl rfl ?_
       first | refine oQ (Lw rfl rfl rfl rfl) rfl rfl ?_ | refine oQ (La rfl rfl rfl rfl rfl) rfl rfl ?_
       (exfalso; first | exact hc hcd | exact hcd hc)
       refine oM rfl rfl ?_
       iterate 2 refine oQ (Q_extract rfl rfl) rfl rfl ?_
       refine oAlloc rfl rfl rfl rfl rfl rfl rfl ?_
       first | refine oSw rfl rfl rfl rfl ?_ | refine oSa rfl rfl rfl rfl ?_
       refine oA rfl rfl ?_
       refine oN ?_
       refine CW_seq ?_
       refine cR ?_
       refine oM rfl rfl ?_
       refine oQ (Q_not rfl) rfl rfl ?_
       refine oN ?_
       first | refine cT rfl ?_ | refine cF rfl ?_ | refine CW_cond rfl (fun hc => ?_) (fun hc => ?_)
       all_goals try simp only [s1, s2, s3, s4, s5, s6, s7, s8, s9, s10, s11, s12] at hc
       all_goals try (exfalso; first | exact absurd hcd hc | exact absurd hc hcd; done)
       all_goals first
         | (
          refine CW_skip ?_)
         | (
          refine cR ?_
          refine oQ (Q_build rfl rfl rfl rfl rfl rfl rfl rfl) rfl rfl ?_
          first | refine oSw rfl rfl rfl rfl ?_ | refine oSa rfl rfl rfl rfl ?_
          refine oA rfl rfl ?_
          refine oN ?_
          refine CW_ret ?_)
       all_goals first
         | with_reducible refine tR ?_
         | with_reducible refine tE ?_
         | (
          with_reducible refine tN ?_
          refine cR ?_
          first | refine oQ (Lw rfl rfl rfl rfl) rfl rfl ?_ | refine oQ (La rfl rfl rfl rfl rfl) rfl rfl ?_
          first | refine oSw rfl rfl rfl rfl ?_ | refine oSa rfl rfl rfl rfl ?_
          refine oA rfl rfl ?_
          refine oN ?_
          refine CW_ret ?_))
    all_goals (
     first
       | (exfalso; first | exact hc hcd | exact hcd hc; done)
       | (refine exitQ (.inr rfl) 0 (.cons (.arr rfl rfl rfl rfl (by first | omega | (dsimp only; omega) | (simp; omega) | (simp; done))) (.cons (.tmp rfl rfl) .nil)) ?_ rfl (vHc rfl vHn) rfl rfl
          rw [pt_no hcd]
          rfl))
theorem spec_ThirdPoint_con (p : Int) (c a b : List Int) (hcl : c.length = 10) (hal : a.length = 3) (hbl : b.length = 3) : ConQ Tryd.prog [] 33 [.int p, .arr c, .arr a, .arr b] [] (.tuple [.arr (ptV (codeB p (allF (pointB p) 3 (a ++ b) 2 && pointB p c)) (thK p c a b) (thV p c a b)), .int (ptC (codeB p (allF (pointB p) 3 (a ++ b) 2 && pointB p c)) (thK p c a b))]) := by
  by_cases hcd : codeB p (allF (pointB p) 3 (a ++ b) 2 && pointB p c) = 0
  · have hcc := (codeB_zero.1 hcd).2
    have hp := (codeB_zero.1 hcd).1
    rw [allF2 hal hbl] at hcc
    simp only [Bool.and_eq_true] at hcc
    obtain ⟨⟨hpa, hpb⟩, hpc⟩ := hcc
    have hq := smN_point hpc
    have hma := point_mem hal hpa
    have hmb := point_mem hbl hpb
    have h1 := l06Third_con p c a b hp hcl hq hma hmb
    have hvl := thV_len p c a b
    generalize thK p c a b = b1 at *
    generalize thV p c a b = v1 at *
    refine conW tab_ok [(0, .int p), (1, .arr c), (2, .arr a), (3, .arr b)] 0 [] [] Tryd.func33 rfl rfl rfl rfl rfl rfl rfl rfl rfl ?_
    refine cR ?_
    iterate 3 refine oBox rfl rfl rfl rfl rfl rfl ?_
    refine oAlloc rfl rfl rfl rfl rfl rfl rfl ?_
    refine oA rfl rfl ?_
    refine oN ?_
    refine CW_seq ?_
    refine cR ?_
    refine oM rfl rfl ?_
    first | refine oQ (Lw rfl rfl rfl rfl) rfl rfl ?_ | refine oQ (La rfl rfl rfl rfl rfl) rfl rfl ?_
    first | refine oQ (Lw rfl rfl rfl rfl) rfl rfl ?_ | refine oQ (La rfl rfl rfl rfl rfl) rfl rfl ?_
    first | refine oQ (Lw rfl rfl rfl rfl) rfl rfl ?_ | refine oQ (La rfl rfl rfl rfl rfl) rfl rfl ?_
    refine oBsl (zl := [0, 0, 0]) rfl rfl rfl rfl (.inr ⟨rfl, rfl, by decide⟩) rfl (fill2 hal hbl) (okp2 hal hbl) rfl rfl rfl ?_
    refine oQ (Q_call (l06Code_row p c hcl 29 (a ++ b) 2 2 (by simp; omega) (by omega)) [(0, 4)] rfl rfl (Fits.mk' (vHc rfl vHn) rfl rfl (by first | (simp; done) | exact glOk rfl rfl rfl)) rfl rfl) rfl rfl ?_
    refine oA rfl rfl ?_
    refine oN ?_
    refine cR ?_
    refine oM rfl rfl ?_
    refine oQ (Q_bin rfl rfl rfl) rfl rfl ?_
    refine oN ?_
    first | refine cT rfl ?_ | refine cF rfl ?_ | refine CW_cond rfl (fun hc => ?_) (fun hc => ?_)
    all_goals try simp only [s1, s2, s3, s4, s5, s6, s7, s8, s9, s10, s11, s12] at hc
    all_goals try (exfalso; first | exact absurd hcd hc | exact absurd hc hcd | exact absurd (Eq.symm hc) (by decide) | (cases hc; done); done)
    all_goals first
      | (
       refine CW_skip ?_)
      | (
       refine cR ?_
       refine oQ (Q_build rfl rfl rfl rfl rfl rfl rfl rfl) rfl rfl ?_
       refine oM rfl rfl ?_
       first | refine oSw rfl rfl rfl rfl ?_ | refine oSa rfl rfl rfl rfl ?_
       refine oA rfl rfl ?_
       refine oN ?_
       refine CW_ret ?_)
    all_goals first
      | with_reducible refine tR ?_
      | with_reducible refine tE ?_
      | (
       with_reducible refine tN ?_
       refine cR ?_
       refine oM rfl rfl ?_
       first | refine oQ (Lw rfl rfl rfl rfl) rfl rfl ?_ | refine oQ (La rfl rfl rfl rfl rfl) rfl rfl ?_
       first | refine oQ (Lw rfl rfl rfl rfl) rfl rfl ?_ | refine oQ (La rfl rfl rfl rfl rfl) rfl rfl ?_
       first | refine oQ (Lw rfl rfl rfl rfl) rfl rfl ?_ | refine oQ (La rfl rfl rfl rfl rfl) rfl rfl ?_
       refine oQe (Q_call (h1) [] rfl rfl (Fits.mk' vHn rfl rfl (by first | (simp; done) | exact glOk rfl rfl rfl)) rfl rfl) (show _ = .tuple [.arr v1, .bool b1] from rfl) rfl rfl ?_
       refine oM rfl rfl ?_
       iterate 2 refine oQ (Q_extract rfl rfl) rfl rfl ?_
       refine oAlloc rfl rfl rfl rfl rfl rfl rfl ?_
       first | refine oSw rfl rfl rfl rfl ?_ | refine oSa rfl rfl rfl rfl ?_
       refine oA rfl rfl ?_
       refine oN ?_
       refine CW_seq ?_
       refine cR ?_
       refine oM rfl rfl ?_
       refine oQ (Q_not rfl) rfl rfl ?_
       refine oN ?_
       first | refine cT rfl ?_ | refine cF rfl ?_ | refine CW_cond rfl (fun hc => ?_) (fun hc => ?_)
       all_goals try simp only [s1, s2, s3, s4, s5, s6, s7, s8, s9, s10, s11, s12] at hc
       all_goals try (exfalso; first | exact absurd hcd hc | exact absurd hc hcd | exact absurd (Eq.symm hc) (by decide) | (cases hc; done); done)
       all_goals first
         | (
          refine CW_skip ?_)
         | (
          refine cR ?_
          refine oQ (Q_build rfl rfl rfl rfl rfl rfl rfl rfl) rfl rfl ?_
          first | refine oSw rfl rfl rfl rfl ?_ | refine oSa rfl rfl rfl rfl ?_
          refine oA rfl rfl ?_
          refine oN ?_
          refine CW_ret ?_)
       all_goals first
         | with_reducible refine tR ?_
         | with_reducible refine tE ?_
         | (
          with_reducible refine tN ?_
          refine cR ?_
          first | refine oQ (Lw rfl rfl rfl rfl) rfl rfl ?_ | refine oQ (La rfl rfl rfl rfl rfl) rfl rfl ?_
          first | refine oSw rfl rfl rfl rfl ?_ | refine oSa rfl rfl rfl rfl ?_
          refine oA rfl rfl ?_
          refine oN ?_
          refine CW_ret ?_))
    all_goals (
     refine exitQ (.inr rfl) 0 (.cons (.arr rfl rfl rfl rfl (by first | omega | (dsimp only; omega) | (simp; omega) | (simp; done))) (.cons (.tmp rfl rfl) .nil)) ?_ rfl vHn rfl rfl
     first
       | (rw [pt_t hcd]; rfl)
       | (rw [pt_f hcd]; rfl)
       | (exfalso; simp_all; done)
       | (cases b1 <;> first | (rw [pt_t hcd]; rfl) | (rw [pt_f hcd]; rfl) | (exfalso; simp_all; done))
       | (cases b1 <;> cases b2 <;> first | (rw [Bool.and_true, pt_t hcd]; rfl) | (rw [Bool.and_false, pt_f hcd]; rfl) | (rw [Bool.false_and, pt_f hcd]; rfl) | (exfalso; simp_all; done)))
  · skip
    refine conW tab_ok [(0, .int p), (1, .arr c), (2, .arr a), (3, .arr b)] 0 [] [] Tryd.func33 rfl rfl rfl rfl rfl rfl rfl rfl rfl ?_
    refine cR ?_
    iterate 3 refine oBox rfl rfl rfl rfl rfl rfl ?_
    refine oAlloc rfl rfl rfl rfl rfl rfl rfl ?_
    refine oA rfl rfl ?_
    refine oN ?_
    refine CW_seq ?_
    refine cR ?_
    refine oM rfl rfl ?_
    first | refine oQ (Lw rfl rfl rfl rfl) rfl rfl ?_ | refine oQ (La rfl rfl rfl rfl rfl) rfl rfl ?_
    first | refine oQ (Lw rfl rfl rfl rfl) rfl rfl ?_ | refine oQ (La rfl rfl rfl rfl rfl) rfl rfl ?_
    first | refine oQ (Lw rfl rfl rfl rfl) rfl rfl ?_ | refine oQ (La rfl rfl rfl rfl rfl) rfl rfl ?_
    refine oBsl (zl := [0, 0, 0]) rfl rfl rfl rfl (.inr ⟨rfl, rfl, by decide⟩) rfl (fill2 hal hbl) (okp2 hal hbl) rfl rfl rfl ?_
    refine oQ (Q_call (l06Code_row p c hcl 29 (a ++ b) 2 2 (by simp; omega) (by omega)) [(0, 4)] rfl rfl (Fits.mk' (vHc rfl vHn) rfl rfl (by first | (simp; done) | exact glOk rfl rfl rfl)) rfl rfl) rfl rfl ?_
    refine oA rfl rfl ?_
    refine oN ?_
    refine cR ?_
    refine oM rfl rfl ?_
    refine oQ (Q_bin rfl rfl rfl) rfl rfl ?_
    refine oN ?_
    first | refine cT rfl ?_ | refine cF rfl ?_ | refine CW_cond rfl (fun hc => ?_) (fun hc => ?_)
    all_goals try simp only [s1, s2, s3, s4, s5, s6, s7, s8, s9, s10, s11, s12] at hc
    all_goals try (exfalso; first | exact absurd hcd hc | exact absurd hc hcd; done)
    all_goals first
      | (
       refine CW_skip ?_)
      | (
       refine cR ?_
       refine oQ (Q_build rfl rfl rfl rfl rfl rfl rfl rfl) rfl rfl ?_
       refine oM rfl rfl ?_
       first | refine oSw rfl rfl rfl rfl ?_ | refine oSa rfl rfl rfl rfl ?_
       refine oA rfl rfl ?_
       refine oN ?_
       refine CW_ret ?_)
    all_goals first
      | with_reducible refine tR ?_
      | with_reducible refine tE ?_
      | (
       with_reducible refine tN ?_
       refine cR ?_
       refine oM rfl rfl ?_
       first | refine oQ (Lw rfl rfl rfl rfl) rfl rfl ?_ | refine oQ (La rfl rfl rfl rfl rfl) rfl rfl ?_
       first | refine oQ (Lw rfl rfl rfl rfl) rfl rfl ?_ | refine oQ (La rfl rfl rfl rfl rfl) rfl rfl ?_
       first | refine oQ (Lw rfl rfl rfl rfl) rfl rfl ?_ | refine oQ (La rfl rfl rfl rfl rfl) rfl rfl ?_
       (exfalso; first | exact hc hcd | exact hcd hc)
       refine oM rfl rfl ?_
       iterate 2 refine oQ (Q_extract rfl rfl) rfl rfl ?_
       refine oAlloc rfl rfl rfl rfl rfl rfl rfl ?_
       first | refine oSw rfl rfl rfl rfl ?_ | refine oSa rfl rfl rfl rfl ?_
       refine oA rfl rfl ?_
       refine oN ?_
       refine CW_seq ?_
       refine cR ?_
       refine oM rfl rfl ?_
       refine oQ (Q_not rfl) rfl rfl ?_
       refine oN ?_
       first | refine cT rfl ?_ | refine cF rfl ?_ | refine CW_cond rfl (fun hc => ?_) (fun hc => ?_)
       all_goals try simp only [s1, s2, s3, s4, s5, s6, s7, s8, s9, s10, s11, s12] at hc
       all_goals try (exfalso; first | exact absurd hcd hc | exact absurd hc hcd; done)
       all_goals first
         | (
          refine CW_skip ?_)
         | (
          refine cR ?_
          refine oQ (Q_build rfl rfl rfl rfl rfl rfl rfl rfl) rfl rfl ?_
          first | refine oSw rfl rfl rfl rfl ?_ | refine oSa rfl rfl rfl rfl ?_
          refine oA rfl rfl ?_
          refine oN ?_
          refine CW_ret ?_)
       all_goals first
         | with_reducible refine tR ?_
         | with_reducible refine tE ?_
         | (
          with_reducible refine tN ?_
          refine cR ?_
          first | refine oQ (Lw rfl rfl rfl rfl) rfl rfl ?_ | refine oQ (La rfl rfl rfl rfl rfl) rfl rfl ?_
          first | refine oSw rfl rfl rfl rfl ?_ | refine oSa rfl rfl rfl rfl ?_
          refine oA rfl rfl ?_
          refine oN ?_
          refine CW_ret ?_))
    all_goals (
     first
       | (exfalso; first | exact hc hcd | exact hcd hc; done)
       | (refine exitQ (.inr rfl) 0 (.cons (.arr rfl rfl rfl rfl (by first | omega | (dsimp only; omega) | (simp; omega) | (simp; done))) (.cons (.tmp rfl rfl) .nil)) ?_ rfl vHn rfl rfl
          rw [pt_no hcd]
          rfl))
end Go.Proofs.YtcklfkblhmlbbaaDoor
namespace Go.Proofs.YtcklfkblhmlbbaaDoor
attribute [local irreducible] CW OW QW QOp Con thenP inBlockP
set_option maxRecDepth 10000
set_option linter.unusedSimpArgs false
set_option linter.unusedVariables false
theorem toPoint_con (l : List Int) (hl : l.length = 3) : ConQ Tryd.prog [] 15 [.arr l] [] (.arr l) := by
  refine conW tab_ok [(0, .arr l)] 0 [] [] Tryd.func15 rfl rfl rfl rfl rfl rfl rfl rfl rfl ?_
  refine cR ?_
  refine oBox rfl rfl rfl rfl rfl rfl ?_
  refine oAlloc rfl rfl rfl rfl rfl rfl rfl ?_
  refine oN ?_
  refine cR ?_
  refine oAlloc rfl rfl rfl rfl rfl rfl rfl ?_
  refine oN ?_
  refine CW_seq ?_
  refine cR ?_
  refine oA rfl rfl ?_
  refine oN ?_
  refine CW_block ?_
  refine CW_loop (ι := Nat) (fun i => i ≤ 3) (fun i => ⟨[(1, .ptr 0 0), (2, .ptr 1 0), (3, .ptr 2 0), (4, .int i)], [(0, .ints 23 l), (1, .ints 29 [0, 0, 0]), (2, .ints 29 (l.take i ++ List.replicate (3 - i) 0))], 3⟩) (fun i => 3 - i) 0 ?_ ?_ ?_
  · first | trivial | omega | (simp; done) | (simp; omega)
  · refine View.mk' [] rfl rfl rfl ?_ ?_
    repeat' first | exact vFn | refine vFc rfl ?_ | exact vHn | refine vHc rfl ?_ | refine vFc (congrArg (fun z => some (V.int z)) ?_) ?_ | refine vHc (congrArg (fun z => some (Blk.ints _ z)) ?_) ?_ | refine vFc (congrArg (fun z => some (V.bool z)) ?_) ?_ | refine vFs rfl rfl ?_ ?_
  intro i hi
  refine CW_seq ?_
  refine cR ?_
  refine oM rfl rfl ?_
  refine oQ (Q_bin rfl rfl rfl) rfl rfl ?_
  refine oN ?_
  first | refine cT rfl ?_ | refine cF rfl ?_ | refine CW_cond rfl (fun hc => ?_) (fun hc => ?_)
  all_goals try simp only [s1, s2, s3, s4, s5, s6, s7, s8, s9, s10, s11, s12] at hc
  all_goals first
    | (
     refine CW_skip ?_)
    | (
     refine CW_exit ?_)
  all_goals first
    | with_reducible refine tR ?_
    | with_reducible refine tE ?_
    | (
     with_reducible refine tN ?_
     refine CW_seq ?_
     refine CW_block ?_
     refine CW_region ?_
     iterate 2 refine oM rfl rfl ?_
     first | refine oQ (Ia0 rfl rfl rfl rfl rfl rfl) rfl rfl ?_ | refine oQ (Ia1 rfl rfl rfl rfl rfl rfl) rfl rfl ?_
     refine oQ (Ld rfl rfl rfl rfl) rfl rfl ?_
     first | refine oQ (Ia0 rfl rfl rfl rfl rfl rfl) rfl rfl ?_ | refine oQ (Ia1 rfl rfl rfl rfl rfl rfl) rfl rfl ?_
     refine oS rfl rfl rfl rfl rfl ?_
     refine OW_nil ?_
     all_goals first | with_reducible refine bN ?_ | with_reducible refine bE ?_ | with_reducible refine bR ?_ | refine bX rfl ?_
     all_goals with_reducible refine tN ?_
     all_goals (
      refine CW_region ?_
      refine oM rfl rfl ?_
      first | refine oQ (Q_binu rfl rfl rfl (by omega)) rfl rfl ?_ | refine oQ (Q_bin rfl rfl rfl) rfl rfl ?_
      refine oA rfl rfl ?_
      refine OW_nil ?_))
  all_goals first
    | with_reducible refine tR ?_
    | with_reducible refine tE ?_
    | (
     with_reducible refine tN ?_
     refine ⟨i + 1, ?_, ?_, View.mk' [] rfl rfl rfl ?_ ?_⟩
     · omega
     · omega
     all_goals (repeat' first | exact vFn | refine vFc rfl ?_ | exact vHn | refine vHc rfl ?_ | refine vFc (congrArg (fun z => some (V.int z)) ?_) ?_ | refine vHc (congrArg (fun z => some (Blk.ints _ z)) ?_) ?_ | refine vFc (congrArg (fun z => some (V.bool z)) ?_) ?_ | refine vFs rfl rfl ?_ ?_)
     all_goals exact fill_set (by omega) hl)
  all_goals first | with_reducible refine bN ?_ | with_reducible refine bE ?_ | with_reducible refine bR ?_ | refine bX rfl ?_
  all_goals with_reducible refine tN ?_
  all_goals (
   refine cR ?_
   first | refine oQ (Lw rfl rfl rfl rfl) rfl rfl ?_ | refine oQ (La rfl rfl rfl rfl rfl) rfl rfl ?_
   first | refine oSw rfl rfl rfl rfl ?_ | refine oSa rfl rfl rfl rfl ?_
   refine oN ?_
   refine CW_ret ?_)
  all_goals (
   have e : i = 3 := by omega
   subst e
   refine exitQ (.inr rfl) 0 (.cons (.arr rfl rfl rfl rfl (by simp [hl])) .nil) ?_ rfl vHn rfl rfl
   simp [resV, ← hl])
theorem eqPoint_con (a b : List Int) (ha : a.length = 3) (hb : b.length = 3) : ConQ Tryd.prog [] 35 [.arr a, .arr b] [] (.bool (decide (a = b))) := by
  refine conW tab_ok [(0, .arr a), (1, .arr b)] 0 [] [] Tryd.func35 rfl rfl rfl rfl rfl rfl rfl rfl rfl ?_
  refine cR ?_
  iterate 2 refine oBox rfl rfl rfl rfl rfl rfl ?_
  refine oA rfl rfl ?_
  refine oN ?_
  refine CW_seq ?_
  refine cR ?_
  refine oA rfl rfl ?_
  refine oN ?_
  refine CW_block ?_
  refine CW_loop (ι := Nat) (fun i => i ≤ 3 ∧ a.take i = b.take i) (fun i => ⟨[(2, .ptr 0 0), (3, .ptr 1 0), (5, .int i)], [(0, .ints 29 a), (1, .ints 29 b)], 2⟩) (fun i => 3 - i) 0 ?_ ?_ ?_
  · exact ⟨Nat.zero_le _, rfl⟩
  · refine View.mk' [] rfl rfl rfl ?_ ?_
    repeat' first | exact vFn | refine vFc rfl ?_ | exact vHn | refine vHc rfl ?_ | refine vFc (congrArg (fun z => some (V.int z)) ?_) ?_ | refine vHc (congrArg (fun z => some (Blk.ints _ z)) ?_) ?_ | refine vFc (congrArg (fun z => some (V.bool z)) ?_) ?_ | refine vFs rfl rfl ?_ ?_
  rintro i ⟨hi, hi2⟩
  refine CW_seq ?_
  refine cR ?_
  refine oM rfl rfl ?_
  refine oQ (Q_bin rfl rfl rfl) rfl rfl ?_
  refine oN ?_
  first | refine cT rfl ?_ | refine cF rfl ?_ | refine CW_cond rfl (fun hc => ?_) (fun hc => ?_)
  all_goals try simp only [s1, s2, s3, s4, s5, s6, s7, s8, s9, s10, s11, s12] at hc
  all_goals first
    | (
     refine CW_skip ?_)
    | (
     refine CW_exit ?_)
  all_goals first
    | with_reducible refine tR ?_
    | with_reducible refine tE ?_
    | (
     with_reducible refine tN ?_
     refine CW_seq ?_
     refine CW_block ?_
     refine CW_seq ?_
     refine CW_draw lateOk (by decide +kernel) ?_
     refine qM rfl rfl ?_
     first | refine qQ (Ia0 rfl rfl rfl rfl rfl rfl) rfl rfl ?_ | refine qQ (Ia1 rfl rfl rfl rfl rfl rfl) rfl rfl ?_
     refine qQ (Ld rfl rfl rfl rfl) rfl rfl ?_
     refine qM rfl rfl ?_
     first | refine qQ (Ia0 rfl rfl rfl rfl rfl rfl) rfl rfl ?_ | refine qQ (Ia1 rfl rfl rfl rfl rfl rfl) rfl rfl ?_
     refine qQ (Ld rfl rfl rfl rfl) rfl rfl ?_
     refine qQ (Q_bin rfl rfl rfl) rfl rfl ?_
     refine QW_nil ?_
     all_goals with_reducible refine tN ?_
     all_goals (
      first | refine cT rfl ?_ | refine cF rfl ?_ | refine CW_cond rfl (fun hc => ?_) (fun hc => ?_)
      all_goals try simp only [s1, s2, s3, s4, s5, s6, s7, s8, s9, s10, s11, s12] at hc
      all_goals first
        | (
         refine CW_skip ?_)
        | (
         refine cR ?_
         refine oA rfl rfl ?_
         refine oN ?_
         refine CW_ret ?_))
     all_goals first | with_reducible refine bN ?_ | with_reducible refine bE ?_ | with_reducible refine bR ?_ | refine bX rfl ?_
     all_goals first
       | with_reducible refine tR ?_
       | with_reducible refine tE ?_
       | (
        with_reducible refine tN ?_
        refine CW_region ?_
        refine oM rfl rfl ?_
        first | refine oQ (Q_binu rfl rfl rfl (by omega)) rfl rfl ?_ | refine oQ (Q_bin rfl rfl rfl) rfl rfl ?_
        refine oA rfl rfl ?_
        refine OW_nil ?_))
  all_goals first
    | with_reducible refine tR ?_
    | with_reducible refine tE ?_
    | (
     with_reducible refine tN ?_
     refine ⟨i + 1, ?_, ?_, View.mk' [] rfl rfl rfl ?_ ?_⟩
     · exact ⟨by omega, take_eq_snoc (by omega) (by omega) hi2 hc⟩
     · omega
     all_goals (repeat' first | exact vFn | refine vFc rfl ?_ | exact vHn | refine vHc rfl ?_ | refine vFc (congrArg (fun z => some (V.int z)) ?_) ?_ | refine vHc (congrArg (fun z => some (Blk.ints _ z)) ?_) ?_ | refine vFc (congrArg (fun z => some (V.bool z)) ?_) ?_ | refine vFs rfl rfl ?_ ?_))
  all_goals first | with_reducible refine bN ?_ | with_reducible refine bE ?_ | with_reducible refine bR ?_ | refine bX rfl ?_
  all_goals first
    | with_reducible refine tR ?_
    | with_reducible refine tE ?_
    | (
     with_reducible refine tN ?_
     refine cR ?_
     refine oA rfl rfl ?_
     refine oN ?_
     refine CW_ret ?_)
  all_goals (
   refine exitQ (.inr rfl) 0 (.cons (.tmp rfl rfl) .nil) ?_ rfl vHn rfl rfl
   simp only [resV, V.bool.injEq]
   first
     | (have e : i = 3 := (by omega); subst e; rw [List.take_of_length_le (by omega), List.take_of_length_le (by omega)] at hi2; simp [hi2]; done)
     | (have h9 := take_ne (A := a) (B := b) (n := 3) (by omega) (by omega) (by omega) hc; symm; exact decide_eq_false (fun h => h9 (by rw [h]))))
end Go.Proofs.YtcklfkblhmlbbaaDoor
namespace Go.Proofs.YtcklfkblhmlbbaaDoor
attribute [local irreducible] CW OW QW QOp Con thenP inBlockP AW QX RW
set_option maxRecDepth 10000
set_option linter.unusedSimpArgs false
set_option linter.unusedVariables false
theorem eqPoint_same (a : List Int) (ha : a.length = 3) : ConQ Tryd.prog [] 35 [.arr a, .arr a] [] (.bool true) := by
  have := eqPoint_con a a ha ha
  simpa using this
theorem law_FnExactThirdPoint (p : Int) (c : List Int) (a : List Int) (b : List Int) (qlc : c.length = 10) (qla : a.length = 3) (qlb : b.length = 3) : ConQ Tryd.prog [(0, 2000)] 8 [.int p, .arr c, .arr a, .arr b] [(2000, .ro 0 cuT)] (.bool true) := by
  have hvl : (ptV (codeB p (allF (pointB p) 3 (a ++ b) 2 && pointB p c)) (thK p c a b) (thV p c a b)).length = 3 := ptV_len (thV_len p c a b)
  have hsp := spec_ThirdPoint_con p c a b qlc qla qlb
  have him := impl_ThirdPoint_con p c a b qlc qla qlb
  generalize ptV (codeB p (allF (pointB p) 3 (a ++ b) 2 && pointB p c)) (thK p c a b) (thV p c a b) = vv at *
  generalize ptC (codeB p (allF (pointB p) 3 (a ++ b) 2 && pointB p c)) (thK p c a b) = cc at *
  refine conW tab_ok [(0, .int p), (1, .arr c), (2, .arr a), (3, .arr b)] 0 [2000] [] Tryd.func8 rfl rfl rfl rfl rfl rfl rfl rfl rfl ?_
  refine cR ?_
  iterate 3 refine oBox rfl rfl rfl rfl rfl rfl ?_
  refine oA rfl rfl ?_
  refine oN ?_
  refine CW_seq ?_
  refine CW_any (fun i => List.elem i [12, 13]) 14 rfl lateOk (by decide +kernel) (fun hst => ?_)
  refine aP 0 hst rfl rfl (by decide +kernel) (PX_move rfl rfl) rfl rfl ?_
  first | refine aQ 1 hst rfl rfl (by decide +kernel) (QX_of (Lw rfl rfl rfl rfl) NE_load) rfl rfl ?_ | refine aQ 1 hst rfl rfl (by decide +kernel) (QX_of (La rfl rfl rfl rfl rfl) NE_load) rfl rfl ?_
  refine aQ 2 hst rfl rfl (by decide +kernel) (QX_call0 (toCubic_con _ qlc) rfl rfl rfl) rfl rfl ?_
  first | refine aQ 3 hst rfl rfl (by decide +kernel) (QX_of (Lw rfl rfl rfl rfl) NE_load) rfl rfl ?_ | refine aQ 3 hst rfl rfl (by decide +kernel) (QX_of (La rfl rfl rfl rfl rfl) NE_load) rfl rfl ?_
  refine aQ 4 hst rfl rfl (by decide +kernel) (QX_call0 (toPoint_con _ qla) rfl rfl rfl) rfl rfl ?_
  first | refine aQ 5 hst rfl rfl (by decide +kernel) (QX_of (Lw rfl rfl rfl rfl) NE_load) rfl rfl ?_ | refine aQ 5 hst rfl rfl (by decide +kernel) (QX_of (La rfl rfl rfl rfl rfl) NE_load) rfl rfl ?_
  refine aQ 6 hst rfl rfl (by decide +kernel) (QX_call0 (toPoint_con _ qlb) rfl rfl rfl) rfl rfl ?_
  refine aQ 7 hst rfl rfl (by decide +kernel) (QX_call0 (hsp) rfl rfl rfl) rfl rfl ?_
  refine aP 8 hst rfl rfl (by decide +kernel) (PX_move rfl rfl) rfl rfl ?_
  refine aExt 9 hst rfl rfl (by decide +kernel) rfl rfl rfl rfl ?_
  refine aExt 10 hst rfl rfl (by decide +kernel) rfl rfl rfl rfl ?_
  refine AW_one (i := 11) (by decide +kernel) ?_
  refine gAlloc rfl rfl rfl rfl rfl rfl rfl rfl rfl ?_
  refine AW_last [12, 13] rfl (by decide +kernel) rfl ?_
  first | refine oSw rfl rfl rfl rfl ?_ | refine oSa rfl rfl rfl rfl ?_
  refine oA rfl rfl ?_
  refine OW_nil (npN ?_)
  all_goals with_reducible refine tN ?_
  all_goals (
   refine CW_seq ?_
   refine CW_any (fun i => List.elem i [12, 13]) 14 rfl lateOk (by decide +kernel) (fun hst => ?_)
   refine aP 0 hst rfl rfl (by decide +kernel) (PX_move rfl rfl) rfl rfl ?_
   first | refine aQ 1 hst rfl rfl (by decide +kernel) (QX_of (Lw rfl rfl rfl rfl) NE_load) rfl rfl ?_ | refine aQ 1 hst rfl rfl (by decide +kernel) (QX_of (La rfl rfl rfl rfl rfl) NE_load) rfl rfl ?_
   refine aQ 2 hst rfl rfl (by decide +kernel) (QX_call0 (toCubic_con _ qlc) rfl rfl rfl) rfl rfl ?_
   first | refine aQ 3 hst rfl rfl (by decide +kernel) (QX_of (Lw rfl rfl rfl rfl) NE_load) rfl rfl ?_ | refine aQ 3 hst rfl rfl (by decide +kernel) (QX_of (La rfl rfl rfl rfl rfl) NE_load) rfl rfl ?_
   refine aQ 4 hst rfl rfl (by decide +kernel) (QX_call0 (toPoint_con _ qla) rfl rfl rfl) rfl rfl ?_
   first | refine aQ 5 hst rfl rfl (by decide +kernel) (QX_of (Lw rfl rfl rfl rfl) NE_load) rfl rfl ?_ | refine aQ 5 hst rfl rfl (by decide +kernel) (QX_of (La rfl rfl rfl rfl rfl) NE_load) rfl rfl ?_
   refine aQ 6 hst rfl rfl (by decide +kernel) (QX_call0 (toPoint_con _ qlb) rfl rfl rfl) rfl rfl ?_
   refine aQ 7 hst rfl rfl (by decide +kernel) (QX_call (him) [] rfl rfl (Fits.mk' (vHc rfl vHn) rfl rfl (by first | (simp; done) | exact glOk rfl rfl rfl)) rfl rfl rfl) rfl rfl ?_
   refine aP 8 hst rfl rfl (by decide +kernel) (PX_move rfl rfl) rfl rfl ?_
   refine aExt 9 hst rfl rfl (by decide +kernel) rfl rfl rfl rfl ?_
   refine aExt 10 hst rfl rfl (by decide +kernel) rfl rfl rfl rfl ?_
   refine AW_one (i := 11) (by decide +kernel) ?_
   refine gAlloc rfl rfl rfl rfl rfl rfl rfl rfl rfl ?_
   refine AW_last [12, 13] rfl (by decide +kernel) rfl ?_
   first | refine oSw rfl rfl rfl rfl ?_ | refine oSa rfl rfl rfl rfl ?_
   refine oA rfl rfl ?_
   refine OW_nil (npN ?_)
   all_goals with_reducible refine tN ?_
   all_goals (
    refine CW_seq ?_
    refine cR ?_
    first | refine oQ (Lw rfl rfl rfl rfl) rfl rfl ?_ | refine oQ (La rfl rfl rfl rfl rfl) rfl rfl ?_
    first | refine oQ (Lw rfl rfl rfl rfl) rfl rfl ?_ | refine oQ (La rfl rfl rfl rfl rfl) rfl rfl ?_
    refine oQ (Q_call0 (eqPoint_same vv hvl) rfl rfl rfl) rfl rfl ?_
    refine oQ (Q_not rfl) rfl rfl ?_
    refine oM rfl rfl ?_
    all_goals first | refine oT rfl rfl ?_ | refine o1 rfl rfl rfl ?_ | refine o0 rfl rfl rfl ?_ | refine ogP1 rfl rfl rfl (fun hg => ?_) (fun hg => ?_) | refine ogP0 rfl rfl rfl (fun hg => ?_) (fun hg => ?_)
    all_goals try simp only [s1, s2, s3, s4, s5, s6, s7, s8, s9, s10, s11, s12] at hg
    all_goals first | (refine oM rfl rfl ?_) | skip
    all_goals first | refine oT rfl rfl ?_ | refine o1 rfl rfl rfl ?_ | refine o0 rfl rfl rfl ?_ | refine ogP1 rfl rfl rfl (fun hg => ?_) (fun hg => ?_) | refine ogP0 rfl rfl rfl (fun hg => ?_) (fun hg => ?_)
    all_goals try simp only [s1, s2, s3, s4, s5, s6, s7, s8, s9, s10, s11, s12] at hg
    all_goals first | (refine oM rfl rfl ?_) | skip
    all_goals first | refine oT rfl rfl ?_ | refine o1 rfl rfl rfl ?_ | refine o0 rfl rfl rfl ?_ | refine ogP1 rfl rfl rfl (fun hg => ?_) (fun hg => ?_) | refine ogP0 rfl rfl rfl (fun hg => ?_) (fun hg => ?_)
    all_goals try simp only [s1, s2, s3, s4, s5, s6, s7, s8, s9, s10, s11, s12] at hg
    all_goals first | (refine oQ (Q_bin rfl rfl rfl) rfl rfl ?_) | skip
    all_goals first | refine oQ (Q_pick_t rfl (by with_reducible rfl) rfl rfl) rfl rfl ?_ | refine oQ (Q_pick_f rfl (by with_reducible rfl) rfl rfl) rfl rfl ?_
    all_goals refine oN ?_
    all_goals (
     first | refine cT rfl ?_ | refine cF rfl ?_ | refine CW_cond rfl (fun hc => ?_) (fun hc => ?_)
     all_goals try simp only [s1, s2, s3, s4, s5, s6, s7, s8, s9, s10, s11, s12] at hc
     all_goals try (exfalso; first | omega | (simp at hc; done); done)
     all_goals first
       | (
        refine CW_skip ?_)
       | (
        refine cR ?_
        refine oA rfl rfl ?_
        refine oN ?_
        refine CW_ret ?_))
    all_goals first
      | with_reducible refine tR ?_
      | with_reducible refine tE ?_
      | (
       with_reducible refine tN ?_
       refine cR ?_
       refine oA rfl rfl ?_
       refine oN ?_
       refine CW_ret ?_)))
  all_goals (
   first | ((refine exitQ (.inr rfl) 0 (.cons (.tmp rfl rfl) .nil) ?_ rfl (vHc rfl vHn) rfl rfl); rfl) | (exfalso; simp at hg; done) | (exfalso; simp_all; done))
end Go.Proofs.YtcklfkblhmlbbaaDoor
