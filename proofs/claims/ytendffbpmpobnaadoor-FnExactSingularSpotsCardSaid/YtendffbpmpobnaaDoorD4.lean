/- The reference's rows of quadrics. Printed by gen_d4.py. -/
import Derived.Test.YtendffbpmpobnaaDoorD3
namespace Go.Proofs.YtendffbpmpobnaaDoor
set_option maxRecDepth 10000
set_option linter.unusedSimpArgs false
set_option linter.unusedVariables false
set_option maxHeartbeats 4000000
attribute [local irreducible] CW OW QW QOp Con thenP inBlockP AW QX RW

theorem l08Rows_con10 (p : Int) (q0 q1 q2 q3 q4 q5 q6 q7 q8 q9 : Int) (hp : primeB p = true) (hq : smN 12 [q0, q1, q2, q3, q4, q5, q6, q7, q8, q9]) : Con Tryd.prog [] 61 [.int p, .arr [q0, q1, q2, q3, q4, q5, q6, q7, q8, q9]] [] (fun r H' => ∃ k, 4 ≤ k ∧ r = .slice 4 0 4 k ∧ H' = [(0, .ints 2 [((0 + q0) % p + q0) % p, (0 + q1) % p, (0 + q2) % p, (0 + q3) % p]), (1, .ints 2 [(0 + q1) % p, ((0 + q4) % p + q4) % p, (0 + q5) % p, (0 + q6) % p]), (2, .ints 2 [(0 + q2) % p, (0 + q5) % p, ((0 + q7) % p + q7) % p, (0 + q8) % p]), (3, .ints 2 [(0 + q3) % p, (0 + q6) % p, (0 + q8) % p, ((0 + q9) % p + q9) % p]), (4, .vals 44 ([.slice 0 0 4 4, .slice 1 0 4 4, .slice 2 0 4 4, .slice 3 0 4 4] ++ List.replicate (k - 4) .bot))]) := by
  have hpb := prime_bd hp
  have hsl : sqT.length = 20 := rfl
  have b0 : 0 ≤ q0 ∧ q0 ≤ 12 := hq q0 (by simp)
  have e0 := em_bd hp (0 + q0)
  have b1 : 0 ≤ q1 ∧ q1 ≤ 12 := hq q1 (by simp)
  have e1 := em_bd hp (0 + q1)
  have b2 : 0 ≤ q2 ∧ q2 ≤ 12 := hq q2 (by simp)
  have e2 := em_bd hp (0 + q2)
  have b3 : 0 ≤ q3 ∧ q3 ≤ 12 := hq q3 (by simp)
  have e3 := em_bd hp (0 + q3)
  have b4 : 0 ≤ q4 ∧ q4 ≤ 12 := hq q4 (by simp)
  have e4 := em_bd hp (0 + q4)
  have b5 : 0 ≤ q5 ∧ q5 ≤ 12 := hq q5 (by simp)
  have e5 := em_bd hp (0 + q5)
  have b6 : 0 ≤ q6 ∧ q6 ≤ 12 := hq q6 (by simp)
  have e6 := em_bd hp (0 + q6)
  have b7 : 0 ≤ q7 ∧ q7 ≤ 12 := hq q7 (by simp)
  have e7 := em_bd hp (0 + q7)
  have b8 : 0 ≤ q8 ∧ q8 ≤ 12 := hq q8 (by simp)
  have e8 := em_bd hp (0 + q8)
  have b9 : 0 ≤ q9 ∧ q9 ≤ 12 := hq q9 (by simp)
  have e9 := em_bd hp (0 + q9)
  refine conW tab_ok [(0, .int p), (1, .arr [q0, q1, q2, q3, q4, q5, q6, q7, q8, q9])] 0 [] [] Tryd.func61 rfl rfl rfl rfl rfl rfl rfl rfl rfl ?_
  refine cR ?_
  refine oBox rfl rfl rfl rfl rfl rfl ?_
  refine oA rfl rfl ?_
  refine oN ?_
  refine cR ?_
  refine oBslv rfl rfl rfl rfl rfl rfl rfl rfl rfl rfl rfl rfl rfl ?_
  refine oQ (Q_call0 (l08Pairs_con) rfl rfl rfl) rfl rfl ?_
  refine oAlloc rfl rfl rfl rfl rfl rfl rfl ?_
  refine oA rfl rfl ?_
  first | refine oSw rfl rfl rfl rfl ?_ | refine oSa rfl rfl rfl rfl ?_
  refine oN ?_
  refine CW_seq ?_
  refine cR ?_
  refine oA rfl rfl ?_
  refine oN ?_
  refine CW_block ?_
  refine CW_rounds 5 ?_
  refine RW_succ ?_
  refine CW_seq ?_
  refine cR ?_
  refine oM rfl rfl ?_
  refine oQ (Q_bin rfl rfl rfl) rfl rfl ?_
  refine oN ?_
  first | refine cT rfl ?_ | refine cF rfl ?_ | refine CW_cond rfl (fun hc => ?_) (fun hc => ?_)
  all_goals try simp only [s1, s2, s3, s4, s5, s6, s7, s8, s9, s10, s11, s12] at hc
  all_goals try (exfalso; first | omega | (simp at hc; done); done)
  all_goals first
    | (
     refine CW_skip ?_)
    | (
     refine CW_exit ?_)
  all_goals first
    | with_reducible refine tR ?_
    | with_reducible refine tE ?_
    | (
     with_reducible refine tN ?_
     refine CW_seq ?_
     refine CW_block ?_
     refine CW_region ?_
     refine oM rfl rfl ?_
     refine oMk rfl rfl rfl ⟨by decide, rfl, .inl ⟨rfl, rfl⟩⟩ rfl rfl rfl (by first | omega | (dsimp only; omega) | (simp; omega) | (simp; done)) (by first | omega | (dsimp only; omega) | (simp; omega) | (simp; done)) (by first | omega | (dsimp only; omega) | (simp; omega) | (simp; done)) rfl rfl ?_
     refine oBslv rfl rfl rfl rfl rfl rfl rfl rfl rfl rfl rfl rfl rfl ?_
     first | refine oAppV (by_ := 24) (A := []) (sp := []) rfl rfl rfl rfl rfl rfl rfl rfl rfl rfl rfl rfl rfl rfl rfl rfl rfl rfl (by first | rfl | omega | (simp; omega)) (by omega) (by omega) rfl rfl (fun k2 hk2 => ?_) | refine oAppV (by_ := 24) rfl rfl rfl rfl rfl rfl rfl rfl rfl rfl rfl rfl rfl rfl rfl rfl rfl rfl (by first | rfl | omega | (simp; omega)) (by omega) (by omega) rfl rfl (fun k2 hk2 => ?_)
     refine oA rfl rfl ?_
     refine OW_nil ?_
     all_goals first | with_reducible refine bN ?_ | with_reducible refine bE ?_ | with_reducible refine bR ?_ | refine bX rfl ?_
     all_goals with_reducible refine tN ?_
     all_goals (
      refine CW_region ?_
      refine oM rfl rfl ?_
      first | refine oQ (Q_binu rfl rfl rfl (by omega)) rfl rfl ?_ | refine oQ (Q_bin rfl rfl rfl) rfl rfl ?_
      refine oA rfl rfl ?_
      refine OW_nil ?_))
  all_goals first
    | with_reducible refine tR ?_
    | with_reducible refine tE ?_
    | (
     with_reducible refine tN ?_
     refine RW_succ ?_
     refine CW_seq ?_
     refine cR ?_
     refine oM rfl rfl ?_
     refine oQ (Q_bin rfl rfl rfl) rfl rfl ?_
     refine oN ?_
     first | refine cT rfl ?_ | refine cF rfl ?_ | refine CW_cond rfl (fun hc => ?_) (fun hc => ?_)
     all_goals try simp only [s1, s2, s3, s4, s5, s6, s7, s8, s9, s10, s11, s12] at hc
     all_goals try (exfalso; first | omega | (simp at hc; done); done)
     all_goals first
       | (
        refine CW_skip ?_)
       | (
        refine CW_exit ?_)
     all_goals first
       | with_reducible refine tR ?_
       | with_reducible refine tE ?_
       | (
        with_reducible refine tN ?_
        refine CW_seq ?_
        refine CW_block ?_
        refine CW_region ?_
        refine oM rfl rfl ?_
        refine oMk rfl rfl rfl ⟨by decide, rfl, .inl ⟨rfl, rfl⟩⟩ rfl rfl rfl (by first | omega | (dsimp only; omega) | (simp; omega) | (simp; done)) (by first | omega | (dsimp only; omega) | (simp; omega) | (simp; done)) (by first | omega | (dsimp only; omega) | (simp; omega) | (simp; done)) rfl rfl ?_
        refine oBslv rfl rfl rfl rfl rfl rfl rfl rfl rfl rfl rfl rfl rfl ?_
        first | refine oAppV (by_ := 24) (A := []) (sp := []) rfl rfl rfl rfl rfl rfl rfl rfl rfl rfl rfl rfl rfl rfl rfl rfl rfl rfl (by first | rfl | omega | (simp; omega)) (by omega) (by omega) rfl rfl (fun k2 hk2 => ?_) | refine oAppV (by_ := 24) rfl rfl rfl rfl rfl rfl rfl rfl rfl rfl rfl rfl rfl rfl rfl rfl rfl rfl (by first | rfl | omega | (simp; omega)) (by omega) (by omega) rfl rfl (fun k2 hk2 => ?_)
        refine oA rfl rfl ?_
        refine OW_nil ?_
        all_goals first | with_reducible refine bN ?_ | with_reducible refine bE ?_ | with_reducible refine bR ?_ | refine bX rfl ?_
        all_goals with_reducible refine tN ?_
        all_goals (
         refine CW_region ?_
         refine oM rfl rfl ?_
         first | refine oQ (Q_binu rfl rfl rfl (by omega)) rfl rfl ?_ | refine oQ (Q_bin rfl rfl rfl) rfl rfl ?_
         refine oA rfl rfl ?_
         refine OW_nil ?_))
     all_goals first
       | with_reducible refine tR ?_
       | with_reducible refine tE ?_
       | (
        with_reducible refine tN ?_
        refine RW_succ ?_
        refine CW_seq ?_
        refine cR ?_
        refine oM rfl rfl ?_
        refine oQ (Q_bin rfl rfl rfl) rfl rfl ?_
        refine oN ?_
        first | refine cT rfl ?_ | refine cF rfl ?_ | refine CW_cond rfl (fun hc => ?_) (fun hc => ?_)
        all_goals try simp only [s1, s2, s3, s4, s5, s6, s7, s8, s9, s10, s11, s12] at hc
        all_goals try (exfalso; first | omega | (simp at hc; done); done)
        all_goals first
          | (
           refine CW_skip ?_)
          | (
           refine CW_exit ?_)
        all_goals first
          | with_reducible refine tR ?_
          | with_reducible refine tE ?_
          | (
           with_reducible refine tN ?_
           refine CW_seq ?_
           refine CW_block ?_
           refine CW_region ?_
           refine oM rfl rfl ?_
           refine oMk rfl rfl rfl ⟨by decide, rfl, .inl ⟨rfl, rfl⟩⟩ rfl rfl rfl (by first | omega | (dsimp only; omega) | (simp; omega) | (simp; done)) (by first | omega | (dsimp only; omega) | (simp; omega) | (simp; done)) (by first | omega | (dsimp only; omega) | (simp; omega) | (simp; done)) rfl rfl ?_
           refine oBslv rfl rfl rfl rfl rfl rfl rfl rfl rfl rfl rfl rfl rfl ?_
           first | refine oAppV (by_ := 24) (A := []) (sp := []) rfl rfl rfl rfl rfl rfl rfl rfl rfl rfl rfl rfl rfl rfl rfl rfl rfl rfl (by first | rfl | omega | (simp; omega)) (by omega) (by omega) rfl rfl (fun k2 hk2 => ?_) | refine oAppV (by_ := 24) rfl rfl rfl rfl rfl rfl rfl rfl rfl rfl rfl rfl rfl rfl rfl rfl rfl rfl (by first | rfl | omega | (simp; omega)) (by omega) (by omega) rfl rfl (fun k2 hk2 => ?_)
           refine oA rfl rfl ?_
           refine OW_nil ?_
           all_goals first | with_reducible refine bN ?_ | with_reducible refine bE ?_ | with_reducible refine bR ?_ | refine bX rfl ?_
           all_goals with_reducible refine tN ?_
           all_goals (
            refine CW_region ?_
            refine oM rfl rfl ?_
            first | refine oQ (Q_binu rfl rfl rfl (by omega)) rfl rfl ?_ | refine oQ (Q_bin rfl rfl rfl) rfl rfl ?_
            refine oA rfl rfl ?_
            refine OW_nil ?_))
        all_goals first
          | with_reducible refine tR ?_
          | with_reducible refine tE ?_
          | (
           with_reducible refine tN ?_
           refine RW_succ ?_
           refine CW_seq ?_
           refine cR ?_
           refine oM rfl rfl ?_
           refine oQ (Q_bin rfl rfl rfl) rfl rfl ?_
           refine oN ?_
           first | refine cT rfl ?_ | refine cF rfl ?_ | refine CW_cond rfl (fun hc => ?_) (fun hc => ?_)
           all_goals try simp only [s1, s2, s3, s4, s5, s6, s7, s8, s9, s10, s11, s12] at hc
           all_goals try (exfalso; first | omega | (simp at hc; done); done)
           all_goals first
             | (
              refine CW_skip ?_)
             | (
              refine CW_exit ?_)
           all_goals first
             | with_reducible refine tR ?_
             | with_reducible refine tE ?_
             | (
              with_reducible refine tN ?_
              refine CW_seq ?_
              refine CW_block ?_
              refine CW_region ?_
              refine oM rfl rfl ?_
              refine oMk rfl rfl rfl ⟨by decide, rfl, .inl ⟨rfl, rfl⟩⟩ rfl rfl rfl (by first | omega | (dsimp only; omega) | (simp; omega) | (simp; done)) (by first | omega | (dsimp only; omega) | (simp; omega) | (simp; done)) (by first | omega | (dsimp only; omega) | (simp; omega) | (simp; done)) rfl rfl ?_
              refine oBslv rfl rfl rfl rfl rfl rfl rfl rfl rfl rfl rfl rfl rfl ?_
              first | refine oAppV (by_ := 24) (A := []) (sp := []) rfl rfl rfl rfl rfl rfl rfl rfl rfl rfl rfl rfl rfl rfl rfl rfl rfl rfl (by first | rfl | omega | (simp; omega)) (by omega) (by omega) rfl rfl (fun k2 hk2 => ?_) | refine oAppV (by_ := 24) rfl rfl rfl rfl rfl rfl rfl rfl rfl rfl rfl rfl rfl rfl rfl rfl rfl rfl (by first | rfl | omega | (simp; omega)) (by omega) (by omega) rfl rfl (fun k2 hk2 => ?_)
              refine oA rfl rfl ?_
              refine OW_nil ?_
              all_goals first | with_reducible refine bN ?_ | with_reducible refine bE ?_ | with_reducible refine bR ?_ | refine bX rfl ?_
              all_goals with_reducible refine tN ?_
              all_goals (
               refine CW_region ?_
               refine oM rfl rfl ?_
               first | refine oQ (Q_binu rfl rfl rfl (by omega)) rfl rfl ?_ | refine oQ (Q_bin rfl rfl rfl) rfl rfl ?_
               refine oA rfl rfl ?_
               refine OW_nil ?_))
           all_goals first
             | with_reducible refine tR ?_
             | with_reducible refine tE ?_
             | (
              with_reducible refine tN ?_
              refine RW_succ ?_
              refine CW_seq ?_
              refine cR ?_
              refine oM rfl rfl ?_
              refine oQ (Q_bin rfl rfl rfl) rfl rfl ?_
              refine oN ?_
              first | refine cT rfl ?_ | refine cF rfl ?_ | refine CW_cond rfl (fun hc => ?_) (fun hc => ?_)
              all_goals try simp only [s1, s2, s3, s4, s5, s6, s7, s8, s9, s10, s11, s12] at hc
              all_goals try (exfalso; first | omega | (simp at hc; done); done)
              all_goals first
                | (
                 refine CW_skip ?_)
                | (
                 refine CW_exit ?_)
              all_goals first
                | with_reducible refine tR ?_
                | with_reducible refine tE ?_
                | (
                 with_reducible refine tN ?_
                 refine CW_seq ?_
                 refine CW_block ?_
                 refine CW_region ?_
                 refine oM rfl rfl ?_
                 refine oMk rfl rfl rfl ⟨by decide, rfl, .inl ⟨rfl, rfl⟩⟩ rfl rfl rfl (by first | omega | (dsimp only; omega) | (simp; omega) | (simp; done)) (by first | omega | (dsimp only; omega) | (simp; omega) | (simp; done)) (by first | omega | (dsimp only; omega) | (simp; omega) | (simp; done)) rfl rfl ?_
                 refine oBslv rfl rfl rfl rfl rfl rfl rfl rfl rfl rfl rfl rfl rfl ?_
                 first | refine oAppV (by_ := 24) (A := []) (sp := []) rfl rfl rfl rfl rfl rfl rfl rfl rfl rfl rfl rfl rfl rfl rfl rfl rfl rfl (by first | rfl | omega | (simp; omega)) (by omega) (by omega) rfl rfl (fun k2 hk2 => ?_) | refine oAppV (by_ := 24) rfl rfl rfl rfl rfl rfl rfl rfl rfl rfl rfl rfl rfl rfl rfl rfl rfl rfl (by first | rfl | omega | (simp; omega)) (by omega) (by omega) rfl rfl (fun k2 hk2 => ?_)
                 refine oA rfl rfl ?_
                 refine OW_nil ?_
                 all_goals first | with_reducible refine bN ?_ | with_reducible refine bE ?_ | with_reducible refine bR ?_ | refine bX rfl ?_
                 all_goals with_reducible refine tN ?_
                 all_goals (
                  refine CW_region ?_
                  refine oM rfl rfl ?_
                  first | refine oQ (Q_binu rfl rfl rfl (by omega)) rfl rfl ?_ | refine oQ (Q_bin rfl rfl rfl) rfl rfl ?_
                  refine oA rfl rfl ?_
                  refine OW_nil ?_))
              all_goals first
                | with_reducible refine tR ?_
                | with_reducible refine tE ?_
                | (
                 with_reducible refine tN ?_
                 exfalso; first | omega | (simp at hc; done) | (simp_all; done))))))
  all_goals first | with_reducible refine bN ?_ | with_reducible refine bE ?_ | with_reducible refine bR ?_ | refine bX rfl ?_
  all_goals with_reducible refine tN ?_
  all_goals (
   refine CW_seq ?_
   refine cR ?_
   refine oA rfl rfl ?_
   refine oN ?_
   refine CW_block ?_
   refine CW_rounds 11 ?_
   refine RW_succ ?_
   refine CW_seq ?_
   refine cR ?_
   refine oM rfl rfl ?_
   refine oQ (Q_bin rfl rfl rfl) rfl rfl ?_
   refine oN ?_
   first | refine cT rfl ?_ | refine cF rfl ?_ | refine CW_cond rfl (fun hc => ?_) (fun hc => ?_)
   all_goals try simp only [s1, s2, s3, s4, s5, s6, s7, s8, s9, s10, s11, s12] at hc
   all_goals try (exfalso; first | omega | (simp at hc; done); done)
   all_goals first
     | (
      refine CW_skip ?_)
     | (
      refine CW_exit ?_)
   all_goals first
     | with_reducible refine tR ?_
     | with_reducible refine tE ?_
     | (
      with_reducible refine tN ?_
      refine CW_seq ?_
      refine CW_block ?_
      refine CW_seq ?_
      refine CW_draw lateOk (by decide +kernel) ?_
      refine qM rfl rfl ?_
      first | refine qQ (Q_ixa0z 2 rfl rfl rfl rfl rfl rfl (by first | omega | (dsimp only; omega) | (simp; omega) | (simp; done))) rfl rfl ?_ | refine qQ (Q_ixaz 2 rfl rfl rfl rfl rfl rfl (by first | omega | (dsimp only; omega) | (simp; omega) | (simp; done))) rfl rfl ?_
      first | refine qQ (Ia0 rfl rfl rfl rfl rfl rfl) rfl rfl ?_ | refine qQ (Ia1 rfl rfl rfl rfl rfl rfl) rfl rfl ?_
      first | refine qQ (Q_ldc rfl rfl rfl rfl rfl) rfl rfl ?_ | refine qQ (Ld rfl rfl rfl rfl) rfl rfl ?_
      refine qM rfl rfl ?_
      first | refine qQ (Q_ixa0z 2 rfl rfl rfl rfl rfl rfl (by first | omega | (dsimp only; omega) | (simp; omega) | (simp; done))) rfl rfl ?_ | refine qQ (Q_ixaz 2 rfl rfl rfl rfl rfl rfl (by first | omega | (dsimp only; omega) | (simp; omega) | (simp; done))) rfl rfl ?_
      first | refine qQ (Ia0 rfl rfl rfl rfl rfl rfl) rfl rfl ?_ | refine qQ (Ia1 rfl rfl rfl rfl rfl rfl) rfl rfl ?_
      first | refine qQ (Q_ldc rfl rfl rfl rfl rfl) rfl rfl ?_ | refine qQ (Ld rfl rfl rfl rfl) rfl rfl ?_
      iterate 2 refine qA rfl rfl ?_
      refine QW_nil ?_
      all_goals with_reducible refine tN ?_
      all_goals (
       refine CW_seq ?_
       refine CW_draw lateOk (by decide +kernel) ?_
       iterate 2 refine qM rfl rfl ?_
       first | refine qQ (Is0 rfl rfl rfl rfl rfl rfl) rfl rfl ?_ | refine qQ (Is1 rfl rfl rfl rfl rfl rfl) rfl rfl ?_
       refine qQ (Q_ldv rfl rfl rfl rfl rfl rfl) rfl rfl ?_
       iterate 2 refine qM rfl rfl ?_
       first | refine qQ (Is0 rfl rfl rfl rfl rfl rfl) rfl rfl ?_ | refine qQ (Is1 rfl rfl rfl rfl rfl rfl) rfl rfl ?_
       refine qQ (Q_ldv rfl rfl rfl rfl rfl rfl) rfl rfl ?_
       iterate 2 refine qA rfl rfl ?_
       refine QW_nil ?_
       all_goals with_reducible refine tN ?_
       all_goals (
        refine CW_seq ?_
        refine CW_any (fun i => List.elem i [13]) 14 rfl lateOk (by decide +kernel) (fun hst => ?_)
        refine aP 0 hst rfl rfl (by decide +kernel) (PX_move rfl rfl) rfl rfl ?_
        refine aP 1 hst rfl rfl (by decide +kernel) (PX_move rfl rfl) rfl rfl ?_
        refine aP 2 hst rfl rfl (by decide +kernel) (PX_move rfl rfl) rfl rfl ?_
        refine aP 3 hst rfl rfl (by decide +kernel) (PX_move rfl rfl) rfl rfl ?_
        first | refine aQ 4 hst rfl rfl (by decide +kernel) (QX_of (Is0 rfl rfl rfl rfl rfl rfl) NE_ix) rfl rfl ?_ | refine aQ 4 hst rfl rfl (by decide +kernel) (QX_of (Is1 rfl rfl rfl rfl rfl rfl) NE_ix) rfl rfl ?_
        first | refine aQ 5 hst rfl rfl (by decide +kernel) (QX_of (Q_ldc rfl rfl rfl rfl rfl) NE_load) rfl rfl ?_ | refine aQ 5 hst rfl rfl (by decide +kernel) (QX_of (Ld rfl rfl rfl rfl) NE_load) rfl rfl ?_
        refine aP 6 hst rfl rfl (by decide +kernel) (PX_move rfl rfl) rfl rfl ?_
        first | refine aQ 7 hst rfl rfl (by decide +kernel) (QX_of (Ia0 rfl rfl rfl rfl rfl rfl) NE_ix) rfl rfl ?_ | refine aQ 7 hst rfl rfl (by decide +kernel) (QX_of (Ia1 rfl rfl rfl rfl rfl rfl) NE_ix) rfl rfl ?_
        first | refine aQ 8 hst rfl rfl (by decide +kernel) (QX_of (Q_ldc rfl rfl rfl rfl rfl) NE_load) rfl rfl ?_ | refine aQ 8 hst rfl rfl (by decide +kernel) (QX_of (Ld rfl rfl rfl rfl) NE_load) rfl rfl ?_
        first | refine aP 9 hst rfl rfl (by decide +kernel) (PX_binu rfl rfl rfl (by omega)) rfl rfl ?_ | refine aP 9 hst rfl rfl (by decide +kernel) (PX_bin rfl rfl rfl) rfl rfl ?_
        refine aP 10 hst rfl rfl (by decide +kernel) (PX_move rfl rfl) rfl rfl ?_
        refine aQ 11 hst rfl rfl (by decide +kernel) (QX_of (Q_rem rfl rfl (by omega)) NE_bin) rfl rfl ?_; rw [Int.tmod_eq_emod_of_nonneg (by omega)]
        first | refine aQ 12 hst rfl rfl (by decide +kernel) (QX_of (Is0 rfl rfl rfl rfl rfl rfl) NE_ix) rfl rfl ?_ | refine aQ 12 hst rfl rfl (by decide +kernel) (QX_of (Is1 rfl rfl rfl rfl rfl rfl) NE_ix) rfl rfl ?_
        refine AW_last [13] rfl (by decide +kernel) rfl ?_
        refine oS rfl rfl rfl rfl rfl ?_
        refine OW_nil (npN ?_)
        all_goals with_reducible refine tN ?_
        all_goals (
         refine CW_any (fun i => List.elem i [13]) 14 rfl lateOk (by decide +kernel) (fun hst => ?_)
         refine aP 0 hst rfl rfl (by decide +kernel) (PX_move rfl rfl) rfl rfl ?_
         refine aP 1 hst rfl rfl (by decide +kernel) (PX_move rfl rfl) rfl rfl ?_
         refine aP 2 hst rfl rfl (by decide +kernel) (PX_move rfl rfl) rfl rfl ?_
         refine aP 3 hst rfl rfl (by decide +kernel) (PX_move rfl rfl) rfl rfl ?_
         first | refine aQ 4 hst rfl rfl (by decide +kernel) (QX_of (Is0 rfl rfl rfl rfl rfl rfl) NE_ix) rfl rfl ?_ | refine aQ 4 hst rfl rfl (by decide +kernel) (QX_of (Is1 rfl rfl rfl rfl rfl rfl) NE_ix) rfl rfl ?_
         first | refine aQ 5 hst rfl rfl (by decide +kernel) (QX_of (Q_ldc rfl rfl rfl rfl rfl) NE_load) rfl rfl ?_ | refine aQ 5 hst rfl rfl (by decide +kernel) (QX_of (Ld rfl rfl rfl rfl) NE_load) rfl rfl ?_
         refine aP 6 hst rfl rfl (by decide +kernel) (PX_move rfl rfl) rfl rfl ?_
         first | refine aQ 7 hst rfl rfl (by decide +kernel) (QX_of (Ia0 rfl rfl rfl rfl rfl rfl) NE_ix) rfl rfl ?_ | refine aQ 7 hst rfl rfl (by decide +kernel) (QX_of (Ia1 rfl rfl rfl rfl rfl rfl) NE_ix) rfl rfl ?_
         first | refine aQ 8 hst rfl rfl (by decide +kernel) (QX_of (Q_ldc rfl rfl rfl rfl rfl) NE_load) rfl rfl ?_ | refine aQ 8 hst rfl rfl (by decide +kernel) (QX_of (Ld rfl rfl rfl rfl) NE_load) rfl rfl ?_
         first | refine aP 9 hst rfl rfl (by decide +kernel) (PX_binu rfl rfl rfl (by omega)) rfl rfl ?_ | refine aP 9 hst rfl rfl (by decide +kernel) (PX_bin rfl rfl rfl) rfl rfl ?_
         refine aP 10 hst rfl rfl (by decide +kernel) (PX_move rfl rfl) rfl rfl ?_
         refine aQ 11 hst rfl rfl (by decide +kernel) (QX_of (Q_rem rfl rfl (by omega)) NE_bin) rfl rfl ?_; rw [Int.tmod_eq_emod_of_nonneg (by omega)]
         first | refine aQ 12 hst rfl rfl (by decide +kernel) (QX_of (Is0 rfl rfl rfl rfl rfl rfl) NE_ix) rfl rfl ?_ | refine aQ 12 hst rfl rfl (by decide +kernel) (QX_of (Is1 rfl rfl rfl rfl rfl rfl) NE_ix) rfl rfl ?_
         refine AW_last [13] rfl (by decide +kernel) rfl ?_
         refine oS rfl rfl rfl rfl rfl ?_
         refine OW_nil (npN ?_))))
      all_goals first | with_reducible refine bN ?_ | with_reducible refine bE ?_ | with_reducible refine bR ?_ | refine bX rfl ?_
      all_goals with_reducible refine tN ?_
      all_goals (
       refine CW_region ?_
       refine oM rfl rfl ?_
       first | refine oQ (Q_binu rfl rfl rfl (by omega)) rfl rfl ?_ | refine oQ (Q_bin rfl rfl rfl) rfl rfl ?_
       refine oA rfl rfl ?_
       refine OW_nil ?_))
   all_goals first
     | with_reducible refine tR ?_
     | with_reducible refine tE ?_
     | (
      with_reducible refine tN ?_
      refine RW_succ ?_
      refine CW_seq ?_
      refine cR ?_
      refine oM rfl rfl ?_
      refine oQ (Q_bin rfl rfl rfl) rfl rfl ?_
      refine oN ?_
      first | refine cT rfl ?_ | refine cF rfl ?_ | refine CW_cond rfl (fun hc => ?_) (fun hc => ?_)
      all_goals try simp only [s1, s2, s3, s4, s5, s6, s7, s8, s9, s10, s11, s12] at hc
      all_goals try (exfalso; first | omega | (simp at hc; done); done)
      all_goals first
        | (
         refine CW_skip ?_)
        | (
         refine CW_exit ?_)
      all_goals first
        | with_reducible refine tR ?_
        | with_reducible refine tE ?_
        | (
         with_reducible refine tN ?_
         refine CW_seq ?_
         refine CW_block ?_
         refine CW_seq ?_
         refine CW_draw lateOk (by decide +kernel) ?_
         refine qM rfl rfl ?_
         first | refine qQ (Q_ixa0z 2 rfl rfl rfl rfl rfl rfl (by first | omega | (dsimp only; omega) | (simp; omega) | (simp; done))) rfl rfl ?_ | refine qQ (Q_ixaz 2 rfl rfl rfl rfl rfl rfl (by first | omega | (dsimp only; omega) | (simp; omega) | (simp; done))) rfl rfl ?_
         first | refine qQ (Ia0 rfl rfl rfl rfl rfl rfl) rfl rfl ?_ | refine qQ (Ia1 rfl rfl rfl rfl rfl rfl) rfl rfl ?_
         first | refine qQ (Q_ldc rfl rfl rfl rfl rfl) rfl rfl ?_ | refine qQ (Ld rfl rfl rfl rfl) rfl rfl ?_
         refine qM rfl rfl ?_
         first | refine qQ (Q_ixa0z 2 rfl rfl rfl rfl rfl rfl (by first | omega | (dsimp only; omega) | (simp; omega) | (simp; done))) rfl rfl ?_ | refine qQ (Q_ixaz 2 rfl rfl rfl rfl rfl rfl (by first | omega | (dsimp only; omega) | (simp; omega) | (simp; done))) rfl rfl ?_
         first | refine qQ (Ia0 rfl rfl rfl rfl rfl rfl) rfl rfl ?_ | refine qQ (Ia1 rfl rfl rfl rfl rfl rfl) rfl rfl ?_
         first | refine qQ (Q_ldc rfl rfl rfl rfl rfl) rfl rfl ?_ | refine qQ (Ld rfl rfl rfl rfl) rfl rfl ?_
         iterate 2 refine qA rfl rfl ?_
         refine QW_nil ?_
         all_goals with_reducible refine tN ?_
         all_goals (
          refine CW_seq ?_
          refine CW_draw lateOk (by decide +kernel) ?_
          iterate 2 refine qM rfl rfl ?_
          first | refine qQ (Is0 rfl rfl rfl rfl rfl rfl) rfl rfl ?_ | refine qQ (Is1 rfl rfl rfl rfl rfl rfl) rfl rfl ?_
          refine qQ (Q_ldv rfl rfl rfl rfl rfl rfl) rfl rfl ?_
          iterate 2 refine qM rfl rfl ?_
          first | refine qQ (Is0 rfl rfl rfl rfl rfl rfl) rfl rfl ?_ | refine qQ (Is1 rfl rfl rfl rfl rfl rfl) rfl rfl ?_
          refine qQ (Q_ldv rfl rfl rfl rfl rfl rfl) rfl rfl ?_
          iterate 2 refine qA rfl rfl ?_
          refine QW_nil ?_
          all_goals with_reducible refine tN ?_
          all_goals (
           refine CW_seq ?_
           refine CW_any (fun i => List.elem i [13]) 14 rfl lateOk (by decide +kernel) (fun hst => ?_)
           refine aP 0 hst rfl rfl (by decide +kernel) (PX_move rfl rfl) rfl rfl ?_
           refine aP 1 hst rfl rfl (by decide +kernel) (PX_move rfl rfl) rfl rfl ?_
           refine aP 2 hst rfl rfl (by decide +kernel) (PX_move rfl rfl) rfl rfl ?_
           refine aP 3 hst rfl rfl (by decide +kernel) (PX_move rfl rfl) rfl rfl ?_
           first | refine aQ 4 hst rfl rfl (by decide +kernel) (QX_of (Is0 rfl rfl rfl rfl rfl rfl) NE_ix) rfl rfl ?_ | refine aQ 4 hst rfl rfl (by decide +kernel) (QX_of (Is1 rfl rfl rfl rfl rfl rfl) NE_ix) rfl rfl ?_
           first | refine aQ 5 hst rfl rfl (by decide +kernel) (QX_of (Q_ldc rfl rfl rfl rfl rfl) NE_load) rfl rfl ?_ | refine aQ 5 hst rfl rfl (by decide +kernel) (QX_of (Ld rfl rfl rfl rfl) NE_load) rfl rfl ?_
           refine aP 6 hst rfl rfl (by decide +kernel) (PX_move rfl rfl) rfl rfl ?_
           first | refine aQ 7 hst rfl rfl (by decide +kernel) (QX_of (Ia0 rfl rfl rfl rfl rfl rfl) NE_ix) rfl rfl ?_ | refine aQ 7 hst rfl rfl (by decide +kernel) (QX_of (Ia1 rfl rfl rfl rfl rfl rfl) NE_ix) rfl rfl ?_
           first | refine aQ 8 hst rfl rfl (by decide +kernel) (QX_of (Q_ldc rfl rfl rfl rfl rfl) NE_load) rfl rfl ?_ | refine aQ 8 hst rfl rfl (by decide +kernel) (QX_of (Ld rfl rfl rfl rfl) NE_load) rfl rfl ?_
           first | refine aP 9 hst rfl rfl (by decide +kernel) (PX_binu rfl rfl rfl (by omega)) rfl rfl ?_ | refine aP 9 hst rfl rfl (by decide +kernel) (PX_bin rfl rfl rfl) rfl rfl ?_
           refine aP 10 hst rfl rfl (by decide +kernel) (PX_move rfl rfl) rfl rfl ?_
           refine aQ 11 hst rfl rfl (by decide +kernel) (QX_of (Q_rem rfl rfl (by omega)) NE_bin) rfl rfl ?_; rw [Int.tmod_eq_emod_of_nonneg (by omega)]
           first | refine aQ 12 hst rfl rfl (by decide +kernel) (QX_of (Is0 rfl rfl rfl rfl rfl rfl) NE_ix) rfl rfl ?_ | refine aQ 12 hst rfl rfl (by decide +kernel) (QX_of (Is1 rfl rfl rfl rfl rfl rfl) NE_ix) rfl rfl ?_
           refine AW_last [13] rfl (by decide +kernel) rfl ?_
           refine oS rfl rfl rfl rfl rfl ?_
           refine OW_nil (npN ?_)
           all_goals with_reducible refine tN ?_
           all_goals (
            refine CW_any (fun i => List.elem i [13]) 14 rfl lateOk (by decide +kernel) (fun hst => ?_)
            refine aP 0 hst rfl rfl (by decide +kernel) (PX_move rfl rfl) rfl rfl ?_
            refine aP 1 hst rfl rfl (by decide +kernel) (PX_move rfl rfl) rfl rfl ?_
            refine aP 2 hst rfl rfl (by decide +kernel) (PX_move rfl rfl) rfl rfl ?_
            refine aP 3 hst rfl rfl (by decide +kernel) (PX_move rfl rfl) rfl rfl ?_
            first | refine aQ 4 hst rfl rfl (by decide +kernel) (QX_of (Is0 rfl rfl rfl rfl rfl rfl) NE_ix) rfl rfl ?_ | refine aQ 4 hst rfl rfl (by decide +kernel) (QX_of (Is1 rfl rfl rfl rfl rfl rfl) NE_ix) rfl rfl ?_
            first | refine aQ 5 hst rfl rfl (by decide +kernel) (QX_of (Q_ldc rfl rfl rfl rfl rfl) NE_load) rfl rfl ?_ | refine aQ 5 hst rfl rfl (by decide +kernel) (QX_of (Ld rfl rfl rfl rfl) NE_load) rfl rfl ?_
            refine aP 6 hst rfl rfl (by decide +kernel) (PX_move rfl rfl) rfl rfl ?_
            first | refine aQ 7 hst rfl rfl (by decide +kernel) (QX_of (Ia0 rfl rfl rfl rfl rfl rfl) NE_ix) rfl rfl ?_ | refine aQ 7 hst rfl rfl (by decide +kernel) (QX_of (Ia1 rfl rfl rfl rfl rfl rfl) NE_ix) rfl rfl ?_
            first | refine aQ 8 hst rfl rfl (by decide +kernel) (QX_of (Q_ldc rfl rfl rfl rfl rfl) NE_load) rfl rfl ?_ | refine aQ 8 hst rfl rfl (by decide +kernel) (QX_of (Ld rfl rfl rfl rfl) NE_load) rfl rfl ?_
            first | refine aP 9 hst rfl rfl (by decide +kernel) (PX_binu rfl rfl rfl (by omega)) rfl rfl ?_ | refine aP 9 hst rfl rfl (by decide +kernel) (PX_bin rfl rfl rfl) rfl rfl ?_
            refine aP 10 hst rfl rfl (by decide +kernel) (PX_move rfl rfl) rfl rfl ?_
            refine aQ 11 hst rfl rfl (by decide +kernel) (QX_of (Q_rem rfl rfl (by omega)) NE_bin) rfl rfl ?_; rw [Int.tmod_eq_emod_of_nonneg (by omega)]
            first | refine aQ 12 hst rfl rfl (by decide +kernel) (QX_of (Is0 rfl rfl rfl rfl rfl rfl) NE_ix) rfl rfl ?_ | refine aQ 12 hst rfl rfl (by decide +kernel) (QX_of (Is1 rfl rfl rfl rfl rfl rfl) NE_ix) rfl rfl ?_
            refine AW_last [13] rfl (by decide +kernel) rfl ?_
            refine oS rfl rfl rfl rfl rfl ?_
            refine OW_nil (npN ?_))))
         all_goals first | with_reducible refine bN ?_ | with_reducible refine bE ?_ | with_reducible refine bR ?_ | refine bX rfl ?_
         all_goals with_reducible refine tN ?_
         all_goals (
          refine CW_region ?_
          refine oM rfl rfl ?_
          first | refine oQ (Q_binu rfl rfl rfl (by omega)) rfl rfl ?_ | refine oQ (Q_bin rfl rfl rfl) rfl rfl ?_
          refine oA rfl rfl ?_
          refine OW_nil ?_))
      all_goals first
        | with_reducible refine tR ?_
        | with_reducible refine tE ?_
        | (
         with_reducible refine tN ?_
         refine RW_succ ?_
         refine CW_seq ?_
         refine cR ?_
         refine oM rfl rfl ?_
         refine oQ (Q_bin rfl rfl rfl) rfl rfl ?_
         refine oN ?_
         first | refine cT rfl ?_ | refine cF rfl ?_ | refine CW_cond rfl (fun hc => ?_) (fun hc => ?_)
         all_goals try simp only [s1, s2, s3, s4, s5, s6, s7, s8, s9, s10, s11, s12] at hc
         all_goals try (exfalso; first | omega | (simp at hc; done); done)
         all_goals first
           | (
            refine CW_skip ?_)
           | (
            refine CW_exit ?_)
         all_goals first
           | with_reducible refine tR ?_
           | with_reducible refine tE ?_
           | (
            with_reducible refine tN ?_
            refine CW_seq ?_
            refine CW_block ?_
            refine CW_seq ?_
            refine CW_draw lateOk (by decide +kernel) ?_
            refine qM rfl rfl ?_
            first | refine qQ (Q_ixa0z 2 rfl rfl rfl rfl rfl rfl (by first | omega | (dsimp only; omega) | (simp; omega) | (simp; done))) rfl rfl ?_ | refine qQ (Q_ixaz 2 rfl rfl rfl rfl rfl rfl (by first | omega | (dsimp only; omega) | (simp; omega) | (simp; done))) rfl rfl ?_
            first | refine qQ (Ia0 rfl rfl rfl rfl rfl rfl) rfl rfl ?_ | refine qQ (Ia1 rfl rfl rfl rfl rfl rfl) rfl rfl ?_
            first | refine qQ (Q_ldc rfl rfl rfl rfl rfl) rfl rfl ?_ | refine qQ (Ld rfl rfl rfl rfl) rfl rfl ?_
            refine qM rfl rfl ?_
            first | refine qQ (Q_ixa0z 2 rfl rfl rfl rfl rfl rfl (by first | omega | (dsimp only; omega) | (simp; omega) | (simp; done))) rfl rfl ?_ | refine qQ (Q_ixaz 2 rfl rfl rfl rfl rfl rfl (by first | omega | (dsimp only; omega) | (simp; omega) | (simp; done))) rfl rfl ?_
            first | refine qQ (Ia0 rfl rfl rfl rfl rfl rfl) rfl rfl ?_ | refine qQ (Ia1 rfl rfl rfl rfl rfl rfl) rfl rfl ?_
            first | refine qQ (Q_ldc rfl rfl rfl rfl rfl) rfl rfl ?_ | refine qQ (Ld rfl rfl rfl rfl) rfl rfl ?_
            iterate 2 refine qA rfl rfl ?_
            refine QW_nil ?_
            all_goals with_reducible refine tN ?_
            all_goals (
             refine CW_seq ?_
             refine CW_draw lateOk (by decide +kernel) ?_
             iterate 2 refine qM rfl rfl ?_
             first | refine qQ (Is0 rfl rfl rfl rfl rfl rfl) rfl rfl ?_ | refine qQ (Is1 rfl rfl rfl rfl rfl rfl) rfl rfl ?_
             refine qQ (Q_ldv rfl rfl rfl rfl rfl rfl) rfl rfl ?_
             iterate 2 refine qM rfl rfl ?_
             first | refine qQ (Is0 rfl rfl rfl rfl rfl rfl) rfl rfl ?_ | refine qQ (Is1 rfl rfl rfl rfl rfl rfl) rfl rfl ?_
             refine qQ (Q_ldv rfl rfl rfl rfl rfl rfl) rfl rfl ?_
             iterate 2 refine qA rfl rfl ?_
             refine QW_nil ?_
             all_goals with_reducible refine tN ?_
             all_goals (
              refine CW_seq ?_
              refine CW_any (fun i => List.elem i [13]) 14 rfl lateOk (by decide +kernel) (fun hst => ?_)
              refine aP 0 hst rfl rfl (by decide +kernel) (PX_move rfl rfl) rfl rfl ?_
              refine aP 1 hst rfl rfl (by decide +kernel) (PX_move rfl rfl) rfl rfl ?_
              refine aP 2 hst rfl rfl (by decide +kernel) (PX_move rfl rfl) rfl rfl ?_
              refine aP 3 hst rfl rfl (by decide +kernel) (PX_move rfl rfl) rfl rfl ?_
              first | refine aQ 4 hst rfl rfl (by decide +kernel) (QX_of (Is0 rfl rfl rfl rfl rfl rfl) NE_ix) rfl rfl ?_ | refine aQ 4 hst rfl rfl (by decide +kernel) (QX_of (Is1 rfl rfl rfl rfl rfl rfl) NE_ix) rfl rfl ?_
              first | refine aQ 5 hst rfl rfl (by decide +kernel) (QX_of (Q_ldc rfl rfl rfl rfl rfl) NE_load) rfl rfl ?_ | refine aQ 5 hst rfl rfl (by decide +kernel) (QX_of (Ld rfl rfl rfl rfl) NE_load) rfl rfl ?_
              refine aP 6 hst rfl rfl (by decide +kernel) (PX_move rfl rfl) rfl rfl ?_
              first | refine aQ 7 hst rfl rfl (by decide +kernel) (QX_of (Ia0 rfl rfl rfl rfl rfl rfl) NE_ix) rfl rfl ?_ | refine aQ 7 hst rfl rfl (by decide +kernel) (QX_of (Ia1 rfl rfl rfl rfl rfl rfl) NE_ix) rfl rfl ?_
              first | refine aQ 8 hst rfl rfl (by decide +kernel) (QX_of (Q_ldc rfl rfl rfl rfl rfl) NE_load) rfl rfl ?_ | refine aQ 8 hst rfl rfl (by decide +kernel) (QX_of (Ld rfl rfl rfl rfl) NE_load) rfl rfl ?_
              first | refine aP 9 hst rfl rfl (by decide +kernel) (PX_binu rfl rfl rfl (by omega)) rfl rfl ?_ | refine aP 9 hst rfl rfl (by decide +kernel) (PX_bin rfl rfl rfl) rfl rfl ?_
              refine aP 10 hst rfl rfl (by decide +kernel) (PX_move rfl rfl) rfl rfl ?_
              refine aQ 11 hst rfl rfl (by decide +kernel) (QX_of (Q_rem rfl rfl (by omega)) NE_bin) rfl rfl ?_; rw [Int.tmod_eq_emod_of_nonneg (by omega)]
              first | refine aQ 12 hst rfl rfl (by decide +kernel) (QX_of (Is0 rfl rfl rfl rfl rfl rfl) NE_ix) rfl rfl ?_ | refine aQ 12 hst rfl rfl (by decide +kernel) (QX_of (Is1 rfl rfl rfl rfl rfl rfl) NE_ix) rfl rfl ?_
              refine AW_last [13] rfl (by decide +kernel) rfl ?_
              refine oS rfl rfl rfl rfl rfl ?_
              refine OW_nil (npN ?_)
              all_goals with_reducible refine tN ?_
              all_goals (
               refine CW_any (fun i => List.elem i [13]) 14 rfl lateOk (by decide +kernel) (fun hst => ?_)
               refine aP 0 hst rfl rfl (by decide +kernel) (PX_move rfl rfl) rfl rfl ?_
               refine aP 1 hst rfl rfl (by decide +kernel) (PX_move rfl rfl) rfl rfl ?_
               refine aP 2 hst rfl rfl (by decide +kernel) (PX_move rfl rfl) rfl rfl ?_
               refine aP 3 hst rfl rfl (by decide +kernel) (PX_move rfl rfl) rfl rfl ?_
               first | refine aQ 4 hst rfl rfl (by decide +kernel) (QX_of (Is0 rfl rfl rfl rfl rfl rfl) NE_ix) rfl rfl ?_ | refine aQ 4 hst rfl rfl (by decide +kernel) (QX_of (Is1 rfl rfl rfl rfl rfl rfl) NE_ix) rfl rfl ?_
               first | refine aQ 5 hst rfl rfl (by decide +kernel) (QX_of (Q_ldc rfl rfl rfl rfl rfl) NE_load) rfl rfl ?_ | refine aQ 5 hst rfl rfl (by decide +kernel) (QX_of (Ld rfl rfl rfl rfl) NE_load) rfl rfl ?_
               refine aP 6 hst rfl rfl (by decide +kernel) (PX_move rfl rfl) rfl rfl ?_
               first | refine aQ 7 hst rfl rfl (by decide +kernel) (QX_of (Ia0 rfl rfl rfl rfl rfl rfl) NE_ix) rfl rfl ?_ | refine aQ 7 hst rfl rfl (by decide +kernel) (QX_of (Ia1 rfl rfl rfl rfl rfl rfl) NE_ix) rfl rfl ?_
               first | refine aQ 8 hst rfl rfl (by decide +kernel) (QX_of (Q_ldc rfl rfl rfl rfl rfl) NE_load) rfl rfl ?_ | refine aQ 8 hst rfl rfl (by decide +kernel) (QX_of (Ld rfl rfl rfl rfl) NE_load) rfl rfl ?_
               first | refine aP 9 hst rfl rfl (by decide +kernel) (PX_binu rfl rfl rfl (by omega)) rfl rfl ?_ | refine aP 9 hst rfl rfl (by decide +kernel) (PX_bin rfl rfl rfl) rfl rfl ?_
               refine aP 10 hst rfl rfl (by decide +kernel) (PX_move rfl rfl) rfl rfl ?_
               refine aQ 11 hst rfl rfl (by decide +kernel) (QX_of (Q_rem rfl rfl (by omega)) NE_bin) rfl rfl ?_; rw [Int.tmod_eq_emod_of_nonneg (by omega)]
               first | refine aQ 12 hst rfl rfl (by decide +kernel) (QX_of (Is0 rfl rfl rfl rfl rfl rfl) NE_ix) rfl rfl ?_ | refine aQ 12 hst rfl rfl (by decide +kernel) (QX_of (Is1 rfl rfl rfl rfl rfl rfl) NE_ix) rfl rfl ?_
               refine AW_last [13] rfl (by decide +kernel) rfl ?_
               refine oS rfl rfl rfl rfl rfl ?_
               refine OW_nil (npN ?_))))
            all_goals first | with_reducible refine bN ?_ | with_reducible refine bE ?_ | with_reducible refine bR ?_ | refine bX rfl ?_
            all_goals with_reducible refine tN ?_
            all_goals (
             refine CW_region ?_
             refine oM rfl rfl ?_
             first | refine oQ (Q_binu rfl rfl rfl (by omega)) rfl rfl ?_ | refine oQ (Q_bin rfl rfl rfl) rfl rfl ?_
             refine oA rfl rfl ?_
             refine OW_nil ?_))
         all_goals first
           | with_reducible refine tR ?_
           | with_reducible refine tE ?_
           | (
            with_reducible refine tN ?_
            refine RW_succ ?_
            refine CW_seq ?_
            refine cR ?_
            refine oM rfl rfl ?_
            refine oQ (Q_bin rfl rfl rfl) rfl rfl ?_
            refine oN ?_
            first | refine cT rfl ?_ | refine cF rfl ?_ | refine CW_cond rfl (fun hc => ?_) (fun hc => ?_)
            all_goals try simp only [s1, s2, s3, s4, s5, s6, s7, s8, s9, s10, s11, s12] at hc
            all_goals try (exfalso; first | omega | (simp at hc; done); done)
            all_goals first
              | (
               refine CW_skip ?_)
              | (
               refine CW_exit ?_)
            all_goals first
              | with_reducible refine tR ?_
              | with_reducible refine tE ?_
              | (
               with_reducible refine tN ?_
               refine CW_seq ?_
               refine CW_block ?_
               refine CW_seq ?_
               refine CW_draw lateOk (by decide +kernel) ?_
               refine qM rfl rfl ?_
               first | refine qQ (Q_ixa0z 2 rfl rfl rfl rfl rfl rfl (by first | omega | (dsimp only; omega) | (simp; omega) | (simp; done))) rfl rfl ?_ | refine qQ (Q_ixaz 2 rfl rfl rfl rfl rfl rfl (by first | omega | (dsimp only; omega) | (simp; omega) | (simp; done))) rfl rfl ?_
               first | refine qQ (Ia0 rfl rfl rfl rfl rfl rfl) rfl rfl ?_ | refine qQ (Ia1 rfl rfl rfl rfl rfl rfl) rfl rfl ?_
               first | refine qQ (Q_ldc rfl rfl rfl rfl rfl) rfl rfl ?_ | refine qQ (Ld rfl rfl rfl rfl) rfl rfl ?_
               refine qM rfl rfl ?_
               first | refine qQ (Q_ixa0z 2 rfl rfl rfl rfl rfl rfl (by first | omega | (dsimp only; omega) | (simp; omega) | (simp; done))) rfl rfl ?_ | refine qQ (Q_ixaz 2 rfl rfl rfl rfl rfl rfl (by first | omega | (dsimp only; omega) | (simp; omega) | (simp; done))) rfl rfl ?_
               first | refine qQ (Ia0 rfl rfl rfl rfl rfl rfl) rfl rfl ?_ | refine qQ (Ia1 rfl rfl rfl rfl rfl rfl) rfl rfl ?_
               first | refine qQ (Q_ldc rfl rfl rfl rfl rfl) rfl rfl ?_ | refine qQ (Ld rfl rfl rfl rfl) rfl rfl ?_
               iterate 2 refine qA rfl rfl ?_
               refine QW_nil ?_
               all_goals with_reducible refine tN ?_
               all_goals (
                refine CW_seq ?_
                refine CW_draw lateOk (by decide +kernel) ?_
                iterate 2 refine qM rfl rfl ?_
                first | refine qQ (Is0 rfl rfl rfl rfl rfl rfl) rfl rfl ?_ | refine qQ (Is1 rfl rfl rfl rfl rfl rfl) rfl rfl ?_
                refine qQ (Q_ldv rfl rfl rfl rfl rfl rfl) rfl rfl ?_
                iterate 2 refine qM rfl rfl ?_
                first | refine qQ (Is0 rfl rfl rfl rfl rfl rfl) rfl rfl ?_ | refine qQ (Is1 rfl rfl rfl rfl rfl rfl) rfl rfl ?_
                refine qQ (Q_ldv rfl rfl rfl rfl rfl rfl) rfl rfl ?_
                iterate 2 refine qA rfl rfl ?_
                refine QW_nil ?_
                all_goals with_reducible refine tN ?_
                all_goals (
                 refine CW_seq ?_
                 refine CW_any (fun i => List.elem i [13]) 14 rfl lateOk (by decide +kernel) (fun hst => ?_)
                 refine aP 0 hst rfl rfl (by decide +kernel) (PX_move rfl rfl) rfl rfl ?_
                 refine aP 1 hst rfl rfl (by decide +kernel) (PX_move rfl rfl) rfl rfl ?_
                 refine aP 2 hst rfl rfl (by decide +kernel) (PX_move rfl rfl) rfl rfl ?_
                 refine aP 3 hst rfl rfl (by decide +kernel) (PX_move rfl rfl) rfl rfl ?_
                 first | refine aQ 4 hst rfl rfl (by decide +kernel) (QX_of (Is0 rfl rfl rfl rfl rfl rfl) NE_ix) rfl rfl ?_ | refine aQ 4 hst rfl rfl (by decide +kernel) (QX_of (Is1 rfl rfl rfl rfl rfl rfl) NE_ix) rfl rfl ?_
                 first | refine aQ 5 hst rfl rfl (by decide +kernel) (QX_of (Q_ldc rfl rfl rfl rfl rfl) NE_load) rfl rfl ?_ | refine aQ 5 hst rfl rfl (by decide +kernel) (QX_of (Ld rfl rfl rfl rfl) NE_load) rfl rfl ?_
                 refine aP 6 hst rfl rfl (by decide +kernel) (PX_move rfl rfl) rfl rfl ?_
                 first | refine aQ 7 hst rfl rfl (by decide +kernel) (QX_of (Ia0 rfl rfl rfl rfl rfl rfl) NE_ix) rfl rfl ?_ | refine aQ 7 hst rfl rfl (by decide +kernel) (QX_of (Ia1 rfl rfl rfl rfl rfl rfl) NE_ix) rfl rfl ?_
                 first | refine aQ 8 hst rfl rfl (by decide +kernel) (QX_of (Q_ldc rfl rfl rfl rfl rfl) NE_load) rfl rfl ?_ | refine aQ 8 hst rfl rfl (by decide +kernel) (QX_of (Ld rfl rfl rfl rfl) NE_load) rfl rfl ?_
                 first | refine aP 9 hst rfl rfl (by decide +kernel) (PX_binu rfl rfl rfl (by omega)) rfl rfl ?_ | refine aP 9 hst rfl rfl (by decide +kernel) (PX_bin rfl rfl rfl) rfl rfl ?_
                 refine aP 10 hst rfl rfl (by decide +kernel) (PX_move rfl rfl) rfl rfl ?_
                 refine aQ 11 hst rfl rfl (by decide +kernel) (QX_of (Q_rem rfl rfl (by omega)) NE_bin) rfl rfl ?_; rw [Int.tmod_eq_emod_of_nonneg (by omega)]
                 first | refine aQ 12 hst rfl rfl (by decide +kernel) (QX_of (Is0 rfl rfl rfl rfl rfl rfl) NE_ix) rfl rfl ?_ | refine aQ 12 hst rfl rfl (by decide +kernel) (QX_of (Is1 rfl rfl rfl rfl rfl rfl) NE_ix) rfl rfl ?_
                 refine AW_last [13] rfl (by decide +kernel) rfl ?_
                 refine oS rfl rfl rfl rfl rfl ?_
                 refine OW_nil (npN ?_)
                 all_goals with_reducible refine tN ?_
                 all_goals (
                  refine CW_any (fun i => List.elem i [13]) 14 rfl lateOk (by decide +kernel) (fun hst => ?_)
                  refine aP 0 hst rfl rfl (by decide +kernel) (PX_move rfl rfl) rfl rfl ?_
                  refine aP 1 hst rfl rfl (by decide +kernel) (PX_move rfl rfl) rfl rfl ?_
                  refine aP 2 hst rfl rfl (by decide +kernel) (PX_move rfl rfl) rfl rfl ?_
                  refine aP 3 hst rfl rfl (by decide +kernel) (PX_move rfl rfl) rfl rfl ?_
                  first | refine aQ 4 hst rfl rfl (by decide +kernel) (QX_of (Is0 rfl rfl rfl rfl rfl rfl) NE_ix) rfl rfl ?_ | refine aQ 4 hst rfl rfl (by decide +kernel) (QX_of (Is1 rfl rfl rfl rfl rfl rfl) NE_ix) rfl rfl ?_
                  first | refine aQ 5 hst rfl rfl (by decide +kernel) (QX_of (Q_ldc rfl rfl rfl rfl rfl) NE_load) rfl rfl ?_ | refine aQ 5 hst rfl rfl (by decide +kernel) (QX_of (Ld rfl rfl rfl rfl) NE_load) rfl rfl ?_
                  refine aP 6 hst rfl rfl (by decide +kernel) (PX_move rfl rfl) rfl rfl ?_
                  first | refine aQ 7 hst rfl rfl (by decide +kernel) (QX_of (Ia0 rfl rfl rfl rfl rfl rfl) NE_ix) rfl rfl ?_ | refine aQ 7 hst rfl rfl (by decide +kernel) (QX_of (Ia1 rfl rfl rfl rfl rfl rfl) NE_ix) rfl rfl ?_
                  first | refine aQ 8 hst rfl rfl (by decide +kernel) (QX_of (Q_ldc rfl rfl rfl rfl rfl) NE_load) rfl rfl ?_ | refine aQ 8 hst rfl rfl (by decide +kernel) (QX_of (Ld rfl rfl rfl rfl) NE_load) rfl rfl ?_
                  first | refine aP 9 hst rfl rfl (by decide +kernel) (PX_binu rfl rfl rfl (by omega)) rfl rfl ?_ | refine aP 9 hst rfl rfl (by decide +kernel) (PX_bin rfl rfl rfl) rfl rfl ?_
                  refine aP 10 hst rfl rfl (by decide +kernel) (PX_move rfl rfl) rfl rfl ?_
                  refine aQ 11 hst rfl rfl (by decide +kernel) (QX_of (Q_rem rfl rfl (by omega)) NE_bin) rfl rfl ?_; rw [Int.tmod_eq_emod_of_nonneg (by omega)]
                  first | refine aQ 12 hst rfl rfl (by decide +kernel) (QX_of (Is0 rfl rfl rfl rfl rfl rfl) NE_ix) rfl rfl ?_ | refine aQ 12 hst rfl rfl (by decide +kernel) (QX_of (Is1 rfl rfl rfl rfl rfl rfl) NE_ix) rfl rfl ?_
                  refine AW_last [13] rfl (by decide +kernel) rfl ?_
                  refine oS rfl rfl rfl rfl rfl ?_
                  refine OW_nil (npN ?_))))
               all_goals first | with_reducible refine bN ?_ | with_reducible refine bE ?_ | with_reducible refine bR ?_ | refine bX rfl ?_
               all_goals with_reducible refine tN ?_
               all_goals (
                refine CW_region ?_
                refine oM rfl rfl ?_
                first | refine oQ (Q_binu rfl rfl rfl (by omega)) rfl rfl ?_ | refine oQ (Q_bin rfl rfl rfl) rfl rfl ?_
                refine oA rfl rfl ?_
                refine OW_nil ?_))
            all_goals first
              | with_reducible refine tR ?_
              | with_reducible refine tE ?_
              | (
               with_reducible refine tN ?_
               refine RW_succ ?_
               refine CW_seq ?_
               refine cR ?_
               refine oM rfl rfl ?_
               refine oQ (Q_bin rfl rfl rfl) rfl rfl ?_
               refine oN ?_
               first | refine cT rfl ?_ | refine cF rfl ?_ | refine CW_cond rfl (fun hc => ?_) (fun hc => ?_)
               all_goals try simp only [s1, s2, s3, s4, s5, s6, s7, s8, s9, s10, s11, s12] at hc
               all_goals try (exfalso; first | omega | (simp at hc; done); done)
               all_goals first
                 | (
                  refine CW_skip ?_)
                 | (
                  refine CW_exit ?_)
               all_goals first
                 | with_reducible refine tR ?_
                 | with_reducible refine tE ?_
                 | (
                  with_reducible refine tN ?_
                  refine CW_seq ?_
                  refine CW_block ?_
                  refine CW_seq ?_
                  refine CW_draw lateOk (by decide +kernel) ?_
                  refine qM rfl rfl ?_
                  first | refine qQ (Q_ixa0z 2 rfl rfl rfl rfl rfl rfl (by first | omega | (dsimp only; omega) | (simp; omega) | (simp; done))) rfl rfl ?_ | refine qQ (Q_ixaz 2 rfl rfl rfl rfl rfl rfl (by first | omega | (dsimp only; omega) | (simp; omega) | (simp; done))) rfl rfl ?_
                  first | refine qQ (Ia0 rfl rfl rfl rfl rfl rfl) rfl rfl ?_ | refine qQ (Ia1 rfl rfl rfl rfl rfl rfl) rfl rfl ?_
                  first | refine qQ (Q_ldc rfl rfl rfl rfl rfl) rfl rfl ?_ | refine qQ (Ld rfl rfl rfl rfl) rfl rfl ?_
                  refine qM rfl rfl ?_
                  first | refine qQ (Q_ixa0z 2 rfl rfl rfl rfl rfl rfl (by first | omega | (dsimp only; omega) | (simp; omega) | (simp; done))) rfl rfl ?_ | refine qQ (Q_ixaz 2 rfl rfl rfl rfl rfl rfl (by first | omega | (dsimp only; omega) | (simp; omega) | (simp; done))) rfl rfl ?_
                  first | refine qQ (Ia0 rfl rfl rfl rfl rfl rfl) rfl rfl ?_ | refine qQ (Ia1 rfl rfl rfl rfl rfl rfl) rfl rfl ?_
                  first | refine qQ (Q_ldc rfl rfl rfl rfl rfl) rfl rfl ?_ | refine qQ (Ld rfl rfl rfl rfl) rfl rfl ?_
                  iterate 2 refine qA rfl rfl ?_
                  refine QW_nil ?_
                  all_goals with_reducible refine tN ?_
                  all_goals (
                   refine CW_seq ?_
                   refine CW_draw lateOk (by decide +kernel) ?_
                   iterate 2 refine qM rfl rfl ?_
                   first | refine qQ (Is0 rfl rfl rfl rfl rfl rfl) rfl rfl ?_ | refine qQ (Is1 rfl rfl rfl rfl rfl rfl) rfl rfl ?_
                   refine qQ (Q_ldv rfl rfl rfl rfl rfl rfl) rfl rfl ?_
                   iterate 2 refine qM rfl rfl ?_
                   first | refine qQ (Is0 rfl rfl rfl rfl rfl rfl) rfl rfl ?_ | refine qQ (Is1 rfl rfl rfl rfl rfl rfl) rfl rfl ?_
                   refine qQ (Q_ldv rfl rfl rfl rfl rfl rfl) rfl rfl ?_
                   iterate 2 refine qA rfl rfl ?_
                   refine QW_nil ?_
                   all_goals with_reducible refine tN ?_
                   all_goals (
                    refine CW_seq ?_
                    refine CW_any (fun i => List.elem i [13]) 14 rfl lateOk (by decide +kernel) (fun hst => ?_)
                    refine aP 0 hst rfl rfl (by decide +kernel) (PX_move rfl rfl) rfl rfl ?_
                    refine aP 1 hst rfl rfl (by decide +kernel) (PX_move rfl rfl) rfl rfl ?_
                    refine aP 2 hst rfl rfl (by decide +kernel) (PX_move rfl rfl) rfl rfl ?_
                    refine aP 3 hst rfl rfl (by decide +kernel) (PX_move rfl rfl) rfl rfl ?_
                    first | refine aQ 4 hst rfl rfl (by decide +kernel) (QX_of (Is0 rfl rfl rfl rfl rfl rfl) NE_ix) rfl rfl ?_ | refine aQ 4 hst rfl rfl (by decide +kernel) (QX_of (Is1 rfl rfl rfl rfl rfl rfl) NE_ix) rfl rfl ?_
                    first | refine aQ 5 hst rfl rfl (by decide +kernel) (QX_of (Q_ldc rfl rfl rfl rfl rfl) NE_load) rfl rfl ?_ | refine aQ 5 hst rfl rfl (by decide +kernel) (QX_of (Ld rfl rfl rfl rfl) NE_load) rfl rfl ?_
                    refine aP 6 hst rfl rfl (by decide +kernel) (PX_move rfl rfl) rfl rfl ?_
                    first | refine aQ 7 hst rfl rfl (by decide +kernel) (QX_of (Ia0 rfl rfl rfl rfl rfl rfl) NE_ix) rfl rfl ?_ | refine aQ 7 hst rfl rfl (by decide +kernel) (QX_of (Ia1 rfl rfl rfl rfl rfl rfl) NE_ix) rfl rfl ?_
                    first | refine aQ 8 hst rfl rfl (by decide +kernel) (QX_of (Q_ldc rfl rfl rfl rfl rfl) NE_load) rfl rfl ?_ | refine aQ 8 hst rfl rfl (by decide +kernel) (QX_of (Ld rfl rfl rfl rfl) NE_load) rfl rfl ?_
                    first | refine aP 9 hst rfl rfl (by decide +kernel) (PX_binu rfl rfl rfl (by omega)) rfl rfl ?_ | refine aP 9 hst rfl rfl (by decide +kernel) (PX_bin rfl rfl rfl) rfl rfl ?_
                    refine aP 10 hst rfl rfl (by decide +kernel) (PX_move rfl rfl) rfl rfl ?_
                    refine aQ 11 hst rfl rfl (by decide +kernel) (QX_of (Q_rem rfl rfl (by omega)) NE_bin) rfl rfl ?_; rw [Int.tmod_eq_emod_of_nonneg (by omega)]
                    first | refine aQ 12 hst rfl rfl (by decide +kernel) (QX_of (Is0 rfl rfl rfl rfl rfl rfl) NE_ix) rfl rfl ?_ | refine aQ 12 hst rfl rfl (by decide +kernel) (QX_of (Is1 rfl rfl rfl rfl rfl rfl) NE_ix) rfl rfl ?_
                    refine AW_last [13] rfl (by decide +kernel) rfl ?_
                    refine oS rfl rfl rfl rfl rfl ?_
                    refine OW_nil (npN ?_)
                    all_goals with_reducible refine tN ?_
                    all_goals (
                     refine CW_any (fun i => List.elem i [13]) 14 rfl lateOk (by decide +kernel) (fun hst => ?_)
                     refine aP 0 hst rfl rfl (by decide +kernel) (PX_move rfl rfl) rfl rfl ?_
                     refine aP 1 hst rfl rfl (by decide +kernel) (PX_move rfl rfl) rfl rfl ?_
                     refine aP 2 hst rfl rfl (by decide +kernel) (PX_move rfl rfl) rfl rfl ?_
                     refine aP 3 hst rfl rfl (by decide +kernel) (PX_move rfl rfl) rfl rfl ?_
                     first | refine aQ 4 hst rfl rfl (by decide +kernel) (QX_of (Is0 rfl rfl rfl rfl rfl rfl) NE_ix) rfl rfl ?_ | refine aQ 4 hst rfl rfl (by decide +kernel) (QX_of (Is1 rfl rfl rfl rfl rfl rfl) NE_ix) rfl rfl ?_
                     first | refine aQ 5 hst rfl rfl (by decide +kernel) (QX_of (Q_ldc rfl rfl rfl rfl rfl) NE_load) rfl rfl ?_ | refine aQ 5 hst rfl rfl (by decide +kernel) (QX_of (Ld rfl rfl rfl rfl) NE_load) rfl rfl ?_
                     refine aP 6 hst rfl rfl (by decide +kernel) (PX_move rfl rfl) rfl rfl ?_
                     first | refine aQ 7 hst rfl rfl (by decide +kernel) (QX_of (Ia0 rfl rfl rfl rfl rfl rfl) NE_ix) rfl rfl ?_ | refine aQ 7 hst rfl rfl (by decide +kernel) (QX_of (Ia1 rfl rfl rfl rfl rfl rfl) NE_ix) rfl rfl ?_
                     first | refine aQ 8 hst rfl rfl (by decide +kernel) (QX_of (Q_ldc rfl rfl rfl rfl rfl) NE_load) rfl rfl ?_ | refine aQ 8 hst rfl rfl (by decide +kernel) (QX_of (Ld rfl rfl rfl rfl) NE_load) rfl rfl ?_
                     first | refine aP 9 hst rfl rfl (by decide +kernel) (PX_binu rfl rfl rfl (by omega)) rfl rfl ?_ | refine aP 9 hst rfl rfl (by decide +kernel) (PX_bin rfl rfl rfl) rfl rfl ?_
                     refine aP 10 hst rfl rfl (by decide +kernel) (PX_move rfl rfl) rfl rfl ?_
                     refine aQ 11 hst rfl rfl (by decide +kernel) (QX_of (Q_rem rfl rfl (by omega)) NE_bin) rfl rfl ?_; rw [Int.tmod_eq_emod_of_nonneg (by omega)]
                     first | refine aQ 12 hst rfl rfl (by decide +kernel) (QX_of (Is0 rfl rfl rfl rfl rfl rfl) NE_ix) rfl rfl ?_ | refine aQ 12 hst rfl rfl (by decide +kernel) (QX_of (Is1 rfl rfl rfl rfl rfl rfl) NE_ix) rfl rfl ?_
                     refine AW_last [13] rfl (by decide +kernel) rfl ?_
                     refine oS rfl rfl rfl rfl rfl ?_
                     refine OW_nil (npN ?_))))
                  all_goals first | with_reducible refine bN ?_ | with_reducible refine bE ?_ | with_reducible refine bR ?_ | refine bX rfl ?_
                  all_goals with_reducible refine tN ?_
                  all_goals (
                   refine CW_region ?_
                   refine oM rfl rfl ?_
                   first | refine oQ (Q_binu rfl rfl rfl (by omega)) rfl rfl ?_ | refine oQ (Q_bin rfl rfl rfl) rfl rfl ?_
                   refine oA rfl rfl ?_
                   refine OW_nil ?_))
               all_goals first
                 | with_reducible refine tR ?_
                 | with_reducible refine tE ?_
                 | (
                  with_reducible refine tN ?_
                  refine RW_succ ?_
                  refine CW_seq ?_
                  refine cR ?_
                  refine oM rfl rfl ?_
                  refine oQ (Q_bin rfl rfl rfl) rfl rfl ?_
                  refine oN ?_
                  first | refine cT rfl ?_ | refine cF rfl ?_ | refine CW_cond rfl (fun hc => ?_) (fun hc => ?_)
                  all_goals try simp only [s1, s2, s3, s4, s5, s6, s7, s8, s9, s10, s11, s12] at hc
                  all_goals try (exfalso; first | omega | (simp at hc; done); done)
                  all_goals first
                    | (
                     refine CW_skip ?_)
                    | (
                     refine CW_exit ?_)
                  all_goals first
                    | with_reducible refine tR ?_
                    | with_reducible refine tE ?_
                    | (
                     with_reducible refine tN ?_
                     refine CW_seq ?_
                     refine CW_block ?_
                     refine CW_seq ?_
                     refine CW_draw lateOk (by decide +kernel) ?_
                     refine qM rfl rfl ?_
                     first | refine qQ (Q_ixa0z 2 rfl rfl rfl rfl rfl rfl (by first | omega | (dsimp only; omega) | (simp; omega) | (simp; done))) rfl rfl ?_ | refine qQ (Q_ixaz 2 rfl rfl rfl rfl rfl rfl (by first | omega | (dsimp only; omega) | (simp; omega) | (simp; done))) rfl rfl ?_
                     first | refine qQ (Ia0 rfl rfl rfl rfl rfl rfl) rfl rfl ?_ | refine qQ (Ia1 rfl rfl rfl rfl rfl rfl) rfl rfl ?_
                     first | refine qQ (Q_ldc rfl rfl rfl rfl rfl) rfl rfl ?_ | refine qQ (Ld rfl rfl rfl rfl) rfl rfl ?_
                     refine qM rfl rfl ?_
                     first | refine qQ (Q_ixa0z 2 rfl rfl rfl rfl rfl rfl (by first | omega | (dsimp only; omega) | (simp; omega) | (simp; done))) rfl rfl ?_ | refine qQ (Q_ixaz 2 rfl rfl rfl rfl rfl rfl (by first | omega | (dsimp only; omega) | (simp; omega) | (simp; done))) rfl rfl ?_
                     first | refine qQ (Ia0 rfl rfl rfl rfl rfl rfl) rfl rfl ?_ | refine qQ (Ia1 rfl rfl rfl rfl rfl rfl) rfl rfl ?_
                     first | refine qQ (Q_ldc rfl rfl rfl rfl rfl) rfl rfl ?_ | refine qQ (Ld rfl rfl rfl rfl) rfl rfl ?_
                     iterate 2 refine qA rfl rfl ?_
                     refine QW_nil ?_
                     all_goals with_reducible refine tN ?_
                     all_goals (
                      refine CW_seq ?_
                      refine CW_draw lateOk (by decide +kernel) ?_
                      iterate 2 refine qM rfl rfl ?_
                      first | refine qQ (Is0 rfl rfl rfl rfl rfl rfl) rfl rfl ?_ | refine qQ (Is1 rfl rfl rfl rfl rfl rfl) rfl rfl ?_
                      refine qQ (Q_ldv rfl rfl rfl rfl rfl rfl) rfl rfl ?_
                      iterate 2 refine qM rfl rfl ?_
                      first | refine qQ (Is0 rfl rfl rfl rfl rfl rfl) rfl rfl ?_ | refine qQ (Is1 rfl rfl rfl rfl rfl rfl) rfl rfl ?_
                      refine qQ (Q_ldv rfl rfl rfl rfl rfl rfl) rfl rfl ?_
                      iterate 2 refine qA rfl rfl ?_
                      refine QW_nil ?_
                      all_goals with_reducible refine tN ?_
                      all_goals (
                       refine CW_seq ?_
                       refine CW_any (fun i => List.elem i [13]) 14 rfl lateOk (by decide +kernel) (fun hst => ?_)
                       refine aP 0 hst rfl rfl (by decide +kernel) (PX_move rfl rfl) rfl rfl ?_
                       refine aP 1 hst rfl rfl (by decide +kernel) (PX_move rfl rfl) rfl rfl ?_
                       refine aP 2 hst rfl rfl (by decide +kernel) (PX_move rfl rfl) rfl rfl ?_
                       refine aP 3 hst rfl rfl (by decide +kernel) (PX_move rfl rfl) rfl rfl ?_
                       first | refine aQ 4 hst rfl rfl (by decide +kernel) (QX_of (Is0 rfl rfl rfl rfl rfl rfl) NE_ix) rfl rfl ?_ | refine aQ 4 hst rfl rfl (by decide +kernel) (QX_of (Is1 rfl rfl rfl rfl rfl rfl) NE_ix) rfl rfl ?_
                       first | refine aQ 5 hst rfl rfl (by decide +kernel) (QX_of (Q_ldc rfl rfl rfl rfl rfl) NE_load) rfl rfl ?_ | refine aQ 5 hst rfl rfl (by decide +kernel) (QX_of (Ld rfl rfl rfl rfl) NE_load) rfl rfl ?_
                       refine aP 6 hst rfl rfl (by decide +kernel) (PX_move rfl rfl) rfl rfl ?_
                       first | refine aQ 7 hst rfl rfl (by decide +kernel) (QX_of (Ia0 rfl rfl rfl rfl rfl rfl) NE_ix) rfl rfl ?_ | refine aQ 7 hst rfl rfl (by decide +kernel) (QX_of (Ia1 rfl rfl rfl rfl rfl rfl) NE_ix) rfl rfl ?_
                       first | refine aQ 8 hst rfl rfl (by decide +kernel) (QX_of (Q_ldc rfl rfl rfl rfl rfl) NE_load) rfl rfl ?_ | refine aQ 8 hst rfl rfl (by decide +kernel) (QX_of (Ld rfl rfl rfl rfl) NE_load) rfl rfl ?_
                       first | refine aP 9 hst rfl rfl (by decide +kernel) (PX_binu rfl rfl rfl (by omega)) rfl rfl ?_ | refine aP 9 hst rfl rfl (by decide +kernel) (PX_bin rfl rfl rfl) rfl rfl ?_
                       refine aP 10 hst rfl rfl (by decide +kernel) (PX_move rfl rfl) rfl rfl ?_
                       refine aQ 11 hst rfl rfl (by decide +kernel) (QX_of (Q_rem rfl rfl (by omega)) NE_bin) rfl rfl ?_; rw [Int.tmod_eq_emod_of_nonneg (by omega)]
                       first | refine aQ 12 hst rfl rfl (by decide +kernel) (QX_of (Is0 rfl rfl rfl rfl rfl rfl) NE_ix) rfl rfl ?_ | refine aQ 12 hst rfl rfl (by decide +kernel) (QX_of (Is1 rfl rfl rfl rfl rfl rfl) NE_ix) rfl rfl ?_
                       refine AW_last [13] rfl (by decide +kernel) rfl ?_
                       refine oS rfl rfl rfl rfl rfl ?_
                       refine OW_nil (npN ?_)
                       all_goals with_reducible refine tN ?_
                       all_goals (
                        refine CW_any (fun i => List.elem i [13]) 14 rfl lateOk (by decide +kernel) (fun hst => ?_)
                        refine aP 0 hst rfl rfl (by decide +kernel) (PX_move rfl rfl) rfl rfl ?_
                        refine aP 1 hst rfl rfl (by decide +kernel) (PX_move rfl rfl) rfl rfl ?_
                        refine aP 2 hst rfl rfl (by decide +kernel) (PX_move rfl rfl) rfl rfl ?_
                        refine aP 3 hst rfl rfl (by decide +kernel) (PX_move rfl rfl) rfl rfl ?_
                        first | refine aQ 4 hst rfl rfl (by decide +kernel) (QX_of (Is0 rfl rfl rfl rfl rfl rfl) NE_ix) rfl rfl ?_ | refine aQ 4 hst rfl rfl (by decide +kernel) (QX_of (Is1 rfl rfl rfl rfl rfl rfl) NE_ix) rfl rfl ?_
                        first | refine aQ 5 hst rfl rfl (by decide +kernel) (QX_of (Q_ldc rfl rfl rfl rfl rfl) NE_load) rfl rfl ?_ | refine aQ 5 hst rfl rfl (by decide +kernel) (QX_of (Ld rfl rfl rfl rfl) NE_load) rfl rfl ?_
                        refine aP 6 hst rfl rfl (by decide +kernel) (PX_move rfl rfl) rfl rfl ?_
                        first | refine aQ 7 hst rfl rfl (by decide +kernel) (QX_of (Ia0 rfl rfl rfl rfl rfl rfl) NE_ix) rfl rfl ?_ | refine aQ 7 hst rfl rfl (by decide +kernel) (QX_of (Ia1 rfl rfl rfl rfl rfl rfl) NE_ix) rfl rfl ?_
                        first | refine aQ 8 hst rfl rfl (by decide +kernel) (QX_of (Q_ldc rfl rfl rfl rfl rfl) NE_load) rfl rfl ?_ | refine aQ 8 hst rfl rfl (by decide +kernel) (QX_of (Ld rfl rfl rfl rfl) NE_load) rfl rfl ?_
                        first | refine aP 9 hst rfl rfl (by decide +kernel) (PX_binu rfl rfl rfl (by omega)) rfl rfl ?_ | refine aP 9 hst rfl rfl (by decide +kernel) (PX_bin rfl rfl rfl) rfl rfl ?_
                        refine aP 10 hst rfl rfl (by decide +kernel) (PX_move rfl rfl) rfl rfl ?_
                        refine aQ 11 hst rfl rfl (by decide +kernel) (QX_of (Q_rem rfl rfl (by omega)) NE_bin) rfl rfl ?_; rw [Int.tmod_eq_emod_of_nonneg (by omega)]
                        first | refine aQ 12 hst rfl rfl (by decide +kernel) (QX_of (Is0 rfl rfl rfl rfl rfl rfl) NE_ix) rfl rfl ?_ | refine aQ 12 hst rfl rfl (by decide +kernel) (QX_of (Is1 rfl rfl rfl rfl rfl rfl) NE_ix) rfl rfl ?_
                        refine AW_last [13] rfl (by decide +kernel) rfl ?_
                        refine oS rfl rfl rfl rfl rfl ?_
                        refine OW_nil (npN ?_))))
                     all_goals first | with_reducible refine bN ?_ | with_reducible refine bE ?_ | with_reducible refine bR ?_ | refine bX rfl ?_
                     all_goals with_reducible refine tN ?_
                     all_goals (
                      refine CW_region ?_
                      refine oM rfl rfl ?_
                      first | refine oQ (Q_binu rfl rfl rfl (by omega)) rfl rfl ?_ | refine oQ (Q_bin rfl rfl rfl) rfl rfl ?_
                      refine oA rfl rfl ?_
                      refine OW_nil ?_))
                  all_goals first
                    | with_reducible refine tR ?_
                    | with_reducible refine tE ?_
                    | (
                     with_reducible refine tN ?_
                     refine RW_succ ?_
                     refine CW_seq ?_
                     refine cR ?_
                     refine oM rfl rfl ?_
                     refine oQ (Q_bin rfl rfl rfl) rfl rfl ?_
                     refine oN ?_
                     first | refine cT rfl ?_ | refine cF rfl ?_ | refine CW_cond rfl (fun hc => ?_) (fun hc => ?_)
                     all_goals try simp only [s1, s2, s3, s4, s5, s6, s7, s8, s9, s10, s11, s12] at hc
                     all_goals try (exfalso; first | omega | (simp at hc; done); done)
                     all_goals first
                       | (
                        refine CW_skip ?_)
                       | (
                        refine CW_exit ?_)
                     all_goals first
                       | with_reducible refine tR ?_
                       | with_reducible refine tE ?_
                       | (
                        with_reducible refine tN ?_
                        refine CW_seq ?_
                        refine CW_block ?_
                        refine CW_seq ?_
                        refine CW_draw lateOk (by decide +kernel) ?_
                        refine qM rfl rfl ?_
                        first | refine qQ (Q_ixa0z 2 rfl rfl rfl rfl rfl rfl (by first | omega | (dsimp only; omega) | (simp; omega) | (simp; done))) rfl rfl ?_ | refine qQ (Q_ixaz 2 rfl rfl rfl rfl rfl rfl (by first | omega | (dsimp only; omega) | (simp; omega) | (simp; done))) rfl rfl ?_
                        first | refine qQ (Ia0 rfl rfl rfl rfl rfl rfl) rfl rfl ?_ | refine qQ (Ia1 rfl rfl rfl rfl rfl rfl) rfl rfl ?_
                        first | refine qQ (Q_ldc rfl rfl rfl rfl rfl) rfl rfl ?_ | refine qQ (Ld rfl rfl rfl rfl) rfl rfl ?_
                        refine qM rfl rfl ?_
                        first | refine qQ (Q_ixa0z 2 rfl rfl rfl rfl rfl rfl (by first | omega | (dsimp only; omega) | (simp; omega) | (simp; done))) rfl rfl ?_ | refine qQ (Q_ixaz 2 rfl rfl rfl rfl rfl rfl (by first | omega | (dsimp only; omega) | (simp; omega) | (simp; done))) rfl rfl ?_
                        first | refine qQ (Ia0 rfl rfl rfl rfl rfl rfl) rfl rfl ?_ | refine qQ (Ia1 rfl rfl rfl rfl rfl rfl) rfl rfl ?_
                        first | refine qQ (Q_ldc rfl rfl rfl rfl rfl) rfl rfl ?_ | refine qQ (Ld rfl rfl rfl rfl) rfl rfl ?_
                        iterate 2 refine qA rfl rfl ?_
                        refine QW_nil ?_
                        all_goals with_reducible refine tN ?_
                        all_goals (
                         refine CW_seq ?_
                         refine CW_draw lateOk (by decide +kernel) ?_
                         iterate 2 refine qM rfl rfl ?_
                         first | refine qQ (Is0 rfl rfl rfl rfl rfl rfl) rfl rfl ?_ | refine qQ (Is1 rfl rfl rfl rfl rfl rfl) rfl rfl ?_
                         refine qQ (Q_ldv rfl rfl rfl rfl rfl rfl) rfl rfl ?_
                         iterate 2 refine qM rfl rfl ?_
                         first | refine qQ (Is0 rfl rfl rfl rfl rfl rfl) rfl rfl ?_ | refine qQ (Is1 rfl rfl rfl rfl rfl rfl) rfl rfl ?_
                         refine qQ (Q_ldv rfl rfl rfl rfl rfl rfl) rfl rfl ?_
                         iterate 2 refine qA rfl rfl ?_
                         refine QW_nil ?_
                         all_goals with_reducible refine tN ?_
                         all_goals (
                          refine CW_seq ?_
                          refine CW_any (fun i => List.elem i [13]) 14 rfl lateOk (by decide +kernel) (fun hst => ?_)
                          refine aP 0 hst rfl rfl (by decide +kernel) (PX_move rfl rfl) rfl rfl ?_
                          refine aP 1 hst rfl rfl (by decide +kernel) (PX_move rfl rfl) rfl rfl ?_
                          refine aP 2 hst rfl rfl (by decide +kernel) (PX_move rfl rfl) rfl rfl ?_
                          refine aP 3 hst rfl rfl (by decide +kernel) (PX_move rfl rfl) rfl rfl ?_
                          first | refine aQ 4 hst rfl rfl (by decide +kernel) (QX_of (Is0 rfl rfl rfl rfl rfl rfl) NE_ix) rfl rfl ?_ | refine aQ 4 hst rfl rfl (by decide +kernel) (QX_of (Is1 rfl rfl rfl rfl rfl rfl) NE_ix) rfl rfl ?_
                          first | refine aQ 5 hst rfl rfl (by decide +kernel) (QX_of (Q_ldc rfl rfl rfl rfl rfl) NE_load) rfl rfl ?_ | refine aQ 5 hst rfl rfl (by decide +kernel) (QX_of (Ld rfl rfl rfl rfl) NE_load) rfl rfl ?_
                          refine aP 6 hst rfl rfl (by decide +kernel) (PX_move rfl rfl) rfl rfl ?_
                          first | refine aQ 7 hst rfl rfl (by decide +kernel) (QX_of (Ia0 rfl rfl rfl rfl rfl rfl) NE_ix) rfl rfl ?_ | refine aQ 7 hst rfl rfl (by decide +kernel) (QX_of (Ia1 rfl rfl rfl rfl rfl rfl) NE_ix) rfl rfl ?_
                          first | refine aQ 8 hst rfl rfl (by decide +kernel) (QX_of (Q_ldc rfl rfl rfl rfl rfl) NE_load) rfl rfl ?_ | refine aQ 8 hst rfl rfl (by decide +kernel) (QX_of (Ld rfl rfl rfl rfl) NE_load) rfl rfl ?_
                          first | refine aP 9 hst rfl rfl (by decide +kernel) (PX_binu rfl rfl rfl (by omega)) rfl rfl ?_ | refine aP 9 hst rfl rfl (by decide +kernel) (PX_bin rfl rfl rfl) rfl rfl ?_
                          refine aP 10 hst rfl rfl (by decide +kernel) (PX_move rfl rfl) rfl rfl ?_
                          refine aQ 11 hst rfl rfl (by decide +kernel) (QX_of (Q_rem rfl rfl (by omega)) NE_bin) rfl rfl ?_; rw [Int.tmod_eq_emod_of_nonneg (by omega)]
                          first | refine aQ 12 hst rfl rfl (by decide +kernel) (QX_of (Is0 rfl rfl rfl rfl rfl rfl) NE_ix) rfl rfl ?_ | refine aQ 12 hst rfl rfl (by decide +kernel) (QX_of (Is1 rfl rfl rfl rfl rfl rfl) NE_ix) rfl rfl ?_
                          refine AW_last [13] rfl (by decide +kernel) rfl ?_
                          refine oS rfl rfl rfl rfl rfl ?_
                          refine OW_nil (npN ?_)
                          all_goals with_reducible refine tN ?_
                          all_goals (
                           refine CW_any (fun i => List.elem i [13]) 14 rfl lateOk (by decide +kernel) (fun hst => ?_)
                           refine aP 0 hst rfl rfl (by decide +kernel) (PX_move rfl rfl) rfl rfl ?_
                           refine aP 1 hst rfl rfl (by decide +kernel) (PX_move rfl rfl) rfl rfl ?_
                           refine aP 2 hst rfl rfl (by decide +kernel) (PX_move rfl rfl) rfl rfl ?_
                           refine aP 3 hst rfl rfl (by decide +kernel) (PX_move rfl rfl) rfl rfl ?_
                           first | refine aQ 4 hst rfl rfl (by decide +kernel) (QX_of (Is0 rfl rfl rfl rfl rfl rfl) NE_ix) rfl rfl ?_ | refine aQ 4 hst rfl rfl (by decide +kernel) (QX_of (Is1 rfl rfl rfl rfl rfl rfl) NE_ix) rfl rfl ?_
                           first | refine aQ 5 hst rfl rfl (by decide +kernel) (QX_of (Q_ldc rfl rfl rfl rfl rfl) NE_load) rfl rfl ?_ | refine aQ 5 hst rfl rfl (by decide +kernel) (QX_of (Ld rfl rfl rfl rfl) NE_load) rfl rfl ?_
                           refine aP 6 hst rfl rfl (by decide +kernel) (PX_move rfl rfl) rfl rfl ?_
                           first | refine aQ 7 hst rfl rfl (by decide +kernel) (QX_of (Ia0 rfl rfl rfl rfl rfl rfl) NE_ix) rfl rfl ?_ | refine aQ 7 hst rfl rfl (by decide +kernel) (QX_of (Ia1 rfl rfl rfl rfl rfl rfl) NE_ix) rfl rfl ?_
                           first | refine aQ 8 hst rfl rfl (by decide +kernel) (QX_of (Q_ldc rfl rfl rfl rfl rfl) NE_load) rfl rfl ?_ | refine aQ 8 hst rfl rfl (by decide +kernel) (QX_of (Ld rfl rfl rfl rfl) NE_load) rfl rfl ?_
                           first | refine aP 9 hst rfl rfl (by decide +kernel) (PX_binu rfl rfl rfl (by omega)) rfl rfl ?_ | refine aP 9 hst rfl rfl (by decide +kernel) (PX_bin rfl rfl rfl) rfl rfl ?_
                           refine aP 10 hst rfl rfl (by decide +kernel) (PX_move rfl rfl) rfl rfl ?_
                           refine aQ 11 hst rfl rfl (by decide +kernel) (QX_of (Q_rem rfl rfl (by omega)) NE_bin) rfl rfl ?_; rw [Int.tmod_eq_emod_of_nonneg (by omega)]
                           first | refine aQ 12 hst rfl rfl (by decide +kernel) (QX_of (Is0 rfl rfl rfl rfl rfl rfl) NE_ix) rfl rfl ?_ | refine aQ 12 hst rfl rfl (by decide +kernel) (QX_of (Is1 rfl rfl rfl rfl rfl rfl) NE_ix) rfl rfl ?_
                           refine AW_last [13] rfl (by decide +kernel) rfl ?_
                           refine oS rfl rfl rfl rfl rfl ?_
                           refine OW_nil (npN ?_))))
                        all_goals first | with_reducible refine bN ?_ | with_reducible refine bE ?_ | with_reducible refine bR ?_ | refine bX rfl ?_
                        all_goals with_reducible refine tN ?_
                        all_goals (
                         refine CW_region ?_
                         refine oM rfl rfl ?_
                         first | refine oQ (Q_binu rfl rfl rfl (by omega)) rfl rfl ?_ | refine oQ (Q_bin rfl rfl rfl) rfl rfl ?_
                         refine oA rfl rfl ?_
                         refine OW_nil ?_))
                     all_goals first
                       | with_reducible refine tR ?_
                       | with_reducible refine tE ?_
                       | (
                        with_reducible refine tN ?_
                        refine RW_succ ?_
                        refine CW_seq ?_
                        refine cR ?_
                        refine oM rfl rfl ?_
                        refine oQ (Q_bin rfl rfl rfl) rfl rfl ?_
                        refine oN ?_
                        first | refine cT rfl ?_ | refine cF rfl ?_ | refine CW_cond rfl (fun hc => ?_) (fun hc => ?_)
                        all_goals try simp only [s1, s2, s3, s4, s5, s6, s7, s8, s9, s10, s11, s12] at hc
                        all_goals try (exfalso; first | omega | (simp at hc; done); done)
                        all_goals first
                          | (
                           refine CW_skip ?_)
                          | (
                           refine CW_exit ?_)
                        all_goals first
                          | with_reducible refine tR ?_
                          | with_reducible refine tE ?_
                          | (
                           with_reducible refine tN ?_
                           refine CW_seq ?_
                           refine CW_block ?_
                           refine CW_seq ?_
                           refine CW_draw lateOk (by decide +kernel) ?_
                           refine qM rfl rfl ?_
                           first | refine qQ (Q_ixa0z 2 rfl rfl rfl rfl rfl rfl (by first | omega | (dsimp only; omega) | (simp; omega) | (simp; done))) rfl rfl ?_ | refine qQ (Q_ixaz 2 rfl rfl rfl rfl rfl rfl (by first | omega | (dsimp only; omega) | (simp; omega) | (simp; done))) rfl rfl ?_
                           first | refine qQ (Ia0 rfl rfl rfl rfl rfl rfl) rfl rfl ?_ | refine qQ (Ia1 rfl rfl rfl rfl rfl rfl) rfl rfl ?_
                           first | refine qQ (Q_ldc rfl rfl rfl rfl rfl) rfl rfl ?_ | refine qQ (Ld rfl rfl rfl rfl) rfl rfl ?_
                           refine qM rfl rfl ?_
                           first | refine qQ (Q_ixa0z 2 rfl rfl rfl rfl rfl rfl (by first | omega | (dsimp only; omega) | (simp; omega) | (simp; done))) rfl rfl ?_ | refine qQ (Q_ixaz 2 rfl rfl rfl rfl rfl rfl (by first | omega | (dsimp only; omega) | (simp; omega) | (simp; done))) rfl rfl ?_
                           first | refine qQ (Ia0 rfl rfl rfl rfl rfl rfl) rfl rfl ?_ | refine qQ (Ia1 rfl rfl rfl rfl rfl rfl) rfl rfl ?_
                           first | refine qQ (Q_ldc rfl rfl rfl rfl rfl) rfl rfl ?_ | refine qQ (Ld rfl rfl rfl rfl) rfl rfl ?_
                           iterate 2 refine qA rfl rfl ?_
                           refine QW_nil ?_
                           all_goals with_reducible refine tN ?_
                           all_goals (
                            refine CW_seq ?_
                            refine CW_draw lateOk (by decide +kernel) ?_
                            iterate 2 refine qM rfl rfl ?_
                            first | refine qQ (Is0 rfl rfl rfl rfl rfl rfl) rfl rfl ?_ | refine qQ (Is1 rfl rfl rfl rfl rfl rfl) rfl rfl ?_
                            refine qQ (Q_ldv rfl rfl rfl rfl rfl rfl) rfl rfl ?_
                            iterate 2 refine qM rfl rfl ?_
                            first | refine qQ (Is0 rfl rfl rfl rfl rfl rfl) rfl rfl ?_ | refine qQ (Is1 rfl rfl rfl rfl rfl rfl) rfl rfl ?_
                            refine qQ (Q_ldv rfl rfl rfl rfl rfl rfl) rfl rfl ?_
                            iterate 2 refine qA rfl rfl ?_
                            refine QW_nil ?_
                            all_goals with_reducible refine tN ?_
                            all_goals (
                             refine CW_seq ?_
                             refine CW_any (fun i => List.elem i [13]) 14 rfl lateOk (by decide +kernel) (fun hst => ?_)
                             refine aP 0 hst rfl rfl (by decide +kernel) (PX_move rfl rfl) rfl rfl ?_
                             refine aP 1 hst rfl rfl (by decide +kernel) (PX_move rfl rfl) rfl rfl ?_
                             refine aP 2 hst rfl rfl (by decide +kernel) (PX_move rfl rfl) rfl rfl ?_
                             refine aP 3 hst rfl rfl (by decide +kernel) (PX_move rfl rfl) rfl rfl ?_
                             first | refine aQ 4 hst rfl rfl (by decide +kernel) (QX_of (Is0 rfl rfl rfl rfl rfl rfl) NE_ix) rfl rfl ?_ | refine aQ 4 hst rfl rfl (by decide +kernel) (QX_of (Is1 rfl rfl rfl rfl rfl rfl) NE_ix) rfl rfl ?_
                             first | refine aQ 5 hst rfl rfl (by decide +kernel) (QX_of (Q_ldc rfl rfl rfl rfl rfl) NE_load) rfl rfl ?_ | refine aQ 5 hst rfl rfl (by decide +kernel) (QX_of (Ld rfl rfl rfl rfl) NE_load) rfl rfl ?_
                             refine aP 6 hst rfl rfl (by decide +kernel) (PX_move rfl rfl) rfl rfl ?_
                             first | refine aQ 7 hst rfl rfl (by decide +kernel) (QX_of (Ia0 rfl rfl rfl rfl rfl rfl) NE_ix) rfl rfl ?_ | refine aQ 7 hst rfl rfl (by decide +kernel) (QX_of (Ia1 rfl rfl rfl rfl rfl rfl) NE_ix) rfl rfl ?_
                             first | refine aQ 8 hst rfl rfl (by decide +kernel) (QX_of (Q_ldc rfl rfl rfl rfl rfl) NE_load) rfl rfl ?_ | refine aQ 8 hst rfl rfl (by decide +kernel) (QX_of (Ld rfl rfl rfl rfl) NE_load) rfl rfl ?_
                             first | refine aP 9 hst rfl rfl (by decide +kernel) (PX_binu rfl rfl rfl (by omega)) rfl rfl ?_ | refine aP 9 hst rfl rfl (by decide +kernel) (PX_bin rfl rfl rfl) rfl rfl ?_
                             refine aP 10 hst rfl rfl (by decide +kernel) (PX_move rfl rfl) rfl rfl ?_
                             refine aQ 11 hst rfl rfl (by decide +kernel) (QX_of (Q_rem rfl rfl (by omega)) NE_bin) rfl rfl ?_; rw [Int.tmod_eq_emod_of_nonneg (by omega)]
                             first | refine aQ 12 hst rfl rfl (by decide +kernel) (QX_of (Is0 rfl rfl rfl rfl rfl rfl) NE_ix) rfl rfl ?_ | refine aQ 12 hst rfl rfl (by decide +kernel) (QX_of (Is1 rfl rfl rfl rfl rfl rfl) NE_ix) rfl rfl ?_
                             refine AW_last [13] rfl (by decide +kernel) rfl ?_
                             refine oS rfl rfl rfl rfl rfl ?_
                             refine OW_nil (npN ?_)
                             all_goals with_reducible refine tN ?_
                             all_goals (
                              refine CW_any (fun i => List.elem i [13]) 14 rfl lateOk (by decide +kernel) (fun hst => ?_)
                              refine aP 0 hst rfl rfl (by decide +kernel) (PX_move rfl rfl) rfl rfl ?_
                              refine aP 1 hst rfl rfl (by decide +kernel) (PX_move rfl rfl) rfl rfl ?_
                              refine aP 2 hst rfl rfl (by decide +kernel) (PX_move rfl rfl) rfl rfl ?_
                              refine aP 3 hst rfl rfl (by decide +kernel) (PX_move rfl rfl) rfl rfl ?_
                              first | refine aQ 4 hst rfl rfl (by decide +kernel) (QX_of (Is0 rfl rfl rfl rfl rfl rfl) NE_ix) rfl rfl ?_ | refine aQ 4 hst rfl rfl (by decide +kernel) (QX_of (Is1 rfl rfl rfl rfl rfl rfl) NE_ix) rfl rfl ?_
                              first | refine aQ 5 hst rfl rfl (by decide +kernel) (QX_of (Q_ldc rfl rfl rfl rfl rfl) NE_load) rfl rfl ?_ | refine aQ 5 hst rfl rfl (by decide +kernel) (QX_of (Ld rfl rfl rfl rfl) NE_load) rfl rfl ?_
                              refine aP 6 hst rfl rfl (by decide +kernel) (PX_move rfl rfl) rfl rfl ?_
                              first | refine aQ 7 hst rfl rfl (by decide +kernel) (QX_of (Ia0 rfl rfl rfl rfl rfl rfl) NE_ix) rfl rfl ?_ | refine aQ 7 hst rfl rfl (by decide +kernel) (QX_of (Ia1 rfl rfl rfl rfl rfl rfl) NE_ix) rfl rfl ?_
                              first | refine aQ 8 hst rfl rfl (by decide +kernel) (QX_of (Q_ldc rfl rfl rfl rfl rfl) NE_load) rfl rfl ?_ | refine aQ 8 hst rfl rfl (by decide +kernel) (QX_of (Ld rfl rfl rfl rfl) NE_load) rfl rfl ?_
                              first | refine aP 9 hst rfl rfl (by decide +kernel) (PX_binu rfl rfl rfl (by omega)) rfl rfl ?_ | refine aP 9 hst rfl rfl (by decide +kernel) (PX_bin rfl rfl rfl) rfl rfl ?_
                              refine aP 10 hst rfl rfl (by decide +kernel) (PX_move rfl rfl) rfl rfl ?_
                              refine aQ 11 hst rfl rfl (by decide +kernel) (QX_of (Q_rem rfl rfl (by omega)) NE_bin) rfl rfl ?_; rw [Int.tmod_eq_emod_of_nonneg (by omega)]
                              first | refine aQ 12 hst rfl rfl (by decide +kernel) (QX_of (Is0 rfl rfl rfl rfl rfl rfl) NE_ix) rfl rfl ?_ | refine aQ 12 hst rfl rfl (by decide +kernel) (QX_of (Is1 rfl rfl rfl rfl rfl rfl) NE_ix) rfl rfl ?_
                              refine AW_last [13] rfl (by decide +kernel) rfl ?_
                              refine oS rfl rfl rfl rfl rfl ?_
                              refine OW_nil (npN ?_))))
                           all_goals first | with_reducible refine bN ?_ | with_reducible refine bE ?_ | with_reducible refine bR ?_ | refine bX rfl ?_
                           all_goals with_reducible refine tN ?_
                           all_goals (
                            refine CW_region ?_
                            refine oM rfl rfl ?_
                            first | refine oQ (Q_binu rfl rfl rfl (by omega)) rfl rfl ?_ | refine oQ (Q_bin rfl rfl rfl) rfl rfl ?_
                            refine oA rfl rfl ?_
                            refine OW_nil ?_))
                        all_goals first
                          | with_reducible refine tR ?_
                          | with_reducible refine tE ?_
                          | (
                           with_reducible refine tN ?_
                           refine RW_succ ?_
                           refine CW_seq ?_
                           refine cR ?_
                           refine oM rfl rfl ?_
                           refine oQ (Q_bin rfl rfl rfl) rfl rfl ?_
                           refine oN ?_
                           first | refine cT rfl ?_ | refine cF rfl ?_ | refine CW_cond rfl (fun hc => ?_) (fun hc => ?_)
                           all_goals try simp only [s1, s2, s3, s4, s5, s6, s7, s8, s9, s10, s11, s12] at hc
                           all_goals try (exfalso; first | omega | (simp at hc; done); done)
                           all_goals first
                             | (
                              refine CW_skip ?_)
                             | (
                              refine CW_exit ?_)
                           all_goals first
                             | with_reducible refine tR ?_
                             | with_reducible refine tE ?_
                             | (
                              with_reducible refine tN ?_
                              refine CW_seq ?_
                              refine CW_block ?_
                              refine CW_seq ?_
                              refine CW_draw lateOk (by decide +kernel) ?_
                              refine qM rfl rfl ?_
                              first | refine qQ (Q_ixa0z 2 rfl rfl rfl rfl rfl rfl (by first | omega | (dsimp only; omega) | (simp; omega) | (simp; done))) rfl rfl ?_ | refine qQ (Q_ixaz 2 rfl rfl rfl rfl rfl rfl (by first | omega | (dsimp only; omega) | (simp; omega) | (simp; done))) rfl rfl ?_
                              first | refine qQ (Ia0 rfl rfl rfl rfl rfl rfl) rfl rfl ?_ | refine qQ (Ia1 rfl rfl rfl rfl rfl rfl) rfl rfl ?_
                              first | refine qQ (Q_ldc rfl rfl rfl rfl rfl) rfl rfl ?_ | refine qQ (Ld rfl rfl rfl rfl) rfl rfl ?_
                              refine qM rfl rfl ?_
                              first | refine qQ (Q_ixa0z 2 rfl rfl rfl rfl rfl rfl (by first | omega | (dsimp only; omega) | (simp; omega) | (simp; done))) rfl rfl ?_ | refine qQ (Q_ixaz 2 rfl rfl rfl rfl rfl rfl (by first | omega | (dsimp only; omega) | (simp; omega) | (simp; done))) rfl rfl ?_
                              first | refine qQ (Ia0 rfl rfl rfl rfl rfl rfl) rfl rfl ?_ | refine qQ (Ia1 rfl rfl rfl rfl rfl rfl) rfl rfl ?_
                              first | refine qQ (Q_ldc rfl rfl rfl rfl rfl) rfl rfl ?_ | refine qQ (Ld rfl rfl rfl rfl) rfl rfl ?_
                              iterate 2 refine qA rfl rfl ?_
                              refine QW_nil ?_
                              all_goals with_reducible refine tN ?_
                              all_goals (
                               refine CW_seq ?_
                               refine CW_draw lateOk (by decide +kernel) ?_
                               iterate 2 refine qM rfl rfl ?_
                               first | refine qQ (Is0 rfl rfl rfl rfl rfl rfl) rfl rfl ?_ | refine qQ (Is1 rfl rfl rfl rfl rfl rfl) rfl rfl ?_
                               refine qQ (Q_ldv rfl rfl rfl rfl rfl rfl) rfl rfl ?_
                               iterate 2 refine qM rfl rfl ?_
                               first | refine qQ (Is0 rfl rfl rfl rfl rfl rfl) rfl rfl ?_ | refine qQ (Is1 rfl rfl rfl rfl rfl rfl) rfl rfl ?_
                               refine qQ (Q_ldv rfl rfl rfl rfl rfl rfl) rfl rfl ?_
                               iterate 2 refine qA rfl rfl ?_
                               refine QW_nil ?_
                               all_goals with_reducible refine tN ?_
                               all_goals (
                                refine CW_seq ?_
                                refine CW_any (fun i => List.elem i [13]) 14 rfl lateOk (by decide +kernel) (fun hst => ?_)
                                refine aP 0 hst rfl rfl (by decide +kernel) (PX_move rfl rfl) rfl rfl ?_
                                refine aP 1 hst rfl rfl (by decide +kernel) (PX_move rfl rfl) rfl rfl ?_
                                refine aP 2 hst rfl rfl (by decide +kernel) (PX_move rfl rfl) rfl rfl ?_
                                refine aP 3 hst rfl rfl (by decide +kernel) (PX_move rfl rfl) rfl rfl ?_
                                first | refine aQ 4 hst rfl rfl (by decide +kernel) (QX_of (Is0 rfl rfl rfl rfl rfl rfl) NE_ix) rfl rfl ?_ | refine aQ 4 hst rfl rfl (by decide +kernel) (QX_of (Is1 rfl rfl rfl rfl rfl rfl) NE_ix) rfl rfl ?_
                                first | refine aQ 5 hst rfl rfl (by decide +kernel) (QX_of (Q_ldc rfl rfl rfl rfl rfl) NE_load) rfl rfl ?_ | refine aQ 5 hst rfl rfl (by decide +kernel) (QX_of (Ld rfl rfl rfl rfl) NE_load) rfl rfl ?_
                                refine aP 6 hst rfl rfl (by decide +kernel) (PX_move rfl rfl) rfl rfl ?_
                                first | refine aQ 7 hst rfl rfl (by decide +kernel) (QX_of (Ia0 rfl rfl rfl rfl rfl rfl) NE_ix) rfl rfl ?_ | refine aQ 7 hst rfl rfl (by decide +kernel) (QX_of (Ia1 rfl rfl rfl rfl rfl rfl) NE_ix) rfl rfl ?_
                                first | refine aQ 8 hst rfl rfl (by decide +kernel) (QX_of (Q_ldc rfl rfl rfl rfl rfl) NE_load) rfl rfl ?_ | refine aQ 8 hst rfl rfl (by decide +kernel) (QX_of (Ld rfl rfl rfl rfl) NE_load) rfl rfl ?_
                                first | refine aP 9 hst rfl rfl (by decide +kernel) (PX_binu rfl rfl rfl (by omega)) rfl rfl ?_ | refine aP 9 hst rfl rfl (by decide +kernel) (PX_bin rfl rfl rfl) rfl rfl ?_
                                refine aP 10 hst rfl rfl (by decide +kernel) (PX_move rfl rfl) rfl rfl ?_
                                refine aQ 11 hst rfl rfl (by decide +kernel) (QX_of (Q_rem rfl rfl (by omega)) NE_bin) rfl rfl ?_; rw [Int.tmod_eq_emod_of_nonneg (by omega)]
                                first | refine aQ 12 hst rfl rfl (by decide +kernel) (QX_of (Is0 rfl rfl rfl rfl rfl rfl) NE_ix) rfl rfl ?_ | refine aQ 12 hst rfl rfl (by decide +kernel) (QX_of (Is1 rfl rfl rfl rfl rfl rfl) NE_ix) rfl rfl ?_
                                refine AW_last [13] rfl (by decide +kernel) rfl ?_
                                refine oS rfl rfl rfl rfl rfl ?_
                                refine OW_nil (npN ?_)
                                all_goals with_reducible refine tN ?_
                                all_goals (
                                 refine CW_any (fun i => List.elem i [13]) 14 rfl lateOk (by decide +kernel) (fun hst => ?_)
                                 refine aP 0 hst rfl rfl (by decide +kernel) (PX_move rfl rfl) rfl rfl ?_
                                 refine aP 1 hst rfl rfl (by decide +kernel) (PX_move rfl rfl) rfl rfl ?_
                                 refine aP 2 hst rfl rfl (by decide +kernel) (PX_move rfl rfl) rfl rfl ?_
                                 refine aP 3 hst rfl rfl (by decide +kernel) (PX_move rfl rfl) rfl rfl ?_
                                 first | refine aQ 4 hst rfl rfl (by decide +kernel) (QX_of (Is0 rfl rfl rfl rfl rfl rfl) NE_ix) rfl rfl ?_ | refine aQ 4 hst rfl rfl (by decide +kernel) (QX_of (Is1 rfl rfl rfl rfl rfl rfl) NE_ix) rfl rfl ?_
                                 first | refine aQ 5 hst rfl rfl (by decide +kernel) (QX_of (Q_ldc rfl rfl rfl rfl rfl) NE_load) rfl rfl ?_ | refine aQ 5 hst rfl rfl (by decide +kernel) (QX_of (Ld rfl rfl rfl rfl) NE_load) rfl rfl ?_
                                 refine aP 6 hst rfl rfl (by decide +kernel) (PX_move rfl rfl) rfl rfl ?_
                                 first | refine aQ 7 hst rfl rfl (by decide +kernel) (QX_of (Ia0 rfl rfl rfl rfl rfl rfl) NE_ix) rfl rfl ?_ | refine aQ 7 hst rfl rfl (by decide +kernel) (QX_of (Ia1 rfl rfl rfl rfl rfl rfl) NE_ix) rfl rfl ?_
                                 first | refine aQ 8 hst rfl rfl (by decide +kernel) (QX_of (Q_ldc rfl rfl rfl rfl rfl) NE_load) rfl rfl ?_ | refine aQ 8 hst rfl rfl (by decide +kernel) (QX_of (Ld rfl rfl rfl rfl) NE_load) rfl rfl ?_
                                 first | refine aP 9 hst rfl rfl (by decide +kernel) (PX_binu rfl rfl rfl (by omega)) rfl rfl ?_ | refine aP 9 hst rfl rfl (by decide +kernel) (PX_bin rfl rfl rfl) rfl rfl ?_
                                 refine aP 10 hst rfl rfl (by decide +kernel) (PX_move rfl rfl) rfl rfl ?_
                                 refine aQ 11 hst rfl rfl (by decide +kernel) (QX_of (Q_rem rfl rfl (by omega)) NE_bin) rfl rfl ?_; rw [Int.tmod_eq_emod_of_nonneg (by omega)]
                                 first | refine aQ 12 hst rfl rfl (by decide +kernel) (QX_of (Is0 rfl rfl rfl rfl rfl rfl) NE_ix) rfl rfl ?_ | refine aQ 12 hst rfl rfl (by decide +kernel) (QX_of (Is1 rfl rfl rfl rfl rfl rfl) NE_ix) rfl rfl ?_
                                 refine AW_last [13] rfl (by decide +kernel) rfl ?_
                                 refine oS rfl rfl rfl rfl rfl ?_
                                 refine OW_nil (npN ?_))))
                              all_goals first | with_reducible refine bN ?_ | with_reducible refine bE ?_ | with_reducible refine bR ?_ | refine bX rfl ?_
                              all_goals with_reducible refine tN ?_
                              all_goals (
                               refine CW_region ?_
                               refine oM rfl rfl ?_
                               first | refine oQ (Q_binu rfl rfl rfl (by omega)) rfl rfl ?_ | refine oQ (Q_bin rfl rfl rfl) rfl rfl ?_
                               refine oA rfl rfl ?_
                               refine OW_nil ?_))
                           all_goals first
                             | with_reducible refine tR ?_
                             | with_reducible refine tE ?_
                             | (
                              with_reducible refine tN ?_
                              refine RW_succ ?_
                              refine CW_seq ?_
                              refine cR ?_
                              refine oM rfl rfl ?_
                              refine oQ (Q_bin rfl rfl rfl) rfl rfl ?_
                              refine oN ?_
                              first | refine cT rfl ?_ | refine cF rfl ?_ | refine CW_cond rfl (fun hc => ?_) (fun hc => ?_)
                              all_goals try simp only [s1, s2, s3, s4, s5, s6, s7, s8, s9, s10, s11, s12] at hc
                              all_goals try (exfalso; first | omega | (simp at hc; done); done)
                              all_goals first
                                | (
                                 refine CW_skip ?_)
                                | (
                                 refine CW_exit ?_)
                              all_goals first
                                | with_reducible refine tR ?_
                                | with_reducible refine tE ?_
                                | (
                                 with_reducible refine tN ?_
                                 refine CW_seq ?_
                                 refine CW_block ?_
                                 refine CW_seq ?_
                                 refine CW_draw lateOk (by decide +kernel) ?_
                                 refine qM rfl rfl ?_
                                 first | refine qQ (Q_ixa0z 2 rfl rfl rfl rfl rfl rfl (by first | omega | (dsimp only; omega) | (simp; omega) | (simp; done))) rfl rfl ?_ | refine qQ (Q_ixaz 2 rfl rfl rfl rfl rfl rfl (by first | omega | (dsimp only; omega) | (simp; omega) | (simp; done))) rfl rfl ?_
                                 first | refine qQ (Ia0 rfl rfl rfl rfl rfl rfl) rfl rfl ?_ | refine qQ (Ia1 rfl rfl rfl rfl rfl rfl) rfl rfl ?_
                                 first | refine qQ (Q_ldc rfl rfl rfl rfl rfl) rfl rfl ?_ | refine qQ (Ld rfl rfl rfl rfl) rfl rfl ?_
                                 refine qM rfl rfl ?_
                                 first | refine qQ (Q_ixa0z 2 rfl rfl rfl rfl rfl rfl (by first | omega | (dsimp only; omega) | (simp; omega) | (simp; done))) rfl rfl ?_ | refine qQ (Q_ixaz 2 rfl rfl rfl rfl rfl rfl (by first | omega | (dsimp only; omega) | (simp; omega) | (simp; done))) rfl rfl ?_
                                 first | refine qQ (Ia0 rfl rfl rfl rfl rfl rfl) rfl rfl ?_ | refine qQ (Ia1 rfl rfl rfl rfl rfl rfl) rfl rfl ?_
                                 first | refine qQ (Q_ldc rfl rfl rfl rfl rfl) rfl rfl ?_ | refine qQ (Ld rfl rfl rfl rfl) rfl rfl ?_
                                 iterate 2 refine qA rfl rfl ?_
                                 refine QW_nil ?_
                                 all_goals with_reducible refine tN ?_
                                 all_goals (
                                  refine CW_seq ?_
                                  refine CW_draw lateOk (by decide +kernel) ?_
                                  iterate 2 refine qM rfl rfl ?_
                                  first | refine qQ (Is0 rfl rfl rfl rfl rfl rfl) rfl rfl ?_ | refine qQ (Is1 rfl rfl rfl rfl rfl rfl) rfl rfl ?_
                                  refine qQ (Q_ldv rfl rfl rfl rfl rfl rfl) rfl rfl ?_
                                  iterate 2 refine qM rfl rfl ?_
                                  first | refine qQ (Is0 rfl rfl rfl rfl rfl rfl) rfl rfl ?_ | refine qQ (Is1 rfl rfl rfl rfl rfl rfl) rfl rfl ?_
                                  refine qQ (Q_ldv rfl rfl rfl rfl rfl rfl) rfl rfl ?_
                                  iterate 2 refine qA rfl rfl ?_
                                  refine QW_nil ?_
                                  all_goals with_reducible refine tN ?_
                                  all_goals (
                                   refine CW_seq ?_
                                   refine CW_any (fun i => List.elem i [13]) 14 rfl lateOk (by decide +kernel) (fun hst => ?_)
                                   refine aP 0 hst rfl rfl (by decide +kernel) (PX_move rfl rfl) rfl rfl ?_
                                   refine aP 1 hst rfl rfl (by decide +kernel) (PX_move rfl rfl) rfl rfl ?_
                                   refine aP 2 hst rfl rfl (by decide +kernel) (PX_move rfl rfl) rfl rfl ?_
                                   refine aP 3 hst rfl rfl (by decide +kernel) (PX_move rfl rfl) rfl rfl ?_
                                   first | refine aQ 4 hst rfl rfl (by decide +kernel) (QX_of (Is0 rfl rfl rfl rfl rfl rfl) NE_ix) rfl rfl ?_ | refine aQ 4 hst rfl rfl (by decide +kernel) (QX_of (Is1 rfl rfl rfl rfl rfl rfl) NE_ix) rfl rfl ?_
                                   first | refine aQ 5 hst rfl rfl (by decide +kernel) (QX_of (Q_ldc rfl rfl rfl rfl rfl) NE_load) rfl rfl ?_ | refine aQ 5 hst rfl rfl (by decide +kernel) (QX_of (Ld rfl rfl rfl rfl) NE_load) rfl rfl ?_
                                   refine aP 6 hst rfl rfl (by decide +kernel) (PX_move rfl rfl) rfl rfl ?_
                                   first | refine aQ 7 hst rfl rfl (by decide +kernel) (QX_of (Ia0 rfl rfl rfl rfl rfl rfl) NE_ix) rfl rfl ?_ | refine aQ 7 hst rfl rfl (by decide +kernel) (QX_of (Ia1 rfl rfl rfl rfl rfl rfl) NE_ix) rfl rfl ?_
                                   first | refine aQ 8 hst rfl rfl (by decide +kernel) (QX_of (Q_ldc rfl rfl rfl rfl rfl) NE_load) rfl rfl ?_ | refine aQ 8 hst rfl rfl (by decide +kernel) (QX_of (Ld rfl rfl rfl rfl) NE_load) rfl rfl ?_
                                   first | refine aP 9 hst rfl rfl (by decide +kernel) (PX_binu rfl rfl rfl (by omega)) rfl rfl ?_ | refine aP 9 hst rfl rfl (by decide +kernel) (PX_bin rfl rfl rfl) rfl rfl ?_
                                   refine aP 10 hst rfl rfl (by decide +kernel) (PX_move rfl rfl) rfl rfl ?_
                                   refine aQ 11 hst rfl rfl (by decide +kernel) (QX_of (Q_rem rfl rfl (by omega)) NE_bin) rfl rfl ?_; rw [Int.tmod_eq_emod_of_nonneg (by omega)]
                                   first | refine aQ 12 hst rfl rfl (by decide +kernel) (QX_of (Is0 rfl rfl rfl rfl rfl rfl) NE_ix) rfl rfl ?_ | refine aQ 12 hst rfl rfl (by decide +kernel) (QX_of (Is1 rfl rfl rfl rfl rfl rfl) NE_ix) rfl rfl ?_
                                   refine AW_last [13] rfl (by decide +kernel) rfl ?_
                                   refine oS rfl rfl rfl rfl rfl ?_
                                   refine OW_nil (npN ?_)
                                   all_goals with_reducible refine tN ?_
                                   all_goals (
                                    refine CW_any (fun i => List.elem i [13]) 14 rfl lateOk (by decide +kernel) (fun hst => ?_)
                                    refine aP 0 hst rfl rfl (by decide +kernel) (PX_move rfl rfl) rfl rfl ?_
                                    refine aP 1 hst rfl rfl (by decide +kernel) (PX_move rfl rfl) rfl rfl ?_
                                    refine aP 2 hst rfl rfl (by decide +kernel) (PX_move rfl rfl) rfl rfl ?_
                                    refine aP 3 hst rfl rfl (by decide +kernel) (PX_move rfl rfl) rfl rfl ?_
                                    first | refine aQ 4 hst rfl rfl (by decide +kernel) (QX_of (Is0 rfl rfl rfl rfl rfl rfl) NE_ix) rfl rfl ?_ | refine aQ 4 hst rfl rfl (by decide +kernel) (QX_of (Is1 rfl rfl rfl rfl rfl rfl) NE_ix) rfl rfl ?_
                                    first | refine aQ 5 hst rfl rfl (by decide +kernel) (QX_of (Q_ldc rfl rfl rfl rfl rfl) NE_load) rfl rfl ?_ | refine aQ 5 hst rfl rfl (by decide +kernel) (QX_of (Ld rfl rfl rfl rfl) NE_load) rfl rfl ?_
                                    refine aP 6 hst rfl rfl (by decide +kernel) (PX_move rfl rfl) rfl rfl ?_
                                    first | refine aQ 7 hst rfl rfl (by decide +kernel) (QX_of (Ia0 rfl rfl rfl rfl rfl rfl) NE_ix) rfl rfl ?_ | refine aQ 7 hst rfl rfl (by decide +kernel) (QX_of (Ia1 rfl rfl rfl rfl rfl rfl) NE_ix) rfl rfl ?_
                                    first | refine aQ 8 hst rfl rfl (by decide +kernel) (QX_of (Q_ldc rfl rfl rfl rfl rfl) NE_load) rfl rfl ?_ | refine aQ 8 hst rfl rfl (by decide +kernel) (QX_of (Ld rfl rfl rfl rfl) NE_load) rfl rfl ?_
                                    first | refine aP 9 hst rfl rfl (by decide +kernel) (PX_binu rfl rfl rfl (by omega)) rfl rfl ?_ | refine aP 9 hst rfl rfl (by decide +kernel) (PX_bin rfl rfl rfl) rfl rfl ?_
                                    refine aP 10 hst rfl rfl (by decide +kernel) (PX_move rfl rfl) rfl rfl ?_
                                    refine aQ 11 hst rfl rfl (by decide +kernel) (QX_of (Q_rem rfl rfl (by omega)) NE_bin) rfl rfl ?_; rw [Int.tmod_eq_emod_of_nonneg (by omega)]
                                    first | refine aQ 12 hst rfl rfl (by decide +kernel) (QX_of (Is0 rfl rfl rfl rfl rfl rfl) NE_ix) rfl rfl ?_ | refine aQ 12 hst rfl rfl (by decide +kernel) (QX_of (Is1 rfl rfl rfl rfl rfl rfl) NE_ix) rfl rfl ?_
                                    refine AW_last [13] rfl (by decide +kernel) rfl ?_
                                    refine oS rfl rfl rfl rfl rfl ?_
                                    refine OW_nil (npN ?_))))
                                 all_goals first | with_reducible refine bN ?_ | with_reducible refine bE ?_ | with_reducible refine bR ?_ | refine bX rfl ?_
                                 all_goals with_reducible refine tN ?_
                                 all_goals (
                                  refine CW_region ?_
                                  refine oM rfl rfl ?_
                                  first | refine oQ (Q_binu rfl rfl rfl (by omega)) rfl rfl ?_ | refine oQ (Q_bin rfl rfl rfl) rfl rfl ?_
                                  refine oA rfl rfl ?_
                                  refine OW_nil ?_))
                              all_goals first
                                | with_reducible refine tR ?_
                                | with_reducible refine tE ?_
                                | (
                                 with_reducible refine tN ?_
                                 refine RW_succ ?_
                                 refine CW_seq ?_
                                 refine cR ?_
                                 refine oM rfl rfl ?_
                                 refine oQ (Q_bin rfl rfl rfl) rfl rfl ?_
                                 refine oN ?_
                                 first | refine cT rfl ?_ | refine cF rfl ?_ | refine CW_cond rfl (fun hc => ?_) (fun hc => ?_)
                                 all_goals try simp only [s1, s2, s3, s4, s5, s6, s7, s8, s9, s10, s11, s12] at hc
                                 all_goals try (exfalso; first | omega | (simp at hc; done); done)
                                 all_goals first
                                   | (
                                    refine CW_skip ?_)
                                   | (
                                    refine CW_exit ?_)
                                 all_goals first
                                   | with_reducible refine tR ?_
                                   | with_reducible refine tE ?_
                                   | (
                                    with_reducible refine tN ?_
                                    refine CW_seq ?_
                                    refine CW_block ?_
                                    refine CW_seq ?_
                                    refine CW_draw lateOk (by decide +kernel) ?_
                                    refine qM rfl rfl ?_
                                    first | refine qQ (Q_ixa0z 2 rfl rfl rfl rfl rfl rfl (by first | omega | (dsimp only; omega) | (simp; omega) | (simp; done))) rfl rfl ?_ | refine qQ (Q_ixaz 2 rfl rfl rfl rfl rfl rfl (by first | omega | (dsimp only; omega) | (simp; omega) | (simp; done))) rfl rfl ?_
                                    first | refine qQ (Ia0 rfl rfl rfl rfl rfl rfl) rfl rfl ?_ | refine qQ (Ia1 rfl rfl rfl rfl rfl rfl) rfl rfl ?_
                                    first | refine qQ (Q_ldc rfl rfl rfl rfl rfl) rfl rfl ?_ | refine qQ (Ld rfl rfl rfl rfl) rfl rfl ?_
                                    refine qM rfl rfl ?_
                                    first | refine qQ (Q_ixa0z 2 rfl rfl rfl rfl rfl rfl (by first | omega | (dsimp only; omega) | (simp; omega) | (simp; done))) rfl rfl ?_ | refine qQ (Q_ixaz 2 rfl rfl rfl rfl rfl rfl (by first | omega | (dsimp only; omega) | (simp; omega) | (simp; done))) rfl rfl ?_
                                    first | refine qQ (Ia0 rfl rfl rfl rfl rfl rfl) rfl rfl ?_ | refine qQ (Ia1 rfl rfl rfl rfl rfl rfl) rfl rfl ?_
                                    first | refine qQ (Q_ldc rfl rfl rfl rfl rfl) rfl rfl ?_ | refine qQ (Ld rfl rfl rfl rfl) rfl rfl ?_
                                    iterate 2 refine qA rfl rfl ?_
                                    refine QW_nil ?_
                                    all_goals with_reducible refine tN ?_
                                    all_goals (
                                     refine CW_seq ?_
                                     refine CW_draw lateOk (by decide +kernel) ?_
                                     iterate 2 refine qM rfl rfl ?_
                                     first | refine qQ (Is0 rfl rfl rfl rfl rfl rfl) rfl rfl ?_ | refine qQ (Is1 rfl rfl rfl rfl rfl rfl) rfl rfl ?_
                                     refine qQ (Q_ldv rfl rfl rfl rfl rfl rfl) rfl rfl ?_
                                     iterate 2 refine qM rfl rfl ?_
                                     first | refine qQ (Is0 rfl rfl rfl rfl rfl rfl) rfl rfl ?_ | refine qQ (Is1 rfl rfl rfl rfl rfl rfl) rfl rfl ?_
                                     refine qQ (Q_ldv rfl rfl rfl rfl rfl rfl) rfl rfl ?_
                                     iterate 2 refine qA rfl rfl ?_
                                     refine QW_nil ?_
                                     all_goals with_reducible refine tN ?_
                                     all_goals (
                                      refine CW_seq ?_
                                      refine CW_any (fun i => List.elem i [13]) 14 rfl lateOk (by decide +kernel) (fun hst => ?_)
                                      refine aP 0 hst rfl rfl (by decide +kernel) (PX_move rfl rfl) rfl rfl ?_
                                      refine aP 1 hst rfl rfl (by decide +kernel) (PX_move rfl rfl) rfl rfl ?_
                                      refine aP 2 hst rfl rfl (by decide +kernel) (PX_move rfl rfl) rfl rfl ?_
                                      refine aP 3 hst rfl rfl (by decide +kernel) (PX_move rfl rfl) rfl rfl ?_
                                      first | refine aQ 4 hst rfl rfl (by decide +kernel) (QX_of (Is0 rfl rfl rfl rfl rfl rfl) NE_ix) rfl rfl ?_ | refine aQ 4 hst rfl rfl (by decide +kernel) (QX_of (Is1 rfl rfl rfl rfl rfl rfl) NE_ix) rfl rfl ?_
                                      first | refine aQ 5 hst rfl rfl (by decide +kernel) (QX_of (Q_ldc rfl rfl rfl rfl rfl) NE_load) rfl rfl ?_ | refine aQ 5 hst rfl rfl (by decide +kernel) (QX_of (Ld rfl rfl rfl rfl) NE_load) rfl rfl ?_
                                      refine aP 6 hst rfl rfl (by decide +kernel) (PX_move rfl rfl) rfl rfl ?_
                                      first | refine aQ 7 hst rfl rfl (by decide +kernel) (QX_of (Ia0 rfl rfl rfl rfl rfl rfl) NE_ix) rfl rfl ?_ | refine aQ 7 hst rfl rfl (by decide +kernel) (QX_of (Ia1 rfl rfl rfl rfl rfl rfl) NE_ix) rfl rfl ?_
                                      first | refine aQ 8 hst rfl rfl (by decide +kernel) (QX_of (Q_ldc rfl rfl rfl rfl rfl) NE_load) rfl rfl ?_ | refine aQ 8 hst rfl rfl (by decide +kernel) (QX_of (Ld rfl rfl rfl rfl) NE_load) rfl rfl ?_
                                      first | refine aP 9 hst rfl rfl (by decide +kernel) (PX_binu rfl rfl rfl (by omega)) rfl rfl ?_ | refine aP 9 hst rfl rfl (by decide +kernel) (PX_bin rfl rfl rfl) rfl rfl ?_
                                      refine aP 10 hst rfl rfl (by decide +kernel) (PX_move rfl rfl) rfl rfl ?_
                                      refine aQ 11 hst rfl rfl (by decide +kernel) (QX_of (Q_rem rfl rfl (by omega)) NE_bin) rfl rfl ?_; rw [Int.tmod_eq_emod_of_nonneg (by omega)]
                                      first | refine aQ 12 hst rfl rfl (by decide +kernel) (QX_of (Is0 rfl rfl rfl rfl rfl rfl) NE_ix) rfl rfl ?_ | refine aQ 12 hst rfl rfl (by decide +kernel) (QX_of (Is1 rfl rfl rfl rfl rfl rfl) NE_ix) rfl rfl ?_
                                      refine AW_last [13] rfl (by decide +kernel) rfl ?_
                                      refine oS rfl rfl rfl rfl rfl ?_
                                      refine OW_nil (npN ?_)
                                      all_goals with_reducible refine tN ?_
                                      all_goals (
                                       refine CW_any (fun i => List.elem i [13]) 14 rfl lateOk (by decide +kernel) (fun hst => ?_)
                                       refine aP 0 hst rfl rfl (by decide +kernel) (PX_move rfl rfl) rfl rfl ?_
                                       refine aP 1 hst rfl rfl (by decide +kernel) (PX_move rfl rfl) rfl rfl ?_
                                       refine aP 2 hst rfl rfl (by decide +kernel) (PX_move rfl rfl) rfl rfl ?_
                                       refine aP 3 hst rfl rfl (by decide +kernel) (PX_move rfl rfl) rfl rfl ?_
                                       first | refine aQ 4 hst rfl rfl (by decide +kernel) (QX_of (Is0 rfl rfl rfl rfl rfl rfl) NE_ix) rfl rfl ?_ | refine aQ 4 hst rfl rfl (by decide +kernel) (QX_of (Is1 rfl rfl rfl rfl rfl rfl) NE_ix) rfl rfl ?_
                                       first | refine aQ 5 hst rfl rfl (by decide +kernel) (QX_of (Q_ldc rfl rfl rfl rfl rfl) NE_load) rfl rfl ?_ | refine aQ 5 hst rfl rfl (by decide +kernel) (QX_of (Ld rfl rfl rfl rfl) NE_load) rfl rfl ?_
                                       refine aP 6 hst rfl rfl (by decide +kernel) (PX_move rfl rfl) rfl rfl ?_
                                       first | refine aQ 7 hst rfl rfl (by decide +kernel) (QX_of (Ia0 rfl rfl rfl rfl rfl rfl) NE_ix) rfl rfl ?_ | refine aQ 7 hst rfl rfl (by decide +kernel) (QX_of (Ia1 rfl rfl rfl rfl rfl rfl) NE_ix) rfl rfl ?_
                                       first | refine aQ 8 hst rfl rfl (by decide +kernel) (QX_of (Q_ldc rfl rfl rfl rfl rfl) NE_load) rfl rfl ?_ | refine aQ 8 hst rfl rfl (by decide +kernel) (QX_of (Ld rfl rfl rfl rfl) NE_load) rfl rfl ?_
                                       first | refine aP 9 hst rfl rfl (by decide +kernel) (PX_binu rfl rfl rfl (by omega)) rfl rfl ?_ | refine aP 9 hst rfl rfl (by decide +kernel) (PX_bin rfl rfl rfl) rfl rfl ?_
                                       refine aP 10 hst rfl rfl (by decide +kernel) (PX_move rfl rfl) rfl rfl ?_
                                       refine aQ 11 hst rfl rfl (by decide +kernel) (QX_of (Q_rem rfl rfl (by omega)) NE_bin) rfl rfl ?_; rw [Int.tmod_eq_emod_of_nonneg (by omega)]
                                       first | refine aQ 12 hst rfl rfl (by decide +kernel) (QX_of (Is0 rfl rfl rfl rfl rfl rfl) NE_ix) rfl rfl ?_ | refine aQ 12 hst rfl rfl (by decide +kernel) (QX_of (Is1 rfl rfl rfl rfl rfl rfl) NE_ix) rfl rfl ?_
                                       refine AW_last [13] rfl (by decide +kernel) rfl ?_
                                       refine oS rfl rfl rfl rfl rfl ?_
                                       refine OW_nil (npN ?_))))
                                    all_goals first | with_reducible refine bN ?_ | with_reducible refine bE ?_ | with_reducible refine bR ?_ | refine bX rfl ?_
                                    all_goals with_reducible refine tN ?_
                                    all_goals (
                                     refine CW_region ?_
                                     refine oM rfl rfl ?_
                                     first | refine oQ (Q_binu rfl rfl rfl (by omega)) rfl rfl ?_ | refine oQ (Q_bin rfl rfl rfl) rfl rfl ?_
                                     refine oA rfl rfl ?_
                                     refine OW_nil ?_))
                                 all_goals first
                                   | with_reducible refine tR ?_
                                   | with_reducible refine tE ?_
                                   | (
                                    with_reducible refine tN ?_
                                    exfalso; first | omega | (simp at hc; done) | (simp_all; done))))))))))))
   all_goals first | with_reducible refine bN ?_ | with_reducible refine bE ?_ | with_reducible refine bR ?_ | refine bX rfl ?_
   all_goals with_reducible refine tN ?_
   all_goals (
    refine cR ?_
    refine oM rfl rfl ?_
    refine oA rfl rfl ?_
    refine oN ?_
    refine CW_ret ?_))
  all_goals (
   exact exitH (r0 := .slice 4 0 4 k2) (H0 := [(0, .ints 2 [((0 + q0) % p + q0) % p, (0 + q1) % p, (0 + q2) % p, (0 + q3) % p]), (1, .ints 2 [(0 + q1) % p, ((0 + q4) % p + q4) % p, (0 + q5) % p, (0 + q6) % p]), (2, .ints 2 [(0 + q2) % p, (0 + q5) % p, ((0 + q7) % p + q7) % p, (0 + q8) % p]), (3, .ints 2 [(0 + q3) % p, (0 + q6) % p, (0 + q8) % p, ((0 + q9) % p + q9) % p]), (4, .vals 44 ([.slice 0 0 4 4, .slice 1 0 4 4, .slice 2 0 4 4, .slice 3 0 4 4] ++ List.replicate (k2 - 4) .bot))]) (.inr rfl) [(0, 3), (1, 6), (2, 9), (3, 12), (4, 14)] 5 (.cons (.tmp rfl rfl) .nil) rfl rfl rfl (vHc rfl (vHc rfl (vHc rfl (vHc rfl (vHc (by rw [ren_bots]; rfl) vHn))))) (by simp only [wfB, List.all_cons, List.all_nil, ids_bots]; rfl) rfl ⟨k2, (by omega), rfl, rfl⟩)
end Go.Proofs.YtendffbpmpobnaaDoor
