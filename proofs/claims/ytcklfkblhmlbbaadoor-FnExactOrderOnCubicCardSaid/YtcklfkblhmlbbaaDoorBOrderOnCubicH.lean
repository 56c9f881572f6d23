/- What the last text of OrderOnCubic needs, part 8: contracts of functions and plain mathematics. No conditions beyond those each theorem states. -/
import Derived.Test.YtcklfkblhmlbbaaDoorBOrderOnCubicG
namespace Go.Proofs.YtcklfkblhmlbbaaDoor
set_option maxRecDepth 10000
set_option maxHeartbeats 4000000
set_option linter.unusedSimpArgs false
set_option linter.unusedVariables false
theorem em12 {p : Int} (hp : primeB p = true) (x : Int) : 0 ≤ x % p ∧ x % p ≤ 12 := by
  have hb := prime_bd hp
  have h1 := Int.emod_nonneg x (show p ≠ 0 by omega)
  have h2 := Int.emod_lt_of_pos x (show 0 < p by omega)
  omega
attribute [local irreducible] CW OW QW QOp Con thenP inBlockP AW QX RW
theorem l06Often_t (p s t E0 E1 E2 E3 : Int) (sp : List Int) (tt : TypeId) (k : Nat) (hp : primeB p = true) (hE : smN 12 [E0, E1, E2, E3]) (hs : 0 ≤ s ∧ s < p) (ht : 0 ≤ t ∧ t < p) (h0 : t ≠ 0) : ConQ Tryd.prog [] 94 [.int p, .slice 0 0 4 k, .int s, .int t] [(0, .ints tt ([E0, E1, E2, E3] ++ sp))] (.int (oftI p s t [E0, E1, E2, E3] : Nat)) := by
  have hpb := prime_bd hp
  have b0 := hE E0 (by simp)
  have b1 := hE E1 (by simp)
  have b2 := hE E2 (by simp)
  have b3 := hE E3 (by simp)
  have hin := l01Inverse_con t p hp
  rw [Int.emod_eq_of_lt ht.1 ht.2] at hin
  obtain ⟨i1, i2, i3⟩ := inv_spec hp (n := t) (by omega) ht.2
  generalize hiv : invP p t = iv at *
  refine conW tab_ok [(0, .int p), (1, .slice 0 0 4 k), (2, .int s), (3, .int t)] 1 [0] [0] Tryd.func94 rfl rfl rfl rfl rfl rfl rfl rfl rfl ?_
  refine cR ?_
  refine oA rfl rfl ?_
  refine oN ?_
  refine cR ?_
  refine oA rfl rfl ?_
  refine oN ?_
  refine CW_seq ?_
  refine CW_block ?_
  refine CW_rounds 4 ?_
  refine RW_succ ?_
  refine CW_seq ?_
  refine cR ?_
  refine oM rfl rfl ?_
  first | refine oQ (Q_len rfl rfl rfl rfl) rfl rfl ?_ | refine oQ (Q_len0 rfl rfl rfl rfl) rfl rfl ?_
  refine oQ (Q_bin rfl rfl rfl) rfl rfl ?_
  refine oN ?_
  first | refine cT rfl ?_ | refine cF rfl ?_ | refine CW_cond rfl (fun hc => ?_) (fun hc => ?_)
  all_goals try simp only [s1, s2, s3, s4, s5, s6, s7, s8, s9, s10, s11, s12] at hc
  all_goals try (exfalso; first | omega | (simp at hc; done) | contradiction; done)
  all_goals first
    | (
     refine CW_skip ?_)
    | (
     refine CW_exit ?_)
  all_goals first
    | with_reducible refine tR ?_
    | with_reducible refine tE ?_
    | (
     with_reducible refine tN ?_
     refine CW_block ?_
     refine cR ?_
     refine oM rfl rfl ?_
     first | refine oQ (Q_len rfl rfl rfl rfl) rfl rfl ?_ | refine oQ (Q_len0 rfl rfl rfl rfl) rfl rfl ?_
     first | refine oQ (Q_binu rfl rfl rfl (by omega)) rfl rfl ?_ | refine oQ (Q_bin rfl rfl rfl) rfl rfl ?_
     refine oA rfl rfl ?_
     refine oN ?_
     refine cR ?_
     refine oM rfl rfl ?_
     refine oMk rfl rfl rfl ⟨by decide, rfl, .inl ⟨rfl, rfl⟩⟩ rfl rfl rfl (by first | omega | (dsimp only; omega) | (simp; omega) | (simp; done)) (by first | omega | (dsimp only; omega) | (simp; omega) | (simp; done)) (by first | omega | (dsimp only; omega) | (simp; omega) | (simp; done)) rfl rfl ?_
     refine oA rfl rfl ?_
     refine oN ?_
     refine CW_seq ?_
     refine cR ?_
     refine oM rfl rfl ?_
     refine oQ (Q_bin rfl rfl rfl) rfl rfl ?_
     refine oN ?_
     first | refine cT rfl ?_ | refine cF rfl ?_ | refine CW_cond rfl (fun hc => ?_) (fun hc => ?_)
     all_goals try simp only [s1, s2, s3, s4, s5, s6, s7, s8, s9, s10, s11, s12] at hc
     all_goals try (exfalso; first | omega | (simp at hc; done) | contradiction; done)
     all_goals first
       | (
        refine CW_seq ?_
        refine cR ?_
        refine oM rfl rfl ?_
        first | refine oQ (Is0 rfl rfl rfl rfl rfl rfl) rfl rfl ?_ | refine oQ (Is1 rfl rfl rfl rfl rfl rfl) rfl rfl ?_
        first | refine oQ (Q_ldc rfl rfl rfl rfl rfl) rfl rfl ?_ | refine oQ (Ld rfl rfl rfl rfl) rfl rfl ?_
        refine oQ (Q_bin rfl rfl rfl) rfl rfl ?_
        refine oN ?_
        first | refine cT rfl ?_ | refine cF rfl ?_ | refine CW_cond rfl (fun hc => ?_) (fun hc => ?_)
        all_goals try simp only [s1, s2, s3, s4, s5, s6, s7, s8, s9, s10, s11, s12] at hc
        all_goals try (exfalso; first | omega | (simp at hc; done) | contradiction; done)
        all_goals first
          | (
           refine CW_skip ?_)
          | (
           refine cR ?_
           refine oM rfl rfl ?_
           refine oA rfl rfl ?_
           refine oN ?_
           refine CW_ret ?_)
        all_goals first
          | with_reducible refine tR ?_
          | with_reducible refine tE ?_
          | (
           with_reducible refine tN ?_
           refine cR ?_
           refine oA rfl rfl ?_
           refine oN ?_
           refine CW_block ?_
           refine CW_rounds 4 ?_
           refine RW_succ ?_
           refine CW_seq ?_
           refine cR ?_
           iterate 2 refine oM rfl rfl ?_
           refine oQ (Q_bin rfl rfl rfl) rfl rfl ?_
           refine oN ?_
           first | refine cT rfl ?_ | refine cF rfl ?_ | refine CW_cond rfl (fun hc => ?_) (fun hc => ?_)
           all_goals try simp only [s1, s2, s3, s4, s5, s6, s7, s8, s9, s10, s11, s12] at hc
           all_goals try (exfalso; first | omega | (simp at hc; done) | contradiction; done)
           all_goals first
             | (
              refine CW_skip ?_)
             | (
              refine CW_exit ?_)
           all_goals first
             | with_reducible refine tR ?_
             | with_reducible refine tE ?_
             | (
              with_reducible refine tN ?_
              refine CW_seq ?_
              refine CW_block ?_
              refine CW_region ?_
              iterate 4 refine oM rfl rfl ?_
              first | refine oQ (Q_binu rfl rfl rfl (by omega)) rfl rfl ?_ | refine oQ (Q_bin rfl rfl rfl) rfl rfl ?_
              first | refine oQ (Is0 rfl rfl rfl rfl rfl rfl) rfl rfl ?_ | refine oQ (Is1 rfl rfl rfl rfl rfl rfl) rfl rfl ?_
              first | refine oQ (Q_ldc rfl rfl rfl rfl rfl) rfl rfl ?_ | refine oQ (Ld rfl rfl rfl rfl) rfl rfl ?_
              first | refine oQ (Is0 rfl rfl rfl rfl rfl rfl) rfl rfl ?_ | refine oQ (Is1 rfl rfl rfl rfl rfl rfl) rfl rfl ?_
              refine oS rfl rfl rfl rfl rfl ?_
              refine OW_nil ?_
              all_goals first | with_reducible refine bN ?_ | with_reducible refine bE ?_ | with_reducible refine bR ?_ | refine bX rfl ?_
              all_goals with_reducible refine tN ?_
              all_goals (
               refine CW_region ?_
               refine oM rfl rfl ?_
               first | refine oQ (Q_binu rfl rfl rfl (by omega)) rfl rfl ?_ | refine oQ (Q_bin rfl rfl rfl) rfl rfl ?_
               refine oA rfl rfl ?_
               refine OW_nil ?_))
           all_goals first
             | with_reducible refine tR ?_
             | with_reducible refine tE ?_
             | (
              with_reducible refine tN ?_
              refine RW_succ ?_
              refine CW_seq ?_
              refine cR ?_
              iterate 2 refine oM rfl rfl ?_
              refine oQ (Q_bin rfl rfl rfl) rfl rfl ?_
              refine oN ?_
              first | refine cT rfl ?_ | refine cF rfl ?_ | refine CW_cond rfl (fun hc => ?_) (fun hc => ?_)
              all_goals try simp only [s1, s2, s3, s4, s5, s6, s7, s8, s9, s10, s11, s12] at hc
              all_goals try (exfalso; first | omega | (simp at hc; done) | contradiction; done)
              all_goals first
                | (
                 refine CW_skip ?_)
                | (
                 refine CW_exit ?_)
              all_goals first
                | with_reducible refine tR ?_
                | with_reducible refine tE ?_
                | (
                 with_reducible refine tN ?_
                 refine CW_seq ?_
                 refine CW_block ?_
                 refine CW_region ?_
                 iterate 4 refine oM rfl rfl ?_
                 first | refine oQ (Q_binu rfl rfl rfl (by omega)) rfl rfl ?_ | refine oQ (Q_bin rfl rfl rfl) rfl rfl ?_
                 first | refine oQ (Is0 rfl rfl rfl rfl rfl rfl) rfl rfl ?_ | refine oQ (Is1 rfl rfl rfl rfl rfl rfl) rfl rfl ?_
                 first | refine oQ (Q_ldc rfl rfl rfl rfl rfl) rfl rfl ?_ | refine oQ (Ld rfl rfl rfl rfl) rfl rfl ?_
                 first | refine oQ (Is0 rfl rfl rfl rfl rfl rfl) rfl rfl ?_ | refine oQ (Is1 rfl rfl rfl rfl rfl rfl) rfl rfl ?_
                 refine oS rfl rfl rfl rfl rfl ?_
                 refine OW_nil ?_
                 all_goals first | with_reducible refine bN ?_ | with_reducible refine bE ?_ | with_reducible refine bR ?_ | refine bX rfl ?_
                 all_goals with_reducible refine tN ?_
                 all_goals (
                  refine CW_region ?_
                  refine oM rfl rfl ?_
                  first | refine oQ (Q_binu rfl rfl rfl (by omega)) rfl rfl ?_ | refine oQ (Q_bin rfl rfl rfl) rfl rfl ?_
                  refine oA rfl rfl ?_
                  refine OW_nil ?_))
              all_goals first
                | with_reducible refine tR ?_
                | with_reducible refine tE ?_
                | (
                 with_reducible refine tN ?_
                 refine RW_succ ?_
                 refine CW_seq ?_
                 refine cR ?_
                 iterate 2 refine oM rfl rfl ?_
                 refine oQ (Q_bin rfl rfl rfl) rfl rfl ?_
                 refine oN ?_
                 first | refine cT rfl ?_ | refine cF rfl ?_ | refine CW_cond rfl (fun hc => ?_) (fun hc => ?_)
                 all_goals try simp only [s1, s2, s3, s4, s5, s6, s7, s8, s9, s10, s11, s12] at hc
                 all_goals try (exfalso; first | omega | (simp at hc; done) | contradiction; done)
                 all_goals first
                   | (
                    refine CW_skip ?_)
                   | (
                    refine CW_exit ?_)
                 all_goals first
                   | with_reducible refine tR ?_
                   | with_reducible refine tE ?_
                   | (
                    with_reducible refine tN ?_
                    refine CW_seq ?_
                    refine CW_block ?_
                    refine CW_region ?_
                    iterate 4 refine oM rfl rfl ?_
                    first | refine oQ (Q_binu rfl rfl rfl (by omega)) rfl rfl ?_ | refine oQ (Q_bin rfl rfl rfl) rfl rfl ?_
                    first | refine oQ (Is0 rfl rfl rfl rfl rfl rfl) rfl rfl ?_ | refine oQ (Is1 rfl rfl rfl rfl rfl rfl) rfl rfl ?_
                    first | refine oQ (Q_ldc rfl rfl rfl rfl rfl) rfl rfl ?_ | refine oQ (Ld rfl rfl rfl rfl) rfl rfl ?_
                    first | refine oQ (Is0 rfl rfl rfl rfl rfl rfl) rfl rfl ?_ | refine oQ (Is1 rfl rfl rfl rfl rfl rfl) rfl rfl ?_
                    refine oS rfl rfl rfl rfl rfl ?_
                    refine OW_nil ?_
                    all_goals first | with_reducible refine bN ?_ | with_reducible refine bE ?_ | with_reducible refine bR ?_ | refine bX rfl ?_
                    all_goals with_reducible refine tN ?_
                    all_goals (
                     refine CW_region ?_
                     refine oM rfl rfl ?_
                     first | refine oQ (Q_binu rfl rfl rfl (by omega)) rfl rfl ?_ | refine oQ (Q_bin rfl rfl rfl) rfl rfl ?_
                     refine oA rfl rfl ?_
                     refine OW_nil ?_))
                 all_goals first
                   | with_reducible refine tR ?_
                   | with_reducible refine tE ?_
                   | (
                    with_reducible refine tN ?_
                    refine RW_succ ?_
                    refine CW_seq ?_
                    refine cR ?_
                    iterate 2 refine oM rfl rfl ?_
                    refine oQ (Q_bin rfl rfl rfl) rfl rfl ?_
                    refine oN ?_
                    first | refine cT rfl ?_ | refine cF rfl ?_ | refine CW_cond rfl (fun hc => ?_) (fun hc => ?_)
                    all_goals try simp only [s1, s2, s3, s4, s5, s6, s7, s8, s9, s10, s11, s12] at hc
                    all_goals try (exfalso; first | omega | (simp at hc; done) | contradiction; done)
                    all_goals first
                      | (
                       refine CW_skip ?_)
                      | (
                       refine CW_exit ?_)
                    all_goals first
                      | with_reducible refine tR ?_
                      | with_reducible refine tE ?_
                      | (
                       with_reducible refine tN ?_
                       refine CW_seq ?_
                       refine CW_block ?_
                       refine CW_region ?_
                       iterate 4 refine oM rfl rfl ?_
                       first | refine oQ (Q_binu rfl rfl rfl (by omega)) rfl rfl ?_ | refine oQ (Q_bin rfl rfl rfl) rfl rfl ?_
                       first | refine oQ (Is0 rfl rfl rfl rfl rfl rfl) rfl rfl ?_ | refine oQ (Is1 rfl rfl rfl rfl rfl rfl) rfl rfl ?_
                       first | refine oQ (Q_ldc rfl rfl rfl rfl rfl) rfl rfl ?_ | refine oQ (Ld rfl rfl rfl rfl) rfl rfl ?_
                       first | refine oQ (Is0 rfl rfl rfl rfl rfl rfl) rfl rfl ?_ | refine oQ (Is1 rfl rfl rfl rfl rfl rfl) rfl rfl ?_
                       refine oS rfl rfl rfl rfl rfl ?_
                       refine OW_nil ?_
                       all_goals first | with_reducible refine bN ?_ | with_reducible refine bE ?_ | with_reducible refine bR ?_ | refine bX rfl ?_
                       all_goals with_reducible refine tN ?_
                       all_goals (
                        refine CW_region ?_
                        refine oM rfl rfl ?_
                        first | refine oQ (Q_binu rfl rfl rfl (by omega)) rfl rfl ?_ | refine oQ (Q_bin rfl rfl rfl) rfl rfl ?_
                        refine oA rfl rfl ?_
                        refine OW_nil ?_))
                    all_goals first
                      | with_reducible refine tR ?_
                      | with_reducible refine tE ?_
                      | (
                       with_reducible refine tN ?_
                       exfalso; first | omega | (simp at hc; done) | (simp_all; done)))))
           all_goals first | with_reducible refine bN ?_ | with_reducible refine bE ?_ | with_reducible refine bR ?_ | refine bX rfl ?_))
       | (
        refine cR ?_
        iterate 2 refine oM rfl rfl ?_
        refine oQ (Q_call0 (hin) rfl rfl rfl) rfl rfl ?_
        refine oA rfl rfl ?_
        refine oN ?_
        refine cR ?_
        refine oA rfl rfl ?_
        refine oN ?_
        refine CW_seq ?_
        refine cR ?_
        refine oA rfl rfl ?_
        refine oN ?_
        refine CW_block ?_
        refine CW_rounds 4 ?_
        refine RW_succ ?_
        refine CW_seq ?_
        refine cR ?_
        iterate 2 refine oM rfl rfl ?_
        refine oQ (Q_bin rfl rfl rfl) rfl rfl ?_
        refine oN ?_
        first | refine cT rfl ?_ | refine cF rfl ?_ | refine CW_cond rfl (fun hc => ?_) (fun hc => ?_)
        all_goals try simp only [s1, s2, s3, s4, s5, s6, s7, s8, s9, s10, s11, s12] at hc
        all_goals try (exfalso; first | omega | (simp at hc; done) | contradiction; done)
        all_goals first
          | (
           refine CW_skip ?_)
          | (
           refine CW_exit ?_)
        all_goals first
          | with_reducible refine tR ?_
          | with_reducible refine tE ?_
          | (
           with_reducible refine tN ?_
           refine CW_seq ?_
           refine CW_block ?_
           refine cR ?_
           iterate 3 refine oM rfl rfl ?_
           first | refine oQ (Is0 rfl rfl rfl rfl rfl rfl) rfl rfl ?_ | refine oQ (Is1 rfl rfl rfl rfl rfl rfl) rfl rfl ?_
           first | refine oQ (Q_ldc rfl rfl rfl rfl rfl) rfl rfl ?_ | refine oQ (Ld rfl rfl rfl rfl) rfl rfl ?_
           iterate 2 refine oM rfl rfl ?_
           refine oMulN 12 12 rfl rfl (by omega) (by omega) (by decide) rfl (fun z41 hz41 hl41 hu41 => ?_)
           first | refine oQ (Q_binu rfl rfl rfl (by omega)) rfl rfl ?_ | refine oQ (Q_bin rfl rfl rfl) rfl rfl ?_
           refine oM rfl rfl ?_
           refine oMulN 156 12 rfl rfl (by omega) (by omega) (by decide) rfl (fun z44 hz44 hl44 hu44 => ?_)
           (have hmm := em12 hp z44); subst hz44 hz41; refine oQ (Q_call0 (l01Mod_con _ p (by omega) (by omega)) rfl rfl rfl) rfl rfl ?_
           refine oA rfl rfl ?_
           refine oN ?_
           refine CW_region ?_
           iterate 3 refine oM rfl rfl ?_
           first | refine oQ (Is0 rfl rfl rfl rfl rfl rfl) rfl rfl ?_ | refine oQ (Is1 rfl rfl rfl rfl rfl rfl) rfl rfl ?_
           refine oS rfl rfl rfl rfl rfl ?_
           refine OW_nil ?_
           all_goals first | with_reducible refine bN ?_ | with_reducible refine bE ?_ | with_reducible refine bR ?_ | refine bX rfl ?_
           all_goals with_reducible refine tN ?_
           all_goals (
            refine CW_region ?_
            refine oM rfl rfl ?_
            first | refine oQ (Q_binu rfl rfl rfl (by omega)) rfl rfl ?_ | refine oQ (Q_bin rfl rfl rfl) rfl rfl ?_
            refine oA rfl rfl ?_
            refine OW_nil ?_))
        all_goals first
          | with_reducible refine tR ?_
          | with_reducible refine tE ?_
          | (
           with_reducible refine tN ?_
           refine RW_succ ?_
           refine CW_seq ?_
           refine cR ?_
           iterate 2 refine oM rfl rfl ?_
           refine oQ (Q_bin rfl rfl rfl) rfl rfl ?_
           refine oN ?_
           first | refine cT rfl ?_ | refine cF rfl ?_ | refine CW_cond rfl (fun hc => ?_) (fun hc => ?_)
           all_goals try simp only [s1, s2, s3, s4, s5, s6, s7, s8, s9, s10, s11, s12] at hc
           all_goals try (exfalso; first | omega | (simp at hc; done) | contradiction; done)
           all_goals first
             | (
              refine CW_skip ?_)
             | (
              refine CW_exit ?_)
           all_goals first
             | with_reducible refine tR ?_
             | with_reducible refine tE ?_
             | (
              with_reducible refine tN ?_
              refine CW_seq ?_
              refine CW_block ?_
              refine cR ?_
              iterate 3 refine oM rfl rfl ?_
              first | refine oQ (Is0 rfl rfl rfl rfl rfl rfl) rfl rfl ?_ | refine oQ (Is1 rfl rfl rfl rfl rfl rfl) rfl rfl ?_
              first | refine oQ (Q_ldc rfl rfl rfl rfl rfl) rfl rfl ?_ | refine oQ (Ld rfl rfl rfl rfl) rfl rfl ?_
              iterate 2 refine oM rfl rfl ?_
              refine oMulN 12 12 rfl rfl (by omega) (by omega) (by decide) rfl (fun z41 hz41 hl41 hu41 => ?_)
              first | refine oQ (Q_binu rfl rfl rfl (by omega)) rfl rfl ?_ | refine oQ (Q_bin rfl rfl rfl) rfl rfl ?_
              refine oM rfl rfl ?_
              refine oMulN 156 12 rfl rfl (by omega) (by omega) (by decide) rfl (fun z44 hz44 hl44 hu44 => ?_)
              (have hmm := em12 hp z44); subst hz44 hz41; refine oQ (Q_call0 (l01Mod_con _ p (by omega) (by omega)) rfl rfl rfl) rfl rfl ?_
              refine oA rfl rfl ?_
              refine oN ?_
              refine CW_region ?_
              iterate 3 refine oM rfl rfl ?_
              first | refine oQ (Is0 rfl rfl rfl rfl rfl rfl) rfl rfl ?_ | refine oQ (Is1 rfl rfl rfl rfl rfl rfl) rfl rfl ?_
              refine oS rfl rfl rfl rfl rfl ?_
              refine OW_nil ?_
              all_goals first | with_reducible refine bN ?_ | with_reducible refine bE ?_ | with_reducible refine bR ?_ | refine bX rfl ?_
              all_goals with_reducible refine tN ?_
              all_goals (
               refine CW_region ?_
               refine oM rfl rfl ?_
               first | refine oQ (Q_binu rfl rfl rfl (by omega)) rfl rfl ?_ | refine oQ (Q_bin rfl rfl rfl) rfl rfl ?_
               refine oA rfl rfl ?_
               refine OW_nil ?_))
           all_goals first
             | with_reducible refine tR ?_
             | with_reducible refine tE ?_
             | (
              with_reducible refine tN ?_
              refine RW_succ ?_
              refine CW_seq ?_
              refine cR ?_
              iterate 2 refine oM rfl rfl ?_
              refine oQ (Q_bin rfl rfl rfl) rfl rfl ?_
              refine oN ?_
              first | refine cT rfl ?_ | refine cF rfl ?_ | refine CW_cond rfl (fun hc => ?_) (fun hc => ?_)
              all_goals try simp only [s1, s2, s3, s4, s5, s6, s7, s8, s9, s10, s11, s12] at hc
              all_goals try (exfalso; first | omega | (simp at hc; done) | contradiction; done)
              all_goals first
                | (
                 refine CW_skip ?_)
                | (
                 refine CW_exit ?_)
              all_goals first
                | with_reducible refine tR ?_
                | with_reducible refine tE ?_
                | (
                 with_reducible refine tN ?_
                 refine CW_seq ?_
                 refine CW_block ?_
                 refine cR ?_
                 iterate 3 refine oM rfl rfl ?_
                 first | refine oQ (Is0 rfl rfl rfl rfl rfl rfl) rfl rfl ?_ | refine oQ (Is1 rfl rfl rfl rfl rfl rfl) rfl rfl ?_
                 first | refine oQ (Q_ldc rfl rfl rfl rfl rfl) rfl rfl ?_ | refine oQ (Ld rfl rfl rfl rfl) rfl rfl ?_
                 iterate 2 refine oM rfl rfl ?_
                 refine oMulN 12 12 rfl rfl (by omega) (by omega) (by decide) rfl (fun z41 hz41 hl41 hu41 => ?_)
                 first | refine oQ (Q_binu rfl rfl rfl (by omega)) rfl rfl ?_ | refine oQ (Q_bin rfl rfl rfl) rfl rfl ?_
                 refine oM rfl rfl ?_
                 refine oMulN 156 12 rfl rfl (by omega) (by omega) (by decide) rfl (fun z44 hz44 hl44 hu44 => ?_)
                 (have hmm := em12 hp z44); subst hz44 hz41; refine oQ (Q_call0 (l01Mod_con _ p (by omega) (by omega)) rfl rfl rfl) rfl rfl ?_
                 refine oA rfl rfl ?_
                 refine oN ?_
                 refine CW_region ?_
                 iterate 3 refine oM rfl rfl ?_
                 first | refine oQ (Is0 rfl rfl rfl rfl rfl rfl) rfl rfl ?_ | refine oQ (Is1 rfl rfl rfl rfl rfl rfl) rfl rfl ?_
                 refine oS rfl rfl rfl rfl rfl ?_
                 refine OW_nil ?_
                 all_goals first | with_reducible refine bN ?_ | with_reducible refine bE ?_ | with_reducible refine bR ?_ | refine bX rfl ?_
                 all_goals with_reducible refine tN ?_
                 all_goals (
                  refine CW_region ?_
                  refine oM rfl rfl ?_
                  first | refine oQ (Q_binu rfl rfl rfl (by omega)) rfl rfl ?_ | refine oQ (Q_bin rfl rfl rfl) rfl rfl ?_
                  refine oA rfl rfl ?_
                  refine OW_nil ?_))
              all_goals first
                | with_reducible refine tR ?_
                | with_reducible refine tE ?_
                | (
                 with_reducible refine tN ?_
                 refine RW_succ ?_
                 refine CW_seq ?_
                 refine cR ?_
                 iterate 2 refine oM rfl rfl ?_
                 refine oQ (Q_bin rfl rfl rfl) rfl rfl ?_
                 refine oN ?_
                 first | refine cT rfl ?_ | refine cF rfl ?_ | refine CW_cond rfl (fun hc => ?_) (fun hc => ?_)
                 all_goals try simp only [s1, s2, s3, s4, s5, s6, s7, s8, s9, s10, s11, s12] at hc
                 all_goals try (exfalso; first | omega | (simp at hc; done) | contradiction; done)
                 all_goals first
                   | (
                    refine CW_skip ?_)
                   | (
                    refine CW_exit ?_)
                 all_goals first
                   | with_reducible refine tR ?_
                   | with_reducible refine tE ?_
                   | (
                    with_reducible refine tN ?_
                    refine CW_seq ?_
                    refine CW_block ?_
                    refine cR ?_
                    iterate 3 refine oM rfl rfl ?_
                    first | refine oQ (Is0 rfl rfl rfl rfl rfl rfl) rfl rfl ?_ | refine oQ (Is1 rfl rfl rfl rfl rfl rfl) rfl rfl ?_
                    first | refine oQ (Q_ldc rfl rfl rfl rfl rfl) rfl rfl ?_ | refine oQ (Ld rfl rfl rfl rfl) rfl rfl ?_
                    iterate 2 refine oM rfl rfl ?_
                    refine oMulN 12 12 rfl rfl (by omega) (by omega) (by decide) rfl (fun z41 hz41 hl41 hu41 => ?_)
                    first | refine oQ (Q_binu rfl rfl rfl (by omega)) rfl rfl ?_ | refine oQ (Q_bin rfl rfl rfl) rfl rfl ?_
                    refine oM rfl rfl ?_
                    refine oMulN 156 12 rfl rfl (by omega) (by omega) (by decide) rfl (fun z44 hz44 hl44 hu44 => ?_)
                    (have hmm := em12 hp z44); subst hz44 hz41; refine oQ (Q_call0 (l01Mod_con _ p (by omega) (by omega)) rfl rfl rfl) rfl rfl ?_
                    refine oA rfl rfl ?_
                    refine oN ?_
                    refine CW_region ?_
                    iterate 3 refine oM rfl rfl ?_
                    first | refine oQ (Is0 rfl rfl rfl rfl rfl rfl) rfl rfl ?_ | refine oQ (Is1 rfl rfl rfl rfl rfl rfl) rfl rfl ?_
                    refine oS rfl rfl rfl rfl rfl ?_
                    refine OW_nil ?_
                    all_goals first | with_reducible refine bN ?_ | with_reducible refine bE ?_ | with_reducible refine bR ?_ | refine bX rfl ?_
                    all_goals with_reducible refine tN ?_
                    all_goals (
                     refine CW_region ?_
                     refine oM rfl rfl ?_
                     first | refine oQ (Q_binu rfl rfl rfl (by omega)) rfl rfl ?_ | refine oQ (Q_bin rfl rfl rfl) rfl rfl ?_
                     refine oA rfl rfl ?_
                     refine OW_nil ?_))
                 all_goals first
                   | with_reducible refine tR ?_
                   | with_reducible refine tE ?_
                   | (
                    with_reducible refine tN ?_
                    exfalso; first | omega | (simp at hc; done) | (simp_all; done)))))
        all_goals first | with_reducible refine bN ?_ | with_reducible refine bE ?_ | with_reducible refine bR ?_ | refine bX rfl ?_
        all_goals with_reducible refine tN ?_
        all_goals (
         refine cR ?_
         iterate 3 refine oM rfl rfl ?_
         first | refine oQ (Is0 rfl rfl rfl rfl rfl rfl) rfl rfl ?_ | refine oQ (Is1 rfl rfl rfl rfl rfl rfl) rfl rfl ?_
         first | refine oQ (Q_ldc rfl rfl rfl rfl rfl) rfl rfl ?_ | refine oQ (Ld rfl rfl rfl rfl) rfl rfl ?_
         iterate 2 refine oM rfl rfl ?_
         refine oMulN 12 12 rfl rfl (by omega) (by omega) (by decide) rfl (fun z57 hz57 hl57 hu57 => ?_)
         first | refine oQ (Q_binu rfl rfl rfl (by omega)) rfl rfl ?_ | refine oQ (Q_bin rfl rfl rfl) rfl rfl ?_
         subst hz57; refine oQ (Q_call0 (l01Mod_con _ p (by omega) (by omega)) rfl rfl rfl) rfl rfl ?_
         refine oQ (Q_bin rfl rfl rfl) rfl rfl ?_
         refine oN ?_
         first | refine cT rfl ?_ | refine cF rfl ?_ | refine CW_cond rfl (fun hc => ?_) (fun hc => ?_)
         all_goals try simp only [s1, s2, s3, s4, s5, s6, s7, s8, s9, s10, s11, s12] at hc
         all_goals try (exfalso; first | omega | (simp at hc; done) | contradiction; done)
         all_goals first
           | (
            refine CW_skip ?_)
           | (
            refine cR ?_
            refine oM rfl rfl ?_
            refine oA rfl rfl ?_
            refine oN ?_
            refine CW_ret ?_)))
     all_goals first
       | with_reducible refine tR ?_
       | with_reducible refine tE ?_
       | (
        with_reducible refine tN ?_
        refine cR ?_
        refine oM rfl rfl ?_
        first | refine oQ (Q_binu rfl rfl rfl (by omega)) rfl rfl ?_ | refine oQ (Q_bin rfl rfl rfl) rfl rfl ?_
        refine oA rfl rfl ?_
        refine oN ?_
        refine CW_region ?_
        refine oM rfl rfl ?_
        refine oA rfl rfl ?_
        refine OW_nil ?_)
     all_goals first | with_reducible refine bN ?_ | with_reducible refine bE ?_ | with_reducible refine bR ?_ | refine bX rfl ?_)
  all_goals first
    | with_reducible refine tR ?_
    | with_reducible refine tE ?_
    | (
     with_reducible refine tN ?_
     refine RW_succ ?_
     refine CW_seq ?_
     refine cR ?_
     refine oM rfl rfl ?_
     first | refine oQ (Q_len rfl rfl rfl rfl) rfl rfl ?_ | refine oQ (Q_len0 rfl rfl rfl rfl) rfl rfl ?_
     refine oQ (Q_bin rfl rfl rfl) rfl rfl ?_
     refine oN ?_
     first | refine cT rfl ?_ | refine cF rfl ?_ | refine CW_cond rfl (fun hc => ?_) (fun hc => ?_)
     all_goals try simp only [s1, s2, s3, s4, s5, s6, s7, s8, s9, s10, s11, s12] at hc
     all_goals try (exfalso; first | omega | (simp at hc; done) | contradiction; done)
     all_goals first
       | (
        refine CW_skip ?_)
       | (
        refine CW_exit ?_)
     all_goals first
       | with_reducible refine tR ?_
       | with_reducible refine tE ?_
       | (
        with_reducible refine tN ?_
        refine CW_block ?_
        refine cR ?_
        refine oM rfl rfl ?_
        first | refine oQ (Q_len rfl rfl rfl rfl) rfl rfl ?_ | refine oQ (Q_len0 rfl rfl rfl rfl) rfl rfl ?_
        first | refine oQ (Q_binu rfl rfl rfl (by omega)) rfl rfl ?_ | refine oQ (Q_bin rfl rfl rfl) rfl rfl ?_
        refine oA rfl rfl ?_
        refine oN ?_
        refine cR ?_
        refine oM rfl rfl ?_
        refine oMk rfl rfl rfl ⟨by decide, rfl, .inl ⟨rfl, rfl⟩⟩ rfl rfl rfl (by first | omega | (dsimp only; omega) | (simp; omega) | (simp; done)) (by first | omega | (dsimp only; omega) | (simp; omega) | (simp; done)) (by first | omega | (dsimp only; omega) | (simp; omega) | (simp; done)) rfl rfl ?_
        refine oA rfl rfl ?_
        refine oN ?_
        refine CW_seq ?_
        refine cR ?_
        refine oM rfl rfl ?_
        refine oQ (Q_bin rfl rfl rfl) rfl rfl ?_
        refine oN ?_
        first | refine cT rfl ?_ | refine cF rfl ?_ | refine CW_cond rfl (fun hc => ?_) (fun hc => ?_)
        all_goals try simp only [s1, s2, s3, s4, s5, s6, s7, s8, s9, s10, s11, s12] at hc
        all_goals try (exfalso; first | omega | (simp at hc; done) | contradiction; done)
        all_goals first
          | (
           refine CW_seq ?_
           refine cR ?_
           refine oM rfl rfl ?_
           first | refine oQ (Is0 rfl rfl rfl rfl rfl rfl) rfl rfl ?_ | refine oQ (Is1 rfl rfl rfl rfl rfl rfl) rfl rfl ?_
           first | refine oQ (Q_ldc rfl rfl rfl rfl rfl) rfl rfl ?_ | refine oQ (Ld rfl rfl rfl rfl) rfl rfl ?_
           refine oQ (Q_bin rfl rfl rfl) rfl rfl ?_
           refine oN ?_
           first | refine cT rfl ?_ | refine cF rfl ?_ | refine CW_cond rfl (fun hc => ?_) (fun hc => ?_)
           all_goals try simp only [s1, s2, s3, s4, s5, s6, s7, s8, s9, s10, s11, s12] at hc
           all_goals try (exfalso; first | omega | (simp at hc; done) | contradiction; done)
           all_goals first
             | (
              refine CW_skip ?_)
             | (
              refine cR ?_
              refine oM rfl rfl ?_
              refine oA rfl rfl ?_
              refine oN ?_
              refine CW_ret ?_)
           all_goals first
             | with_reducible refine tR ?_
             | with_reducible refine tE ?_
             | (
              with_reducible refine tN ?_
              refine cR ?_
              refine oA rfl rfl ?_
              refine oN ?_
              refine CW_block ?_
              refine CW_rounds 4 ?_
              refine RW_succ ?_
              refine CW_seq ?_
              refine cR ?_
              iterate 2 refine oM rfl rfl ?_
              refine oQ (Q_bin rfl rfl rfl) rfl rfl ?_
              refine oN ?_
              first | refine cT rfl ?_ | refine cF rfl ?_ | refine CW_cond rfl (fun hc => ?_) (fun hc => ?_)
              all_goals try simp only [s1, s2, s3, s4, s5, s6, s7, s8, s9, s10, s11, s12] at hc
              all_goals try (exfalso; first | omega | (simp at hc; done) | contradiction; done)
              all_goals first
                | (
                 refine CW_skip ?_)
                | (
                 refine CW_exit ?_)
              all_goals first
                | with_reducible refine tR ?_
                | with_reducible refine tE ?_
                | (
                 with_reducible refine tN ?_
                 refine CW_seq ?_
                 refine CW_block ?_
                 refine CW_region ?_
                 iterate 4 refine oM rfl rfl ?_
                 first | refine oQ (Q_binu rfl rfl rfl (by omega)) rfl rfl ?_ | refine oQ (Q_bin rfl rfl rfl) rfl rfl ?_
                 first | refine oQ (Is0 rfl rfl rfl rfl rfl rfl) rfl rfl ?_ | refine oQ (Is1 rfl rfl rfl rfl rfl rfl) rfl rfl ?_
                 first | refine oQ (Q_ldc rfl rfl rfl rfl rfl) rfl rfl ?_ | refine oQ (Ld rfl rfl rfl rfl) rfl rfl ?_
                 first | refine oQ (Is0 rfl rfl rfl rfl rfl rfl) rfl rfl ?_ | refine oQ (Is1 rfl rfl rfl rfl rfl rfl) rfl rfl ?_
                 refine oS rfl rfl rfl rfl rfl ?_
                 refine OW_nil ?_
                 all_goals first | with_reducible refine bN ?_ | with_reducible refine bE ?_ | with_reducible refine bR ?_ | refine bX rfl ?_
                 all_goals with_reducible refine tN ?_
                 all_goals (
                  refine CW_region ?_
                  refine oM rfl rfl ?_
                  first | refine oQ (Q_binu rfl rfl rfl (by omega)) rfl rfl ?_ | refine oQ (Q_bin rfl rfl rfl) rfl rfl ?_
                  refine oA rfl rfl ?_
                  refine OW_nil ?_))
              all_goals first
                | with_reducible refine tR ?_
                | with_reducible refine tE ?_
                | (
                 with_reducible refine tN ?_
                 refine RW_succ ?_
                 refine CW_seq ?_
                 refine cR ?_
                 iterate 2 refine oM rfl rfl ?_
                 refine oQ (Q_bin rfl rfl rfl) rfl rfl ?_
                 refine oN ?_
                 first | refine cT rfl ?_ | refine cF rfl ?_ | refine CW_cond rfl (fun hc => ?_) (fun hc => ?_)
                 all_goals try simp only [s1, s2, s3, s4, s5, s6, s7, s8, s9, s10, s11, s12] at hc
                 all_goals try (exfalso; first | omega | (simp at hc; done) | contradiction; done)
                 all_goals first
                   | (
                    refine CW_skip ?_)
                   | (
                    refine CW_exit ?_)
                 all_goals first
                   | with_reducible refine tR ?_
                   | with_reducible refine tE ?_
                   | (
                    with_reducible refine tN ?_
                    refine CW_seq ?_
                    refine CW_block ?_
                    refine CW_region ?_
                    iterate 4 refine oM rfl rfl ?_
                    first | refine oQ (Q_binu rfl rfl rfl (by omega)) rfl rfl ?_ | refine oQ (Q_bin rfl rfl rfl) rfl rfl ?_
                    first | refine oQ (Is0 rfl rfl rfl rfl rfl rfl) rfl rfl ?_ | refine oQ (Is1 rfl rfl rfl rfl rfl rfl) rfl rfl ?_
                    first | refine oQ (Q_ldc rfl rfl rfl rfl rfl) rfl rfl ?_ | refine oQ (Ld rfl rfl rfl rfl) rfl rfl ?_
                    first | refine oQ (Is0 rfl rfl rfl rfl rfl rfl) rfl rfl ?_ | refine oQ (Is1 rfl rfl rfl rfl rfl rfl) rfl rfl ?_
                    refine oS rfl rfl rfl rfl rfl ?_
                    refine OW_nil ?_
                    all_goals first | with_reducible refine bN ?_ | with_reducible refine bE ?_ | with_reducible refine bR ?_ | refine bX rfl ?_
                    all_goals with_reducible refine tN ?_
                    all_goals (
                     refine CW_region ?_
                     refine oM rfl rfl ?_
                     first | refine oQ (Q_binu rfl rfl rfl (by omega)) rfl rfl ?_ | refine oQ (Q_bin rfl rfl rfl) rfl rfl ?_
                     refine oA rfl rfl ?_
                     refine OW_nil ?_))
                 all_goals first
                   | with_reducible refine tR ?_
                   | with_reducible refine tE ?_
                   | (
                    with_reducible refine tN ?_
                    refine RW_succ ?_
                    refine CW_seq ?_
                    refine cR ?_
                    iterate 2 refine oM rfl rfl ?_
                    refine oQ (Q_bin rfl rfl rfl) rfl rfl ?_
                    refine oN ?_
                    first | refine cT rfl ?_ | refine cF rfl ?_ | refine CW_cond rfl (fun hc => ?_) (fun hc => ?_)
                    all_goals try simp only [s1, s2, s3, s4, s5, s6, s7, s8, s9, s10, s11, s12] at hc
                    all_goals try (exfalso; first | omega | (simp at hc; done) | contradiction; done)
                    all_goals first
                      | (
                       refine CW_skip ?_)
                      | (
                       refine CW_exit ?_)
                    all_goals first
                      | with_reducible refine tR ?_
                      | with_reducible refine tE ?_
                      | (
                       with_reducible refine tN ?_
                       refine CW_seq ?_
                       refine CW_block ?_
                       refine CW_region ?_
                       iterate 4 refine oM rfl rfl ?_
                       first | refine oQ (Q_binu rfl rfl rfl (by omega)) rfl rfl ?_ | refine oQ (Q_bin rfl rfl rfl) rfl rfl ?_
                       first | refine oQ (Is0 rfl rfl rfl rfl rfl rfl) rfl rfl ?_ | refine oQ (Is1 rfl rfl rfl rfl rfl rfl) rfl rfl ?_
                       first | refine oQ (Q_ldc rfl rfl rfl rfl rfl) rfl rfl ?_ | refine oQ (Ld rfl rfl rfl rfl) rfl rfl ?_
                       first | refine oQ (Is0 rfl rfl rfl rfl rfl rfl) rfl rfl ?_ | refine oQ (Is1 rfl rfl rfl rfl rfl rfl) rfl rfl ?_
                       refine oS rfl rfl rfl rfl rfl ?_
                       refine OW_nil ?_
                       all_goals first | with_reducible refine bN ?_ | with_reducible refine bE ?_ | with_reducible refine bR ?_ | refine bX rfl ?_
                       all_goals with_reducible refine tN ?_
                       all_goals (
                        refine CW_region ?_
                        refine oM rfl rfl ?_
                        first | refine oQ (Q_binu rfl rfl rfl (by omega)) rfl rfl ?_ | refine oQ (Q_bin rfl rfl rfl) rfl rfl ?_
                        refine oA rfl rfl ?_
                        refine OW_nil ?_))
                    all_goals first
                      | with_reducible refine tR ?_
                      | with_reducible refine tE ?_
                      | (
                       with_reducible refine tN ?_
                       refine RW_succ ?_
                       refine CW_seq ?_
                       refine cR ?_
                       iterate 2 refine oM rfl rfl ?_
                       refine oQ (Q_bin rfl rfl rfl) rfl rfl ?_
                       refine oN ?_
                       first | refine cT rfl ?_ | refine cF rfl ?_ | refine CW_cond rfl (fun hc => ?_) (fun hc => ?_)
                       all_goals try simp only [s1, s2, s3, s4, s5, s6, s7, s8, s9, s10, s11, s12] at hc
                       all_goals try (exfalso; first | omega | (simp at hc; done) | contradiction; done)
                       all_goals first
                         | (
                          refine CW_skip ?_)
                         | (
                          refine CW_exit ?_)
                       all_goals first
                         | with_reducible refine tR ?_
                         | with_reducible refine tE ?_
                         | (
                          with_reducible refine tN ?_
                          refine CW_seq ?_
                          refine CW_block ?_
                          refine CW_region ?_
                          iterate 4 refine oM rfl rfl ?_
                          first | refine oQ (Q_binu rfl rfl rfl (by omega)) rfl rfl ?_ | refine oQ (Q_bin rfl rfl rfl) rfl rfl ?_
                          first | refine oQ (Is0 rfl rfl rfl rfl rfl rfl) rfl rfl ?_ | refine oQ (Is1 rfl rfl rfl rfl rfl rfl) rfl rfl ?_
                          first | refine oQ (Q_ldc rfl rfl rfl rfl rfl) rfl rfl ?_ | refine oQ (Ld rfl rfl rfl rfl) rfl rfl ?_
                          first | refine oQ (Is0 rfl rfl rfl rfl rfl rfl) rfl rfl ?_ | refine oQ (Is1 rfl rfl rfl rfl rfl rfl) rfl rfl ?_
                          refine oS rfl rfl rfl rfl rfl ?_
                          refine OW_nil ?_
                          all_goals first | with_reducible refine bN ?_ | with_reducible refine bE ?_ | with_reducible refine bR ?_ | refine bX rfl ?_
                          all_goals with_reducible refine tN ?_
                          all_goals (
                           refine CW_region ?_
                           refine oM rfl rfl ?_
                           first | refine oQ (Q_binu rfl rfl rfl (by omega)) rfl rfl ?_ | refine oQ (Q_bin rfl rfl rfl) rfl rfl ?_
                           refine oA rfl rfl ?_
                           refine OW_nil ?_))
                       all_goals first
                         | with_reducible refine tR ?_
                         | with_reducible refine tE ?_
                         | (
                          with_reducible refine tN ?_
                          exfalso; first | omega | (simp at hc; done) | (simp_all; done)))))
              all_goals first | with_reducible refine bN ?_ | with_reducible refine bE ?_ | with_reducible refine bR ?_ | refine bX rfl ?_))
          | (
           refine cR ?_
           iterate 2 refine oM rfl rfl ?_
           refine oQ (Q_call0 (hin) rfl rfl rfl) rfl rfl ?_
           refine oA rfl rfl ?_
           refine oN ?_
           refine cR ?_
           refine oA rfl rfl ?_
           refine oN ?_
           refine CW_seq ?_
           refine cR ?_
           refine oA rfl rfl ?_
           refine oN ?_
           refine CW_block ?_
           refine CW_rounds 4 ?_
           refine RW_succ ?_
           refine CW_seq ?_
           refine cR ?_
           iterate 2 refine oM rfl rfl ?_
           refine oQ (Q_bin rfl rfl rfl) rfl rfl ?_
           refine oN ?_
           first | refine cT rfl ?_ | refine cF rfl ?_ | refine CW_cond rfl (fun hc => ?_) (fun hc => ?_)
           all_goals try simp only [s1, s2, s3, s4, s5, s6, s7, s8, s9, s10, s11, s12] at hc
           all_goals try (exfalso; first | omega | (simp at hc; done) | contradiction; done)
           all_goals first
             | (
              refine CW_skip ?_)
             | (
              refine CW_exit ?_)
           all_goals first
             | with_reducible refine tR ?_
             | with_reducible refine tE ?_
             | (
              with_reducible refine tN ?_
              refine CW_seq ?_
              refine CW_block ?_
              refine cR ?_
              iterate 3 refine oM rfl rfl ?_
              first | refine oQ (Is0 rfl rfl rfl rfl rfl rfl) rfl rfl ?_ | refine oQ (Is1 rfl rfl rfl rfl rfl rfl) rfl rfl ?_
              first | refine oQ (Q_ldc rfl rfl rfl rfl rfl) rfl rfl ?_ | refine oQ (Ld rfl rfl rfl rfl) rfl rfl ?_
              iterate 2 refine oM rfl rfl ?_
              refine oMulN 12 12 rfl rfl (by omega) (by omega) (by decide) rfl (fun z41 hz41 hl41 hu41 => ?_)
              first | refine oQ (Q_binu rfl rfl rfl (by omega)) rfl rfl ?_ | refine oQ (Q_bin rfl rfl rfl) rfl rfl ?_
              refine oM rfl rfl ?_
              refine oMulN 156 12 rfl rfl (by omega) (by omega) (by decide) rfl (fun z44 hz44 hl44 hu44 => ?_)
              (have hmm := em12 hp z44); subst hz44 hz41; refine oQ (Q_call0 (l01Mod_con _ p (by omega) (by omega)) rfl rfl rfl) rfl rfl ?_
              refine oA rfl rfl ?_
              refine oN ?_
              refine CW_region ?_
              iterate 3 refine oM rfl rfl ?_
              first | refine oQ (Is0 rfl rfl rfl rfl rfl rfl) rfl rfl ?_ | refine oQ (Is1 rfl rfl rfl rfl rfl rfl) rfl rfl ?_
              refine oS rfl rfl rfl rfl rfl ?_
              refine OW_nil ?_
              all_goals first | with_reducible refine bN ?_ | with_reducible refine bE ?_ | with_reducible refine bR ?_ | refine bX rfl ?_
              all_goals with_reducible refine tN ?_
              all_goals (
               refine CW_region ?_
               refine oM rfl rfl ?_
               first | refine oQ (Q_binu rfl rfl rfl (by omega)) rfl rfl ?_ | refine oQ (Q_bin rfl rfl rfl) rfl rfl ?_
               refine oA rfl rfl ?_
               refine OW_nil ?_))
           all_goals first
             | with_reducible refine tR ?_
             | with_reducible refine tE ?_
             | (
              with_reducible refine tN ?_
              refine RW_succ ?_
              refine CW_seq ?_
              refine cR ?_
              iterate 2 refine oM rfl rfl ?_
              refine oQ (Q_bin rfl rfl rfl) rfl rfl ?_
              refine oN ?_
              first | refine cT rfl ?_ | refine cF rfl ?_ | refine CW_cond rfl (fun hc => ?_) (fun hc => ?_)
              all_goals try simp only [s1, s2, s3, s4, s5, s6, s7, s8, s9, s10, s11, s12] at hc
              all_goals try (exfalso; first | omega | (simp at hc; done) | contradiction; done)
              all_goals first
                | (
                 refine CW_skip ?_)
                | (
                 refine CW_exit ?_)
              all_goals first
                | with_reducible refine tR ?_
                | with_reducible refine tE ?_
                | (
                 with_reducible refine tN ?_
                 refine CW_seq ?_
                 refine CW_block ?_
                 refine cR ?_
                 iterate 3 refine oM rfl rfl ?_
                 first | refine oQ (Is0 rfl rfl rfl rfl rfl rfl) rfl rfl ?_ | refine oQ (Is1 rfl rfl rfl rfl rfl rfl) rfl rfl ?_
                 first | refine oQ (Q_ldc rfl rfl rfl rfl rfl) rfl rfl ?_ | refine oQ (Ld rfl rfl rfl rfl) rfl rfl ?_
                 iterate 2 refine oM rfl rfl ?_
                 refine oMulN 12 12 rfl rfl (by omega) (by omega) (by decide) rfl (fun z41 hz41 hl41 hu41 => ?_)
                 first | refine oQ (Q_binu rfl rfl rfl (by omega)) rfl rfl ?_ | refine oQ (Q_bin rfl rfl rfl) rfl rfl ?_
                 refine oM rfl rfl ?_
                 refine oMulN 156 12 rfl rfl (by omega) (by omega) (by decide) rfl (fun z44 hz44 hl44 hu44 => ?_)
                 (have hmm := em12 hp z44); subst hz44 hz41; refine oQ (Q_call0 (l01Mod_con _ p (by omega) (by omega)) rfl rfl rfl) rfl rfl ?_
                 refine oA rfl rfl ?_
                 refine oN ?_
                 refine CW_region ?_
                 iterate 3 refine oM rfl rfl ?_
                 first | refine oQ (Is0 rfl rfl rfl rfl rfl rfl) rfl rfl ?_ | refine oQ (Is1 rfl rfl rfl rfl rfl rfl) rfl rfl ?_
                 refine oS rfl rfl rfl rfl rfl ?_
                 refine OW_nil ?_
                 all_goals first | with_reducible refine bN ?_ | with_reducible refine bE ?_ | with_reducible refine bR ?_ | refine bX rfl ?_
                 all_goals with_reducible refine tN ?_
                 all_goals (
                  refine CW_region ?_
                  refine oM rfl rfl ?_
                  first | refine oQ (Q_binu rfl rfl rfl (by omega)) rfl rfl ?_ | refine oQ (Q_bin rfl rfl rfl) rfl rfl ?_
                  refine oA rfl rfl ?_
                  refine OW_nil ?_))
              all_goals first
                | with_reducible refine tR ?_
                | with_reducible refine tE ?_
                | (
                 with_reducible refine tN ?_
                 refine RW_succ ?_
                 refine CW_seq ?_
                 refine cR ?_
                 iterate 2 refine oM rfl rfl ?_
                 refine oQ (Q_bin rfl rfl rfl) rfl rfl ?_
                 refine oN ?_
                 first | refine cT rfl ?_ | refine cF rfl ?_ | refine CW_cond rfl (fun hc => ?_) (fun hc => ?_)
                 all_goals try simp only [s1, s2, s3, s4, s5, s6, s7, s8, s9, s10, s11, s12] at hc
                 all_goals try (exfalso; first | omega | (simp at hc; done) | contradiction; done)
                 all_goals first
                   | (
                    refine CW_skip ?_)
                   | (
                    refine CW_exit ?_)
                 all_goals first
                   | with_reducible refine tR ?_
                   | with_reducible refine tE ?_
                   | (
                    with_reducible refine tN ?_
                    refine CW_seq ?_
                    refine CW_block ?_
                    refine cR ?_
                    iterate 3 refine oM rfl rfl ?_
                    first | refine oQ (Is0 rfl rfl rfl rfl rfl rfl) rfl rfl ?_ | refine oQ (Is1 rfl rfl rfl rfl rfl rfl) rfl rfl ?_
                    first | refine oQ (Q_ldc rfl rfl rfl rfl rfl) rfl rfl ?_ | refine oQ (Ld rfl rfl rfl rfl) rfl rfl ?_
                    iterate 2 refine oM rfl rfl ?_
                    refine oMulN 12 12 rfl rfl (by omega) (by omega) (by decide) rfl (fun z41 hz41 hl41 hu41 => ?_)
                    first | refine oQ (Q_binu rfl rfl rfl (by omega)) rfl rfl ?_ | refine oQ (Q_bin rfl rfl rfl) rfl rfl ?_
                    refine oM rfl rfl ?_
                    refine oMulN 156 12 rfl rfl (by omega) (by omega) (by decide) rfl (fun z44 hz44 hl44 hu44 => ?_)
                    (have hmm := em12 hp z44); subst hz44 hz41; refine oQ (Q_call0 (l01Mod_con _ p (by omega) (by omega)) rfl rfl rfl) rfl rfl ?_
                    refine oA rfl rfl ?_
                    refine oN ?_
                    refine CW_region ?_
                    iterate 3 refine oM rfl rfl ?_
                    first | refine oQ (Is0 rfl rfl rfl rfl rfl rfl) rfl rfl ?_ | refine oQ (Is1 rfl rfl rfl rfl rfl rfl) rfl rfl ?_
                    refine oS rfl rfl rfl rfl rfl ?_
                    refine OW_nil ?_
                    all_goals first | with_reducible refine bN ?_ | with_reducible refine bE ?_ | with_reducible refine bR ?_ | refine bX rfl ?_
                    all_goals with_reducible refine tN ?_
                    all_goals (
                     refine CW_region ?_
                     refine oM rfl rfl ?_
                     first | refine oQ (Q_binu rfl rfl rfl (by omega)) rfl rfl ?_ | refine oQ (Q_bin rfl rfl rfl) rfl rfl ?_
                     refine oA rfl rfl ?_
                     refine OW_nil ?_))
                 all_goals first
                   | with_reducible refine tR ?_
                   | with_reducible refine tE ?_
                   | (
                    with_reducible refine tN ?_
                    refine RW_succ ?_
                    refine CW_seq ?_
                    refine cR ?_
                    iterate 2 refine oM rfl rfl ?_
                    refine oQ (Q_bin rfl rfl rfl) rfl rfl ?_
                    refine oN ?_
                    first | refine cT rfl ?_ | refine cF rfl ?_ | refine CW_cond rfl (fun hc => ?_) (fun hc => ?_)
                    all_goals try simp only [s1, s2, s3, s4, s5, s6, s7, s8, s9, s10, s11, s12] at hc
                    all_goals try (exfalso; first | omega | (simp at hc; done) | contradiction; done)
                    all_goals first
                      | (
                       refine CW_skip ?_)
                      | (
                       refine CW_exit ?_)
                    all_goals first
                      | with_reducible refine tR ?_
                      | with_reducible refine tE ?_
                      | (
                       with_reducible refine tN ?_
                       refine CW_seq ?_
                       refine CW_block ?_
                       refine cR ?_
                       iterate 3 refine oM rfl rfl ?_
                       first | refine oQ (Is0 rfl rfl rfl rfl rfl rfl) rfl rfl ?_ | refine oQ (Is1 rfl rfl rfl rfl rfl rfl) rfl rfl ?_
                       first | refine oQ (Q_ldc rfl rfl rfl rfl rfl) rfl rfl ?_ | refine oQ (Ld rfl rfl rfl rfl) rfl rfl ?_
                       iterate 2 refine oM rfl rfl ?_
                       refine oMulN 12 12 rfl rfl (by omega) (by omega) (by decide) rfl (fun z41 hz41 hl41 hu41 => ?_)
                       first | refine oQ (Q_binu rfl rfl rfl (by omega)) rfl rfl ?_ | refine oQ (Q_bin rfl rfl rfl) rfl rfl ?_
                       refine oM rfl rfl ?_
                       refine oMulN 156 12 rfl rfl (by omega) (by omega) (by decide) rfl (fun z44 hz44 hl44 hu44 => ?_)
                       (have hmm := em12 hp z44); subst hz44 hz41; refine oQ (Q_call0 (l01Mod_con _ p (by omega) (by omega)) rfl rfl rfl) rfl rfl ?_
                       refine oA rfl rfl ?_
                       refine oN ?_
                       refine CW_region ?_
                       iterate 3 refine oM rfl rfl ?_
                       first | refine oQ (Is0 rfl rfl rfl rfl rfl rfl) rfl rfl ?_ | refine oQ (Is1 rfl rfl rfl rfl rfl rfl) rfl rfl ?_
                       refine oS rfl rfl rfl rfl rfl ?_
                       refine OW_nil ?_
                       all_goals first | with_reducible refine bN ?_ | with_reducible refine bE ?_ | with_reducible refine bR ?_ | refine bX rfl ?_
                       all_goals with_reducible refine tN ?_
                       all_goals (
                        refine CW_region ?_
                        refine oM rfl rfl ?_
                        first | refine oQ (Q_binu rfl rfl rfl (by omega)) rfl rfl ?_ | refine oQ (Q_bin rfl rfl rfl) rfl rfl ?_
                        refine oA rfl rfl ?_
                        refine OW_nil ?_))
                    all_goals first
                      | with_reducible refine tR ?_
                      | with_reducible refine tE ?_
                      | (
                       with_reducible refine tN ?_
                       exfalso; first | omega | (simp at hc; done) | (simp_all; done)))))
           all_goals first | with_reducible refine bN ?_ | with_reducible refine bE ?_ | with_reducible refine bR ?_ | refine bX rfl ?_
           all_goals with_reducible refine tN ?_
           all_goals (
            refine cR ?_
            iterate 3 refine oM rfl rfl ?_
            first | refine oQ (Is0 rfl rfl rfl rfl rfl rfl) rfl rfl ?_ | refine oQ (Is1 rfl rfl rfl rfl rfl rfl) rfl rfl ?_
            first | refine oQ (Q_ldc rfl rfl rfl rfl rfl) rfl rfl ?_ | refine oQ (Ld rfl rfl rfl rfl) rfl rfl ?_
            iterate 2 refine oM rfl rfl ?_
            refine oMulN 12 12 rfl rfl (by omega) (by omega) (by decide) rfl (fun z57 hz57 hl57 hu57 => ?_)
            first | refine oQ (Q_binu rfl rfl rfl (by omega)) rfl rfl ?_ | refine oQ (Q_bin rfl rfl rfl) rfl rfl ?_
            subst hz57; refine oQ (Q_call0 (l01Mod_con _ p (by omega) (by omega)) rfl rfl rfl) rfl rfl ?_
            refine oQ (Q_bin rfl rfl rfl) rfl rfl ?_
            refine oN ?_
            first | refine cT rfl ?_ | refine cF rfl ?_ | refine CW_cond rfl (fun hc => ?_) (fun hc => ?_)
            all_goals try simp only [s1, s2, s3, s4, s5, s6, s7, s8, s9, s10, s11, s12] at hc
            all_goals try (exfalso; first | omega | (simp at hc; done) | contradiction; done)
            all_goals first
              | (
               refine CW_skip ?_)
              | (
               refine cR ?_
               refine oM rfl rfl ?_
               refine oA rfl rfl ?_
               refine oN ?_
               refine CW_ret ?_)))
        all_goals first
          | with_reducible refine tR ?_
          | with_reducible refine tE ?_
          | (
           with_reducible refine tN ?_
           refine cR ?_
           refine oM rfl rfl ?_
           first | refine oQ (Q_binu rfl rfl rfl (by omega)) rfl rfl ?_ | refine oQ (Q_bin rfl rfl rfl) rfl rfl ?_
           refine oA rfl rfl ?_
           refine oN ?_
           refine CW_region ?_
           refine oM rfl rfl ?_
           refine oA rfl rfl ?_
           refine OW_nil ?_)
        all_goals first | with_reducible refine bN ?_ | with_reducible refine bE ?_ | with_reducible refine bR ?_ | refine bX rfl ?_)
     all_goals first
       | with_reducible refine tR ?_
       | with_reducible refine tE ?_
       | (
        with_reducible refine tN ?_
        refine RW_succ ?_
        refine CW_seq ?_
        refine cR ?_
        refine oM rfl rfl ?_
        first | refine oQ (Q_len rfl rfl rfl rfl) rfl rfl ?_ | refine oQ (Q_len0 rfl rfl rfl rfl) rfl rfl ?_
        refine oQ (Q_bin rfl rfl rfl) rfl rfl ?_
        refine oN ?_
        first | refine cT rfl ?_ | refine cF rfl ?_ | refine CW_cond rfl (fun hc => ?_) (fun hc => ?_)
        all_goals try simp only [s1, s2, s3, s4, s5, s6, s7, s8, s9, s10, s11, s12] at hc
        all_goals try (exfalso; first | omega | (simp at hc; done) | contradiction; done)
        all_goals first
          | (
           refine CW_skip ?_)
          | (
           refine CW_exit ?_)
        all_goals first
          | with_reducible refine tR ?_
          | with_reducible refine tE ?_
          | (
           with_reducible refine tN ?_
           refine CW_block ?_
           refine cR ?_
           refine oM rfl rfl ?_
           first | refine oQ (Q_len rfl rfl rfl rfl) rfl rfl ?_ | refine oQ (Q_len0 rfl rfl rfl rfl) rfl rfl ?_
           first | refine oQ (Q_binu rfl rfl rfl (by omega)) rfl rfl ?_ | refine oQ (Q_bin rfl rfl rfl) rfl rfl ?_
           refine oA rfl rfl ?_
           refine oN ?_
           refine cR ?_
           refine oM rfl rfl ?_
           refine oMk rfl rfl rfl ⟨by decide, rfl, .inl ⟨rfl, rfl⟩⟩ rfl rfl rfl (by first | omega | (dsimp only; omega) | (simp; omega) | (simp; done)) (by first | omega | (dsimp only; omega) | (simp; omega) | (simp; done)) (by first | omega | (dsimp only; omega) | (simp; omega) | (simp; done)) rfl rfl ?_
           refine oA rfl rfl ?_
           refine oN ?_
           refine CW_seq ?_
           refine cR ?_
           refine oM rfl rfl ?_
           refine oQ (Q_bin rfl rfl rfl) rfl rfl ?_
           refine oN ?_
           first | refine cT rfl ?_ | refine cF rfl ?_ | refine CW_cond rfl (fun hc => ?_) (fun hc => ?_)
           all_goals try simp only [s1, s2, s3, s4, s5, s6, s7, s8, s9, s10, s11, s12] at hc
           all_goals try (exfalso; first | omega | (simp at hc; done) | contradiction; done)
           all_goals first
             | (
              refine CW_seq ?_
              refine cR ?_
              refine oM rfl rfl ?_
              first | refine oQ (Is0 rfl rfl rfl rfl rfl rfl) rfl rfl ?_ | refine oQ (Is1 rfl rfl rfl rfl rfl rfl) rfl rfl ?_
              first | refine oQ (Q_ldc rfl rfl rfl rfl rfl) rfl rfl ?_ | refine oQ (Ld rfl rfl rfl rfl) rfl rfl ?_
              refine oQ (Q_bin rfl rfl rfl) rfl rfl ?_
              refine oN ?_
              first | refine cT rfl ?_ | refine cF rfl ?_ | refine CW_cond rfl (fun hc => ?_) (fun hc => ?_)
              all_goals try simp only [s1, s2, s3, s4, s5, s6, s7, s8, s9, s10, s11, s12] at hc
              all_goals try (exfalso; first | omega | (simp at hc; done) | contradiction; done)
              all_goals first
                | (
                 refine CW_skip ?_)
                | (
                 refine cR ?_
                 refine oM rfl rfl ?_
                 refine oA rfl rfl ?_
                 refine oN ?_
                 refine CW_ret ?_)
              all_goals first
                | with_reducible refine tR ?_
                | with_reducible refine tE ?_
                | (
                 with_reducible refine tN ?_
                 refine cR ?_
                 refine oA rfl rfl ?_
                 refine oN ?_
                 refine CW_block ?_
                 refine CW_rounds 4 ?_
                 refine RW_succ ?_
                 refine CW_seq ?_
                 refine cR ?_
                 iterate 2 refine oM rfl rfl ?_
                 refine oQ (Q_bin rfl rfl rfl) rfl rfl ?_
                 refine oN ?_
                 first | refine cT rfl ?_ | refine cF rfl ?_ | refine CW_cond rfl (fun hc => ?_) (fun hc => ?_)
                 all_goals try simp only [s1, s2, s3, s4, s5, s6, s7, s8, s9, s10, s11, s12] at hc
                 all_goals try (exfalso; first | omega | (simp at hc; done) | contradiction; done)
                 all_goals first
                   | (
                    refine CW_skip ?_)
                   | (
                    refine CW_exit ?_)
                 all_goals first
                   | with_reducible refine tR ?_
                   | with_reducible refine tE ?_
                   | (
                    with_reducible refine tN ?_
                    refine CW_seq ?_
                    refine CW_block ?_
                    refine CW_region ?_
                    iterate 4 refine oM rfl rfl ?_
                    first | refine oQ (Q_binu rfl rfl rfl (by omega)) rfl rfl ?_ | refine oQ (Q_bin rfl rfl rfl) rfl rfl ?_
                    first | refine oQ (Is0 rfl rfl rfl rfl rfl rfl) rfl rfl ?_ | refine oQ (Is1 rfl rfl rfl rfl rfl rfl) rfl rfl ?_
                    first | refine oQ (Q_ldc rfl rfl rfl rfl rfl) rfl rfl ?_ | refine oQ (Ld rfl rfl rfl rfl) rfl rfl ?_
                    first | refine oQ (Is0 rfl rfl rfl rfl rfl rfl) rfl rfl ?_ | refine oQ (Is1 rfl rfl rfl rfl rfl rfl) rfl rfl ?_
                    refine oS rfl rfl rfl rfl rfl ?_
                    refine OW_nil ?_
                    all_goals first | with_reducible refine bN ?_ | with_reducible refine bE ?_ | with_reducible refine bR ?_ | refine bX rfl ?_
                    all_goals with_reducible refine tN ?_
                    all_goals (
                     refine CW_region ?_
                     refine oM rfl rfl ?_
                     first | refine oQ (Q_binu rfl rfl rfl (by omega)) rfl rfl ?_ | refine oQ (Q_bin rfl rfl rfl) rfl rfl ?_
                     refine oA rfl rfl ?_
                     refine OW_nil ?_))
                 all_goals first
                   | with_reducible refine tR ?_
                   | with_reducible refine tE ?_
                   | (
                    with_reducible refine tN ?_
                    refine RW_succ ?_
                    refine CW_seq ?_
                    refine cR ?_
                    iterate 2 refine oM rfl rfl ?_
                    refine oQ (Q_bin rfl rfl rfl) rfl rfl ?_
                    refine oN ?_
                    first | refine cT rfl ?_ | refine cF rfl ?_ | refine CW_cond rfl (fun hc => ?_) (fun hc => ?_)
                    all_goals try simp only [s1, s2, s3, s4, s5, s6, s7, s8, s9, s10, s11, s12] at hc
                    all_goals try (exfalso; first | omega | (simp at hc; done) | contradiction; done)
                    all_goals first
                      | (
                       refine CW_skip ?_)
                      | (
                       refine CW_exit ?_)
                    all_goals first
                      | with_reducible refine tR ?_
                      | with_reducible refine tE ?_
                      | (
                       with_reducible refine tN ?_
                       refine CW_seq ?_
                       refine CW_block ?_
                       refine CW_region ?_
                       iterate 4 refine oM rfl rfl ?_
                       first | refine oQ (Q_binu rfl rfl rfl (by omega)) rfl rfl ?_ | refine oQ (Q_bin rfl rfl rfl) rfl rfl ?_
                       first | refine oQ (Is0 rfl rfl rfl rfl rfl rfl) rfl rfl ?_ | refine oQ (Is1 rfl rfl rfl rfl rfl rfl) rfl rfl ?_
                       first | refine oQ (Q_ldc rfl rfl rfl rfl rfl) rfl rfl ?_ | refine oQ (Ld rfl rfl rfl rfl) rfl rfl ?_
                       first | refine oQ (Is0 rfl rfl rfl rfl rfl rfl) rfl rfl ?_ | refine oQ (Is1 rfl rfl rfl rfl rfl rfl) rfl rfl ?_
                       refine oS rfl rfl rfl rfl rfl ?_
                       refine OW_nil ?_
                       all_goals first | with_reducible refine bN ?_ | with_reducible refine bE ?_ | with_reducible refine bR ?_ | refine bX rfl ?_
                       all_goals with_reducible refine tN ?_
                       all_goals (
                        refine CW_region ?_
                        refine oM rfl rfl ?_
                        first | refine oQ (Q_binu rfl rfl rfl (by omega)) rfl rfl ?_ | refine oQ (Q_bin rfl rfl rfl) rfl rfl ?_
                        refine oA rfl rfl ?_
                        refine OW_nil ?_))
                    all_goals first
                      | with_reducible refine tR ?_
                      | with_reducible refine tE ?_
                      | (
                       with_reducible refine tN ?_
                       refine RW_succ ?_
                       refine CW_seq ?_
                       refine cR ?_
                       iterate 2 refine oM rfl rfl ?_
                       refine oQ (Q_bin rfl rfl rfl) rfl rfl ?_
                       refine oN ?_
                       first | refine cT rfl ?_ | refine cF rfl ?_ | refine CW_cond rfl (fun hc => ?_) (fun hc => ?_)
                       all_goals try simp only [s1, s2, s3, s4, s5, s6, s7, s8, s9, s10, s11, s12] at hc
                       all_goals try (exfalso; first | omega | (simp at hc; done) | contradiction; done)
                       all_goals first
                         | (
                          refine CW_skip ?_)
                         | (
                          refine CW_exit ?_)
                       all_goals first
                         | with_reducible refine tR ?_
                         | with_reducible refine tE ?_
                         | (
                          with_reducible refine tN ?_
                          refine CW_seq ?_
                          refine CW_block ?_
                          refine CW_region ?_
                          iterate 4 refine oM rfl rfl ?_
                          first | refine oQ (Q_binu rfl rfl rfl (by omega)) rfl rfl ?_ | refine oQ (Q_bin rfl rfl rfl) rfl rfl ?_
                          first | refine oQ (Is0 rfl rfl rfl rfl rfl rfl) rfl rfl ?_ | refine oQ (Is1 rfl rfl rfl rfl rfl rfl) rfl rfl ?_
                          first | refine oQ (Q_ldc rfl rfl rfl rfl rfl) rfl rfl ?_ | refine oQ (Ld rfl rfl rfl rfl) rfl rfl ?_
                          first | refine oQ (Is0 rfl rfl rfl rfl rfl rfl) rfl rfl ?_ | refine oQ (Is1 rfl rfl rfl rfl rfl rfl) rfl rfl ?_
                          refine oS rfl rfl rfl rfl rfl ?_
                          refine OW_nil ?_
                          all_goals first | with_reducible refine bN ?_ | with_reducible refine bE ?_ | with_reducible refine bR ?_ | refine bX rfl ?_
                          all_goals with_reducible refine tN ?_
                          all_goals (
                           refine CW_region ?_
                           refine oM rfl rfl ?_
                           first | refine oQ (Q_binu rfl rfl rfl (by omega)) rfl rfl ?_ | refine oQ (Q_bin rfl rfl rfl) rfl rfl ?_
                           refine oA rfl rfl ?_
                           refine OW_nil ?_))
                       all_goals first
                         | with_reducible refine tR ?_
                         | with_reducible refine tE ?_
                         | (
                          with_reducible refine tN ?_
                          refine RW_succ ?_
                          refine CW_seq ?_
                          refine cR ?_
                          iterate 2 refine oM rfl rfl ?_
                          refine oQ (Q_bin rfl rfl rfl) rfl rfl ?_
                          refine oN ?_
                          first | refine cT rfl ?_ | refine cF rfl ?_ | refine CW_cond rfl (fun hc => ?_) (fun hc => ?_)
                          all_goals try simp only [s1, s2, s3, s4, s5, s6, s7, s8, s9, s10, s11, s12] at hc
                          all_goals try (exfalso; first | omega | (simp at hc; done) | contradiction; done)
                          all_goals first
                            | (
                             refine CW_skip ?_)
                            | (
                             refine CW_exit ?_)
                          all_goals first
                            | with_reducible refine tR ?_
                            | with_reducible refine tE ?_
                            | (
                             with_reducible refine tN ?_
                             refine CW_seq ?_
                             refine CW_block ?_
                             refine CW_region ?_
                             iterate 4 refine oM rfl rfl ?_
                             first | refine oQ (Q_binu rfl rfl rfl (by omega)) rfl rfl ?_ | refine oQ (Q_bin rfl rfl rfl) rfl rfl ?_
                             first | refine oQ (Is0 rfl rfl rfl rfl rfl rfl) rfl rfl ?_ | refine oQ (Is1 rfl rfl rfl rfl rfl rfl) rfl rfl ?_
                             first | refine oQ (Q_ldc rfl rfl rfl rfl rfl) rfl rfl ?_ | refine oQ (Ld rfl rfl rfl rfl) rfl rfl ?_
                             first | refine oQ (Is0 rfl rfl rfl rfl rfl rfl) rfl rfl ?_ | refine oQ (Is1 rfl rfl rfl rfl rfl rfl) rfl rfl ?_
                             refine oS rfl rfl rfl rfl rfl ?_
                             refine OW_nil ?_
                             all_goals first | with_reducible refine bN ?_ | with_reducible refine bE ?_ | with_reducible refine bR ?_ | refine bX rfl ?_
                             all_goals with_reducible refine tN ?_
                             all_goals (
                              refine CW_region ?_
                              refine oM rfl rfl ?_
                              first | refine oQ (Q_binu rfl rfl rfl (by omega)) rfl rfl ?_ | refine oQ (Q_bin rfl rfl rfl) rfl rfl ?_
                              refine oA rfl rfl ?_
                              refine OW_nil ?_))
                          all_goals first
                            | with_reducible refine tR ?_
                            | with_reducible refine tE ?_
                            | (
                             with_reducible refine tN ?_
                             exfalso; first | omega | (simp at hc; done) | (simp_all; done)))))
                 all_goals first | with_reducible refine bN ?_ | with_reducible refine bE ?_ | with_reducible refine bR ?_ | refine bX rfl ?_))
             | (
              refine cR ?_
              iterate 2 refine oM rfl rfl ?_
              refine oQ (Q_call0 (hin) rfl rfl rfl) rfl rfl ?_
              refine oA rfl rfl ?_
              refine oN ?_
              refine cR ?_
              refine oA rfl rfl ?_
              refine oN ?_
              refine CW_seq ?_
              refine cR ?_
              refine oA rfl rfl ?_
              refine oN ?_
              refine CW_block ?_
              refine CW_rounds 4 ?_
              refine RW_succ ?_
              refine CW_seq ?_
              refine cR ?_
              iterate 2 refine oM rfl rfl ?_
              refine oQ (Q_bin rfl rfl rfl) rfl rfl ?_
              refine oN ?_
              first | refine cT rfl ?_ | refine cF rfl ?_ | refine CW_cond rfl (fun hc => ?_) (fun hc => ?_)
              all_goals try simp only [s1, s2, s3, s4, s5, s6, s7, s8, s9, s10, s11, s12] at hc
              all_goals try (exfalso; first | omega | (simp at hc; done) | contradiction; done)
              all_goals first
                | (
                 refine CW_skip ?_)
                | (
                 refine CW_exit ?_)
              all_goals first
                | with_reducible refine tR ?_
                | with_reducible refine tE ?_
                | (
                 with_reducible refine tN ?_
                 refine CW_seq ?_
                 refine CW_block ?_
                 refine cR ?_
                 iterate 3 refine oM rfl rfl ?_
                 first | refine oQ (Is0 rfl rfl rfl rfl rfl rfl) rfl rfl ?_ | refine oQ (Is1 rfl rfl rfl rfl rfl rfl) rfl rfl ?_
                 first | refine oQ (Q_ldc rfl rfl rfl rfl rfl) rfl rfl ?_ | refine oQ (Ld rfl rfl rfl rfl) rfl rfl ?_
                 iterate 2 refine oM rfl rfl ?_
                 refine oMulN 12 12 rfl rfl (by omega) (by omega) (by decide) rfl (fun z41 hz41 hl41 hu41 => ?_)
                 first | refine oQ (Q_binu rfl rfl rfl (by omega)) rfl rfl ?_ | refine oQ (Q_bin rfl rfl rfl) rfl rfl ?_
                 refine oM rfl rfl ?_
                 refine oMulN 156 12 rfl rfl (by omega) (by omega) (by decide) rfl (fun z44 hz44 hl44 hu44 => ?_)
                 (have hmm := em12 hp z44); subst hz44 hz41; refine oQ (Q_call0 (l01Mod_con _ p (by omega) (by omega)) rfl rfl rfl) rfl rfl ?_
                 refine oA rfl rfl ?_
                 refine oN ?_
                 refine CW_region ?_
                 iterate 3 refine oM rfl rfl ?_
                 first | refine oQ (Is0 rfl rfl rfl rfl rfl rfl) rfl rfl ?_ | refine oQ (Is1 rfl rfl rfl rfl rfl rfl) rfl rfl ?_
                 refine oS rfl rfl rfl rfl rfl ?_
                 refine OW_nil ?_
                 all_goals first | with_reducible refine bN ?_ | with_reducible refine bE ?_ | with_reducible refine bR ?_ | refine bX rfl ?_
                 all_goals with_reducible refine tN ?_
                 all_goals (
                  refine CW_region ?_
                  refine oM rfl rfl ?_
                  first | refine oQ (Q_binu rfl rfl rfl (by omega)) rfl rfl ?_ | refine oQ (Q_bin rfl rfl rfl) rfl rfl ?_
                  refine oA rfl rfl ?_
                  refine OW_nil ?_))
              all_goals first
                | with_reducible refine tR ?_
                | with_reducible refine tE ?_
                | (
                 with_reducible refine tN ?_
                 refine RW_succ ?_
                 refine CW_seq ?_
                 refine cR ?_
                 iterate 2 refine oM rfl rfl ?_
                 refine oQ (Q_bin rfl rfl rfl) rfl rfl ?_
                 refine oN ?_
                 first | refine cT rfl ?_ | refine cF rfl ?_ | refine CW_cond rfl (fun hc => ?_) (fun hc => ?_)
                 all_goals try simp only [s1, s2, s3, s4, s5, s6, s7, s8, s9, s10, s11, s12] at hc
                 all_goals try (exfalso; first | omega | (simp at hc; done) | contradiction; done)
                 all_goals first
                   | (
                    refine CW_skip ?_)
                   | (
                    refine CW_exit ?_)
                 all_goals first
                   | with_reducible refine tR ?_
                   | with_reducible refine tE ?_
                   | (
                    with_reducible refine tN ?_
                    refine CW_seq ?_
                    refine CW_block ?_
                    refine cR ?_
                    iterate 3 refine oM rfl rfl ?_
                    first | refine oQ (Is0 rfl rfl rfl rfl rfl rfl) rfl rfl ?_ | refine oQ (Is1 rfl rfl rfl rfl rfl rfl) rfl rfl ?_
                    first | refine oQ (Q_ldc rfl rfl rfl rfl rfl) rfl rfl ?_ | refine oQ (Ld rfl rfl rfl rfl) rfl rfl ?_
                    iterate 2 refine oM rfl rfl ?_
                    refine oMulN 12 12 rfl rfl (by omega) (by omega) (by decide) rfl (fun z41 hz41 hl41 hu41 => ?_)
                    first | refine oQ (Q_binu rfl rfl rfl (by omega)) rfl rfl ?_ | refine oQ (Q_bin rfl rfl rfl) rfl rfl ?_
                    refine oM rfl rfl ?_
                    refine oMulN 156 12 rfl rfl (by omega) (by omega) (by decide) rfl (fun z44 hz44 hl44 hu44 => ?_)
                    (have hmm := em12 hp z44); subst hz44 hz41; refine oQ (Q_call0 (l01Mod_con _ p (by omega) (by omega)) rfl rfl rfl) rfl rfl ?_
                    refine oA rfl rfl ?_
                    refine oN ?_
                    refine CW_region ?_
                    iterate 3 refine oM rfl rfl ?_
                    first | refine oQ (Is0 rfl rfl rfl rfl rfl rfl) rfl rfl ?_ | refine oQ (Is1 rfl rfl rfl rfl rfl rfl) rfl rfl ?_
                    refine oS rfl rfl rfl rfl rfl ?_
                    refine OW_nil ?_
                    all_goals first | with_reducible refine bN ?_ | with_reducible refine bE ?_ | with_reducible refine bR ?_ | refine bX rfl ?_
                    all_goals with_reducible refine tN ?_
                    all_goals (
                     refine CW_region ?_
                     refine oM rfl rfl ?_
                     first | refine oQ (Q_binu rfl rfl rfl (by omega)) rfl rfl ?_ | refine oQ (Q_bin rfl rfl rfl) rfl rfl ?_
                     refine oA rfl rfl ?_
                     refine OW_nil ?_))
                 all_goals first
                   | with_reducible refine tR ?_
                   | with_reducible refine tE ?_
                   | (
                    with_reducible refine tN ?_
                    refine RW_succ ?_
                    refine CW_seq ?_
                    refine cR ?_
                    iterate 2 refine oM rfl rfl ?_
                    refine oQ (Q_bin rfl rfl rfl) rfl rfl ?_
                    refine oN ?_
                    first | refine cT rfl ?_ | refine cF rfl ?_ | refine CW_cond rfl (fun hc => ?_) (fun hc => ?_)
                    all_goals try simp only [s1, s2, s3, s4, s5, s6, s7, s8, s9, s10, s11, s12] at hc
                    all_goals try (exfalso; first | omega | (simp at hc; done) | contradiction; done)
                    all_goals first
                      | (
                       refine CW_skip ?_)
                      | (
                       refine CW_exit ?_)
                    all_goals first
                      | with_reducible refine tR ?_
                      | with_reducible refine tE ?_
                      | (
                       with_reducible refine tN ?_
                       refine CW_seq ?_
                       refine CW_block ?_
                       refine cR ?_
                       iterate 3 refine oM rfl rfl ?_
                       first | refine oQ (Is0 rfl rfl rfl rfl rfl rfl) rfl rfl ?_ | refine oQ (Is1 rfl rfl rfl rfl rfl rfl) rfl rfl ?_
                       first | refine oQ (Q_ldc rfl rfl rfl rfl rfl) rfl rfl ?_ | refine oQ (Ld rfl rfl rfl rfl) rfl rfl ?_
                       iterate 2 refine oM rfl rfl ?_
                       refine oMulN 12 12 rfl rfl (by omega) (by omega) (by decide) rfl (fun z41 hz41 hl41 hu41 => ?_)
                       first | refine oQ (Q_binu rfl rfl rfl (by omega)) rfl rfl ?_ | refine oQ (Q_bin rfl rfl rfl) rfl rfl ?_
                       refine oM rfl rfl ?_
                       refine oMulN 156 12 rfl rfl (by omega) (by omega) (by decide) rfl (fun z44 hz44 hl44 hu44 => ?_)
                       (have hmm := em12 hp z44); subst hz44 hz41; refine oQ (Q_call0 (l01Mod_con _ p (by omega) (by omega)) rfl rfl rfl) rfl rfl ?_
                       refine oA rfl rfl ?_
                       refine oN ?_
                       refine CW_region ?_
                       iterate 3 refine oM rfl rfl ?_
                       first | refine oQ (Is0 rfl rfl rfl rfl rfl rfl) rfl rfl ?_ | refine oQ (Is1 rfl rfl rfl rfl rfl rfl) rfl rfl ?_
                       refine oS rfl rfl rfl rfl rfl ?_
                       refine OW_nil ?_
                       all_goals first | with_reducible refine bN ?_ | with_reducible refine bE ?_ | with_reducible refine bR ?_ | refine bX rfl ?_
                       all_goals with_reducible refine tN ?_
                       all_goals (
                        refine CW_region ?_
                        refine oM rfl rfl ?_
                        first | refine oQ (Q_binu rfl rfl rfl (by omega)) rfl rfl ?_ | refine oQ (Q_bin rfl rfl rfl) rfl rfl ?_
                        refine oA rfl rfl ?_
                        refine OW_nil ?_))
                    all_goals first
                      | with_reducible refine tR ?_
                      | with_reducible refine tE ?_
                      | (
                       with_reducible refine tN ?_
                       refine RW_succ ?_
                       refine CW_seq ?_
                       refine cR ?_
                       iterate 2 refine oM rfl rfl ?_
                       refine oQ (Q_bin rfl rfl rfl) rfl rfl ?_
                       refine oN ?_
                       first | refine cT rfl ?_ | refine cF rfl ?_ | refine CW_cond rfl (fun hc => ?_) (fun hc => ?_)
                       all_goals try simp only [s1, s2, s3, s4, s5, s6, s7, s8, s9, s10, s11, s12] at hc
                       all_goals try (exfalso; first | omega | (simp at hc; done) | contradiction; done)
                       all_goals first
                         | (
                          refine CW_skip ?_)
                         | (
                          refine CW_exit ?_)
                       all_goals first
                         | with_reducible refine tR ?_
                         | with_reducible refine tE ?_
                         | (
                          with_reducible refine tN ?_
                          refine CW_seq ?_
                          refine CW_block ?_
                          refine cR ?_
                          iterate 3 refine oM rfl rfl ?_
                          first | refine oQ (Is0 rfl rfl rfl rfl rfl rfl) rfl rfl ?_ | refine oQ (Is1 rfl rfl rfl rfl rfl rfl) rfl rfl ?_
                          first | refine oQ (Q_ldc rfl rfl rfl rfl rfl) rfl rfl ?_ | refine oQ (Ld rfl rfl rfl rfl) rfl rfl ?_
                          iterate 2 refine oM rfl rfl ?_
                          refine oMulN 12 12 rfl rfl (by omega) (by omega) (by decide) rfl (fun z41 hz41 hl41 hu41 => ?_)
                          first | refine oQ (Q_binu rfl rfl rfl (by omega)) rfl rfl ?_ | refine oQ (Q_bin rfl rfl rfl) rfl rfl ?_
                          refine oM rfl rfl ?_
                          refine oMulN 156 12 rfl rfl (by omega) (by omega) (by decide) rfl (fun z44 hz44 hl44 hu44 => ?_)
                          (have hmm := em12 hp z44); subst hz44 hz41; refine oQ (Q_call0 (l01Mod_con _ p (by omega) (by omega)) rfl rfl rfl) rfl rfl ?_
                          refine oA rfl rfl ?_
                          refine oN ?_
                          refine CW_region ?_
                          iterate 3 refine oM rfl rfl ?_
                          first | refine oQ (Is0 rfl rfl rfl rfl rfl rfl) rfl rfl ?_ | refine oQ (Is1 rfl rfl rfl rfl rfl rfl) rfl rfl ?_
                          refine oS rfl rfl rfl rfl rfl ?_
                          refine OW_nil ?_
                          all_goals first | with_reducible refine bN ?_ | with_reducible refine bE ?_ | with_reducible refine bR ?_ | refine bX rfl ?_
                          all_goals with_reducible refine tN ?_
                          all_goals (
                           refine CW_region ?_
                           refine oM rfl rfl ?_
                           first | refine oQ (Q_binu rfl rfl rfl (by omega)) rfl rfl ?_ | refine oQ (Q_bin rfl rfl rfl) rfl rfl ?_
                           refine oA rfl rfl ?_
                           refine OW_nil ?_))
                       all_goals first
                         | with_reducible refine tR ?_
                         | with_reducible refine tE ?_
                         | (
                          with_reducible refine tN ?_
                          exfalso; first | omega | (simp at hc; done) | (simp_all; done)))))
              all_goals first | with_reducible refine bN ?_ | with_reducible refine bE ?_ | with_reducible refine bR ?_ | refine bX rfl ?_
              all_goals with_reducible refine tN ?_
              all_goals (
               refine cR ?_
               iterate 3 refine oM rfl rfl ?_
               first | refine oQ (Is0 rfl rfl rfl rfl rfl rfl) rfl rfl ?_ | refine oQ (Is1 rfl rfl rfl rfl rfl rfl) rfl rfl ?_
               first | refine oQ (Q_ldc rfl rfl rfl rfl rfl) rfl rfl ?_ | refine oQ (Ld rfl rfl rfl rfl) rfl rfl ?_
               iterate 2 refine oM rfl rfl ?_
               refine oMulN 12 12 rfl rfl (by omega) (by omega) (by decide) rfl (fun z57 hz57 hl57 hu57 => ?_)
               first | refine oQ (Q_binu rfl rfl rfl (by omega)) rfl rfl ?_ | refine oQ (Q_bin rfl rfl rfl) rfl rfl ?_
               subst hz57; refine oQ (Q_call0 (l01Mod_con _ p (by omega) (by omega)) rfl rfl rfl) rfl rfl ?_
               refine oQ (Q_bin rfl rfl rfl) rfl rfl ?_
               refine oN ?_
               first | refine cT rfl ?_ | refine cF rfl ?_ | refine CW_cond rfl (fun hc => ?_) (fun hc => ?_)
               all_goals try simp only [s1, s2, s3, s4, s5, s6, s7, s8, s9, s10, s11, s12] at hc
               all_goals try (exfalso; first | omega | (simp at hc; done) | contradiction; done)
               all_goals first
                 | (
                  refine CW_skip ?_)
                 | (
                  refine cR ?_
                  refine oM rfl rfl ?_
                  refine oA rfl rfl ?_
                  refine oN ?_
                  refine CW_ret ?_)))
           all_goals first
             | with_reducible refine tR ?_
             | with_reducible refine tE ?_
             | (
              with_reducible refine tN ?_
              refine cR ?_
              refine oM rfl rfl ?_
              first | refine oQ (Q_binu rfl rfl rfl (by omega)) rfl rfl ?_ | refine oQ (Q_bin rfl rfl rfl) rfl rfl ?_
              refine oA rfl rfl ?_
              refine oN ?_
              refine CW_region ?_
              refine oM rfl rfl ?_
              refine oA rfl rfl ?_
              refine OW_nil ?_)
           all_goals first | with_reducible refine bN ?_ | with_reducible refine bE ?_ | with_reducible refine bR ?_ | refine bX rfl ?_)
        all_goals first
          | with_reducible refine tR ?_
          | with_reducible refine tE ?_
          | (
           with_reducible refine tN ?_
           refine RW_succ ?_
           refine CW_seq ?_
           refine cR ?_
           refine oM rfl rfl ?_
           first | refine oQ (Q_len rfl rfl rfl rfl) rfl rfl ?_ | refine oQ (Q_len0 rfl rfl rfl rfl) rfl rfl ?_
           refine oQ (Q_bin rfl rfl rfl) rfl rfl ?_
           refine oN ?_
           first | refine cT rfl ?_ | refine cF rfl ?_ | refine CW_cond rfl (fun hc => ?_) (fun hc => ?_)
           all_goals try simp only [s1, s2, s3, s4, s5, s6, s7, s8, s9, s10, s11, s12] at hc
           all_goals try (exfalso; first | omega | (simp at hc; done) | contradiction; done)
           all_goals first
             | (
              refine CW_skip ?_)
             | (
              refine CW_exit ?_)
           all_goals first
             | with_reducible refine tR ?_
             | with_reducible refine tE ?_
             | (
              with_reducible refine tN ?_
              refine CW_block ?_
              refine cR ?_
              refine oM rfl rfl ?_
              first | refine oQ (Q_len rfl rfl rfl rfl) rfl rfl ?_ | refine oQ (Q_len0 rfl rfl rfl rfl) rfl rfl ?_
              first | refine oQ (Q_binu rfl rfl rfl (by omega)) rfl rfl ?_ | refine oQ (Q_bin rfl rfl rfl) rfl rfl ?_
              refine oA rfl rfl ?_
              refine oN ?_
              refine cR ?_
              refine oM rfl rfl ?_
              refine oMk rfl rfl rfl ⟨by decide, rfl, .inl ⟨rfl, rfl⟩⟩ rfl rfl rfl (by first | omega | (dsimp only; omega) | (simp; omega) | (simp; done)) (by first | omega | (dsimp only; omega) | (simp; omega) | (simp; done)) (by first | omega | (dsimp only; omega) | (simp; omega) | (simp; done)) rfl rfl ?_
              refine oA rfl rfl ?_
              refine oN ?_
              refine CW_seq ?_
              refine cR ?_
              refine oM rfl rfl ?_
              refine oQ (Q_bin rfl rfl rfl) rfl rfl ?_
              refine oN ?_
              first | refine cT rfl ?_ | refine cF rfl ?_ | refine CW_cond rfl (fun hc => ?_) (fun hc => ?_)
              all_goals try simp only [s1, s2, s3, s4, s5, s6, s7, s8, s9, s10, s11, s12] at hc
              all_goals try (exfalso; first | omega | (simp at hc; done) | contradiction; done)
              all_goals first
                | (
                 refine CW_seq ?_
                 refine cR ?_
                 refine oM rfl rfl ?_
                 first | refine oQ (Is0 rfl rfl rfl rfl rfl rfl) rfl rfl ?_ | refine oQ (Is1 rfl rfl rfl rfl rfl rfl) rfl rfl ?_
                 first | refine oQ (Q_ldc rfl rfl rfl rfl rfl) rfl rfl ?_ | refine oQ (Ld rfl rfl rfl rfl) rfl rfl ?_
                 refine oQ (Q_bin rfl rfl rfl) rfl rfl ?_
                 refine oN ?_
                 first | refine cT rfl ?_ | refine cF rfl ?_ | refine CW_cond rfl (fun hc => ?_) (fun hc => ?_)
                 all_goals try simp only [s1, s2, s3, s4, s5, s6, s7, s8, s9, s10, s11, s12] at hc
                 all_goals try (exfalso; first | omega | (simp at hc; done) | contradiction; done)
                 all_goals first
                   | (
                    refine CW_skip ?_)
                   | (
                    refine cR ?_
                    refine oM rfl rfl ?_
                    refine oA rfl rfl ?_
                    refine oN ?_
                    refine CW_ret ?_)
                 all_goals first
                   | with_reducible refine tR ?_
                   | with_reducible refine tE ?_
                   | (
                    with_reducible refine tN ?_
                    refine cR ?_
                    refine oA rfl rfl ?_
                    refine oN ?_
                    refine CW_block ?_
                    refine CW_rounds 4 ?_
                    refine RW_succ ?_
                    refine CW_seq ?_
                    refine cR ?_
                    iterate 2 refine oM rfl rfl ?_
                    refine oQ (Q_bin rfl rfl rfl) rfl rfl ?_
                    refine oN ?_
                    first | refine cT rfl ?_ | refine cF rfl ?_ | refine CW_cond rfl (fun hc => ?_) (fun hc => ?_)
                    all_goals try simp only [s1, s2, s3, s4, s5, s6, s7, s8, s9, s10, s11, s12] at hc
                    all_goals try (exfalso; first | omega | (simp at hc; done) | contradiction; done)
                    all_goals first
                      | (
                       refine CW_skip ?_)
                      | (
                       refine CW_exit ?_)
                    all_goals first
                      | with_reducible refine tR ?_
                      | with_reducible refine tE ?_
                      | (
                       with_reducible refine tN ?_
                       refine CW_seq ?_
                       refine CW_block ?_
                       refine CW_region ?_
                       iterate 4 refine oM rfl rfl ?_
                       first | refine oQ (Q_binu rfl rfl rfl (by omega)) rfl rfl ?_ | refine oQ (Q_bin rfl rfl rfl) rfl rfl ?_
                       first | refine oQ (Is0 rfl rfl rfl rfl rfl rfl) rfl rfl ?_ | refine oQ (Is1 rfl rfl rfl rfl rfl rfl) rfl rfl ?_
                       first | refine oQ (Q_ldc rfl rfl rfl rfl rfl) rfl rfl ?_ | refine oQ (Ld rfl rfl rfl rfl) rfl rfl ?_
                       first | refine oQ (Is0 rfl rfl rfl rfl rfl rfl) rfl rfl ?_ | refine oQ (Is1 rfl rfl rfl rfl rfl rfl) rfl rfl ?_
                       refine oS rfl rfl rfl rfl rfl ?_
                       refine OW_nil ?_
                       all_goals first | with_reducible refine bN ?_ | with_reducible refine bE ?_ | with_reducible refine bR ?_ | refine bX rfl ?_
                       all_goals with_reducible refine tN ?_
                       all_goals (
                        refine CW_region ?_
                        refine oM rfl rfl ?_
                        first | refine oQ (Q_binu rfl rfl rfl (by omega)) rfl rfl ?_ | refine oQ (Q_bin rfl rfl rfl) rfl rfl ?_
                        refine oA rfl rfl ?_
                        refine OW_nil ?_))
                    all_goals first
                      | with_reducible refine tR ?_
                      | with_reducible refine tE ?_
                      | (
                       with_reducible refine tN ?_
                       refine RW_succ ?_
                       refine CW_seq ?_
                       refine cR ?_
                       iterate 2 refine oM rfl rfl ?_
                       refine oQ (Q_bin rfl rfl rfl) rfl rfl ?_
                       refine oN ?_
                       first | refine cT rfl ?_ | refine cF rfl ?_ | refine CW_cond rfl (fun hc => ?_) (fun hc => ?_)
                       all_goals try simp only [s1, s2, s3, s4, s5, s6, s7, s8, s9, s10, s11, s12] at hc
                       all_goals try (exfalso; first | omega | (simp at hc; done) | contradiction; done)
                       all_goals first
                         | (
                          refine CW_skip ?_)
                         | (
                          refine CW_exit ?_)
                       all_goals first
                         | with_reducible refine tR ?_
                         | with_reducible refine tE ?_
                         | (
                          with_reducible refine tN ?_
                          refine CW_seq ?_
                          refine CW_block ?_
                          refine CW_region ?_
                          iterate 4 refine oM rfl rfl ?_
                          first | refine oQ (Q_binu rfl rfl rfl (by omega)) rfl rfl ?_ | refine oQ (Q_bin rfl rfl rfl) rfl rfl ?_
                          first | refine oQ (Is0 rfl rfl rfl rfl rfl rfl) rfl rfl ?_ | refine oQ (Is1 rfl rfl rfl rfl rfl rfl) rfl rfl ?_
                          first | refine oQ (Q_ldc rfl rfl rfl rfl rfl) rfl rfl ?_ | refine oQ (Ld rfl rfl rfl rfl) rfl rfl ?_
                          first | refine oQ (Is0 rfl rfl rfl rfl rfl rfl) rfl rfl ?_ | refine oQ (Is1 rfl rfl rfl rfl rfl rfl) rfl rfl ?_
                          refine oS rfl rfl rfl rfl rfl ?_
                          refine OW_nil ?_
                          all_goals first | with_reducible refine bN ?_ | with_reducible refine bE ?_ | with_reducible refine bR ?_ | refine bX rfl ?_
                          all_goals with_reducible refine tN ?_
                          all_goals (
                           refine CW_region ?_
                           refine oM rfl rfl ?_
                           first | refine oQ (Q_binu rfl rfl rfl (by omega)) rfl rfl ?_ | refine oQ (Q_bin rfl rfl rfl) rfl rfl ?_
                           refine oA rfl rfl ?_
                           refine OW_nil ?_))
                       all_goals first
                         | with_reducible refine tR ?_
                         | with_reducible refine tE ?_
                         | (
                          with_reducible refine tN ?_
                          refine RW_succ ?_
                          refine CW_seq ?_
                          refine cR ?_
                          iterate 2 refine oM rfl rfl ?_
                          refine oQ (Q_bin rfl rfl rfl) rfl rfl ?_
                          refine oN ?_
                          first | refine cT rfl ?_ | refine cF rfl ?_ | refine CW_cond rfl (fun hc => ?_) (fun hc => ?_)
                          all_goals try simp only [s1, s2, s3, s4, s5, s6, s7, s8, s9, s10, s11, s12] at hc
                          all_goals try (exfalso; first | omega | (simp at hc; done) | contradiction; done)
                          all_goals first
                            | (
                             refine CW_skip ?_)
                            | (
                             refine CW_exit ?_)
                          all_goals first
                            | with_reducible refine tR ?_
                            | with_reducible refine tE ?_
                            | (
                             with_reducible refine tN ?_
                             refine CW_seq ?_
                             refine CW_block ?_
                             refine CW_region ?_
                             iterate 4 refine oM rfl rfl ?_
                             first | refine oQ (Q_binu rfl rfl rfl (by omega)) rfl rfl ?_ | refine oQ (Q_bin rfl rfl rfl) rfl rfl ?_
                             first | refine oQ (Is0 rfl rfl rfl rfl rfl rfl) rfl rfl ?_ | refine oQ (Is1 rfl rfl rfl rfl rfl rfl) rfl rfl ?_
                             first | refine oQ (Q_ldc rfl rfl rfl rfl rfl) rfl rfl ?_ | refine oQ (Ld rfl rfl rfl rfl) rfl rfl ?_
                             first | refine oQ (Is0 rfl rfl rfl rfl rfl rfl) rfl rfl ?_ | refine oQ (Is1 rfl rfl rfl rfl rfl rfl) rfl rfl ?_
                             refine oS rfl rfl rfl rfl rfl ?_
                             refine OW_nil ?_
                             all_goals first | with_reducible refine bN ?_ | with_reducible refine bE ?_ | with_reducible refine bR ?_ | refine bX rfl ?_
                             all_goals with_reducible refine tN ?_
                             all_goals (
                              refine CW_region ?_
                              refine oM rfl rfl ?_
                              first | refine oQ (Q_binu rfl rfl rfl (by omega)) rfl rfl ?_ | refine oQ (Q_bin rfl rfl rfl) rfl rfl ?_
                              refine oA rfl rfl ?_
                              refine OW_nil ?_))
                          all_goals first
                            | with_reducible refine tR ?_
                            | with_reducible refine tE ?_
                            | (
                             with_reducible refine tN ?_
                             refine RW_succ ?_
                             refine CW_seq ?_
                             refine cR ?_
                             iterate 2 refine oM rfl rfl ?_
                             refine oQ (Q_bin rfl rfl rfl) rfl rfl ?_
                             refine oN ?_
                             first | refine cT rfl ?_ | refine cF rfl ?_ | refine CW_cond rfl (fun hc => ?_) (fun hc => ?_)
                             all_goals try simp only [s1, s2, s3, s4, s5, s6, s7, s8, s9, s10, s11, s12] at hc
                             all_goals try (exfalso; first | omega | (simp at hc; done) | contradiction; done)
                             all_goals first
                               | (
                                refine CW_skip ?_)
                               | (
                                refine CW_exit ?_)
                             all_goals first
                               | with_reducible refine tR ?_
                               | with_reducible refine tE ?_
                               | (
                                with_reducible refine tN ?_
                                refine CW_seq ?_
                                refine CW_block ?_
                                refine CW_region ?_
                                iterate 4 refine oM rfl rfl ?_
                                first | refine oQ (Q_binu rfl rfl rfl (by omega)) rfl rfl ?_ | refine oQ (Q_bin rfl rfl rfl) rfl rfl ?_
                                first | refine oQ (Is0 rfl rfl rfl rfl rfl rfl) rfl rfl ?_ | refine oQ (Is1 rfl rfl rfl rfl rfl rfl) rfl rfl ?_
                                first | refine oQ (Q_ldc rfl rfl rfl rfl rfl) rfl rfl ?_ | refine oQ (Ld rfl rfl rfl rfl) rfl rfl ?_
                                first | refine oQ (Is0 rfl rfl rfl rfl rfl rfl) rfl rfl ?_ | refine oQ (Is1 rfl rfl rfl rfl rfl rfl) rfl rfl ?_
                                refine oS rfl rfl rfl rfl rfl ?_
                                refine OW_nil ?_
                                all_goals first | with_reducible refine bN ?_ | with_reducible refine bE ?_ | with_reducible refine bR ?_ | refine bX rfl ?_
                                all_goals with_reducible refine tN ?_
                                all_goals (
                                 refine CW_region ?_
                                 refine oM rfl rfl ?_
                                 first | refine oQ (Q_binu rfl rfl rfl (by omega)) rfl rfl ?_ | refine oQ (Q_bin rfl rfl rfl) rfl rfl ?_
                                 refine oA rfl rfl ?_
                                 refine OW_nil ?_))
                             all_goals first
                               | with_reducible refine tR ?_
                               | with_reducible refine tE ?_
                               | (
                                with_reducible refine tN ?_
                                exfalso; first | omega | (simp at hc; done) | (simp_all; done)))))
                    all_goals first | with_reducible refine bN ?_ | with_reducible refine bE ?_ | with_reducible refine bR ?_ | refine bX rfl ?_))
                | (
                 refine cR ?_
                 iterate 2 refine oM rfl rfl ?_
                 refine oQ (Q_call0 (hin) rfl rfl rfl) rfl rfl ?_
                 refine oA rfl rfl ?_
                 refine oN ?_
                 refine cR ?_
                 refine oA rfl rfl ?_
                 refine oN ?_
                 refine CW_seq ?_
                 refine cR ?_
                 refine oA rfl rfl ?_
                 refine oN ?_
                 refine CW_block ?_
                 refine CW_rounds 4 ?_
                 refine RW_succ ?_
                 refine CW_seq ?_
                 refine cR ?_
                 iterate 2 refine oM rfl rfl ?_
                 refine oQ (Q_bin rfl rfl rfl) rfl rfl ?_
                 refine oN ?_
                 first | refine cT rfl ?_ | refine cF rfl ?_ | refine CW_cond rfl (fun hc => ?_) (fun hc => ?_)
                 all_goals try simp only [s1, s2, s3, s4, s5, s6, s7, s8, s9, s10, s11, s12] at hc
                 all_goals try (exfalso; first | omega | (simp at hc; done) | contradiction; done)
                 all_goals first
                   | (
                    refine CW_skip ?_)
                   | (
                    refine CW_exit ?_)
                 all_goals first
                   | with_reducible refine tR ?_
                   | with_reducible refine tE ?_
                   | (
                    with_reducible refine tN ?_
                    refine CW_seq ?_
                    refine CW_block ?_
                    refine cR ?_
                    iterate 3 refine oM rfl rfl ?_
                    first | refine oQ (Is0 rfl rfl rfl rfl rfl rfl) rfl rfl ?_ | refine oQ (Is1 rfl rfl rfl rfl rfl rfl) rfl rfl ?_
                    first | refine oQ (Q_ldc rfl rfl rfl rfl rfl) rfl rfl ?_ | refine oQ (Ld rfl rfl rfl rfl) rfl rfl ?_
                    iterate 2 refine oM rfl rfl ?_
                    refine oMulN 12 12 rfl rfl (by omega) (by omega) (by decide) rfl (fun z41 hz41 hl41 hu41 => ?_)
                    first | refine oQ (Q_binu rfl rfl rfl (by omega)) rfl rfl ?_ | refine oQ (Q_bin rfl rfl rfl) rfl rfl ?_
                    refine oM rfl rfl ?_
                    refine oMulN 156 12 rfl rfl (by omega) (by omega) (by decide) rfl (fun z44 hz44 hl44 hu44 => ?_)
                    (have hmm := em12 hp z44); subst hz44 hz41; refine oQ (Q_call0 (l01Mod_con _ p (by omega) (by omega)) rfl rfl rfl) rfl rfl ?_
                    refine oA rfl rfl ?_
                    refine oN ?_
                    refine CW_region ?_
                    iterate 3 refine oM rfl rfl ?_
                    first | refine oQ (Is0 rfl rfl rfl rfl rfl rfl) rfl rfl ?_ | refine oQ (Is1 rfl rfl rfl rfl rfl rfl) rfl rfl ?_
                    refine oS rfl rfl rfl rfl rfl ?_
                    refine OW_nil ?_
                    all_goals first | with_reducible refine bN ?_ | with_reducible refine bE ?_ | with_reducible refine bR ?_ | refine bX rfl ?_
                    all_goals with_reducible refine tN ?_
                    all_goals (
                     refine CW_region ?_
                     refine oM rfl rfl ?_
                     first | refine oQ (Q_binu rfl rfl rfl (by omega)) rfl rfl ?_ | refine oQ (Q_bin rfl rfl rfl) rfl rfl ?_
                     refine oA rfl rfl ?_
                     refine OW_nil ?_))
                 all_goals first
                   | with_reducible refine tR ?_
                   | with_reducible refine tE ?_
                   | (
                    with_reducible refine tN ?_
                    refine RW_succ ?_
                    refine CW_seq ?_
                    refine cR ?_
                    iterate 2 refine oM rfl rfl ?_
                    refine oQ (Q_bin rfl rfl rfl) rfl rfl ?_
                    refine oN ?_
                    first | refine cT rfl ?_ | refine cF rfl ?_ | refine CW_cond rfl (fun hc => ?_) (fun hc => ?_)
                    all_goals try simp only [s1, s2, s3, s4, s5, s6, s7, s8, s9, s10, s11, s12] at hc
                    all_goals try (exfalso; first | omega | (simp at hc; done) | contradiction; done)
                    all_goals first
                      | (
                       refine CW_skip ?_)
                      | (
                       refine CW_exit ?_)
                    all_goals first
                      | with_reducible refine tR ?_
                      | with_reducible refine tE ?_
                      | (
                       with_reducible refine tN ?_
                       refine CW_seq ?_
                       refine CW_block ?_
                       refine cR ?_
                       iterate 3 refine oM rfl rfl ?_
                       first | refine oQ (Is0 rfl rfl rfl rfl rfl rfl) rfl rfl ?_ | refine oQ (Is1 rfl rfl rfl rfl rfl rfl) rfl rfl ?_
                       first | refine oQ (Q_ldc rfl rfl rfl rfl rfl) rfl rfl ?_ | refine oQ (Ld rfl rfl rfl rfl) rfl rfl ?_
                       iterate 2 refine oM rfl rfl ?_
                       refine oMulN 12 12 rfl rfl (by omega) (by omega) (by decide) rfl (fun z41 hz41 hl41 hu41 => ?_)
                       first | refine oQ (Q_binu rfl rfl rfl (by omega)) rfl rfl ?_ | refine oQ (Q_bin rfl rfl rfl) rfl rfl ?_
                       refine oM rfl rfl ?_
                       refine oMulN 156 12 rfl rfl (by omega) (by omega) (by decide) rfl (fun z44 hz44 hl44 hu44 => ?_)
                       (have hmm := em12 hp z44); subst hz44 hz41; refine oQ (Q_call0 (l01Mod_con _ p (by omega) (by omega)) rfl rfl rfl) rfl rfl ?_
                       refine oA rfl rfl ?_
                       refine oN ?_
                       refine CW_region ?_
                       iterate 3 refine oM rfl rfl ?_
                       first | refine oQ (Is0 rfl rfl rfl rfl rfl rfl) rfl rfl ?_ | refine oQ (Is1 rfl rfl rfl rfl rfl rfl) rfl rfl ?_
                       refine oS rfl rfl rfl rfl rfl ?_
                       refine OW_nil ?_
                       all_goals first | with_reducible refine bN ?_ | with_reducible refine bE ?_ | with_reducible refine bR ?_ | refine bX rfl ?_
                       all_goals with_reducible refine tN ?_
                       all_goals (
                        refine CW_region ?_
                        refine oM rfl rfl ?_
                        first | refine oQ (Q_binu rfl rfl rfl (by omega)) rfl rfl ?_ | refine oQ (Q_bin rfl rfl rfl) rfl rfl ?_
                        refine oA rfl rfl ?_
                        refine OW_nil ?_))
                    all_goals first
                      | with_reducible refine tR ?_
                      | with_reducible refine tE ?_
                      | (
                       with_reducible refine tN ?_
                       refine RW_succ ?_
                       refine CW_seq ?_
                       refine cR ?_
                       iterate 2 refine oM rfl rfl ?_
                       refine oQ (Q_bin rfl rfl rfl) rfl rfl ?_
                       refine oN ?_
                       first | refine cT rfl ?_ | refine cF rfl ?_ | refine CW_cond rfl (fun hc => ?_) (fun hc => ?_)
                       all_goals try simp only [s1, s2, s3, s4, s5, s6, s7, s8, s9, s10, s11, s12] at hc
                       all_goals try (exfalso; first | omega | (simp at hc; done) | contradiction; done)
                       all_goals first
                         | (
                          refine CW_skip ?_)
                         | (
                          refine CW_exit ?_)
                       all_goals first
                         | with_reducible refine tR ?_
                         | with_reducible refine tE ?_
                         | (
                          with_reducible refine tN ?_
                          refine CW_seq ?_
                          refine CW_block ?_
                          refine cR ?_
                          iterate 3 refine oM rfl rfl ?_
                          first | refine oQ (Is0 rfl rfl rfl rfl rfl rfl) rfl rfl ?_ | refine oQ (Is1 rfl rfl rfl rfl rfl rfl) rfl rfl ?_
                          first | refine oQ (Q_ldc rfl rfl rfl rfl rfl) rfl rfl ?_ | refine oQ (Ld rfl rfl rfl rfl) rfl rfl ?_
                          iterate 2 refine oM rfl rfl ?_
                          refine oMulN 12 12 rfl rfl (by omega) (by omega) (by decide) rfl (fun z41 hz41 hl41 hu41 => ?_)
                          first | refine oQ (Q_binu rfl rfl rfl (by omega)) rfl rfl ?_ | refine oQ (Q_bin rfl rfl rfl) rfl rfl ?_
                          refine oM rfl rfl ?_
                          refine oMulN 156 12 rfl rfl (by omega) (by omega) (by decide) rfl (fun z44 hz44 hl44 hu44 => ?_)
                          (have hmm := em12 hp z44); subst hz44 hz41; refine oQ (Q_call0 (l01Mod_con _ p (by omega) (by omega)) rfl rfl rfl) rfl rfl ?_
                          refine oA rfl rfl ?_
                          refine oN ?_
                          refine CW_region ?_
                          iterate 3 refine oM rfl rfl ?_
                          first | refine oQ (Is0 rfl rfl rfl rfl rfl rfl) rfl rfl ?_ | refine oQ (Is1 rfl rfl rfl rfl rfl rfl) rfl rfl ?_
                          refine oS rfl rfl rfl rfl rfl ?_
                          refine OW_nil ?_
                          all_goals first | with_reducible refine bN ?_ | with_reducible refine bE ?_ | with_reducible refine bR ?_ | refine bX rfl ?_
                          all_goals with_reducible refine tN ?_
                          all_goals (
                           refine CW_region ?_
                           refine oM rfl rfl ?_
                           first | refine oQ (Q_binu rfl rfl rfl (by omega)) rfl rfl ?_ | refine oQ (Q_bin rfl rfl rfl) rfl rfl ?_
                           refine oA rfl rfl ?_
                           refine OW_nil ?_))
                       all_goals first
                         | with_reducible refine tR ?_
                         | with_reducible refine tE ?_
                         | (
                          with_reducible refine tN ?_
                          refine RW_succ ?_
                          refine CW_seq ?_
                          refine cR ?_
                          iterate 2 refine oM rfl rfl ?_
                          refine oQ (Q_bin rfl rfl rfl) rfl rfl ?_
                          refine oN ?_
                          first | refine cT rfl ?_ | refine cF rfl ?_ | refine CW_cond rfl (fun hc => ?_) (fun hc => ?_)
                          all_goals try simp only [s1, s2, s3, s4, s5, s6, s7, s8, s9, s10, s11, s12] at hc
                          all_goals try (exfalso; first | omega | (simp at hc; done) | contradiction; done)
                          all_goals first
                            | (
                             refine CW_skip ?_)
                            | (
                             refine CW_exit ?_)
                          all_goals first
                            | with_reducible refine tR ?_
                            | with_reducible refine tE ?_
                            | (
                             with_reducible refine tN ?_
                             refine CW_seq ?_
                             refine CW_block ?_
                             refine cR ?_
                             iterate 3 refine oM rfl rfl ?_
                             first | refine oQ (Is0 rfl rfl rfl rfl rfl rfl) rfl rfl ?_ | refine oQ (Is1 rfl rfl rfl rfl rfl rfl) rfl rfl ?_
                             first | refine oQ (Q_ldc rfl rfl rfl rfl rfl) rfl rfl ?_ | refine oQ (Ld rfl rfl rfl rfl) rfl rfl ?_
                             iterate 2 refine oM rfl rfl ?_
                             refine oMulN 12 12 rfl rfl (by omega) (by omega) (by decide) rfl (fun z41 hz41 hl41 hu41 => ?_)
                             first | refine oQ (Q_binu rfl rfl rfl (by omega)) rfl rfl ?_ | refine oQ (Q_bin rfl rfl rfl) rfl rfl ?_
                             refine oM rfl rfl ?_
                             refine oMulN 156 12 rfl rfl (by omega) (by omega) (by decide) rfl (fun z44 hz44 hl44 hu44 => ?_)
                             (have hmm := em12 hp z44); subst hz44 hz41; refine oQ (Q_call0 (l01Mod_con _ p (by omega) (by omega)) rfl rfl rfl) rfl rfl ?_
                             refine oA rfl rfl ?_
                             refine oN ?_
                             refine CW_region ?_
                             iterate 3 refine oM rfl rfl ?_
                             first | refine oQ (Is0 rfl rfl rfl rfl rfl rfl) rfl rfl ?_ | refine oQ (Is1 rfl rfl rfl rfl rfl rfl) rfl rfl ?_
                             refine oS rfl rfl rfl rfl rfl ?_
                             refine OW_nil ?_
                             all_goals first | with_reducible refine bN ?_ | with_reducible refine bE ?_ | with_reducible refine bR ?_ | refine bX rfl ?_
                             all_goals with_reducible refine tN ?_
                             all_goals (
                              refine CW_region ?_
                              refine oM rfl rfl ?_
                              first | refine oQ (Q_binu rfl rfl rfl (by omega)) rfl rfl ?_ | refine oQ (Q_bin rfl rfl rfl) rfl rfl ?_
                              refine oA rfl rfl ?_
                              refine OW_nil ?_))
                          all_goals first
                            | with_reducible refine tR ?_
                            | with_reducible refine tE ?_
                            | (
                             with_reducible refine tN ?_
                             exfalso; first | omega | (simp at hc; done) | (simp_all; done)))))
                 all_goals first | with_reducible refine bN ?_ | with_reducible refine bE ?_ | with_reducible refine bR ?_ | refine bX rfl ?_
                 all_goals with_reducible refine tN ?_
                 all_goals (
                  refine cR ?_
                  iterate 3 refine oM rfl rfl ?_
                  first | refine oQ (Is0 rfl rfl rfl rfl rfl rfl) rfl rfl ?_ | refine oQ (Is1 rfl rfl rfl rfl rfl rfl) rfl rfl ?_
                  first | refine oQ (Q_ldc rfl rfl rfl rfl rfl) rfl rfl ?_ | refine oQ (Ld rfl rfl rfl rfl) rfl rfl ?_
                  iterate 2 refine oM rfl rfl ?_
                  refine oMulN 12 12 rfl rfl (by omega) (by omega) (by decide) rfl (fun z57 hz57 hl57 hu57 => ?_)
                  first | refine oQ (Q_binu rfl rfl rfl (by omega)) rfl rfl ?_ | refine oQ (Q_bin rfl rfl rfl) rfl rfl ?_
                  subst hz57; refine oQ (Q_call0 (l01Mod_con _ p (by omega) (by omega)) rfl rfl rfl) rfl rfl ?_
                  refine oQ (Q_bin rfl rfl rfl) rfl rfl ?_
                  refine oN ?_
                  first | refine cT rfl ?_ | refine cF rfl ?_ | refine CW_cond rfl (fun hc => ?_) (fun hc => ?_)
                  all_goals try simp only [s1, s2, s3, s4, s5, s6, s7, s8, s9, s10, s11, s12] at hc
                  all_goals try (exfalso; first | omega | (simp at hc; done) | contradiction; done)
                  all_goals first
                    | (
                     refine CW_skip ?_)
                    | (
                     refine cR ?_
                     refine oM rfl rfl ?_
                     refine oA rfl rfl ?_
                     refine oN ?_
                     refine CW_ret ?_)))
              all_goals first
                | with_reducible refine tR ?_
                | with_reducible refine tE ?_
                | (
                 with_reducible refine tN ?_
                 refine cR ?_
                 refine oM rfl rfl ?_
                 first | refine oQ (Q_binu rfl rfl rfl (by omega)) rfl rfl ?_ | refine oQ (Q_bin rfl rfl rfl) rfl rfl ?_
                 refine oA rfl rfl ?_
                 refine oN ?_
                 refine CW_region ?_
                 refine oM rfl rfl ?_
                 refine oA rfl rfl ?_
                 refine OW_nil ?_)
              all_goals first | with_reducible refine bN ?_ | with_reducible refine bE ?_ | with_reducible refine bR ?_ | refine bX rfl ?_)
           all_goals first
             | with_reducible refine tR ?_
             | with_reducible refine tE ?_
             | (
              with_reducible refine tN ?_
              exfalso; first | omega | (simp at hc; done) | (simp_all; done)))))
  all_goals first | with_reducible refine bN ?_ | with_reducible refine bE ?_ | with_reducible refine bR ?_ | refine bX rfl ?_
  all_goals first
    | with_reducible refine tR ?_
    | with_reducible refine tE ?_
    | (
     with_reducible refine tN ?_
     refine cR ?_
     refine oM rfl rfl ?_
     refine oA rfl rfl ?_
     refine oN ?_
     refine CW_ret ?_)
  all_goals (
   refine exitQ (.inr rfl) 1 (.cons (.tmp rfl rfl) .nil) ?_ rfl (vHc rfl vHn) rfl rfl
   simp only [resV, V.int.injEq]
   first | (simp_all [oftI, rmT, quT, dvT]; done) | omega)
theorem l06Often_z (p s E0 E1 E2 E3 : Int) (sp : List Int) (tt : TypeId) (k : Nat) (hp : primeB p = true) (hE : smN 12 [E0, E1, E2, E3]) (hs : 0 ≤ s ∧ s < p) : ConQ Tryd.prog [] 94 [.int p, .slice 0 0 4 k, .int s, .int 0] [(0, .ints tt ([E0, E1, E2, E3] ++ sp))] (.int (oftI p s 0 [E0, E1, E2, E3] : Nat)) := by
  have hpb := prime_bd hp
  have h00 : ¬ ((0 : Int) ≠ 0) := by simp
  refine conW tab_ok [(0, .int p), (1, .slice 0 0 4 k), (2, .int s), (3, .int 0)] 1 [0] [0] Tryd.func94 rfl rfl rfl rfl rfl rfl rfl rfl rfl ?_
  refine cR ?_
  refine oA rfl rfl ?_
  refine oN ?_
  refine cR ?_
  refine oA rfl rfl ?_
  refine oN ?_
  refine CW_seq ?_
  refine CW_block ?_
  refine CW_rounds 4 ?_
  refine RW_succ ?_
  refine CW_seq ?_
  refine cR ?_
  refine oM rfl rfl ?_
  first | refine oQ (Q_len rfl rfl rfl rfl) rfl rfl ?_ | refine oQ (Q_len0 rfl rfl rfl rfl) rfl rfl ?_
  refine oQ (Q_bin rfl rfl rfl) rfl rfl ?_
  refine oN ?_
  first | refine cT rfl ?_ | refine cF rfl ?_ | refine CW_cond rfl (fun hc => ?_) (fun hc => ?_)
  all_goals try simp only [s1, s2, s3, s4, s5, s6, s7, s8, s9, s10, s11, s12] at hc
  all_goals try (exfalso; first | omega | (simp at hc; done) | contradiction; done)
  all_goals first
    | (
     refine CW_skip ?_)
    | (
     refine CW_exit ?_)
  all_goals first
    | with_reducible refine tR ?_
    | with_reducible refine tE ?_
    | (
     with_reducible refine tN ?_
     refine CW_block ?_
     refine cR ?_
     refine oM rfl rfl ?_
     first | refine oQ (Q_len rfl rfl rfl rfl) rfl rfl ?_ | refine oQ (Q_len0 rfl rfl rfl rfl) rfl rfl ?_
     first | refine oQ (Q_binu rfl rfl rfl (by omega)) rfl rfl ?_ | refine oQ (Q_bin rfl rfl rfl) rfl rfl ?_
     refine oA rfl rfl ?_
     refine oN ?_
     refine cR ?_
     refine oM rfl rfl ?_
     refine oMk rfl rfl rfl ⟨by decide, rfl, .inl ⟨rfl, rfl⟩⟩ rfl rfl rfl (by first | omega | (dsimp only; omega) | (simp; omega) | (simp; done)) (by first | omega | (dsimp only; omega) | (simp; omega) | (simp; done)) (by first | omega | (dsimp only; omega) | (simp; omega) | (simp; done)) rfl rfl ?_
     refine oA rfl rfl ?_
     refine oN ?_
     refine CW_seq ?_
     refine cR ?_
     refine oM rfl rfl ?_
     refine oQ (Q_bin rfl rfl rfl) rfl rfl ?_
     refine oN ?_
     first | refine cT rfl ?_ | refine cF rfl ?_ | refine CW_cond rfl (fun hc => ?_) (fun hc => ?_)
     all_goals try simp only [s1, s2, s3, s4, s5, s6, s7, s8, s9, s10, s11, s12] at hc
     all_goals try (exfalso; first | omega | (simp at hc; done) | contradiction; done)
     all_goals first
       | (
        refine CW_seq ?_
        refine cR ?_
        refine oM rfl rfl ?_
        first | refine oQ (Is0 rfl rfl rfl rfl rfl rfl) rfl rfl ?_ | refine oQ (Is1 rfl rfl rfl rfl rfl rfl) rfl rfl ?_
        first | refine oQ (Q_ldc rfl rfl rfl rfl rfl) rfl rfl ?_ | refine oQ (Ld rfl rfl rfl rfl) rfl rfl ?_
        refine oQ (Q_bin rfl rfl rfl) rfl rfl ?_
        refine oN ?_
        first | refine cT rfl ?_ | refine cF rfl ?_ | refine CW_cond rfl (fun hc => ?_) (fun hc => ?_)
        all_goals try simp only [s1, s2, s3, s4, s5, s6, s7, s8, s9, s10, s11, s12] at hc
        all_goals try (exfalso; first | omega | (simp at hc; done) | contradiction; done)
        all_goals first
          | (
           refine CW_skip ?_)
          | (
           refine cR ?_
           refine oM rfl rfl ?_
           refine oA rfl rfl ?_
           refine oN ?_
           refine CW_ret ?_)
        all_goals first
          | with_reducible refine tR ?_
          | with_reducible refine tE ?_
          | (
           with_reducible refine tN ?_
           refine cR ?_
           refine oA rfl rfl ?_
           refine oN ?_
           refine CW_block ?_
           refine CW_rounds 4 ?_
           refine RW_succ ?_
           refine CW_seq ?_
           refine cR ?_
           iterate 2 refine oM rfl rfl ?_
           refine oQ (Q_bin rfl rfl rfl) rfl rfl ?_
           refine oN ?_
           first | refine cT rfl ?_ | refine cF rfl ?_ | refine CW_cond rfl (fun hc => ?_) (fun hc => ?_)
           all_goals try simp only [s1, s2, s3, s4, s5, s6, s7, s8, s9, s10, s11, s12] at hc
           all_goals try (exfalso; first | omega | (simp at hc; done) | contradiction; done)
           all_goals first
             | (
              refine CW_skip ?_)
             | (
              refine CW_exit ?_)
           all_goals first
             | with_reducible refine tR ?_
             | with_reducible refine tE ?_
             | (
              with_reducible refine tN ?_
              refine CW_seq ?_
              refine CW_block ?_
              refine CW_region ?_
              iterate 4 refine oM rfl rfl ?_
              first | refine oQ (Q_binu rfl rfl rfl (by omega)) rfl rfl ?_ | refine oQ (Q_bin rfl rfl rfl) rfl rfl ?_
              first | refine oQ (Is0 rfl rfl rfl rfl rfl rfl) rfl rfl ?_ | refine oQ (Is1 rfl rfl rfl rfl rfl rfl) rfl rfl ?_
              first | refine oQ (Q_ldc rfl rfl rfl rfl rfl) rfl rfl ?_ | refine oQ (Ld rfl rfl rfl rfl) rfl rfl ?_
              first | refine oQ (Is0 rfl rfl rfl rfl rfl rfl) rfl rfl ?_ | refine oQ (Is1 rfl rfl rfl rfl rfl rfl) rfl rfl ?_
              refine oS rfl rfl rfl rfl rfl ?_
              refine OW_nil ?_
              all_goals first | with_reducible refine bN ?_ | with_reducible refine bE ?_ | with_reducible refine bR ?_ | refine bX rfl ?_
              all_goals with_reducible refine tN ?_
              all_goals (
               refine CW_region ?_
               refine oM rfl rfl ?_
               first | refine oQ (Q_binu rfl rfl rfl (by omega)) rfl rfl ?_ | refine oQ (Q_bin rfl rfl rfl) rfl rfl ?_
               refine oA rfl rfl ?_
               refine OW_nil ?_))
           all_goals first
             | with_reducible refine tR ?_
             | with_reducible refine tE ?_
             | (
              with_reducible refine tN ?_
              refine RW_succ ?_
              refine CW_seq ?_
              refine cR ?_
              iterate 2 refine oM rfl rfl ?_
              refine oQ (Q_bin rfl rfl rfl) rfl rfl ?_
              refine oN ?_
              first | refine cT rfl ?_ | refine cF rfl ?_ | refine CW_cond rfl (fun hc => ?_) (fun hc => ?_)
              all_goals try simp only [s1, s2, s3, s4, s5, s6, s7, s8, s9, s10, s11, s12] at hc
              all_goals try (exfalso; first | omega | (simp at hc; done) | contradiction; done)
              all_goals first
                | (
                 refine CW_skip ?_)
                | (
                 refine CW_exit ?_)
              all_goals first
                | with_reducible refine tR ?_
                | with_reducible refine tE ?_
                | (
                 with_reducible refine tN ?_
                 refine CW_seq ?_
                 refine CW_block ?_
                 refine CW_region ?_
                 iterate 4 refine oM rfl rfl ?_
                 first | refine oQ (Q_binu rfl rfl rfl (by omega)) rfl rfl ?_ | refine oQ (Q_bin rfl rfl rfl) rfl rfl ?_
                 first | refine oQ (Is0 rfl rfl rfl rfl rfl rfl) rfl rfl ?_ | refine oQ (Is1 rfl rfl rfl rfl rfl rfl) rfl rfl ?_
                 first | refine oQ (Q_ldc rfl rfl rfl rfl rfl) rfl rfl ?_ | refine oQ (Ld rfl rfl rfl rfl) rfl rfl ?_
                 first | refine oQ (Is0 rfl rfl rfl rfl rfl rfl) rfl rfl ?_ | refine oQ (Is1 rfl rfl rfl rfl rfl rfl) rfl rfl ?_
                 refine oS rfl rfl rfl rfl rfl ?_
                 refine OW_nil ?_
                 all_goals first | with_reducible refine bN ?_ | with_reducible refine bE ?_ | with_reducible refine bR ?_ | refine bX rfl ?_
                 all_goals with_reducible refine tN ?_
                 all_goals (
                  refine CW_region ?_
                  refine oM rfl rfl ?_
                  first | refine oQ (Q_binu rfl rfl rfl (by omega)) rfl rfl ?_ | refine oQ (Q_bin rfl rfl rfl) rfl rfl ?_
                  refine oA rfl rfl ?_
                  refine OW_nil ?_))
              all_goals first
                | with_reducible refine tR ?_
                | with_reducible refine tE ?_
                | (
                 with_reducible refine tN ?_
                 refine RW_succ ?_
                 refine CW_seq ?_
                 refine cR ?_
                 iterate 2 refine oM rfl rfl ?_
                 refine oQ (Q_bin rfl rfl rfl) rfl rfl ?_
                 refine oN ?_
                 first | refine cT rfl ?_ | refine cF rfl ?_ | refine CW_cond rfl (fun hc => ?_) (fun hc => ?_)
                 all_goals try simp only [s1, s2, s3, s4, s5, s6, s7, s8, s9, s10, s11, s12] at hc
                 all_goals try (exfalso; first | omega | (simp at hc; done) | contradiction; done)
                 all_goals first
                   | (
                    refine CW_skip ?_)
                   | (
                    refine CW_exit ?_)
                 all_goals first
                   | with_reducible refine tR ?_
                   | with_reducible refine tE ?_
                   | (
                    with_reducible refine tN ?_
                    refine CW_seq ?_
                    refine CW_block ?_
                    refine CW_region ?_
                    iterate 4 refine oM rfl rfl ?_
                    first | refine oQ (Q_binu rfl rfl rfl (by omega)) rfl rfl ?_ | refine oQ (Q_bin rfl rfl rfl) rfl rfl ?_
                    first | refine oQ (Is0 rfl rfl rfl rfl rfl rfl) rfl rfl ?_ | refine oQ (Is1 rfl rfl rfl rfl rfl rfl) rfl rfl ?_
                    first | refine oQ (Q_ldc rfl rfl rfl rfl rfl) rfl rfl ?_ | refine oQ (Ld rfl rfl rfl rfl) rfl rfl ?_
                    first | refine oQ (Is0 rfl rfl rfl rfl rfl rfl) rfl rfl ?_ | refine oQ (Is1 rfl rfl rfl rfl rfl rfl) rfl rfl ?_
                    refine oS rfl rfl rfl rfl rfl ?_
                    refine OW_nil ?_
                    all_goals first | with_reducible refine bN ?_ | with_reducible refine bE ?_ | with_reducible refine bR ?_ | refine bX rfl ?_
                    all_goals with_reducible refine tN ?_
                    all_goals (
                     refine CW_region ?_
                     refine oM rfl rfl ?_
                     first | refine oQ (Q_binu rfl rfl rfl (by omega)) rfl rfl ?_ | refine oQ (Q_bin rfl rfl rfl) rfl rfl ?_
                     refine oA rfl rfl ?_
                     refine OW_nil ?_))
                 all_goals first
                   | with_reducible refine tR ?_
                   | with_reducible refine tE ?_
                   | (
                    with_reducible refine tN ?_
                    refine RW_succ ?_
                    refine CW_seq ?_
                    refine cR ?_
                    iterate 2 refine oM rfl rfl ?_
                    refine oQ (Q_bin rfl rfl rfl) rfl rfl ?_
                    refine oN ?_
                    first | refine cT rfl ?_ | refine cF rfl ?_ | refine CW_cond rfl (fun hc => ?_) (fun hc => ?_)
                    all_goals try simp only [s1, s2, s3, s4, s5, s6, s7, s8, s9, s10, s11, s12] at hc
                    all_goals try (exfalso; first | omega | (simp at hc; done) | contradiction; done)
                    all_goals first
                      | (
                       refine CW_skip ?_)
                      | (
                       refine CW_exit ?_)
                    all_goals first
                      | with_reducible refine tR ?_
                      | with_reducible refine tE ?_
                      | (
                       with_reducible refine tN ?_
                       refine CW_seq ?_
                       refine CW_block ?_
                       refine CW_region ?_
                       iterate 4 refine oM rfl rfl ?_
                       first | refine oQ (Q_binu rfl rfl rfl (by omega)) rfl rfl ?_ | refine oQ (Q_bin rfl rfl rfl) rfl rfl ?_
                       first | refine oQ (Is0 rfl rfl rfl rfl rfl rfl) rfl rfl ?_ | refine oQ (Is1 rfl rfl rfl rfl rfl rfl) rfl rfl ?_
                       first | refine oQ (Q_ldc rfl rfl rfl rfl rfl) rfl rfl ?_ | refine oQ (Ld rfl rfl rfl rfl) rfl rfl ?_
                       first | refine oQ (Is0 rfl rfl rfl rfl rfl rfl) rfl rfl ?_ | refine oQ (Is1 rfl rfl rfl rfl rfl rfl) rfl rfl ?_
                       refine oS rfl rfl rfl rfl rfl ?_
                       refine OW_nil ?_
                       all_goals first | with_reducible refine bN ?_ | with_reducible refine bE ?_ | with_reducible refine bR ?_ | refine bX rfl ?_
                       all_goals with_reducible refine tN ?_
                       all_goals (
                        refine CW_region ?_
                        refine oM rfl rfl ?_
                        first | refine oQ (Q_binu rfl rfl rfl (by omega)) rfl rfl ?_ | refine oQ (Q_bin rfl rfl rfl) rfl rfl ?_
                        refine oA rfl rfl ?_
                        refine OW_nil ?_))
                    all_goals first
                      | with_reducible refine tR ?_
                      | with_reducible refine tE ?_
                      | (
                       with_reducible refine tN ?_
                       exfalso; first | omega | (simp at hc; done) | (simp_all; done)))))
           all_goals first | with_reducible refine bN ?_ | with_reducible refine bE ?_ | with_reducible refine bR ?_ | refine bX rfl ?_))
       | (
        refine cR ?_
        iterate 2 refine oM rfl rfl ?_
        (exfalso; exact absurd rfl hc)
        refine oA rfl rfl ?_
        refine oN ?_
        refine cR ?_
        refine oA rfl rfl ?_
        refine oN ?_
        refine CW_seq ?_
        refine cR ?_
        refine oA rfl rfl ?_
        refine oN ?_
        refine CW_block ?_
        refine CW_rounds 4 ?_
        refine RW_succ ?_
        refine CW_seq ?_
        refine cR ?_
        iterate 2 refine oM rfl rfl ?_
        refine oQ (Q_bin rfl rfl rfl) rfl rfl ?_
        refine oN ?_
        first | refine cT rfl ?_ | refine cF rfl ?_ | refine CW_cond rfl (fun hc => ?_) (fun hc => ?_)
        all_goals try simp only [s1, s2, s3, s4, s5, s6, s7, s8, s9, s10, s11, s12] at hc
        all_goals try (exfalso; first | omega | (simp at hc; done) | contradiction; done)
        all_goals first
          | (
           refine CW_skip ?_)
          | (
           refine CW_exit ?_)
        all_goals first
          | with_reducible refine tR ?_
          | with_reducible refine tE ?_
          | (
           with_reducible refine tN ?_
           refine CW_seq ?_
           refine CW_block ?_
           refine cR ?_
           iterate 3 refine oM rfl rfl ?_
           first | refine oQ (Is0 rfl rfl rfl rfl rfl rfl) rfl rfl ?_ | refine oQ (Is1 rfl rfl rfl rfl rfl rfl) rfl rfl ?_
           first | refine oQ (Q_ldc rfl rfl rfl rfl rfl) rfl rfl ?_ | refine oQ (Ld rfl rfl rfl rfl) rfl rfl ?_
           iterate 2 refine oM rfl rfl ?_
           refine oMulN 12 12 rfl rfl (by omega) (by omega) (by decide) rfl (fun z41 hz41 hl41 hu41 => ?_)
           first | refine oQ (Q_binu rfl rfl rfl (by omega)) rfl rfl ?_ | refine oQ (Q_bin rfl rfl rfl) rfl rfl ?_
           refine oM rfl rfl ?_
           refine oMulN 156 12 rfl rfl (by omega) (by omega) (by decide) rfl (fun z44 hz44 hl44 hu44 => ?_)
           refine oQ (Q_call0 (l01Mod_con _ _ (by omega) (by omega)) rfl rfl rfl) rfl rfl ?_
           refine oA rfl rfl ?_
           refine oN ?_
           refine CW_region ?_
           iterate 3 refine oM rfl rfl ?_
           first | refine oQ (Is0 rfl rfl rfl rfl rfl rfl) rfl rfl ?_ | refine oQ (Is1 rfl rfl rfl rfl rfl rfl) rfl rfl ?_
           refine oS rfl rfl rfl rfl rfl ?_
           refine OW_nil ?_
           all_goals first | with_reducible refine bN ?_ | with_reducible refine bE ?_ | with_reducible refine bR ?_ | refine bX rfl ?_
           all_goals with_reducible refine tN ?_
           all_goals (
            refine CW_region ?_
            refine oM rfl rfl ?_
            first | refine oQ (Q_binu rfl rfl rfl (by omega)) rfl rfl ?_ | refine oQ (Q_bin rfl rfl rfl) rfl rfl ?_
            refine oA rfl rfl ?_
            refine OW_nil ?_))
        all_goals first
          | with_reducible refine tR ?_
          | with_reducible refine tE ?_
          | (
           with_reducible refine tN ?_
           refine RW_succ ?_
           refine CW_seq ?_
           refine cR ?_
           iterate 2 refine oM rfl rfl ?_
           refine oQ (Q_bin rfl rfl rfl) rfl rfl ?_
           refine oN ?_
           first | refine cT rfl ?_ | refine cF rfl ?_ | refine CW_cond rfl (fun hc => ?_) (fun hc => ?_)
           all_goals try simp only [s1, s2, s3, s4, s5, s6, s7, s8, s9, s10, s11, s12] at hc
           all_goals try (exfalso; first | omega | (simp at hc; done) | contradiction; done)
           all_goals first
             | (
              refine CW_skip ?_)
             | (
              refine CW_exit ?_)
           all_goals first
             | with_reducible refine tR ?_
             | with_reducible refine tE ?_
             | (
              with_reducible refine tN ?_
              refine CW_seq ?_
              refine CW_block ?_
              refine cR ?_
              iterate 3 refine oM rfl rfl ?_
              first | refine oQ (Is0 rfl rfl rfl rfl rfl rfl) rfl rfl ?_ | refine oQ (Is1 rfl rfl rfl rfl rfl rfl) rfl rfl ?_
              first | refine oQ (Q_ldc rfl rfl rfl rfl rfl) rfl rfl ?_ | refine oQ (Ld rfl rfl rfl rfl) rfl rfl ?_
              iterate 2 refine oM rfl rfl ?_
              refine oMulN 12 12 rfl rfl (by omega) (by omega) (by decide) rfl (fun z41 hz41 hl41 hu41 => ?_)
              first | refine oQ (Q_binu rfl rfl rfl (by omega)) rfl rfl ?_ | refine oQ (Q_bin rfl rfl rfl) rfl rfl ?_
              refine oM rfl rfl ?_
              refine oMulN 156 12 rfl rfl (by omega) (by omega) (by decide) rfl (fun z44 hz44 hl44 hu44 => ?_)
              refine oQ (Q_call0 (l01Mod_con _ _ (by omega) (by omega)) rfl rfl rfl) rfl rfl ?_
              refine oA rfl rfl ?_
              refine oN ?_
              refine CW_region ?_
              iterate 3 refine oM rfl rfl ?_
              first | refine oQ (Is0 rfl rfl rfl rfl rfl rfl) rfl rfl ?_ | refine oQ (Is1 rfl rfl rfl rfl rfl rfl) rfl rfl ?_
              refine oS rfl rfl rfl rfl rfl ?_
              refine OW_nil ?_
              all_goals first | with_reducible refine bN ?_ | with_reducible refine bE ?_ | with_reducible refine bR ?_ | refine bX rfl ?_
              all_goals with_reducible refine tN ?_
              all_goals (
               refine CW_region ?_
               refine oM rfl rfl ?_
               first | refine oQ (Q_binu rfl rfl rfl (by omega)) rfl rfl ?_ | refine oQ (Q_bin rfl rfl rfl) rfl rfl ?_
               refine oA rfl rfl ?_
               refine OW_nil ?_))
           all_goals first
             | with_reducible refine tR ?_
             | with_reducible refine tE ?_
             | (
              with_reducible refine tN ?_
              refine RW_succ ?_
              refine CW_seq ?_
              refine cR ?_
              iterate 2 refine oM rfl rfl ?_
              refine oQ (Q_bin rfl rfl rfl) rfl rfl ?_
              refine oN ?_
              first | refine cT rfl ?_ | refine cF rfl ?_ | refine CW_cond rfl (fun hc => ?_) (fun hc => ?_)
              all_goals try simp only [s1, s2, s3, s4, s5, s6, s7, s8, s9, s10, s11, s12] at hc
              all_goals try (exfalso; first | omega | (simp at hc; done) | contradiction; done)
              all_goals first
                | (
                 refine CW_skip ?_)
                | (
                 refine CW_exit ?_)
              all_goals first
                | with_reducible refine tR ?_
                | with_reducible refine tE ?_
                | (
                 with_reducible refine tN ?_
                 refine CW_seq ?_
                 refine CW_block ?_
                 refine cR ?_
                 iterate 3 refine oM rfl rfl ?_
                 first | refine oQ (Is0 rfl rfl rfl rfl rfl rfl) rfl rfl ?_ | refine oQ (Is1 rfl rfl rfl rfl rfl rfl) rfl rfl ?_
                 first | refine oQ (Q_ldc rfl rfl rfl rfl rfl) rfl rfl ?_ | refine oQ (Ld rfl rfl rfl rfl) rfl rfl ?_
                 iterate 2 refine oM rfl rfl ?_
                 refine oMulN 12 12 rfl rfl (by omega) (by omega) (by decide) rfl (fun z41 hz41 hl41 hu41 => ?_)
                 first | refine oQ (Q_binu rfl rfl rfl (by omega)) rfl rfl ?_ | refine oQ (Q_bin rfl rfl rfl) rfl rfl ?_
                 refine oM rfl rfl ?_
                 refine oMulN 156 12 rfl rfl (by omega) (by omega) (by decide) rfl (fun z44 hz44 hl44 hu44 => ?_)
                 refine oQ (Q_call0 (l01Mod_con _ _ (by omega) (by omega)) rfl rfl rfl) rfl rfl ?_
                 refine oA rfl rfl ?_
                 refine oN ?_
                 refine CW_region ?_
                 iterate 3 refine oM rfl rfl ?_
                 first | refine oQ (Is0 rfl rfl rfl rfl rfl rfl) rfl rfl ?_ | refine oQ (Is1 rfl rfl rfl rfl rfl rfl) rfl rfl ?_
                 refine oS rfl rfl rfl rfl rfl ?_
                 refine OW_nil ?_
                 all_goals first | with_reducible refine bN ?_ | with_reducible refine bE ?_ | with_reducible refine bR ?_ | refine bX rfl ?_
                 all_goals with_reducible refine tN ?_
                 all_goals (
                  refine CW_region ?_
                  refine oM rfl rfl ?_
                  first | refine oQ (Q_binu rfl rfl rfl (by omega)) rfl rfl ?_ | refine oQ (Q_bin rfl rfl rfl) rfl rfl ?_
                  refine oA rfl rfl ?_
                  refine OW_nil ?_))
              all_goals first
                | with_reducible refine tR ?_
                | with_reducible refine tE ?_
                | (
                 with_reducible refine tN ?_
                 refine RW_succ ?_
                 refine CW_seq ?_
                 refine cR ?_
                 iterate 2 refine oM rfl rfl ?_
                 refine oQ (Q_bin rfl rfl rfl) rfl rfl ?_
                 refine oN ?_
                 first | refine cT rfl ?_ | refine cF rfl ?_ | refine CW_cond rfl (fun hc => ?_) (fun hc => ?_)
                 all_goals try simp only [s1, s2, s3, s4, s5, s6, s7, s8, s9, s10, s11, s12] at hc
                 all_goals try (exfalso; first | omega | (simp at hc; done) | contradiction; done)
                 all_goals first
                   | (
                    refine CW_skip ?_)
                   | (
                    refine CW_exit ?_)
                 all_goals first
                   | with_reducible refine tR ?_
                   | with_reducible refine tE ?_
                   | (
                    with_reducible refine tN ?_
                    refine CW_seq ?_
                    refine CW_block ?_
                    refine cR ?_
                    iterate 3 refine oM rfl rfl ?_
                    first | refine oQ (Is0 rfl rfl rfl rfl rfl rfl) rfl rfl ?_ | refine oQ (Is1 rfl rfl rfl rfl rfl rfl) rfl rfl ?_
                    first | refine oQ (Q_ldc rfl rfl rfl rfl rfl) rfl rfl ?_ | refine oQ (Ld rfl rfl rfl rfl) rfl rfl ?_
                    iterate 2 refine oM rfl rfl ?_
                    refine oMulN 12 12 rfl rfl (by omega) (by omega) (by decide) rfl (fun z41 hz41 hl41 hu41 => ?_)
                    first | refine oQ (Q_binu rfl rfl rfl (by omega)) rfl rfl ?_ | refine oQ (Q_bin rfl rfl rfl) rfl rfl ?_
                    refine oM rfl rfl ?_
                    refine oMulN 156 12 rfl rfl (by omega) (by omega) (by decide) rfl (fun z44 hz44 hl44 hu44 => ?_)
                    refine oQ (Q_call0 (l01Mod_con _ _ (by omega) (by omega)) rfl rfl rfl) rfl rfl ?_
                    refine oA rfl rfl ?_
                    refine oN ?_
                    refine CW_region ?_
                    iterate 3 refine oM rfl rfl ?_
                    first | refine oQ (Is0 rfl rfl rfl rfl rfl rfl) rfl rfl ?_ | refine oQ (Is1 rfl rfl rfl rfl rfl rfl) rfl rfl ?_
                    refine oS rfl rfl rfl rfl rfl ?_
                    refine OW_nil ?_
                    all_goals first | with_reducible refine bN ?_ | with_reducible refine bE ?_ | with_reducible refine bR ?_ | refine bX rfl ?_
                    all_goals with_reducible refine tN ?_
                    all_goals (
                     refine CW_region ?_
                     refine oM rfl rfl ?_
                     first | refine oQ (Q_binu rfl rfl rfl (by omega)) rfl rfl ?_ | refine oQ (Q_bin rfl rfl rfl) rfl rfl ?_
                     refine oA rfl rfl ?_
                     refine OW_nil ?_))
                 all_goals first
                   | with_reducible refine tR ?_
                   | with_reducible refine tE ?_
                   | (
                    with_reducible refine tN ?_
                    exfalso; first | omega | (simp at hc; done) | (simp_all; done)))))
        all_goals first | with_reducible refine bN ?_ | with_reducible refine bE ?_ | with_reducible refine bR ?_ | refine bX rfl ?_
        all_goals with_reducible refine tN ?_
        all_goals (
         refine cR ?_
         iterate 3 refine oM rfl rfl ?_
         first | refine oQ (Is0 rfl rfl rfl rfl rfl rfl) rfl rfl ?_ | refine oQ (Is1 rfl rfl rfl rfl rfl rfl) rfl rfl ?_
         first | refine oQ (Q_ldc rfl rfl rfl rfl rfl) rfl rfl ?_ | refine oQ (Ld rfl rfl rfl rfl) rfl rfl ?_
         iterate 2 refine oM rfl rfl ?_
         refine oMulN 12 12 rfl rfl (by omega) (by omega) (by decide) rfl (fun z57 hz57 hl57 hu57 => ?_)
         first | refine oQ (Q_binu rfl rfl rfl (by omega)) rfl rfl ?_ | refine oQ (Q_bin rfl rfl rfl) rfl rfl ?_
         refine oQ (Q_call0 (l01Mod_con _ _ (by omega) (by omega)) rfl rfl rfl) rfl rfl ?_
         refine oQ (Q_bin rfl rfl rfl) rfl rfl ?_
         refine oN ?_
         first | refine cT rfl ?_ | refine cF rfl ?_ | refine CW_cond rfl (fun hc => ?_) (fun hc => ?_)
         all_goals try simp only [s1, s2, s3, s4, s5, s6, s7, s8, s9, s10, s11, s12] at hc
         all_goals try (exfalso; first | omega | (simp at hc; done) | contradiction; done)
         all_goals first
           | (
            refine CW_skip ?_)
           | (
            refine cR ?_
            refine oM rfl rfl ?_
            refine oA rfl rfl ?_
            refine oN ?_
            refine CW_ret ?_)))
     all_goals first
       | with_reducible refine tR ?_
       | with_reducible refine tE ?_
       | (
        with_reducible refine tN ?_
        refine cR ?_
        refine oM rfl rfl ?_
        first | refine oQ (Q_binu rfl rfl rfl (by omega)) rfl rfl ?_ | refine oQ (Q_bin rfl rfl rfl) rfl rfl ?_
        refine oA rfl rfl ?_
        refine oN ?_
        refine CW_region ?_
        refine oM rfl rfl ?_
        refine oA rfl rfl ?_
        refine OW_nil ?_)
     all_goals first | with_reducible refine bN ?_ | with_reducible refine bE ?_ | with_reducible refine bR ?_ | refine bX rfl ?_)
  all_goals first
    | with_reducible refine tR ?_
    | with_reducible refine tE ?_
    | (
     with_reducible refine tN ?_
     refine RW_succ ?_
     refine CW_seq ?_
     refine cR ?_
     refine oM rfl rfl ?_
     first | refine oQ (Q_len rfl rfl rfl rfl) rfl rfl ?_ | refine oQ (Q_len0 rfl rfl rfl rfl) rfl rfl ?_
     refine oQ (Q_bin rfl rfl rfl) rfl rfl ?_
     refine oN ?_
     first | refine cT rfl ?_ | refine cF rfl ?_ | refine CW_cond rfl (fun hc => ?_) (fun hc => ?_)
     all_goals try simp only [s1, s2, s3, s4, s5, s6, s7, s8, s9, s10, s11, s12] at hc
     all_goals try (exfalso; first | omega | (simp at hc; done) | contradiction; done)
     all_goals first
       | (
        refine CW_skip ?_)
       | (
        refine CW_exit ?_)
     all_goals first
       | with_reducible refine tR ?_
       | with_reducible refine tE ?_
       | (
        with_reducible refine tN ?_
        refine CW_block ?_
        refine cR ?_
        refine oM rfl rfl ?_
        first | refine oQ (Q_len rfl rfl rfl rfl) rfl rfl ?_ | refine oQ (Q_len0 rfl rfl rfl rfl) rfl rfl ?_
        first | refine oQ (Q_binu rfl rfl rfl (by omega)) rfl rfl ?_ | refine oQ (Q_bin rfl rfl rfl) rfl rfl ?_
        refine oA rfl rfl ?_
        refine oN ?_
        refine cR ?_
        refine oM rfl rfl ?_
        refine oMk rfl rfl rfl ⟨by decide, rfl, .inl ⟨rfl, rfl⟩⟩ rfl rfl rfl (by first | omega | (dsimp only; omega) | (simp; omega) | (simp; done)) (by first | omega | (dsimp only; omega) | (simp; omega) | (simp; done)) (by first | omega | (dsimp only; omega) | (simp; omega) | (simp; done)) rfl rfl ?_
        refine oA rfl rfl ?_
        refine oN ?_
        refine CW_seq ?_
        refine cR ?_
        refine oM rfl rfl ?_
        refine oQ (Q_bin rfl rfl rfl) rfl rfl ?_
        refine oN ?_
        first | refine cT rfl ?_ | refine cF rfl ?_ | refine CW_cond rfl (fun hc => ?_) (fun hc => ?_)
        all_goals try simp only [s1, s2, s3, s4, s5, s6, s7, s8, s9, s10, s11, s12] at hc
        all_goals try (exfalso; first | omega | (simp at hc; done) | contradiction; done)
        all_goals first
          | (
           refine CW_seq ?_
           refine cR ?_
           refine oM rfl rfl ?_
           first | refine oQ (Is0 rfl rfl rfl rfl rfl rfl) rfl rfl ?_ | refine oQ (Is1 rfl rfl rfl rfl rfl rfl) rfl rfl ?_
           first | refine oQ (Q_ldc rfl rfl rfl rfl rfl) rfl rfl ?_ | refine oQ (Ld rfl rfl rfl rfl) rfl rfl ?_
           refine oQ (Q_bin rfl rfl rfl) rfl rfl ?_
           refine oN ?_
           first | refine cT rfl ?_ | refine cF rfl ?_ | refine CW_cond rfl (fun hc => ?_) (fun hc => ?_)
           all_goals try simp only [s1, s2, s3, s4, s5, s6, s7, s8, s9, s10, s11, s12] at hc
           all_goals try (exfalso; first | omega | (simp at hc; done) | contradiction; done)
           all_goals first
             | (
              refine CW_skip ?_)
             | (
              refine cR ?_
              refine oM rfl rfl ?_
              refine oA rfl rfl ?_
              refine oN ?_
              refine CW_ret ?_)
           all_goals first
             | with_reducible refine tR ?_
             | with_reducible refine tE ?_
             | (
              with_reducible refine tN ?_
              refine cR ?_
              refine oA rfl rfl ?_
              refine oN ?_
              refine CW_block ?_
              refine CW_rounds 4 ?_
              refine RW_succ ?_
              refine CW_seq ?_
              refine cR ?_
              iterate 2 refine oM rfl rfl ?_
              refine oQ (Q_bin rfl rfl rfl) rfl rfl ?_
              refine oN ?_
              first | refine cT rfl ?_ | refine cF rfl ?_ | refine CW_cond rfl (fun hc => ?_) (fun hc => ?_)
              all_goals try simp only [s1, s2, s3, s4, s5, s6, s7, s8, s9, s10, s11, s12] at hc
              all_goals try (exfalso; first | omega | (simp at hc; done) | contradiction; done)
              all_goals first
                | (
                 refine CW_skip ?_)
                | (
                 refine CW_exit ?_)
              all_goals first
                | with_reducible refine tR ?_
                | with_reducible refine tE ?_
                | (
                 with_reducible refine tN ?_
                 refine CW_seq ?_
                 refine CW_block ?_
                 refine CW_region ?_
                 iterate 4 refine oM rfl rfl ?_
                 first | refine oQ (Q_binu rfl rfl rfl (by omega)) rfl rfl ?_ | refine oQ (Q_bin rfl rfl rfl) rfl rfl ?_
                 first | refine oQ (Is0 rfl rfl rfl rfl rfl rfl) rfl rfl ?_ | refine oQ (Is1 rfl rfl rfl rfl rfl rfl) rfl rfl ?_
                 first | refine oQ (Q_ldc rfl rfl rfl rfl rfl) rfl rfl ?_ | refine oQ (Ld rfl rfl rfl rfl) rfl rfl ?_
                 first | refine oQ (Is0 rfl rfl rfl rfl rfl rfl) rfl rfl ?_ | refine oQ (Is1 rfl rfl rfl rfl rfl rfl) rfl rfl ?_
                 refine oS rfl rfl rfl rfl rfl ?_
                 refine OW_nil ?_
                 all_goals first | with_reducible refine bN ?_ | with_reducible refine bE ?_ | with_reducible refine bR ?_ | refine bX rfl ?_
                 all_goals with_reducible refine tN ?_
                 all_goals (
                  refine CW_region ?_
                  refine oM rfl rfl ?_
                  first | refine oQ (Q_binu rfl rfl rfl (by omega)) rfl rfl ?_ | refine oQ (Q_bin rfl rfl rfl) rfl rfl ?_
                  refine oA rfl rfl ?_
                  refine OW_nil ?_))
              all_goals first
                | with_reducible refine tR ?_
                | with_reducible refine tE ?_
                | (
                 with_reducible refine tN ?_
                 refine RW_succ ?_
                 refine CW_seq ?_
                 refine cR ?_
                 iterate 2 refine oM rfl rfl ?_
                 refine oQ (Q_bin rfl rfl rfl) rfl rfl ?_
                 refine oN ?_
                 first | refine cT rfl ?_ | refine cF rfl ?_ | refine CW_cond rfl (fun hc => ?_) (fun hc => ?_)
                 all_goals try simp only [s1, s2, s3, s4, s5, s6, s7, s8, s9, s10, s11, s12] at hc
                 all_goals try (exfalso; first | omega | (simp at hc; done) | contradiction; done)
                 all_goals first
                   | (
                    refine CW_skip ?_)
                   | (
                    refine CW_exit ?_)
                 all_goals first
                   | with_reducible refine tR ?_
                   | with_reducible refine tE ?_
                   | (
                    with_reducible refine tN ?_
                    refine CW_seq ?_
                    refine CW_block ?_
                    refine CW_region ?_
                    iterate 4 refine oM rfl rfl ?_
                    first | refine oQ (Q_binu rfl rfl rfl (by omega)) rfl rfl ?_ | refine oQ (Q_bin rfl rfl rfl) rfl rfl ?_
                    first | refine oQ (Is0 rfl rfl rfl rfl rfl rfl) rfl rfl ?_ | refine oQ (Is1 rfl rfl rfl rfl rfl rfl) rfl rfl ?_
                    first | refine oQ (Q_ldc rfl rfl rfl rfl rfl) rfl rfl ?_ | refine oQ (Ld rfl rfl rfl rfl) rfl rfl ?_
                    first | refine oQ (Is0 rfl rfl rfl rfl rfl rfl) rfl rfl ?_ | refine oQ (Is1 rfl rfl rfl rfl rfl rfl) rfl rfl ?_
                    refine oS rfl rfl rfl rfl rfl ?_
                    refine OW_nil ?_
                    all_goals first | with_reducible refine bN ?_ | with_reducible refine bE ?_ | with_reducible refine bR ?_ | refine bX rfl ?_
                    all_goals with_reducible refine tN ?_
                    all_goals (
                     refine CW_region ?_
                     refine oM rfl rfl ?_
                     first | refine oQ (Q_binu rfl rfl rfl (by omega)) rfl rfl ?_ | refine oQ (Q_bin rfl rfl rfl) rfl rfl ?_
                     refine oA rfl rfl ?_
                     refine OW_nil ?_))
                 all_goals first
                   | with_reducible refine tR ?_
                   | with_reducible refine tE ?_
                   | (
                    with_reducible refine tN ?_
                    refine RW_succ ?_
                    refine CW_seq ?_
                    refine cR ?_
                    iterate 2 refine oM rfl rfl ?_
                    refine oQ (Q_bin rfl rfl rfl) rfl rfl ?_
                    refine oN ?_
                    first | refine cT rfl ?_ | refine cF rfl ?_ | refine CW_cond rfl (fun hc => ?_) (fun hc => ?_)
                    all_goals try simp only [s1, s2, s3, s4, s5, s6, s7, s8, s9, s10, s11, s12] at hc
                    all_goals try (exfalso; first | omega | (simp at hc; done) | contradiction; done)
                    all_goals first
                      | (
                       refine CW_skip ?_)
                      | (
                       refine CW_exit ?_)
                    all_goals first
                      | with_reducible refine tR ?_
                      | with_reducible refine tE ?_
                      | (
                       with_reducible refine tN ?_
                       refine CW_seq ?_
                       refine CW_block ?_
                       refine CW_region ?_
                       iterate 4 refine oM rfl rfl ?_
                       first | refine oQ (Q_binu rfl rfl rfl (by omega)) rfl rfl ?_ | refine oQ (Q_bin rfl rfl rfl) rfl rfl ?_
                       first | refine oQ (Is0 rfl rfl rfl rfl rfl rfl) rfl rfl ?_ | refine oQ (Is1 rfl rfl rfl rfl rfl rfl) rfl rfl ?_
                       first | refine oQ (Q_ldc rfl rfl rfl rfl rfl) rfl rfl ?_ | refine oQ (Ld rfl rfl rfl rfl) rfl rfl ?_
                       first | refine oQ (Is0 rfl rfl rfl rfl rfl rfl) rfl rfl ?_ | refine oQ (Is1 rfl rfl rfl rfl rfl rfl) rfl rfl ?_
                       refine oS rfl rfl rfl rfl rfl ?_
                       refine OW_nil ?_
                       all_goals first | with_reducible refine bN ?_ | with_reducible refine bE ?_ | with_reducible refine bR ?_ | refine bX rfl ?_
                       all_goals with_reducible refine tN ?_
                       all_goals (
                        refine CW_region ?_
                        refine oM rfl rfl ?_
                        first | refine oQ (Q_binu rfl rfl rfl (by omega)) rfl rfl ?_ | refine oQ (Q_bin rfl rfl rfl) rfl rfl ?_
                        refine oA rfl rfl ?_
                        refine OW_nil ?_))
                    all_goals first
                      | with_reducible refine tR ?_
                      | with_reducible refine tE ?_
                      | (
                       with_reducible refine tN ?_
                       refine RW_succ ?_
                       refine CW_seq ?_
                       refine cR ?_
                       iterate 2 refine oM rfl rfl ?_
                       refine oQ (Q_bin rfl rfl rfl) rfl rfl ?_
                       refine oN ?_
                       first | refine cT rfl ?_ | refine cF rfl ?_ | refine CW_cond rfl (fun hc => ?_) (fun hc => ?_)
                       all_goals try simp only [s1, s2, s3, s4, s5, s6, s7, s8, s9, s10, s11, s12] at hc
                       all_goals try (exfalso; first | omega | (simp at hc; done) | contradiction; done)
                       all_goals first
                         | (
                          refine CW_skip ?_)
                         | (
                          refine CW_exit ?_)
                       all_goals first
                         | with_reducible refine tR ?_
                         | with_reducible refine tE ?_
                         | (
                          with_reducible refine tN ?_
                          refine CW_seq ?_
                          refine CW_block ?_
                          refine CW_region ?_
                          iterate 4 refine oM rfl rfl ?_
                          first | refine oQ (Q_binu rfl rfl rfl (by omega)) rfl rfl ?_ | refine oQ (Q_bin rfl rfl rfl) rfl rfl ?_
                          first | refine oQ (Is0 rfl rfl rfl rfl rfl rfl) rfl rfl ?_ | refine oQ (Is1 rfl rfl rfl rfl rfl rfl) rfl rfl ?_
                          first | refine oQ (Q_ldc rfl rfl rfl rfl rfl) rfl rfl ?_ | refine oQ (Ld rfl rfl rfl rfl) rfl rfl ?_
                          first | refine oQ (Is0 rfl rfl rfl rfl rfl rfl) rfl rfl ?_ | refine oQ (Is1 rfl rfl rfl rfl rfl rfl) rfl rfl ?_
                          refine oS rfl rfl rfl rfl rfl ?_
                          refine OW_nil ?_
                          all_goals first | with_reducible refine bN ?_ | with_reducible refine bE ?_ | with_reducible refine bR ?_ | refine bX rfl ?_
                          all_goals with_reducible refine tN ?_
                          all_goals (
                           refine CW_region ?_
                           refine oM rfl rfl ?_
                           first | refine oQ (Q_binu rfl rfl rfl (by omega)) rfl rfl ?_ | refine oQ (Q_bin rfl rfl rfl) rfl rfl ?_
                           refine oA rfl rfl ?_
                           refine OW_nil ?_))
                       all_goals first
                         | with_reducible refine tR ?_
                         | with_reducible refine tE ?_
                         | (
                          with_reducible refine tN ?_
                          exfalso; first | omega | (simp at hc; done) | (simp_all; done)))))
              all_goals first | with_reducible refine bN ?_ | with_reducible refine bE ?_ | with_reducible refine bR ?_ | refine bX rfl ?_))
          | (
           refine cR ?_
           iterate 2 refine oM rfl rfl ?_
           (exfalso; exact absurd rfl hc)
           refine oA rfl rfl ?_
           refine oN ?_
           refine cR ?_
           refine oA rfl rfl ?_
           refine oN ?_
           refine CW_seq ?_
           refine cR ?_
           refine oA rfl rfl ?_
           refine oN ?_
           refine CW_block ?_
           refine CW_rounds 4 ?_
           refine RW_succ ?_
           refine CW_seq ?_
           refine cR ?_
           iterate 2 refine oM rfl rfl ?_
           refine oQ (Q_bin rfl rfl rfl) rfl rfl ?_
           refine oN ?_
           first | refine cT rfl ?_ | refine cF rfl ?_ | refine CW_cond rfl (fun hc => ?_) (fun hc => ?_)
           all_goals try simp only [s1, s2, s3, s4, s5, s6, s7, s8, s9, s10, s11, s12] at hc
           all_goals try (exfalso; first | omega | (simp at hc; done) | contradiction; done)
           all_goals first
             | (
              refine CW_skip ?_)
             | (
              refine CW_exit ?_)
           all_goals first
             | with_reducible refine tR ?_
             | with_reducible refine tE ?_
             | (
              with_reducible refine tN ?_
              refine CW_seq ?_
              refine CW_block ?_
              refine cR ?_
              iterate 3 refine oM rfl rfl ?_
              first | refine oQ (Is0 rfl rfl rfl rfl rfl rfl) rfl rfl ?_ | refine oQ (Is1 rfl rfl rfl rfl rfl rfl) rfl rfl ?_
              first | refine oQ (Q_ldc rfl rfl rfl rfl rfl) rfl rfl ?_ | refine oQ (Ld rfl rfl rfl rfl) rfl rfl ?_
              iterate 2 refine oM rfl rfl ?_
              refine oMulN 12 12 rfl rfl (by omega) (by omega) (by decide) rfl (fun z41 hz41 hl41 hu41 => ?_)
              first | refine oQ (Q_binu rfl rfl rfl (by omega)) rfl rfl ?_ | refine oQ (Q_bin rfl rfl rfl) rfl rfl ?_
              refine oM rfl rfl ?_
              refine oMulN 156 12 rfl rfl (by omega) (by omega) (by decide) rfl (fun z44 hz44 hl44 hu44 => ?_)
              refine oQ (Q_call0 (l01Mod_con _ _ (by omega) (by omega)) rfl rfl rfl) rfl rfl ?_
              refine oA rfl rfl ?_
              refine oN ?_
              refine CW_region ?_
              iterate 3 refine oM rfl rfl ?_
              first | refine oQ (Is0 rfl rfl rfl rfl rfl rfl) rfl rfl ?_ | refine oQ (Is1 rfl rfl rfl rfl rfl rfl) rfl rfl ?_
              refine oS rfl rfl rfl rfl rfl ?_
              refine OW_nil ?_
              all_goals first | with_reducible refine bN ?_ | with_reducible refine bE ?_ | with_reducible refine bR ?_ | refine bX rfl ?_
              all_goals with_reducible refine tN ?_
              all_goals (
               refine CW_region ?_
               refine oM rfl rfl ?_
               first | refine oQ (Q_binu rfl rfl rfl (by omega)) rfl rfl ?_ | refine oQ (Q_bin rfl rfl rfl) rfl rfl ?_
               refine oA rfl rfl ?_
               refine OW_nil ?_))
           all_goals first
             | with_reducible refine tR ?_
             | with_reducible refine tE ?_
             | (
              with_reducible refine tN ?_
              refine RW_succ ?_
              refine CW_seq ?_
              refine cR ?_
              iterate 2 refine oM rfl rfl ?_
              refine oQ (Q_bin rfl rfl rfl) rfl rfl ?_
              refine oN ?_
              first | refine cT rfl ?_ | refine cF rfl ?_ | refine CW_cond rfl (fun hc => ?_) (fun hc => ?_)
              all_goals try simp only [s1, s2, s3, s4, s5, s6, s7, s8, s9, s10, s11, s12] at hc
              all_goals try (exfalso; first | omega | (simp at hc; done) | contradiction; done)
              all_goals first
                | (
                 refine CW_skip ?_)
                | (
                 refine CW_exit ?_)
              all_goals first
                | with_reducible refine tR ?_
                | with_reducible refine tE ?_
                | (
                 with_reducible refine tN ?_
                 refine CW_seq ?_
                 refine CW_block ?_
                 refine cR ?_
                 iterate 3 refine oM rfl rfl ?_
                 first | refine oQ (Is0 rfl rfl rfl rfl rfl rfl) rfl rfl ?_ | refine oQ (Is1 rfl rfl rfl rfl rfl rfl) rfl rfl ?_
                 first | refine oQ (Q_ldc rfl rfl rfl rfl rfl) rfl rfl ?_ | refine oQ (Ld rfl rfl rfl rfl) rfl rfl ?_
                 iterate 2 refine oM rfl rfl ?_
                 refine oMulN 12 12 rfl rfl (by omega) (by omega) (by decide) rfl (fun z41 hz41 hl41 hu41 => ?_)
                 first | refine oQ (Q_binu rfl rfl rfl (by omega)) rfl rfl ?_ | refine oQ (Q_bin rfl rfl rfl) rfl rfl ?_
                 refine oM rfl rfl ?_
                 refine oMulN 156 12 rfl rfl (by omega) (by omega) (by decide) rfl (fun z44 hz44 hl44 hu44 => ?_)
                 refine oQ (Q_call0 (l01Mod_con _ _ (by omega) (by omega)) rfl rfl rfl) rfl rfl ?_
                 refine oA rfl rfl ?_
                 refine oN ?_
                 refine CW_region ?_
                 iterate 3 refine oM rfl rfl ?_
                 first | refine oQ (Is0 rfl rfl rfl rfl rfl rfl) rfl rfl ?_ | refine oQ (Is1 rfl rfl rfl rfl rfl rfl) rfl rfl ?_
                 refine oS rfl rfl rfl rfl rfl ?_
                 refine OW_nil ?_
                 all_goals first | with_reducible refine bN ?_ | with_reducible refine bE ?_ | with_reducible refine bR ?_ | refine bX rfl ?_
                 all_goals with_reducible refine tN ?_
                 all_goals (
                  refine CW_region ?_
                  refine oM rfl rfl ?_
                  first | refine oQ (Q_binu rfl rfl rfl (by omega)) rfl rfl ?_ | refine oQ (Q_bin rfl rfl rfl) rfl rfl ?_
                  refine oA rfl rfl ?_
                  refine OW_nil ?_))
              all_goals first
                | with_reducible refine tR ?_
                | with_reducible refine tE ?_
                | (
                 with_reducible refine tN ?_
                 refine RW_succ ?_
                 refine CW_seq ?_
                 refine cR ?_
                 iterate 2 refine oM rfl rfl ?_
                 refine oQ (Q_bin rfl rfl rfl) rfl rfl ?_
                 refine oN ?_
                 first | refine cT rfl ?_ | refine cF rfl ?_ | refine CW_cond rfl (fun hc => ?_) (fun hc => ?_)
                 all_goals try simp only [s1, s2, s3, s4, s5, s6, s7, s8, s9, s10, s11, s12] at hc
                 all_goals try (exfalso; first | omega | (simp at hc; done) | contradiction; done)
                 all_goals first
                   | (
                    refine CW_skip ?_)
                   | (
                    refine CW_exit ?_)
                 all_goals first
                   | with_reducible refine tR ?_
                   | with_reducible refine tE ?_
                   | (
                    with_reducible refine tN ?_
                    refine CW_seq ?_
                    refine CW_block ?_
                    refine cR ?_
                    iterate 3 refine oM rfl rfl ?_
                    first | refine oQ (Is0 rfl rfl rfl rfl rfl rfl) rfl rfl ?_ | refine oQ (Is1 rfl rfl rfl rfl rfl rfl) rfl rfl ?_
                    first | refine oQ (Q_ldc rfl rfl rfl rfl rfl) rfl rfl ?_ | refine oQ (Ld rfl rfl rfl rfl) rfl rfl ?_
                    iterate 2 refine oM rfl rfl ?_
                    refine oMulN 12 12 rfl rfl (by omega) (by omega) (by decide) rfl (fun z41 hz41 hl41 hu41 => ?_)
                    first | refine oQ (Q_binu rfl rfl rfl (by omega)) rfl rfl ?_ | refine oQ (Q_bin rfl rfl rfl) rfl rfl ?_
                    refine oM rfl rfl ?_
                    refine oMulN 156 12 rfl rfl (by omega) (by omega) (by decide) rfl (fun z44 hz44 hl44 hu44 => ?_)
                    refine oQ (Q_call0 (l01Mod_con _ _ (by omega) (by omega)) rfl rfl rfl) rfl rfl ?_
                    refine oA rfl rfl ?_
                    refine oN ?_
                    refine CW_region ?_
                    iterate 3 refine oM rfl rfl ?_
                    first | refine oQ (Is0 rfl rfl rfl rfl rfl rfl) rfl rfl ?_ | refine oQ (Is1 rfl rfl rfl rfl rfl rfl) rfl rfl ?_
                    refine oS rfl rfl rfl rfl rfl ?_
                    refine OW_nil ?_
                    all_goals first | with_reducible refine bN ?_ | with_reducible refine bE ?_ | with_reducible refine bR ?_ | refine bX rfl ?_
                    all_goals with_reducible refine tN ?_
                    all_goals (
                     refine CW_region ?_
                     refine oM rfl rfl ?_
                     first | refine oQ (Q_binu rfl rfl rfl (by omega)) rfl rfl ?_ | refine oQ (Q_bin rfl rfl rfl) rfl rfl ?_
                     refine oA rfl rfl ?_
                     refine OW_nil ?_))
                 all_goals first
                   | with_reducible refine tR ?_
                   | with_reducible refine tE ?_
                   | (
                    with_reducible refine tN ?_
                    refine RW_succ ?_
                    refine CW_seq ?_
                    refine cR ?_
                    iterate 2 refine oM rfl rfl ?_
                    refine oQ (Q_bin rfl rfl rfl) rfl rfl ?_
                    refine oN ?_
                    first | refine cT rfl ?_ | refine cF rfl ?_ | refine CW_cond rfl (fun hc => ?_) (fun hc => ?_)
                    all_goals try simp only [s1, s2, s3, s4, s5, s6, s7, s8, s9, s10, s11, s12] at hc
                    all_goals try (exfalso; first | omega | (simp at hc; done) | contradiction; done)
                    all_goals first
                      | (
                       refine CW_skip ?_)
                      | (
                       refine CW_exit ?_)
                    all_goals first
                      | with_reducible refine tR ?_
                      | with_reducible refine tE ?_
                      | (
                       with_reducible refine tN ?_
                       refine CW_seq ?_
                       refine CW_block ?_
                       refine cR ?_
                       iterate 3 refine oM rfl rfl ?_
                       first | refine oQ (Is0 rfl rfl rfl rfl rfl rfl) rfl rfl ?_ | refine oQ (Is1 rfl rfl rfl rfl rfl rfl) rfl rfl ?_
                       first | refine oQ (Q_ldc rfl rfl rfl rfl rfl) rfl rfl ?_ | refine oQ (Ld rfl rfl rfl rfl) rfl rfl ?_
                       iterate 2 refine oM rfl rfl ?_
                       refine oMulN 12 12 rfl rfl (by omega) (by omega) (by decide) rfl (fun z41 hz41 hl41 hu41 => ?_)
                       first | refine oQ (Q_binu rfl rfl rfl (by omega)) rfl rfl ?_ | refine oQ (Q_bin rfl rfl rfl) rfl rfl ?_
                       refine oM rfl rfl ?_
                       refine oMulN 156 12 rfl rfl (by omega) (by omega) (by decide) rfl (fun z44 hz44 hl44 hu44 => ?_)
                       refine oQ (Q_call0 (l01Mod_con _ _ (by omega) (by omega)) rfl rfl rfl) rfl rfl ?_
                       refine oA rfl rfl ?_
                       refine oN ?_
                       refine CW_region ?_
                       iterate 3 refine oM rfl rfl ?_
                       first | refine oQ (Is0 rfl rfl rfl rfl rfl rfl) rfl rfl ?_ | refine oQ (Is1 rfl rfl rfl rfl rfl rfl) rfl rfl ?_
                       refine oS rfl rfl rfl rfl rfl ?_
                       refine OW_nil ?_
                       all_goals first | with_reducible refine bN ?_ | with_reducible refine bE ?_ | with_reducible refine bR ?_ | refine bX rfl ?_
                       all_goals with_reducible refine tN ?_
                       all_goals (
                        refine CW_region ?_
                        refine oM rfl rfl ?_
                        first | refine oQ (Q_binu rfl rfl rfl (by omega)) rfl rfl ?_ | refine oQ (Q_bin rfl rfl rfl) rfl rfl ?_
                        refine oA rfl rfl ?_
                        refine OW_nil ?_))
                    all_goals first
                      | with_reducible refine tR ?_
                      | with_reducible refine tE ?_
                      | (
                       with_reducible refine tN ?_
                       exfalso; first | omega | (simp at hc; done) | (simp_all; done)))))
           all_goals first | with_reducible refine bN ?_ | with_reducible refine bE ?_ | with_reducible refine bR ?_ | refine bX rfl ?_
           all_goals with_reducible refine tN ?_
           all_goals (
            refine cR ?_
            iterate 3 refine oM rfl rfl ?_
            first | refine oQ (Is0 rfl rfl rfl rfl rfl rfl) rfl rfl ?_ | refine oQ (Is1 rfl rfl rfl rfl rfl rfl) rfl rfl ?_
            first | refine oQ (Q_ldc rfl rfl rfl rfl rfl) rfl rfl ?_ | refine oQ (Ld rfl rfl rfl rfl) rfl rfl ?_
            iterate 2 refine oM rfl rfl ?_
            refine oMulN 12 12 rfl rfl (by omega) (by omega) (by decide) rfl (fun z57 hz57 hl57 hu57 => ?_)
            first | refine oQ (Q_binu rfl rfl rfl (by omega)) rfl rfl ?_ | refine oQ (Q_bin rfl rfl rfl) rfl rfl ?_
            refine oQ (Q_call0 (l01Mod_con _ _ (by omega) (by omega)) rfl rfl rfl) rfl rfl ?_
            refine oQ (Q_bin rfl rfl rfl) rfl rfl ?_
            refine oN ?_
            first | refine cT rfl ?_ | refine cF rfl ?_ | refine CW_cond rfl (fun hc => ?_) (fun hc => ?_)
            all_goals try simp only [s1, s2, s3, s4, s5, s6, s7, s8, s9, s10, s11, s12] at hc
            all_goals try (exfalso; first | omega | (simp at hc; done) | contradiction; done)
            all_goals first
              | (
               refine CW_skip ?_)
              | (
               refine cR ?_
               refine oM rfl rfl ?_
               refine oA rfl rfl ?_
               refine oN ?_
               refine CW_ret ?_)))
        all_goals first
          | with_reducible refine tR ?_
          | with_reducible refine tE ?_
          | (
           with_reducible refine tN ?_
           refine cR ?_
           refine oM rfl rfl ?_
           first | refine oQ (Q_binu rfl rfl rfl (by omega)) rfl rfl ?_ | refine oQ (Q_bin rfl rfl rfl) rfl rfl ?_
           refine oA rfl rfl ?_
           refine oN ?_
           refine CW_region ?_
           refine oM rfl rfl ?_
           refine oA rfl rfl ?_
           refine OW_nil ?_)
        all_goals first | with_reducible refine bN ?_ | with_reducible refine bE ?_ | with_reducible refine bR ?_ | refine bX rfl ?_)
     all_goals first
       | with_reducible refine tR ?_
       | with_reducible refine tE ?_
       | (
        with_reducible refine tN ?_
        refine RW_succ ?_
        refine CW_seq ?_
        refine cR ?_
        refine oM rfl rfl ?_
        first | refine oQ (Q_len rfl rfl rfl rfl) rfl rfl ?_ | refine oQ (Q_len0 rfl rfl rfl rfl) rfl rfl ?_
        refine oQ (Q_bin rfl rfl rfl) rfl rfl ?_
        refine oN ?_
        first | refine cT rfl ?_ | refine cF rfl ?_ | refine CW_cond rfl (fun hc => ?_) (fun hc => ?_)
        all_goals try simp only [s1, s2, s3, s4, s5, s6, s7, s8, s9, s10, s11, s12] at hc
        all_goals try (exfalso; first | omega | (simp at hc; done) | contradiction; done)
        all_goals first
          | (
           refine CW_skip ?_)
          | (
           refine CW_exit ?_)
        all_goals first
          | with_reducible refine tR ?_
          | with_reducible refine tE ?_
          | (
           with_reducible refine tN ?_
           refine CW_block ?_
           refine cR ?_
           refine oM rfl rfl ?_
           first | refine oQ (Q_len rfl rfl rfl rfl) rfl rfl ?_ | refine oQ (Q_len0 rfl rfl rfl rfl) rfl rfl ?_
           first | refine oQ (Q_binu rfl rfl rfl (by omega)) rfl rfl ?_ | refine oQ (Q_bin rfl rfl rfl) rfl rfl ?_
           refine oA rfl rfl ?_
           refine oN ?_
           refine cR ?_
           refine oM rfl rfl ?_
           refine oMk rfl rfl rfl ⟨by decide, rfl, .inl ⟨rfl, rfl⟩⟩ rfl rfl rfl (by first | omega | (dsimp only; omega) | (simp; omega) | (simp; done)) (by first | omega | (dsimp only; omega) | (simp; omega) | (simp; done)) (by first | omega | (dsimp only; omega) | (simp; omega) | (simp; done)) rfl rfl ?_
           refine oA rfl rfl ?_
           refine oN ?_
           refine CW_seq ?_
           refine cR ?_
           refine oM rfl rfl ?_
           refine oQ (Q_bin rfl rfl rfl) rfl rfl ?_
           refine oN ?_
           first | refine cT rfl ?_ | refine cF rfl ?_ | refine CW_cond rfl (fun hc => ?_) (fun hc => ?_)
           all_goals try simp only [s1, s2, s3, s4, s5, s6, s7, s8, s9, s10, s11, s12] at hc
           all_goals try (exfalso; first | omega | (simp at hc; done) | contradiction; done)
           all_goals first
             | (
              refine CW_seq ?_
              refine cR ?_
              refine oM rfl rfl ?_
              first | refine oQ (Is0 rfl rfl rfl rfl rfl rfl) rfl rfl ?_ | refine oQ (Is1 rfl rfl rfl rfl rfl rfl) rfl rfl ?_
              first | refine oQ (Q_ldc rfl rfl rfl rfl rfl) rfl rfl ?_ | refine oQ (Ld rfl rfl rfl rfl) rfl rfl ?_
              refine oQ (Q_bin rfl rfl rfl) rfl rfl ?_
              refine oN ?_
              first | refine cT rfl ?_ | refine cF rfl ?_ | refine CW_cond rfl (fun hc => ?_) (fun hc => ?_)
              all_goals try simp only [s1, s2, s3, s4, s5, s6, s7, s8, s9, s10, s11, s12] at hc
              all_goals try (exfalso; first | omega | (simp at hc; done) | contradiction; done)
              all_goals first
                | (
                 refine CW_skip ?_)
                | (
                 refine cR ?_
                 refine oM rfl rfl ?_
                 refine oA rfl rfl ?_
                 refine oN ?_
                 refine CW_ret ?_)
              all_goals first
                | with_reducible refine tR ?_
                | with_reducible refine tE ?_
                | (
                 with_reducible refine tN ?_
                 refine cR ?_
                 refine oA rfl rfl ?_
                 refine oN ?_
                 refine CW_block ?_
                 refine CW_rounds 4 ?_
                 refine RW_succ ?_
                 refine CW_seq ?_
                 refine cR ?_
                 iterate 2 refine oM rfl rfl ?_
                 refine oQ (Q_bin rfl rfl rfl) rfl rfl ?_
                 refine oN ?_
                 first | refine cT rfl ?_ | refine cF rfl ?_ | refine CW_cond rfl (fun hc => ?_) (fun hc => ?_)
                 all_goals try simp only [s1, s2, s3, s4, s5, s6, s7, s8, s9, s10, s11, s12] at hc
                 all_goals try (exfalso; first | omega | (simp at hc; done) | contradiction; done)
                 all_goals first
                   | (
                    refine CW_skip ?_)
                   | (
                    refine CW_exit ?_)
                 all_goals first
                   | with_reducible refine tR ?_
                   | with_reducible refine tE ?_
                   | (
                    with_reducible refine tN ?_
                    refine CW_seq ?_
                    refine CW_block ?_
                    refine CW_region ?_
                    iterate 4 refine oM rfl rfl ?_
                    first | refine oQ (Q_binu rfl rfl rfl (by omega)) rfl rfl ?_ | refine oQ (Q_bin rfl rfl rfl) rfl rfl ?_
                    first | refine oQ (Is0 rfl rfl rfl rfl rfl rfl) rfl rfl ?_ | refine oQ (Is1 rfl rfl rfl rfl rfl rfl) rfl rfl ?_
                    first | refine oQ (Q_ldc rfl rfl rfl rfl rfl) rfl rfl ?_ | refine oQ (Ld rfl rfl rfl rfl) rfl rfl ?_
                    first | refine oQ (Is0 rfl rfl rfl rfl rfl rfl) rfl rfl ?_ | refine oQ (Is1 rfl rfl rfl rfl rfl rfl) rfl rfl ?_
                    refine oS rfl rfl rfl rfl rfl ?_
                    refine OW_nil ?_
                    all_goals first | with_reducible refine bN ?_ | with_reducible refine bE ?_ | with_reducible refine bR ?_ | refine bX rfl ?_
                    all_goals with_reducible refine tN ?_
                    all_goals (
                     refine CW_region ?_
                     refine oM rfl rfl ?_
                     first | refine oQ (Q_binu rfl rfl rfl (by omega)) rfl rfl ?_ | refine oQ (Q_bin rfl rfl rfl) rfl rfl ?_
                     refine oA rfl rfl ?_
                     refine OW_nil ?_))
                 all_goals first
                   | with_reducible refine tR ?_
                   | with_reducible refine tE ?_
                   | (
                    with_reducible refine tN ?_
                    refine RW_succ ?_
                    refine CW_seq ?_
                    refine cR ?_
                    iterate 2 refine oM rfl rfl ?_
                    refine oQ (Q_bin rfl rfl rfl) rfl rfl ?_
                    refine oN ?_
                    first | refine cT rfl ?_ | refine cF rfl ?_ | refine CW_cond rfl (fun hc => ?_) (fun hc => ?_)
                    all_goals try simp only [s1, s2, s3, s4, s5, s6, s7, s8, s9, s10, s11, s12] at hc
                    all_goals try (exfalso; first | omega | (simp at hc; done) | contradiction; done)
                    all_goals first
                      | (
                       refine CW_skip ?_)
                      | (
                       refine CW_exit ?_)
                    all_goals first
                      | with_reducible refine tR ?_
                      | with_reducible refine tE ?_
                      | (
                       with_reducible refine tN ?_
                       refine CW_seq ?_
                       refine CW_block ?_
                       refine CW_region ?_
                       iterate 4 refine oM rfl rfl ?_
                       first | refine oQ (Q_binu rfl rfl rfl (by omega)) rfl rfl ?_ | refine oQ (Q_bin rfl rfl rfl) rfl rfl ?_
                       first | refine oQ (Is0 rfl rfl rfl rfl rfl rfl) rfl rfl ?_ | refine oQ (Is1 rfl rfl rfl rfl rfl rfl) rfl rfl ?_
                       first | refine oQ (Q_ldc rfl rfl rfl rfl rfl) rfl rfl ?_ | refine oQ (Ld rfl rfl rfl rfl) rfl rfl ?_
                       first | refine oQ (Is0 rfl rfl rfl rfl rfl rfl) rfl rfl ?_ | refine oQ (Is1 rfl rfl rfl rfl rfl rfl) rfl rfl ?_
                       refine oS rfl rfl rfl rfl rfl ?_
                       refine OW_nil ?_
                       all_goals first | with_reducible refine bN ?_ | with_reducible refine bE ?_ | with_reducible refine bR ?_ | refine bX rfl ?_
                       all_goals with_reducible refine tN ?_
                       all_goals (
                        refine CW_region ?_
                        refine oM rfl rfl ?_
                        first | refine oQ (Q_binu rfl rfl rfl (by omega)) rfl rfl ?_ | refine oQ (Q_bin rfl rfl rfl) rfl rfl ?_
                        refine oA rfl rfl ?_
                        refine OW_nil ?_))
                    all_goals first
                      | with_reducible refine tR ?_
                      | with_reducible refine tE ?_
                      | (
                       with_reducible refine tN ?_
                       refine RW_succ ?_
                       refine CW_seq ?_
                       refine cR ?_
                       iterate 2 refine oM rfl rfl ?_
                       refine oQ (Q_bin rfl rfl rfl) rfl rfl ?_
                       refine oN ?_
                       first | refine cT rfl ?_ | refine cF rfl ?_ | refine CW_cond rfl (fun hc => ?_) (fun hc => ?_)
                       all_goals try simp only [s1, s2, s3, s4, s5, s6, s7, s8, s9, s10, s11, s12] at hc
                       all_goals try (exfalso; first | omega | (simp at hc; done) | contradiction; done)
                       all_goals first
                         | (
                          refine CW_skip ?_)
                         | (
                          refine CW_exit ?_)
                       all_goals first
                         | with_reducible refine tR ?_
                         | with_reducible refine tE ?_
                         | (
                          with_reducible refine tN ?_
                          refine CW_seq ?_
                          refine CW_block ?_
                          refine CW_region ?_
                          iterate 4 refine oM rfl rfl ?_
                          first | refine oQ (Q_binu rfl rfl rfl (by omega)) rfl rfl ?_ | refine oQ (Q_bin rfl rfl rfl) rfl rfl ?_
                          first | refine oQ (Is0 rfl rfl rfl rfl rfl rfl) rfl rfl ?_ | refine oQ (Is1 rfl rfl rfl rfl rfl rfl) rfl rfl ?_
                          first | refine oQ (Q_ldc rfl rfl rfl rfl rfl) rfl rfl ?_ | refine oQ (Ld rfl rfl rfl rfl) rfl rfl ?_
                          first | refine oQ (Is0 rfl rfl rfl rfl rfl rfl) rfl rfl ?_ | refine oQ (Is1 rfl rfl rfl rfl rfl rfl) rfl rfl ?_
                          refine oS rfl rfl rfl rfl rfl ?_
                          refine OW_nil ?_
                          all_goals first | with_reducible refine bN ?_ | with_reducible refine bE ?_ | with_reducible refine bR ?_ | refine bX rfl ?_
                          all_goals with_reducible refine tN ?_
                          all_goals (
                           refine CW_region ?_
                           refine oM rfl rfl ?_
                           first | refine oQ (Q_binu rfl rfl rfl (by omega)) rfl rfl ?_ | refine oQ (Q_bin rfl rfl rfl) rfl rfl ?_
                           refine oA rfl rfl ?_
                           refine OW_nil ?_))
                       all_goals first
                         | with_reducible refine tR ?_
                         | with_reducible refine tE ?_
                         | (
                          with_reducible refine tN ?_
                          refine RW_succ ?_
                          refine CW_seq ?_
                          refine cR ?_
                          iterate 2 refine oM rfl rfl ?_
                          refine oQ (Q_bin rfl rfl rfl) rfl rfl ?_
                          refine oN ?_
                          first | refine cT rfl ?_ | refine cF rfl ?_ | refine CW_cond rfl (fun hc => ?_) (fun hc => ?_)
                          all_goals try simp only [s1, s2, s3, s4, s5, s6, s7, s8, s9, s10, s11, s12] at hc
                          all_goals try (exfalso; first | omega | (simp at hc; done) | contradiction; done)
                          all_goals first
                            | (
                             refine CW_skip ?_)
                            | (
                             refine CW_exit ?_)
                          all_goals first
                            | with_reducible refine tR ?_
                            | with_reducible refine tE ?_
                            | (
                             with_reducible refine tN ?_
                             refine CW_seq ?_
                             refine CW_block ?_
                             refine CW_region ?_
                             iterate 4 refine oM rfl rfl ?_
                             first | refine oQ (Q_binu rfl rfl rfl (by omega)) rfl rfl ?_ | refine oQ (Q_bin rfl rfl rfl) rfl rfl ?_
                             first | refine oQ (Is0 rfl rfl rfl rfl rfl rfl) rfl rfl ?_ | refine oQ (Is1 rfl rfl rfl rfl rfl rfl) rfl rfl ?_
                             first | refine oQ (Q_ldc rfl rfl rfl rfl rfl) rfl rfl ?_ | refine oQ (Ld rfl rfl rfl rfl) rfl rfl ?_
                             first | refine oQ (Is0 rfl rfl rfl rfl rfl rfl) rfl rfl ?_ | refine oQ (Is1 rfl rfl rfl rfl rfl rfl) rfl rfl ?_
                             refine oS rfl rfl rfl rfl rfl ?_
                             refine OW_nil ?_
                             all_goals first | with_reducible refine bN ?_ | with_reducible refine bE ?_ | with_reducible refine bR ?_ | refine bX rfl ?_
                             all_goals with_reducible refine tN ?_
                             all_goals (
                              refine CW_region ?_
                              refine oM rfl rfl ?_
                              first | refine oQ (Q_binu rfl rfl rfl (by omega)) rfl rfl ?_ | refine oQ (Q_bin rfl rfl rfl) rfl rfl ?_
                              refine oA rfl rfl ?_
                              refine OW_nil ?_))
                          all_goals first
                            | with_reducible refine tR ?_
                            | with_reducible refine tE ?_
                            | (
                             with_reducible refine tN ?_
                             exfalso; first | omega | (simp at hc; done) | (simp_all; done)))))
                 all_goals first | with_reducible refine bN ?_ | with_reducible refine bE ?_ | with_reducible refine bR ?_ | refine bX rfl ?_))
             | (
              refine cR ?_
              iterate 2 refine oM rfl rfl ?_
              (exfalso; exact absurd rfl hc)
              refine oA rfl rfl ?_
              refine oN ?_
              refine cR ?_
              refine oA rfl rfl ?_
              refine oN ?_
              refine CW_seq ?_
              refine cR ?_
              refine oA rfl rfl ?_
              refine oN ?_
              refine CW_block ?_
              refine CW_rounds 4 ?_
              refine RW_succ ?_
              refine CW_seq ?_
              refine cR ?_
              iterate 2 refine oM rfl rfl ?_
              refine oQ (Q_bin rfl rfl rfl) rfl rfl ?_
              refine oN ?_
              first | refine cT rfl ?_ | refine cF rfl ?_ | refine CW_cond rfl (fun hc => ?_) (fun hc => ?_)
              all_goals try simp only [s1, s2, s3, s4, s5, s6, s7, s8, s9, s10, s11, s12] at hc
              all_goals try (exfalso; first | omega | (simp at hc; done) | contradiction; done)
              all_goals first
                | (
                 refine CW_skip ?_)
                | (
                 refine CW_exit ?_)
              all_goals first
                | with_reducible refine tR ?_
                | with_reducible refine tE ?_
                | (
                 with_reducible refine tN ?_
                 refine CW_seq ?_
                 refine CW_block ?_
                 refine cR ?_
                 iterate 3 refine oM rfl rfl ?_
                 first | refine oQ (Is0 rfl rfl rfl rfl rfl rfl) rfl rfl ?_ | refine oQ (Is1 rfl rfl rfl rfl rfl rfl) rfl rfl ?_
                 first | refine oQ (Q_ldc rfl rfl rfl rfl rfl) rfl rfl ?_ | refine oQ (Ld rfl rfl rfl rfl) rfl rfl ?_
                 iterate 2 refine oM rfl rfl ?_
                 refine oMulN 12 12 rfl rfl (by omega) (by omega) (by decide) rfl (fun z41 hz41 hl41 hu41 => ?_)
                 first | refine oQ (Q_binu rfl rfl rfl (by omega)) rfl rfl ?_ | refine oQ (Q_bin rfl rfl rfl) rfl rfl ?_
                 refine oM rfl rfl ?_
                 refine oMulN 156 12 rfl rfl (by omega) (by omega) (by decide) rfl (fun z44 hz44 hl44 hu44 => ?_)
                 refine oQ (Q_call0 (l01Mod_con _ _ (by omega) (by omega)) rfl rfl rfl) rfl rfl ?_
                 refine oA rfl rfl ?_
                 refine oN ?_
                 refine CW_region ?_
                 iterate 3 refine oM rfl rfl ?_
                 first | refine oQ (Is0 rfl rfl rfl rfl rfl rfl) rfl rfl ?_ | refine oQ (Is1 rfl rfl rfl rfl rfl rfl) rfl rfl ?_
                 refine oS rfl rfl rfl rfl rfl ?_
                 refine OW_nil ?_
                 all_goals first | with_reducible refine bN ?_ | with_reducible refine bE ?_ | with_reducible refine bR ?_ | refine bX rfl ?_
                 all_goals with_reducible refine tN ?_
                 all_goals (
                  refine CW_region ?_
                  refine oM rfl rfl ?_
                  first | refine oQ (Q_binu rfl rfl rfl (by omega)) rfl rfl ?_ | refine oQ (Q_bin rfl rfl rfl) rfl rfl ?_
                  refine oA rfl rfl ?_
                  refine OW_nil ?_))
              all_goals first
                | with_reducible refine tR ?_
                | with_reducible refine tE ?_
                | (
                 with_reducible refine tN ?_
                 refine RW_succ ?_
                 refine CW_seq ?_
                 refine cR ?_
                 iterate 2 refine oM rfl rfl ?_
                 refine oQ (Q_bin rfl rfl rfl) rfl rfl ?_
                 refine oN ?_
                 first | refine cT rfl ?_ | refine cF rfl ?_ | refine CW_cond rfl (fun hc => ?_) (fun hc => ?_)
                 all_goals try simp only [s1, s2, s3, s4, s5, s6, s7, s8, s9, s10, s11, s12] at hc
                 all_goals try (exfalso; first | omega | (simp at hc; done) | contradiction; done)
                 all_goals first
                   | (
                    refine CW_skip ?_)
                   | (
                    refine CW_exit ?_)
                 all_goals first
                   | with_reducible refine tR ?_
                   | with_reducible refine tE ?_
                   | (
                    with_reducible refine tN ?_
                    refine CW_seq ?_
                    refine CW_block ?_
                    refine cR ?_
                    iterate 3 refine oM rfl rfl ?_
                    first | refine oQ (Is0 rfl rfl rfl rfl rfl rfl) rfl rfl ?_ | refine oQ (Is1 rfl rfl rfl rfl rfl rfl) rfl rfl ?_
                    first | refine oQ (Q_ldc rfl rfl rfl rfl rfl) rfl rfl ?_ | refine oQ (Ld rfl rfl rfl rfl) rfl rfl ?_
                    iterate 2 refine oM rfl rfl ?_
                    refine oMulN 12 12 rfl rfl (by omega) (by omega) (by decide) rfl (fun z41 hz41 hl41 hu41 => ?_)
                    first | refine oQ (Q_binu rfl rfl rfl (by omega)) rfl rfl ?_ | refine oQ (Q_bin rfl rfl rfl) rfl rfl ?_
                    refine oM rfl rfl ?_
                    refine oMulN 156 12 rfl rfl (by omega) (by omega) (by decide) rfl (fun z44 hz44 hl44 hu44 => ?_)
                    refine oQ (Q_call0 (l01Mod_con _ _ (by omega) (by omega)) rfl rfl rfl) rfl rfl ?_
                    refine oA rfl rfl ?_
                    refine oN ?_
                    refine CW_region ?_
                    iterate 3 refine oM rfl rfl ?_
                    first | refine oQ (Is0 rfl rfl rfl rfl rfl rfl) rfl rfl ?_ | refine oQ (Is1 rfl rfl rfl rfl rfl rfl) rfl rfl ?_
                    refine oS rfl rfl rfl rfl rfl ?_
                    refine OW_nil ?_
                    all_goals first | with_reducible refine bN ?_ | with_reducible refine bE ?_ | with_reducible refine bR ?_ | refine bX rfl ?_
                    all_goals with_reducible refine tN ?_
                    all_goals (
                     refine CW_region ?_
                     refine oM rfl rfl ?_
                     first | refine oQ (Q_binu rfl rfl rfl (by omega)) rfl rfl ?_ | refine oQ (Q_bin rfl rfl rfl) rfl rfl ?_
                     refine oA rfl rfl ?_
                     refine OW_nil ?_))
                 all_goals first
                   | with_reducible refine tR ?_
                   | with_reducible refine tE ?_
                   | (
                    with_reducible refine tN ?_
                    refine RW_succ ?_
                    refine CW_seq ?_
                    refine cR ?_
                    iterate 2 refine oM rfl rfl ?_
                    refine oQ (Q_bin rfl rfl rfl) rfl rfl ?_
                    refine oN ?_
                    first | refine cT rfl ?_ | refine cF rfl ?_ | refine CW_cond rfl (fun hc => ?_) (fun hc => ?_)
                    all_goals try simp only [s1, s2, s3, s4, s5, s6, s7, s8, s9, s10, s11, s12] at hc
                    all_goals try (exfalso; first | omega | (simp at hc; done) | contradiction; done)
                    all_goals first
                      | (
                       refine CW_skip ?_)
                      | (
                       refine CW_exit ?_)
                    all_goals first
                      | with_reducible refine tR ?_
                      | with_reducible refine tE ?_
                      | (
                       with_reducible refine tN ?_
                       refine CW_seq ?_
                       refine CW_block ?_
                       refine cR ?_
                       iterate 3 refine oM rfl rfl ?_
                       first | refine oQ (Is0 rfl rfl rfl rfl rfl rfl) rfl rfl ?_ | refine oQ (Is1 rfl rfl rfl rfl rfl rfl) rfl rfl ?_
                       first | refine oQ (Q_ldc rfl rfl rfl rfl rfl) rfl rfl ?_ | refine oQ (Ld rfl rfl rfl rfl) rfl rfl ?_
                       iterate 2 refine oM rfl rfl ?_
                       refine oMulN 12 12 rfl rfl (by omega) (by omega) (by decide) rfl (fun z41 hz41 hl41 hu41 => ?_)
                       first | refine oQ (Q_binu rfl rfl rfl (by omega)) rfl rfl ?_ | refine oQ (Q_bin rfl rfl rfl) rfl rfl ?_
                       refine oM rfl rfl ?_
                       refine oMulN 156 12 rfl rfl (by omega) (by omega) (by decide) rfl (fun z44 hz44 hl44 hu44 => ?_)
                       refine oQ (Q_call0 (l01Mod_con _ _ (by omega) (by omega)) rfl rfl rfl) rfl rfl ?_
                       refine oA rfl rfl ?_
                       refine oN ?_
                       refine CW_region ?_
                       iterate 3 refine oM rfl rfl ?_
                       first | refine oQ (Is0 rfl rfl rfl rfl rfl rfl) rfl rfl ?_ | refine oQ (Is1 rfl rfl rfl rfl rfl rfl) rfl rfl ?_
                       refine oS rfl rfl rfl rfl rfl ?_
                       refine OW_nil ?_
                       all_goals first | with_reducible refine bN ?_ | with_reducible refine bE ?_ | with_reducible refine bR ?_ | refine bX rfl ?_
                       all_goals with_reducible refine tN ?_
                       all_goals (
                        refine CW_region ?_
                        refine oM rfl rfl ?_
                        first | refine oQ (Q_binu rfl rfl rfl (by omega)) rfl rfl ?_ | refine oQ (Q_bin rfl rfl rfl) rfl rfl ?_
                        refine oA rfl rfl ?_
                        refine OW_nil ?_))
                    all_goals first
                      | with_reducible refine tR ?_
                      | with_reducible refine tE ?_
                      | (
                       with_reducible refine tN ?_
                       refine RW_succ ?_
                       refine CW_seq ?_
                       refine cR ?_
                       iterate 2 refine oM rfl rfl ?_
                       refine oQ (Q_bin rfl rfl rfl) rfl rfl ?_
                       refine oN ?_
                       first | refine cT rfl ?_ | refine cF rfl ?_ | refine CW_cond rfl (fun hc => ?_) (fun hc => ?_)
                       all_goals try simp only [s1, s2, s3, s4, s5, s6, s7, s8, s9, s10, s11, s12] at hc
                       all_goals try (exfalso; first | omega | (simp at hc; done) | contradiction; done)
                       all_goals first
                         | (
                          refine CW_skip ?_)
                         | (
                          refine CW_exit ?_)
                       all_goals first
                         | with_reducible refine tR ?_
                         | with_reducible refine tE ?_
                         | (
                          with_reducible refine tN ?_
                          refine CW_seq ?_
                          refine CW_block ?_
                          refine cR ?_
                          iterate 3 refine oM rfl rfl ?_
                          first | refine oQ (Is0 rfl rfl rfl rfl rfl rfl) rfl rfl ?_ | refine oQ (Is1 rfl rfl rfl rfl rfl rfl) rfl rfl ?_
                          first | refine oQ (Q_ldc rfl rfl rfl rfl rfl) rfl rfl ?_ | refine oQ (Ld rfl rfl rfl rfl) rfl rfl ?_
                          iterate 2 refine oM rfl rfl ?_
                          refine oMulN 12 12 rfl rfl (by omega) (by omega) (by decide) rfl (fun z41 hz41 hl41 hu41 => ?_)
                          first | refine oQ (Q_binu rfl rfl rfl (by omega)) rfl rfl ?_ | refine oQ (Q_bin rfl rfl rfl) rfl rfl ?_
                          refine oM rfl rfl ?_
                          refine oMulN 156 12 rfl rfl (by omega) (by omega) (by decide) rfl (fun z44 hz44 hl44 hu44 => ?_)
                          refine oQ (Q_call0 (l01Mod_con _ _ (by omega) (by omega)) rfl rfl rfl) rfl rfl ?_
                          refine oA rfl rfl ?_
                          refine oN ?_
                          refine CW_region ?_
                          iterate 3 refine oM rfl rfl ?_
                          first | refine oQ (Is0 rfl rfl rfl rfl rfl rfl) rfl rfl ?_ | refine oQ (Is1 rfl rfl rfl rfl rfl rfl) rfl rfl ?_
                          refine oS rfl rfl rfl rfl rfl ?_
                          refine OW_nil ?_
                          all_goals first | with_reducible refine bN ?_ | with_reducible refine bE ?_ | with_reducible refine bR ?_ | refine bX rfl ?_
                          all_goals with_reducible refine tN ?_
                          all_goals (
                           refine CW_region ?_
                           refine oM rfl rfl ?_
                           first | refine oQ (Q_binu rfl rfl rfl (by omega)) rfl rfl ?_ | refine oQ (Q_bin rfl rfl rfl) rfl rfl ?_
                           refine oA rfl rfl ?_
                           refine OW_nil ?_))
                       all_goals first
                         | with_reducible refine tR ?_
                         | with_reducible refine tE ?_
                         | (
                          with_reducible refine tN ?_
                          exfalso; first | omega | (simp at hc; done) | (simp_all; done)))))
              all_goals first | with_reducible refine bN ?_ | with_reducible refine bE ?_ | with_reducible refine bR ?_ | refine bX rfl ?_
              all_goals with_reducible refine tN ?_
              all_goals (
               refine cR ?_
               iterate 3 refine oM rfl rfl ?_
               first | refine oQ (Is0 rfl rfl rfl rfl rfl rfl) rfl rfl ?_ | refine oQ (Is1 rfl rfl rfl rfl rfl rfl) rfl rfl ?_
               first | refine oQ (Q_ldc rfl rfl rfl rfl rfl) rfl rfl ?_ | refine oQ (Ld rfl rfl rfl rfl) rfl rfl ?_
               iterate 2 refine oM rfl rfl ?_
               refine oMulN 12 12 rfl rfl (by omega) (by omega) (by decide) rfl (fun z57 hz57 hl57 hu57 => ?_)
               first | refine oQ (Q_binu rfl rfl rfl (by omega)) rfl rfl ?_ | refine oQ (Q_bin rfl rfl rfl) rfl rfl ?_
               refine oQ (Q_call0 (l01Mod_con _ _ (by omega) (by omega)) rfl rfl rfl) rfl rfl ?_
               refine oQ (Q_bin rfl rfl rfl) rfl rfl ?_
               refine oN ?_
               first | refine cT rfl ?_ | refine cF rfl ?_ | refine CW_cond rfl (fun hc => ?_) (fun hc => ?_)
               all_goals try simp only [s1, s2, s3, s4, s5, s6, s7, s8, s9, s10, s11, s12] at hc
               all_goals try (exfalso; first | omega | (simp at hc; done) | contradiction; done)
               all_goals first
                 | (
                  refine CW_skip ?_)
                 | (
                  refine cR ?_
                  refine oM rfl rfl ?_
                  refine oA rfl rfl ?_
                  refine oN ?_
                  refine CW_ret ?_)))
           all_goals first
             | with_reducible refine tR ?_
             | with_reducible refine tE ?_
             | (
              with_reducible refine tN ?_
              refine cR ?_
              refine oM rfl rfl ?_
              first | refine oQ (Q_binu rfl rfl rfl (by omega)) rfl rfl ?_ | refine oQ (Q_bin rfl rfl rfl) rfl rfl ?_
              refine oA rfl rfl ?_
              refine oN ?_
              refine CW_region ?_
              refine oM rfl rfl ?_
              refine oA rfl rfl ?_
              refine OW_nil ?_)
           all_goals first | with_reducible refine bN ?_ | with_reducible refine bE ?_ | with_reducible refine bR ?_ | refine bX rfl ?_)
        all_goals first
          | with_reducible refine tR ?_
          | with_reducible refine tE ?_
          | (
           with_reducible refine tN ?_
           refine RW_succ ?_
           refine CW_seq ?_
           refine cR ?_
           refine oM rfl rfl ?_
           first | refine oQ (Q_len rfl rfl rfl rfl) rfl rfl ?_ | refine oQ (Q_len0 rfl rfl rfl rfl) rfl rfl ?_
           refine oQ (Q_bin rfl rfl rfl) rfl rfl ?_
           refine oN ?_
           first | refine cT rfl ?_ | refine cF rfl ?_ | refine CW_cond rfl (fun hc => ?_) (fun hc => ?_)
           all_goals try simp only [s1, s2, s3, s4, s5, s6, s7, s8, s9, s10, s11, s12] at hc
           all_goals try (exfalso; first | omega | (simp at hc; done) | contradiction; done)
           all_goals first
             | (
              refine CW_skip ?_)
             | (
              refine CW_exit ?_)
           all_goals first
             | with_reducible refine tR ?_
             | with_reducible refine tE ?_
             | (
              with_reducible refine tN ?_
              refine CW_block ?_
              refine cR ?_
              refine oM rfl rfl ?_
              first | refine oQ (Q_len rfl rfl rfl rfl) rfl rfl ?_ | refine oQ (Q_len0 rfl rfl rfl rfl) rfl rfl ?_
              first | refine oQ (Q_binu rfl rfl rfl (by omega)) rfl rfl ?_ | refine oQ (Q_bin rfl rfl rfl) rfl rfl ?_
              refine oA rfl rfl ?_
              refine oN ?_
              refine cR ?_
              refine oM rfl rfl ?_
              refine oMk rfl rfl rfl ⟨by decide, rfl, .inl ⟨rfl, rfl⟩⟩ rfl rfl rfl (by first | omega | (dsimp only; omega) | (simp; omega) | (simp; done)) (by first | omega | (dsimp only; omega) | (simp; omega) | (simp; done)) (by first | omega | (dsimp only; omega) | (simp; omega) | (simp; done)) rfl rfl ?_
              refine oA rfl rfl ?_
              refine oN ?_
              refine CW_seq ?_
              refine cR ?_
              refine oM rfl rfl ?_
              refine oQ (Q_bin rfl rfl rfl) rfl rfl ?_
              refine oN ?_
              first | refine cT rfl ?_ | refine cF rfl ?_ | refine CW_cond rfl (fun hc => ?_) (fun hc => ?_)
              all_goals try simp only [s1, s2, s3, s4, s5, s6, s7, s8, s9, s10, s11, s12] at hc
              all_goals try (exfalso; first | omega | (simp at hc; done) | contradiction; done)
              all_goals first
                | (
                 refine CW_seq ?_
                 refine cR ?_
                 refine oM rfl rfl ?_
                 first | refine oQ (Is0 rfl rfl rfl rfl rfl rfl) rfl rfl ?_ | refine oQ (Is1 rfl rfl rfl rfl rfl rfl) rfl rfl ?_
                 first | refine oQ (Q_ldc rfl rfl rfl rfl rfl) rfl rfl ?_ | refine oQ (Ld rfl rfl rfl rfl) rfl rfl ?_
                 refine oQ (Q_bin rfl rfl rfl) rfl rfl ?_
                 refine oN ?_
                 first | refine cT rfl ?_ | refine cF rfl ?_ | refine CW_cond rfl (fun hc => ?_) (fun hc => ?_)
                 all_goals try simp only [s1, s2, s3, s4, s5, s6, s7, s8, s9, s10, s11, s12] at hc
                 all_goals try (exfalso; first | omega | (simp at hc; done) | contradiction; done)
                 all_goals first
                   | (
                    refine CW_skip ?_)
                   | (
                    refine cR ?_
                    refine oM rfl rfl ?_
                    refine oA rfl rfl ?_
                    refine oN ?_
                    refine CW_ret ?_)
                 all_goals first
                   | with_reducible refine tR ?_
                   | with_reducible refine tE ?_
                   | (
                    with_reducible refine tN ?_
                    refine cR ?_
                    refine oA rfl rfl ?_
                    refine oN ?_
                    refine CW_block ?_
                    refine CW_rounds 4 ?_
                    refine RW_succ ?_
                    refine CW_seq ?_
                    refine cR ?_
                    iterate 2 refine oM rfl rfl ?_
                    refine oQ (Q_bin rfl rfl rfl) rfl rfl ?_
                    refine oN ?_
                    first | refine cT rfl ?_ | refine cF rfl ?_ | refine CW_cond rfl (fun hc => ?_) (fun hc => ?_)
                    all_goals try simp only [s1, s2, s3, s4, s5, s6, s7, s8, s9, s10, s11, s12] at hc
                    all_goals try (exfalso; first | omega | (simp at hc; done) | contradiction; done)
                    all_goals first
                      | (
                       refine CW_skip ?_)
                      | (
                       refine CW_exit ?_)
                    all_goals first
                      | with_reducible refine tR ?_
                      | with_reducible refine tE ?_
                      | (
                       with_reducible refine tN ?_
                       refine CW_seq ?_
                       refine CW_block ?_
                       refine CW_region ?_
                       iterate 4 refine oM rfl rfl ?_
                       first | refine oQ (Q_binu rfl rfl rfl (by omega)) rfl rfl ?_ | refine oQ (Q_bin rfl rfl rfl) rfl rfl ?_
                       first | refine oQ (Is0 rfl rfl rfl rfl rfl rfl) rfl rfl ?_ | refine oQ (Is1 rfl rfl rfl rfl rfl rfl) rfl rfl ?_
                       first | refine oQ (Q_ldc rfl rfl rfl rfl rfl) rfl rfl ?_ | refine oQ (Ld rfl rfl rfl rfl) rfl rfl ?_
                       first | refine oQ (Is0 rfl rfl rfl rfl rfl rfl) rfl rfl ?_ | refine oQ (Is1 rfl rfl rfl rfl rfl rfl) rfl rfl ?_
                       refine oS rfl rfl rfl rfl rfl ?_
                       refine OW_nil ?_
                       all_goals first | with_reducible refine bN ?_ | with_reducible refine bE ?_ | with_reducible refine bR ?_ | refine bX rfl ?_
                       all_goals with_reducible refine tN ?_
                       all_goals (
                        refine CW_region ?_
                        refine oM rfl rfl ?_
                        first | refine oQ (Q_binu rfl rfl rfl (by omega)) rfl rfl ?_ | refine oQ (Q_bin rfl rfl rfl) rfl rfl ?_
                        refine oA rfl rfl ?_
                        refine OW_nil ?_))
                    all_goals first
                      | with_reducible refine tR ?_
                      | with_reducible refine tE ?_
                      | (
                       with_reducible refine tN ?_
                       refine RW_succ ?_
                       refine CW_seq ?_
                       refine cR ?_
                       iterate 2 refine oM rfl rfl ?_
                       refine oQ (Q_bin rfl rfl rfl) rfl rfl ?_
                       refine oN ?_
                       first | refine cT rfl ?_ | refine cF rfl ?_ | refine CW_cond rfl (fun hc => ?_) (fun hc => ?_)
                       all_goals try simp only [s1, s2, s3, s4, s5, s6, s7, s8, s9, s10, s11, s12] at hc
                       all_goals try (exfalso; first | omega | (simp at hc; done) | contradiction; done)
                       all_goals first
                         | (
                          refine CW_skip ?_)
                         | (
                          refine CW_exit ?_)
                       all_goals first
                         | with_reducible refine tR ?_
                         | with_reducible refine tE ?_
                         | (
                          with_reducible refine tN ?_
                          refine CW_seq ?_
                          refine CW_block ?_
                          refine CW_region ?_
                          iterate 4 refine oM rfl rfl ?_
                          first | refine oQ (Q_binu rfl rfl rfl (by omega)) rfl rfl ?_ | refine oQ (Q_bin rfl rfl rfl) rfl rfl ?_
                          first | refine oQ (Is0 rfl rfl rfl rfl rfl rfl) rfl rfl ?_ | refine oQ (Is1 rfl rfl rfl rfl rfl rfl) rfl rfl ?_
                          first | refine oQ (Q_ldc rfl rfl rfl rfl rfl) rfl rfl ?_ | refine oQ (Ld rfl rfl rfl rfl) rfl rfl ?_
                          first | refine oQ (Is0 rfl rfl rfl rfl rfl rfl) rfl rfl ?_ | refine oQ (Is1 rfl rfl rfl rfl rfl rfl) rfl rfl ?_
                          refine oS rfl rfl rfl rfl rfl ?_
                          refine OW_nil ?_
                          all_goals first | with_reducible refine bN ?_ | with_reducible refine bE ?_ | with_reducible refine bR ?_ | refine bX rfl ?_
                          all_goals with_reducible refine tN ?_
                          all_goals (
                           refine CW_region ?_
                           refine oM rfl rfl ?_
                           first | refine oQ (Q_binu rfl rfl rfl (by omega)) rfl rfl ?_ | refine oQ (Q_bin rfl rfl rfl) rfl rfl ?_
                           refine oA rfl rfl ?_
                           refine OW_nil ?_))
                       all_goals first
                         | with_reducible refine tR ?_
                         | with_reducible refine tE ?_
                         | (
                          with_reducible refine tN ?_
                          refine RW_succ ?_
                          refine CW_seq ?_
                          refine cR ?_
                          iterate 2 refine oM rfl rfl ?_
                          refine oQ (Q_bin rfl rfl rfl) rfl rfl ?_
                          refine oN ?_
                          first | refine cT rfl ?_ | refine cF rfl ?_ | refine CW_cond rfl (fun hc => ?_) (fun hc => ?_)
                          all_goals try simp only [s1, s2, s3, s4, s5, s6, s7, s8, s9, s10, s11, s12] at hc
                          all_goals try (exfalso; first | omega | (simp at hc; done) | contradiction; done)
                          all_goals first
                            | (
                             refine CW_skip ?_)
                            | (
                             refine CW_exit ?_)
                          all_goals first
                            | with_reducible refine tR ?_
                            | with_reducible refine tE ?_
                            | (
                             with_reducible refine tN ?_
                             refine CW_seq ?_
                             refine CW_block ?_
                             refine CW_region ?_
                             iterate 4 refine oM rfl rfl ?_
                             first | refine oQ (Q_binu rfl rfl rfl (by omega)) rfl rfl ?_ | refine oQ (Q_bin rfl rfl rfl) rfl rfl ?_
                             first | refine oQ (Is0 rfl rfl rfl rfl rfl rfl) rfl rfl ?_ | refine oQ (Is1 rfl rfl rfl rfl rfl rfl) rfl rfl ?_
                             first | refine oQ (Q_ldc rfl rfl rfl rfl rfl) rfl rfl ?_ | refine oQ (Ld rfl rfl rfl rfl) rfl rfl ?_
                             first | refine oQ (Is0 rfl rfl rfl rfl rfl rfl) rfl rfl ?_ | refine oQ (Is1 rfl rfl rfl rfl rfl rfl) rfl rfl ?_
                             refine oS rfl rfl rfl rfl rfl ?_
                             refine OW_nil ?_
                             all_goals first | with_reducible refine bN ?_ | with_reducible refine bE ?_ | with_reducible refine bR ?_ | refine bX rfl ?_
                             all_goals with_reducible refine tN ?_
                             all_goals (
                              refine CW_region ?_
                              refine oM rfl rfl ?_
                              first | refine oQ (Q_binu rfl rfl rfl (by omega)) rfl rfl ?_ | refine oQ (Q_bin rfl rfl rfl) rfl rfl ?_
                              refine oA rfl rfl ?_
                              refine OW_nil ?_))
                          all_goals first
                            | with_reducible refine tR ?_
                            | with_reducible refine tE ?_
                            | (
                             with_reducible refine tN ?_
                             refine RW_succ ?_
                             refine CW_seq ?_
                             refine cR ?_
                             iterate 2 refine oM rfl rfl ?_
                             refine oQ (Q_bin rfl rfl rfl) rfl rfl ?_
                             refine oN ?_
                             first | refine cT rfl ?_ | refine cF rfl ?_ | refine CW_cond rfl (fun hc => ?_) (fun hc => ?_)
                             all_goals try simp only [s1, s2, s3, s4, s5, s6, s7, s8, s9, s10, s11, s12] at hc
                             all_goals try (exfalso; first | omega | (simp at hc; done) | contradiction; done)
                             all_goals first
                               | (
                                refine CW_skip ?_)
                               | (
                                refine CW_exit ?_)
                             all_goals first
                               | with_reducible refine tR ?_
                               | with_reducible refine tE ?_
                               | (
                                with_reducible refine tN ?_
                                refine CW_seq ?_
                                refine CW_block ?_
                                refine CW_region ?_
                                iterate 4 refine oM rfl rfl ?_
                                first | refine oQ (Q_binu rfl rfl rfl (by omega)) rfl rfl ?_ | refine oQ (Q_bin rfl rfl rfl) rfl rfl ?_
                                first | refine oQ (Is0 rfl rfl rfl rfl rfl rfl) rfl rfl ?_ | refine oQ (Is1 rfl rfl rfl rfl rfl rfl) rfl rfl ?_
                                first | refine oQ (Q_ldc rfl rfl rfl rfl rfl) rfl rfl ?_ | refine oQ (Ld rfl rfl rfl rfl) rfl rfl ?_
                                first | refine oQ (Is0 rfl rfl rfl rfl rfl rfl) rfl rfl ?_ | refine oQ (Is1 rfl rfl rfl rfl rfl rfl) rfl rfl ?_
                                refine oS rfl rfl rfl rfl rfl ?_
                                refine OW_nil ?_
                                all_goals first | with_reducible refine bN ?_ | with_reducible refine bE ?_ | with_reducible refine bR ?_ | refine bX rfl ?_
                                all_goals with_reducible refine tN ?_
                                all_goals (
                                 refine CW_region ?_
                                 refine oM rfl rfl ?_
                                 first | refine oQ (Q_binu rfl rfl rfl (by omega)) rfl rfl ?_ | refine oQ (Q_bin rfl rfl rfl) rfl rfl ?_
                                 refine oA rfl rfl ?_
                                 refine OW_nil ?_))
                             all_goals first
                               | with_reducible refine tR ?_
                               | with_reducible refine tE ?_
                               | (
                                with_reducible refine tN ?_
                                exfalso; first | omega | (simp at hc; done) | (simp_all; done)))))
                    all_goals first | with_reducible refine bN ?_ | with_reducible refine bE ?_ | with_reducible refine bR ?_ | refine bX rfl ?_))
                | (
                 refine cR ?_
                 iterate 2 refine oM rfl rfl ?_
                 (exfalso; exact absurd rfl hc)
                 refine oA rfl rfl ?_
                 refine oN ?_
                 refine cR ?_
                 refine oA rfl rfl ?_
                 refine oN ?_
                 refine CW_seq ?_
                 refine cR ?_
                 refine oA rfl rfl ?_
                 refine oN ?_
                 refine CW_block ?_
                 refine CW_rounds 4 ?_
                 refine RW_succ ?_
                 refine CW_seq ?_
                 refine cR ?_
                 iterate 2 refine oM rfl rfl ?_
                 refine oQ (Q_bin rfl rfl rfl) rfl rfl ?_
                 refine oN ?_
                 first | refine cT rfl ?_ | refine cF rfl ?_ | refine CW_cond rfl (fun hc => ?_) (fun hc => ?_)
                 all_goals try simp only [s1, s2, s3, s4, s5, s6, s7, s8, s9, s10, s11, s12] at hc
                 all_goals try (exfalso; first | omega | (simp at hc; done) | contradiction; done)
                 all_goals first
                   | (
                    refine CW_skip ?_)
                   | (
                    refine CW_exit ?_)
                 all_goals first
                   | with_reducible refine tR ?_
                   | with_reducible refine tE ?_
                   | (
                    with_reducible refine tN ?_
                    refine CW_seq ?_
                    refine CW_block ?_
                    refine cR ?_
                    iterate 3 refine oM rfl rfl ?_
                    first | refine oQ (Is0 rfl rfl rfl rfl rfl rfl) rfl rfl ?_ | refine oQ (Is1 rfl rfl rfl rfl rfl rfl) rfl rfl ?_
                    first | refine oQ (Q_ldc rfl rfl rfl rfl rfl) rfl rfl ?_ | refine oQ (Ld rfl rfl rfl rfl) rfl rfl ?_
                    iterate 2 refine oM rfl rfl ?_
                    refine oMulN 12 12 rfl rfl (by omega) (by omega) (by decide) rfl (fun z41 hz41 hl41 hu41 => ?_)
                    first | refine oQ (Q_binu rfl rfl rfl (by omega)) rfl rfl ?_ | refine oQ (Q_bin rfl rfl rfl) rfl rfl ?_
                    refine oM rfl rfl ?_
                    refine oMulN 156 12 rfl rfl (by omega) (by omega) (by decide) rfl (fun z44 hz44 hl44 hu44 => ?_)
                    refine oQ (Q_call0 (l01Mod_con _ _ (by omega) (by omega)) rfl rfl rfl) rfl rfl ?_
                    refine oA rfl rfl ?_
                    refine oN ?_
                    refine CW_region ?_
                    iterate 3 refine oM rfl rfl ?_
                    first | refine oQ (Is0 rfl rfl rfl rfl rfl rfl) rfl rfl ?_ | refine oQ (Is1 rfl rfl rfl rfl rfl rfl) rfl rfl ?_
                    refine oS rfl rfl rfl rfl rfl ?_
                    refine OW_nil ?_
                    all_goals first | with_reducible refine bN ?_ | with_reducible refine bE ?_ | with_reducible refine bR ?_ | refine bX rfl ?_
                    all_goals with_reducible refine tN ?_
                    all_goals (
                     refine CW_region ?_
                     refine oM rfl rfl ?_
                     first | refine oQ (Q_binu rfl rfl rfl (by omega)) rfl rfl ?_ | refine oQ (Q_bin rfl rfl rfl) rfl rfl ?_
                     refine oA rfl rfl ?_
                     refine OW_nil ?_))
                 all_goals first
                   | with_reducible refine tR ?_
                   | with_reducible refine tE ?_
                   | (
                    with_reducible refine tN ?_
                    refine RW_succ ?_
                    refine CW_seq ?_
                    refine cR ?_
                    iterate 2 refine oM rfl rfl ?_
                    refine oQ (Q_bin rfl rfl rfl) rfl rfl ?_
                    refine oN ?_
                    first | refine cT rfl ?_ | refine cF rfl ?_ | refine CW_cond rfl (fun hc => ?_) (fun hc => ?_)
                    all_goals try simp only [s1, s2, s3, s4, s5, s6, s7, s8, s9, s10, s11, s12] at hc
                    all_goals try (exfalso; first | omega | (simp at hc; done) | contradiction; done)
                    all_goals first
                      | (
                       refine CW_skip ?_)
                      | (
                       refine CW_exit ?_)
                    all_goals first
                      | with_reducible refine tR ?_
                      | with_reducible refine tE ?_
                      | (
                       with_reducible refine tN ?_
                       refine CW_seq ?_
                       refine CW_block ?_
                       refine cR ?_
                       iterate 3 refine oM rfl rfl ?_
                       first | refine oQ (Is0 rfl rfl rfl rfl rfl rfl) rfl rfl ?_ | refine oQ (Is1 rfl rfl rfl rfl rfl rfl) rfl rfl ?_
                       first | refine oQ (Q_ldc rfl rfl rfl rfl rfl) rfl rfl ?_ | refine oQ (Ld rfl rfl rfl rfl) rfl rfl ?_
                       iterate 2 refine oM rfl rfl ?_
                       refine oMulN 12 12 rfl rfl (by omega) (by omega) (by decide) rfl (fun z41 hz41 hl41 hu41 => ?_)
                       first | refine oQ (Q_binu rfl rfl rfl (by omega)) rfl rfl ?_ | refine oQ (Q_bin rfl rfl rfl) rfl rfl ?_
                       refine oM rfl rfl ?_
                       refine oMulN 156 12 rfl rfl (by omega) (by omega) (by decide) rfl (fun z44 hz44 hl44 hu44 => ?_)
                       refine oQ (Q_call0 (l01Mod_con _ _ (by omega) (by omega)) rfl rfl rfl) rfl rfl ?_
                       refine oA rfl rfl ?_
                       refine oN ?_
                       refine CW_region ?_
                       iterate 3 refine oM rfl rfl ?_
                       first | refine oQ (Is0 rfl rfl rfl rfl rfl rfl) rfl rfl ?_ | refine oQ (Is1 rfl rfl rfl rfl rfl rfl) rfl rfl ?_
                       refine oS rfl rfl rfl rfl rfl ?_
                       refine OW_nil ?_
                       all_goals first | with_reducible refine bN ?_ | with_reducible refine bE ?_ | with_reducible refine bR ?_ | refine bX rfl ?_
                       all_goals with_reducible refine tN ?_
                       all_goals (
                        refine CW_region ?_
                        refine oM rfl rfl ?_
                        first | refine oQ (Q_binu rfl rfl rfl (by omega)) rfl rfl ?_ | refine oQ (Q_bin rfl rfl rfl) rfl rfl ?_
                        refine oA rfl rfl ?_
                        refine OW_nil ?_))
                    all_goals first
                      | with_reducible refine tR ?_
                      | with_reducible refine tE ?_
                      | (
                       with_reducible refine tN ?_
                       refine RW_succ ?_
                       refine CW_seq ?_
                       refine cR ?_
                       iterate 2 refine oM rfl rfl ?_
                       refine oQ (Q_bin rfl rfl rfl) rfl rfl ?_
                       refine oN ?_
                       first | refine cT rfl ?_ | refine cF rfl ?_ | refine CW_cond rfl (fun hc => ?_) (fun hc => ?_)
                       all_goals try simp only [s1, s2, s3, s4, s5, s6, s7, s8, s9, s10, s11, s12] at hc
                       all_goals try (exfalso; first | omega | (simp at hc; done) | contradiction; done)
                       all_goals first
                         | (
                          refine CW_skip ?_)
                         | (
                          refine CW_exit ?_)
                       all_goals first
                         | with_reducible refine tR ?_
                         | with_reducible refine tE ?_
                         | (
                          with_reducible refine tN ?_
                          refine CW_seq ?_
                          refine CW_block ?_
                          refine cR ?_
                          iterate 3 refine oM rfl rfl ?_
                          first | refine oQ (Is0 rfl rfl rfl rfl rfl rfl) rfl rfl ?_ | refine oQ (Is1 rfl rfl rfl rfl rfl rfl) rfl rfl ?_
                          first | refine oQ (Q_ldc rfl rfl rfl rfl rfl) rfl rfl ?_ | refine oQ (Ld rfl rfl rfl rfl) rfl rfl ?_
                          iterate 2 refine oM rfl rfl ?_
                          refine oMulN 12 12 rfl rfl (by omega) (by omega) (by decide) rfl (fun z41 hz41 hl41 hu41 => ?_)
                          first | refine oQ (Q_binu rfl rfl rfl (by omega)) rfl rfl ?_ | refine oQ (Q_bin rfl rfl rfl) rfl rfl ?_
                          refine oM rfl rfl ?_
                          refine oMulN 156 12 rfl rfl (by omega) (by omega) (by decide) rfl (fun z44 hz44 hl44 hu44 => ?_)
                          refine oQ (Q_call0 (l01Mod_con _ _ (by omega) (by omega)) rfl rfl rfl) rfl rfl ?_
                          refine oA rfl rfl ?_
                          refine oN ?_
                          refine CW_region ?_
                          iterate 3 refine oM rfl rfl ?_
                          first | refine oQ (Is0 rfl rfl rfl rfl rfl rfl) rfl rfl ?_ | refine oQ (Is1 rfl rfl rfl rfl rfl rfl) rfl rfl ?_
                          refine oS rfl rfl rfl rfl rfl ?_
                          refine OW_nil ?_
                          all_goals first | with_reducible refine bN ?_ | with_reducible refine bE ?_ | with_reducible refine bR ?_ | refine bX rfl ?_
                          all_goals with_reducible refine tN ?_
                          all_goals (
                           refine CW_region ?_
                           refine oM rfl rfl ?_
                           first | refine oQ (Q_binu rfl rfl rfl (by omega)) rfl rfl ?_ | refine oQ (Q_bin rfl rfl rfl) rfl rfl ?_
                           refine oA rfl rfl ?_
                           refine OW_nil ?_))
                       all_goals first
                         | with_reducible refine tR ?_
                         | with_reducible refine tE ?_
                         | (
                          with_reducible refine tN ?_
                          refine RW_succ ?_
                          refine CW_seq ?_
                          refine cR ?_
                          iterate 2 refine oM rfl rfl ?_
                          refine oQ (Q_bin rfl rfl rfl) rfl rfl ?_
                          refine oN ?_
                          first | refine cT rfl ?_ | refine cF rfl ?_ | refine CW_cond rfl (fun hc => ?_) (fun hc => ?_)
                          all_goals try simp only [s1, s2, s3, s4, s5, s6, s7, s8, s9, s10, s11, s12] at hc
                          all_goals try (exfalso; first | omega | (simp at hc; done) | contradiction; done)
                          all_goals first
                            | (
                             refine CW_skip ?_)
                            | (
                             refine CW_exit ?_)
                          all_goals first
                            | with_reducible refine tR ?_
                            | with_reducible refine tE ?_
                            | (
                             with_reducible refine tN ?_
                             refine CW_seq ?_
                             refine CW_block ?_
                             refine cR ?_
                             iterate 3 refine oM rfl rfl ?_
                             first | refine oQ (Is0 rfl rfl rfl rfl rfl rfl) rfl rfl ?_ | refine oQ (Is1 rfl rfl rfl rfl rfl rfl) rfl rfl ?_
                             first | refine oQ (Q_ldc rfl rfl rfl rfl rfl) rfl rfl ?_ | refine oQ (Ld rfl rfl rfl rfl) rfl rfl ?_
                             iterate 2 refine oM rfl rfl ?_
                             refine oMulN 12 12 rfl rfl (by omega) (by omega) (by decide) rfl (fun z41 hz41 hl41 hu41 => ?_)
                             first | refine oQ (Q_binu rfl rfl rfl (by omega)) rfl rfl ?_ | refine oQ (Q_bin rfl rfl rfl) rfl rfl ?_
                             refine oM rfl rfl ?_
                             refine oMulN 156 12 rfl rfl (by omega) (by omega) (by decide) rfl (fun z44 hz44 hl44 hu44 => ?_)
                             refine oQ (Q_call0 (l01Mod_con _ _ (by omega) (by omega)) rfl rfl rfl) rfl rfl ?_
                             refine oA rfl rfl ?_
                             refine oN ?_
                             refine CW_region ?_
                             iterate 3 refine oM rfl rfl ?_
                             first | refine oQ (Is0 rfl rfl rfl rfl rfl rfl) rfl rfl ?_ | refine oQ (Is1 rfl rfl rfl rfl rfl rfl) rfl rfl ?_
                             refine oS rfl rfl rfl rfl rfl ?_
                             refine OW_nil ?_
                             all_goals first | with_reducible refine bN ?_ | with_reducible refine bE ?_ | with_reducible refine bR ?_ | refine bX rfl ?_
                             all_goals with_reducible refine tN ?_
                             all_goals (
                              refine CW_region ?_
                              refine oM rfl rfl ?_
                              first | refine oQ (Q_binu rfl rfl rfl (by omega)) rfl rfl ?_ | refine oQ (Q_bin rfl rfl rfl) rfl rfl ?_
                              refine oA rfl rfl ?_
                              refine OW_nil ?_))
                          all_goals first
                            | with_reducible refine tR ?_
                            | with_reducible refine tE ?_
                            | (
                             with_reducible refine tN ?_
                             exfalso; first | omega | (simp at hc; done) | (simp_all; done)))))
                 all_goals first | with_reducible refine bN ?_ | with_reducible refine bE ?_ | with_reducible refine bR ?_ | refine bX rfl ?_
                 all_goals with_reducible refine tN ?_
                 all_goals (
                  refine cR ?_
                  iterate 3 refine oM rfl rfl ?_
                  first | refine oQ (Is0 rfl rfl rfl rfl rfl rfl) rfl rfl ?_ | refine oQ (Is1 rfl rfl rfl rfl rfl rfl) rfl rfl ?_
                  first | refine oQ (Q_ldc rfl rfl rfl rfl rfl) rfl rfl ?_ | refine oQ (Ld rfl rfl rfl rfl) rfl rfl ?_
                  iterate 2 refine oM rfl rfl ?_
                  refine oMulN 12 12 rfl rfl (by omega) (by omega) (by decide) rfl (fun z57 hz57 hl57 hu57 => ?_)
                  first | refine oQ (Q_binu rfl rfl rfl (by omega)) rfl rfl ?_ | refine oQ (Q_bin rfl rfl rfl) rfl rfl ?_
                  refine oQ (Q_call0 (l01Mod_con _ _ (by omega) (by omega)) rfl rfl rfl) rfl rfl ?_
                  refine oQ (Q_bin rfl rfl rfl) rfl rfl ?_
                  refine oN ?_
                  first | refine cT rfl ?_ | refine cF rfl ?_ | refine CW_cond rfl (fun hc => ?_) (fun hc => ?_)
                  all_goals try simp only [s1, s2, s3, s4, s5, s6, s7, s8, s9, s10, s11, s12] at hc
                  all_goals try (exfalso; first | omega | (simp at hc; done) | contradiction; done)
                  all_goals first
                    | (
                     refine CW_skip ?_)
                    | (
                     refine cR ?_
                     refine oM rfl rfl ?_
                     refine oA rfl rfl ?_
                     refine oN ?_
                     refine CW_ret ?_)))
              all_goals first
                | with_reducible refine tR ?_
                | with_reducible refine tE ?_
                | (
                 with_reducible refine tN ?_
                 refine cR ?_
                 refine oM rfl rfl ?_
                 first | refine oQ (Q_binu rfl rfl rfl (by omega)) rfl rfl ?_ | refine oQ (Q_bin rfl rfl rfl) rfl rfl ?_
                 refine oA rfl rfl ?_
                 refine oN ?_
                 refine CW_region ?_
                 refine oM rfl rfl ?_
                 refine oA rfl rfl ?_
                 refine OW_nil ?_)
              all_goals first | with_reducible refine bN ?_ | with_reducible refine bE ?_ | with_reducible refine bR ?_ | refine bX rfl ?_)
           all_goals first
             | with_reducible refine tR ?_
             | with_reducible refine tE ?_
             | (
              with_reducible refine tN ?_
              exfalso; first | omega | (simp at hc; done) | (simp_all; done)))))
  all_goals first | with_reducible refine bN ?_ | with_reducible refine bE ?_ | with_reducible refine bR ?_ | refine bX rfl ?_
  all_goals first
    | with_reducible refine tR ?_
    | with_reducible refine tE ?_
    | (
     with_reducible refine tN ?_
     refine cR ?_
     refine oM rfl rfl ?_
     refine oA rfl rfl ?_
     refine oN ?_
     refine CW_ret ?_)
  all_goals (
   refine exitQ (.inr rfl) 1 (.cons (.tmp rfl rfl) .nil) ?_ rfl (vHc rfl vHn) rfl rfl
   simp only [resV, V.int.injEq]
   first | (simp_all [oftI, rmT, quT, dvT]; done) | omega)
theorem l06Often_con (p s t : Int) (E sp : List Int) (tt : TypeId) (k : Nat) (hp : primeB p = true) (hEl : E.length = 4) (hE : smN 12 E) (hs : 0 ≤ s ∧ s < p) (ht : 0 ≤ t ∧ t < p) : ConQ Tryd.prog [] 94 [.int p, .slice 0 0 4 k, .int s, .int t] [(0, .ints tt (E ++ sp))] (.int (oftI p s t E : Nat)) := by
  match E, hEl, hE with
  | [E0, E1, E2, E3], _, hE =>
    by_cases h : t = 0
    · subst h; exact l06Often_z p s E0 E1 E2 E3 sp tt k hp hE hs
    · exact l06Often_t p s t E0 E1 E2 E3 sp tt k hp hE hs ht h
end Go.Proofs.YtcklfkblhmlbbaaDoor
namespace Go.Proofs.YtcklfkblhmlbbaaDoor
set_option linter.unusedVariables false
set_option linter.unusedSimpArgs false
open Lean.Grind
def nxH (p x : Int) (P L : List Int) (j : Nat) : List Int := L.set j ((L.getD j 0 + P.getD j 0 * x) % p)
def nxL (p x y : Int) (P : List Int) : Nat → List Int
  | 0 => List.replicate (P.length + 1) 0
  | j + 1 => (nxH p x P (nxL p x y P j) j).set (j + 1) (((nxH p x P (nxL p x y P j) j).getD (j + 1) 0 + P.getD j 0 * y) % p)
def mulL (p : Int) (P : List Int) (x y : Int) : List Int := nxL p x y P P.length
def plM (p : Int) (c u v : List Int) (n : Nat) : Nat → List Int
  | 0 => [c.getD n 0]
  | m + 1 => mulL p (plM p c u v n m) (u.getD (cuF n m) 0) (v.getD (cuF n m) 0)
def lnO (p : Int) (c u v : List Int) : Nat → List Int
  | 0 => [0, 0, 0, 0]
  | n + 1 => [((lnO p c u v n).getD 0 0 + (plM p c u v n 3).getD 0 0) % p, ((lnO p c u v n).getD 1 0 + (plM p c u v n 3).getD 1 0) % p, ((lnO p c u v n).getD 2 0 + (plM p c u v n 3).getD 2 0) % p, ((lnO p c u v n).getD 3 0 + (plM p c u v n 3).getD 3 0) % p]
theorem mul1 (p a x y : Int) : mulL p [a] x y = [(0 + a * x) % p, (0 + a * y) % p] := rfl
theorem mul2 (p a b x y : Int) : mulL p [a, b] x y = [(0 + a * x) % p, ((0 + a * y) % p + b * x) % p, (0 + b * y) % p] := rfl
theorem mul3 (p a b c x y : Int) : mulL p [a, b, c] x y = [(0 + a * x) % p, ((0 + a * y) % p + b * x) % p, ((0 + b * y) % p + c * x) % p, (0 + c * y) % p] := rfl
section
variable {n : Nat} [NeZero n]
theorem plM_ic (c u v : List Int) (i : Nat) {j : Nat} (hj : j < 4) : (ic ((plM (n : Int) c u v i 3).getD j 0) : Fin n) = icL c i * eR j (icL u) (icL v) i := by
  have e : plM (n : Int) c u v i 3 = mulL n (mulL n (mulL n [c.getD i 0] (u.getD (cuF i 0) 0) (v.getD (cuF i 0) 0)) (u.getD (cuF i 1) 0) (v.getD (cuF i 1) 0)) (u.getD (cuF i 2) 0) (v.getD (cuF i 2) 0) := rfl
  rw [e, mul1, mul2, mul3]
  have h : j = 0 ∨ j = 1 ∨ j = 2 ∨ j = 3 := by omega
  rcases h with rfl | rfl | rfl | rfl <;> simp only [List.getD_cons_zero, List.getD_cons_succ, ic_mod n, ic_add, ic_mul, ic_zero, eR, icL, tr0, tr1, tr2, tr3] <;> grind
theorem lnO_ic (c u v : List Int) {j : Nat} (hj : j < 4) : ∀ m : Nat, (ic ((lnO (n : Int) c u v m).getD j 0) : Fin n) = sR (icL c) (eR j (icL u) (icL v)) m
  | 0 => by
    have h : j = 0 ∨ j = 1 ∨ j = 2 ∨ j = 3 := by omega
    rcases h with rfl | rfl | rfl | rfl <;> exact ic_zero
  | m + 1 => by
    have ih := lnO_ic c u v hj m
    have hp := plM_ic (n := n) c u v m hj
    rw [sR, ← ih, ← hp]
    have h : j = 0 ∨ j = 1 ∨ j = 2 ∨ j = 3 := by omega
    rcases h with rfl | rfl | rfl | rfl <;> simp only [lnO, List.getD_cons_zero, List.getD_cons_succ, ic_mod n, ic_add]
theorem lnO_eq (c u v : List Int) : lnO (n : Int) c u v 10 = alV (n : Int) c u v 80 := by
  have key : ∀ (j : Nat), j < 4 → (lnO (n : Int) c u v 10).getD j 0 % (n : Int) = cuS c u v j 80 % (n : Int) := fun j hj => by
    rw [← ic_eq (R := Fin n) n, lnO_ic c u v hj, show (80 : Nat) = 10 * 8 from rfl, cuS_ic c u v hj]
  have k0 := key 0 (by decide)
  have k1 := key 1 (by decide)
  have k2 := key 2 (by decide)
  have k3 := key 3 (by decide)
  unfold alV
  rw [← k0, ← k1, ← k2, ← k3]
  simp only [lnO, List.getD_cons_zero, List.getD_cons_succ, Int.emod_emod_of_dvd _ (Int.dvd_refl _)]
end
end Go.Proofs.YtcklfkblhmlbbaaDoor
