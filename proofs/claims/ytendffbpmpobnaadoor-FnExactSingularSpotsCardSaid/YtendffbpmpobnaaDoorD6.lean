/- PolarPlane, SingularSpots: the reference's side. Printed by gen_d6.py. -/
import Derived.Test.YtendffbpmpobnaaDoorD4
import Derived.Test.YtendffbpmpobnaaDoorD5
namespace Go.Proofs.YtendffbpmpobnaaDoor
set_option maxRecDepth 10000
set_option linter.unusedSimpArgs false
set_option linter.unusedVariables false
set_option maxHeartbeats 4000000
theorem fzD0 {x : Int} (h : x = 0) : (!(x != 0)) = true := by simp [h]
theorem fzD1 {x : Int} (h : ¬ x = 0) : (!(x != 0)) = false := by simp [h]
theorem four_ex {l : List Int} (h : l.length = 4) : ∃ a b c d, l = [a, b, c, d] := by
  match l, h with
  | [a, b, c, d], _ => exact ⟨a, b, c, d, rfl⟩
theorem zeroN {p : Int} {l : List Int} (h : facP p l = 0) : normL p l = List.replicate l.length 0 := by
  unfold normL
  rw [h]
  apply List.ext_getElem (by simp)
  intro i h1 h2
  simp
attribute [local irreducible] CW OW QW QOp Con thenP inBlockP AW QX RW
theorem l08Sums_con10 (p q0 q1 q2 q3 q4 q5 q6 q7 q8 q9 x y z w : Int) (hp : primeB p = true) (hq : smN 12 [q0, q1, q2, q3, q4, q5, q6, q7, q8, q9]) (ha : smN 12 [x, y, z, w]) : Con Tryd.prog [] 96 [.int p, .arr [q0, q1, q2, q3, q4, q5, q6, q7, q8, q9], .arr [x, y, z, w]] [] (fun r H' => ∃ (k : Nat) (sp : List Int), 4 ≤ k ∧ k ≤ 4 + sp.length ∧ r = .slice 0 0 4 k ∧ H' = [(0, .ints 2 (suV p (rwL p [q0, q1, q2, q3, q4, q5, q6, q7, q8, q9]) [x, y, z, w] ++ sp))]) := by
  have hpb := prime_bd hp
  have hx := ha x (by simp)
  have hy := ha y (by simp)
  have hz := ha z (by simp)
  have hw := ha w (by simp)
  have hrows := l08Rows_con10 p q0 q1 q2 q3 q4 q5 q6 q7 q8 q9 hp hq
  have hR : rwL p [q0, q1, q2, q3, q4, q5, q6, q7, q8, q9] = [((0 + q0) % p + q0) % p, (0 + q1) % p, (0 + q2) % p, (0 + q3) % p, (0 + q1) % p, ((0 + q4) % p + q4) % p, (0 + q5) % p, (0 + q6) % p, (0 + q2) % p, (0 + q5) % p, ((0 + q7) % p + q7) % p, (0 + q8) % p, (0 + q3) % p, (0 + q6) % p, (0 + q8) % p, ((0 + q9) % p + q9) % p] := rfl
  rw [hR]
  clear hR hq
  have f0 := em_bd hp ((0 + q0) % p + q0)
  have f1 := em_bd hp (0 + q1)
  have f2 := em_bd hp (0 + q2)
  have f3 := em_bd hp (0 + q3)
  have f4 := em_bd hp ((0 + q4) % p + q4)
  have f5 := em_bd hp (0 + q5)
  have f6 := em_bd hp (0 + q6)
  have f7 := em_bd hp ((0 + q7) % p + q7)
  have f8 := em_bd hp (0 + q8)
  have f9 := em_bd hp ((0 + q9) % p + q9)
  generalize ((0 + q0) % p + q0) % p = r0 at *
  generalize ((0 + q4) % p + q4) % p = r4 at *
  generalize ((0 + q7) % p + q7) % p = r7 at *
  generalize ((0 + q9) % p + q9) % p = r9 at *
  generalize (0 + q1) % p = r1 at *
  generalize (0 + q2) % p = r2 at *
  generalize (0 + q3) % p = r3 at *
  generalize (0 + q5) % p = r5 at *
  generalize (0 + q6) % p = r6 at *
  generalize (0 + q8) % p = r8 at *
  refine conW tab_ok [(0, .int p), (1, .arr [q0, q1, q2, q3, q4, q5, q6, q7, q8, q9]), (2, .arr [x, y, z, w])] 0 [] [] Tryd.func96 rfl rfl rfl rfl rfl rfl rfl rfl rfl ?_
  refine cR ?_
  iterate 2 refine oBox rfl rfl rfl rfl rfl rfl ?_
  refine oA rfl rfl ?_
  refine oN ?_
  refine cR ?_
  refine oM rfl rfl ?_
  first | refine oQ (Lw rfl rfl rfl rfl) rfl rfl ?_ | refine oQ (La rfl rfl rfl rfl rfl) rfl rfl ?_
  refine oCall (hrows) [] 5 rfl rfl (Fits.mk' vHn rfl rfl (by first | (simp; done) | exact glOk rfl rfl rfl)) rfl rfl ?_
  rintro r H1 ⟨k0, hk0, rfl, rfl⟩
  refine ⟨.slice 6 0 4 k0, [(2, .ints 2 [r0, r1, r2, r3]), (3, .ints 2 [r1, r4, r5, r6]), (4, .ints 2 [r2, r5, r7, r8]), (5, .ints 2 [r3, r6, r8, r9]), (6, .vals 44 ([.slice 2 0 4 4, .slice 3 0 4 4, .slice 4 0 4 4, .slice 5 0 4 4] ++ List.replicate (k0 - 4) .bot))], (by simp only [scM, List.all_cons, List.all_nil, ids_bots]; rfl), rfl, (by simp only [List.map_cons, List.map_nil, ren_bots]; rfl), ?_⟩
  refine oBsl (zl := []) rfl rfl rfl rfl (.inl ⟨rfl, rfl⟩) rfl rfl rfl rfl rfl rfl ?_
  iterate 2 refine oA rfl rfl ?_
  refine oN ?_
  refine CW_seq ?_
  refine cR ?_
  refine oA rfl rfl ?_
  refine oN ?_
  refine CW_block ?_
  refine CW_rounds 5 ?_
  refine RW_succ ?_
  refine CW_seq ?_
  refine cR ?_
  refine oM rfl rfl ?_
  refine oQ (Q_bin rfl rfl rfl) rfl rfl ?_
  refine oN ?_
  first | refine cT rfl ?_ | refine cF rfl ?_ | refine CW_cond rfl (fun hc => ?_) (fun hc => ?_)
  all_goals try simp only [s1, s2, s3, s4, s5, s6, s7, s8, s9, s10, s11, s12] at hc
  all_goals try (exfalso; first | omega | (simp at hc; done); done)
  all_goals first
    | (
     refine CW_skip ?_)
    | (
     refine CW_exit ?_)
  all_goals first
    | with_reducible refine tR ?_
    | with_reducible refine tE ?_
    | (
     with_reducible refine tN ?_
     refine CW_seq ?_
     refine CW_block ?_
     refine cR ?_
     refine oA rfl rfl ?_
     refine oN ?_
     refine CW_seq ?_
     refine cR ?_
     refine oA rfl rfl ?_
     refine oN ?_
     refine CW_block ?_
     refine CW_rounds 5 ?_
     refine RW_succ ?_
     refine CW_seq ?_
     refine cR ?_
     refine oM rfl rfl ?_
     refine oQ (Q_bin rfl rfl rfl) rfl rfl ?_
     refine oN ?_
     first | refine cT rfl ?_ | refine cF rfl ?_ | refine CW_cond rfl (fun hc => ?_) (fun hc => ?_)
     all_goals try simp only [s1, s2, s3, s4, s5, s6, s7, s8, s9, s10, s11, s12] at hc
     all_goals try (exfalso; first | omega | (simp at hc; done); done)
     all_goals first
       | (
        refine CW_skip ?_)
       | (
        refine CW_exit ?_)
     all_goals first
       | with_reducible refine tR ?_
       | with_reducible refine tE ?_
       | (
        with_reducible refine tN ?_
        refine CW_seq ?_
        refine CW_block ?_
        refine CW_draw lateOk (by decide +kernel) ?_
        iterate 3 refine qM rfl rfl ?_
        first | refine qQ (Is0 rfl rfl rfl rfl rfl rfl) rfl rfl ?_ | refine qQ (Is1 rfl rfl rfl rfl rfl rfl) rfl rfl ?_
        refine qQ (Q_ldv rfl rfl rfl rfl rfl rfl) rfl rfl ?_
        refine qM rfl rfl ?_
        first | refine qQ (Is0 rfl rfl rfl rfl rfl rfl) rfl rfl ?_ | refine qQ (Is1 rfl rfl rfl rfl rfl rfl) rfl rfl ?_
        first | refine qQ (Q_ldc rfl rfl rfl rfl rfl) rfl rfl ?_ | refine qQ (Ld rfl rfl rfl rfl) rfl rfl ?_
        refine qM rfl rfl ?_
        first | refine qQ (Ia0 rfl rfl rfl rfl rfl rfl) rfl rfl ?_ | refine qQ (Ia1 rfl rfl rfl rfl rfl rfl) rfl rfl ?_
        first | refine qQ (Q_ldc rfl rfl rfl rfl rfl) rfl rfl ?_ | refine qQ (Ld rfl rfl rfl rfl) rfl rfl ?_
        refine qMulN 12 12 rfl rfl (by omega) (by omega) (by decide) rfl (fun z35 hz35 hl35 hu35 => ?_)
        subst hz35; refine qQ (Q_binu rfl rfl rfl (by omega)) rfl rfl ?_
        refine qA rfl rfl ?_
        refine QW_nil ?_
        all_goals first | with_reducible refine bN ?_ | with_reducible refine bE ?_ | with_reducible refine bR ?_ | refine bX rfl ?_
        all_goals with_reducible refine tN ?_
        all_goals (
         refine CW_region ?_
         refine oM rfl rfl ?_
         first | refine oQ (Q_binu rfl rfl rfl (by omega)) rfl rfl ?_ | refine oQ (Q_bin rfl rfl rfl) rfl rfl ?_
         refine oA rfl rfl ?_
         refine OW_nil ?_))
     all_goals first
       | with_reducible refine tR ?_
       | with_reducible refine tE ?_
       | (
        with_reducible refine tN ?_
        refine RW_succ ?_
        refine CW_seq ?_
        refine cR ?_
        refine oM rfl rfl ?_
        refine oQ (Q_bin rfl rfl rfl) rfl rfl ?_
        refine oN ?_
        first | refine cT rfl ?_ | refine cF rfl ?_ | refine CW_cond rfl (fun hc => ?_) (fun hc => ?_)
        all_goals try simp only [s1, s2, s3, s4, s5, s6, s7, s8, s9, s10, s11, s12] at hc
        all_goals try (exfalso; first | omega | (simp at hc; done); done)
        all_goals first
          | (
           refine CW_skip ?_)
          | (
           refine CW_exit ?_)
        all_goals first
          | with_reducible refine tR ?_
          | with_reducible refine tE ?_
          | (
           with_reducible refine tN ?_
           refine CW_seq ?_
           refine CW_block ?_
           refine CW_draw lateOk (by decide +kernel) ?_
           iterate 3 refine qM rfl rfl ?_
           first | refine qQ (Is0 rfl rfl rfl rfl rfl rfl) rfl rfl ?_ | refine qQ (Is1 rfl rfl rfl rfl rfl rfl) rfl rfl ?_
           refine qQ (Q_ldv rfl rfl rfl rfl rfl rfl) rfl rfl ?_
           refine qM rfl rfl ?_
           first | refine qQ (Is0 rfl rfl rfl rfl rfl rfl) rfl rfl ?_ | refine qQ (Is1 rfl rfl rfl rfl rfl rfl) rfl rfl ?_
           first | refine qQ (Q_ldc rfl rfl rfl rfl rfl) rfl rfl ?_ | refine qQ (Ld rfl rfl rfl rfl) rfl rfl ?_
           refine qM rfl rfl ?_
           first | refine qQ (Ia0 rfl rfl rfl rfl rfl rfl) rfl rfl ?_ | refine qQ (Ia1 rfl rfl rfl rfl rfl rfl) rfl rfl ?_
           first | refine qQ (Q_ldc rfl rfl rfl rfl rfl) rfl rfl ?_ | refine qQ (Ld rfl rfl rfl rfl) rfl rfl ?_
           refine qMulN 12 12 rfl rfl (by omega) (by omega) (by decide) rfl (fun z35 hz35 hl35 hu35 => ?_)
           subst hz35; refine qQ (Q_binu rfl rfl rfl (by omega)) rfl rfl ?_
           refine qA rfl rfl ?_
           refine QW_nil ?_
           all_goals first | with_reducible refine bN ?_ | with_reducible refine bE ?_ | with_reducible refine bR ?_ | refine bX rfl ?_
           all_goals with_reducible refine tN ?_
           all_goals (
            refine CW_region ?_
            refine oM rfl rfl ?_
            first | refine oQ (Q_binu rfl rfl rfl (by omega)) rfl rfl ?_ | refine oQ (Q_bin rfl rfl rfl) rfl rfl ?_
            refine oA rfl rfl ?_
            refine OW_nil ?_))
        all_goals first
          | with_reducible refine tR ?_
          | with_reducible refine tE ?_
          | (
           with_reducible refine tN ?_
           refine RW_succ ?_
           refine CW_seq ?_
           refine cR ?_
           refine oM rfl rfl ?_
           refine oQ (Q_bin rfl rfl rfl) rfl rfl ?_
           refine oN ?_
           first | refine cT rfl ?_ | refine cF rfl ?_ | refine CW_cond rfl (fun hc => ?_) (fun hc => ?_)
           all_goals try simp only [s1, s2, s3, s4, s5, s6, s7, s8, s9, s10, s11, s12] at hc
           all_goals try (exfalso; first | omega | (simp at hc; done); done)
           all_goals first
             | (
              refine CW_skip ?_)
             | (
              refine CW_exit ?_)
           all_goals first
             | with_reducible refine tR ?_
             | with_reducible refine tE ?_
             | (
              with_reducible refine tN ?_
              refine CW_seq ?_
              refine CW_block ?_
              refine CW_draw lateOk (by decide +kernel) ?_
              iterate 3 refine qM rfl rfl ?_
              first | refine qQ (Is0 rfl rfl rfl rfl rfl rfl) rfl rfl ?_ | refine qQ (Is1 rfl rfl rfl rfl rfl rfl) rfl rfl ?_
              refine qQ (Q_ldv rfl rfl rfl rfl rfl rfl) rfl rfl ?_
              refine qM rfl rfl ?_
              first | refine qQ (Is0 rfl rfl rfl rfl rfl rfl) rfl rfl ?_ | refine qQ (Is1 rfl rfl rfl rfl rfl rfl) rfl rfl ?_
              first | refine qQ (Q_ldc rfl rfl rfl rfl rfl) rfl rfl ?_ | refine qQ (Ld rfl rfl rfl rfl) rfl rfl ?_
              refine qM rfl rfl ?_
              first | refine qQ (Ia0 rfl rfl rfl rfl rfl rfl) rfl rfl ?_ | refine qQ (Ia1 rfl rfl rfl rfl rfl rfl) rfl rfl ?_
              first | refine qQ (Q_ldc rfl rfl rfl rfl rfl) rfl rfl ?_ | refine qQ (Ld rfl rfl rfl rfl) rfl rfl ?_
              refine qMulN 12 12 rfl rfl (by omega) (by omega) (by decide) rfl (fun z35 hz35 hl35 hu35 => ?_)
              subst hz35; refine qQ (Q_binu rfl rfl rfl (by omega)) rfl rfl ?_
              refine qA rfl rfl ?_
              refine QW_nil ?_
              all_goals first | with_reducible refine bN ?_ | with_reducible refine bE ?_ | with_reducible refine bR ?_ | refine bX rfl ?_
              all_goals with_reducible refine tN ?_
              all_goals (
               refine CW_region ?_
               refine oM rfl rfl ?_
               first | refine oQ (Q_binu rfl rfl rfl (by omega)) rfl rfl ?_ | refine oQ (Q_bin rfl rfl rfl) rfl rfl ?_
               refine oA rfl rfl ?_
               refine OW_nil ?_))
           all_goals first
             | with_reducible refine tR ?_
             | with_reducible refine tE ?_
             | (
              with_reducible refine tN ?_
              refine RW_succ ?_
              refine CW_seq ?_
              refine cR ?_
              refine oM rfl rfl ?_
              refine oQ (Q_bin rfl rfl rfl) rfl rfl ?_
              refine oN ?_
              first | refine cT rfl ?_ | refine cF rfl ?_ | refine CW_cond rfl (fun hc => ?_) (fun hc => ?_)
              all_goals try simp only [s1, s2, s3, s4, s5, s6, s7, s8, s9, s10, s11, s12] at hc
              all_goals try (exfalso; first | omega | (simp at hc; done); done)
              all_goals first
                | (
                 refine CW_skip ?_)
                | (
                 refine CW_exit ?_)
              all_goals first
                | with_reducible refine tR ?_
                | with_reducible refine tE ?_
                | (
                 with_reducible refine tN ?_
                 refine CW_seq ?_
                 refine CW_block ?_
                 refine CW_draw lateOk (by decide +kernel) ?_
                 iterate 3 refine qM rfl rfl ?_
                 first | refine qQ (Is0 rfl rfl rfl rfl rfl rfl) rfl rfl ?_ | refine qQ (Is1 rfl rfl rfl rfl rfl rfl) rfl rfl ?_
                 refine qQ (Q_ldv rfl rfl rfl rfl rfl rfl) rfl rfl ?_
                 refine qM rfl rfl ?_
                 first | refine qQ (Is0 rfl rfl rfl rfl rfl rfl) rfl rfl ?_ | refine qQ (Is1 rfl rfl rfl rfl rfl rfl) rfl rfl ?_
                 first | refine qQ (Q_ldc rfl rfl rfl rfl rfl) rfl rfl ?_ | refine qQ (Ld rfl rfl rfl rfl) rfl rfl ?_
                 refine qM rfl rfl ?_
                 first | refine qQ (Ia0 rfl rfl rfl rfl rfl rfl) rfl rfl ?_ | refine qQ (Ia1 rfl rfl rfl rfl rfl rfl) rfl rfl ?_
                 first | refine qQ (Q_ldc rfl rfl rfl rfl rfl) rfl rfl ?_ | refine qQ (Ld rfl rfl rfl rfl) rfl rfl ?_
                 refine qMulN 12 12 rfl rfl (by omega) (by omega) (by decide) rfl (fun z35 hz35 hl35 hu35 => ?_)
                 subst hz35; refine qQ (Q_binu rfl rfl rfl (by omega)) rfl rfl ?_
                 refine qA rfl rfl ?_
                 refine QW_nil ?_
                 all_goals first | with_reducible refine bN ?_ | with_reducible refine bE ?_ | with_reducible refine bR ?_ | refine bX rfl ?_
                 all_goals with_reducible refine tN ?_
                 all_goals (
                  refine CW_region ?_
                  refine oM rfl rfl ?_
                  first | refine oQ (Q_binu rfl rfl rfl (by omega)) rfl rfl ?_ | refine oQ (Q_bin rfl rfl rfl) rfl rfl ?_
                  refine oA rfl rfl ?_
                  refine OW_nil ?_))
              all_goals first
                | with_reducible refine tR ?_
                | with_reducible refine tE ?_
                | (
                 with_reducible refine tN ?_
                 refine RW_succ ?_
                 refine CW_seq ?_
                 refine cR ?_
                 refine oM rfl rfl ?_
                 refine oQ (Q_bin rfl rfl rfl) rfl rfl ?_
                 refine oN ?_
                 first | refine cT rfl ?_ | refine cF rfl ?_ | refine CW_cond rfl (fun hc => ?_) (fun hc => ?_)
                 all_goals try simp only [s1, s2, s3, s4, s5, s6, s7, s8, s9, s10, s11, s12] at hc
                 all_goals try (exfalso; first | omega | (simp at hc; done); done)
                 all_goals first
                   | (
                    refine CW_skip ?_)
                   | (
                    refine CW_exit ?_)
                 all_goals first
                   | with_reducible refine tR ?_
                   | with_reducible refine tE ?_
                   | (
                    with_reducible refine tN ?_
                    refine CW_seq ?_
                    refine CW_block ?_
                    refine CW_draw lateOk (by decide +kernel) ?_
                    iterate 3 refine qM rfl rfl ?_
                    first | refine qQ (Is0 rfl rfl rfl rfl rfl rfl) rfl rfl ?_ | refine qQ (Is1 rfl rfl rfl rfl rfl rfl) rfl rfl ?_
                    refine qQ (Q_ldv rfl rfl rfl rfl rfl rfl) rfl rfl ?_
                    refine qM rfl rfl ?_
                    first | refine qQ (Is0 rfl rfl rfl rfl rfl rfl) rfl rfl ?_ | refine qQ (Is1 rfl rfl rfl rfl rfl rfl) rfl rfl ?_
                    first | refine qQ (Q_ldc rfl rfl rfl rfl rfl) rfl rfl ?_ | refine qQ (Ld rfl rfl rfl rfl) rfl rfl ?_
                    refine qM rfl rfl ?_
                    first | refine qQ (Ia0 rfl rfl rfl rfl rfl rfl) rfl rfl ?_ | refine qQ (Ia1 rfl rfl rfl rfl rfl rfl) rfl rfl ?_
                    first | refine qQ (Q_ldc rfl rfl rfl rfl rfl) rfl rfl ?_ | refine qQ (Ld rfl rfl rfl rfl) rfl rfl ?_
                    refine qMulN 12 12 rfl rfl (by omega) (by omega) (by decide) rfl (fun z35 hz35 hl35 hu35 => ?_)
                    subst hz35; refine qQ (Q_binu rfl rfl rfl (by omega)) rfl rfl ?_
                    refine qA rfl rfl ?_
                    refine QW_nil ?_
                    all_goals first | with_reducible refine bN ?_ | with_reducible refine bE ?_ | with_reducible refine bR ?_ | refine bX rfl ?_
                    all_goals with_reducible refine tN ?_
                    all_goals (
                     refine CW_region ?_
                     refine oM rfl rfl ?_
                     first | refine oQ (Q_binu rfl rfl rfl (by omega)) rfl rfl ?_ | refine oQ (Q_bin rfl rfl rfl) rfl rfl ?_
                     refine oA rfl rfl ?_
                     refine OW_nil ?_))
                 all_goals first
                   | with_reducible refine tR ?_
                   | with_reducible refine tE ?_
                   | (
                    with_reducible refine tN ?_
                    exfalso; first | omega | (simp at hc; done) | (simp_all; done))))))
     all_goals first | with_reducible refine bN ?_ | with_reducible refine bE ?_ | with_reducible refine bR ?_ | refine bX rfl ?_
     all_goals with_reducible refine tN ?_
     all_goals (
      refine CW_region ?_
      iterate 3 refine oM rfl rfl ?_
      refine oQ (Q_rem rfl rfl (by omega)) rfl rfl ?_; rw [Int.tmod_eq_emod_of_nonneg (by omega)]
      refine oBsl (zl := []) (r := [_]) rfl rfl rfl rfl (.inl ⟨rfl, rfl⟩) rfl rfl rfl rfl rfl rfl ?_
      first | refine oApp (A := []) (sp := []) (sz := 1) (by_ := 8) rfl rfl rfl rfl rfl rfl ⟨by decide, rfl, .inl ⟨rfl, rfl⟩⟩ rfl rfl rfl rfl rfl rfl rfl rfl (by omega) (by omega) (by omega) (by omega) rfl rfl (fun k2 sp2 h1 h2 => ?_) | refine oApp (sz := 1) (by_ := 8) rfl rfl rfl rfl rfl rfl ⟨by decide, rfl, .inl ⟨rfl, rfl⟩⟩ rfl rfl rfl rfl rfl rfl rfl rfl (by omega) (by omega) (by omega) (by omega) rfl rfl (fun k2 sp2 h1 h2 => ?_)
      refine oA rfl rfl ?_
      refine OW_nil ?_)
     all_goals first | with_reducible refine bN ?_ | with_reducible refine bE ?_ | with_reducible refine bR ?_ | refine bX rfl ?_
     all_goals with_reducible refine tN ?_
     all_goals (
      refine CW_region ?_
      refine oM rfl rfl ?_
      first | refine oQ (Q_binu rfl rfl rfl (by omega)) rfl rfl ?_ | refine oQ (Q_bin rfl rfl rfl) rfl rfl ?_
      refine oA rfl rfl ?_
      refine OW_nil ?_))
  all_goals first
    | with_reducible refine tR ?_
    | with_reducible refine tE ?_
    | (
     with_reducible refine tN ?_
     refine RW_succ ?_
     refine CW_seq ?_
     refine cR ?_
     refine oM rfl rfl ?_
     refine oQ (Q_bin rfl rfl rfl) rfl rfl ?_
     refine oN ?_
     first | refine cT rfl ?_ | refine cF rfl ?_ | refine CW_cond rfl (fun hc => ?_) (fun hc => ?_)
     all_goals try simp only [s1, s2, s3, s4, s5, s6, s7, s8, s9, s10, s11, s12] at hc
     all_goals try (exfalso; first | omega | (simp at hc; done); done)
     all_goals first
       | (
        refine CW_skip ?_)
       | (
        refine CW_exit ?_)
     all_goals first
       | with_reducible refine tR ?_
       | with_reducible refine tE ?_
       | (
        with_reducible refine tN ?_
        refine CW_seq ?_
        refine CW_block ?_
        refine cR ?_
        refine oA rfl rfl ?_
        refine oN ?_
        refine CW_seq ?_
        refine cR ?_
        refine oA rfl rfl ?_
        refine oN ?_
        refine CW_block ?_
        refine CW_rounds 5 ?_
        refine RW_succ ?_
        refine CW_seq ?_
        refine cR ?_
        refine oM rfl rfl ?_
        refine oQ (Q_bin rfl rfl rfl) rfl rfl ?_
        refine oN ?_
        first | refine cT rfl ?_ | refine cF rfl ?_ | refine CW_cond rfl (fun hc => ?_) (fun hc => ?_)
        all_goals try simp only [s1, s2, s3, s4, s5, s6, s7, s8, s9, s10, s11, s12] at hc
        all_goals try (exfalso; first | omega | (simp at hc; done); done)
        all_goals first
          | (
           refine CW_skip ?_)
          | (
           refine CW_exit ?_)
        all_goals first
          | with_reducible refine tR ?_
          | with_reducible refine tE ?_
          | (
           with_reducible refine tN ?_
           refine CW_seq ?_
           refine CW_block ?_
           refine CW_draw lateOk (by decide +kernel) ?_
           iterate 3 refine qM rfl rfl ?_
           first | refine qQ (Is0 rfl rfl rfl rfl rfl rfl) rfl rfl ?_ | refine qQ (Is1 rfl rfl rfl rfl rfl rfl) rfl rfl ?_
           refine qQ (Q_ldv rfl rfl rfl rfl rfl rfl) rfl rfl ?_
           refine qM rfl rfl ?_
           first | refine qQ (Is0 rfl rfl rfl rfl rfl rfl) rfl rfl ?_ | refine qQ (Is1 rfl rfl rfl rfl rfl rfl) rfl rfl ?_
           first | refine qQ (Q_ldc rfl rfl rfl rfl rfl) rfl rfl ?_ | refine qQ (Ld rfl rfl rfl rfl) rfl rfl ?_
           refine qM rfl rfl ?_
           first | refine qQ (Ia0 rfl rfl rfl rfl rfl rfl) rfl rfl ?_ | refine qQ (Ia1 rfl rfl rfl rfl rfl rfl) rfl rfl ?_
           first | refine qQ (Q_ldc rfl rfl rfl rfl rfl) rfl rfl ?_ | refine qQ (Ld rfl rfl rfl rfl) rfl rfl ?_
           refine qMulN 12 12 rfl rfl (by omega) (by omega) (by decide) rfl (fun z35 hz35 hl35 hu35 => ?_)
           subst hz35; refine qQ (Q_binu rfl rfl rfl (by omega)) rfl rfl ?_
           refine qA rfl rfl ?_
           refine QW_nil ?_
           all_goals first | with_reducible refine bN ?_ | with_reducible refine bE ?_ | with_reducible refine bR ?_ | refine bX rfl ?_
           all_goals with_reducible refine tN ?_
           all_goals (
            refine CW_region ?_
            refine oM rfl rfl ?_
            first | refine oQ (Q_binu rfl rfl rfl (by omega)) rfl rfl ?_ | refine oQ (Q_bin rfl rfl rfl) rfl rfl ?_
            refine oA rfl rfl ?_
            refine OW_nil ?_))
        all_goals first
          | with_reducible refine tR ?_
          | with_reducible refine tE ?_
          | (
           with_reducible refine tN ?_
           refine RW_succ ?_
           refine CW_seq ?_
           refine cR ?_
           refine oM rfl rfl ?_
           refine oQ (Q_bin rfl rfl rfl) rfl rfl ?_
           refine oN ?_
           first | refine cT rfl ?_ | refine cF rfl ?_ | refine CW_cond rfl (fun hc => ?_) (fun hc => ?_)
           all_goals try simp only [s1, s2, s3, s4, s5, s6, s7, s8, s9, s10, s11, s12] at hc
           all_goals try (exfalso; first | omega | (simp at hc; done); done)
           all_goals first
             | (
              refine CW_skip ?_)
             | (
              refine CW_exit ?_)
           all_goals first
             | with_reducible refine tR ?_
             | with_reducible refine tE ?_
             | (
              with_reducible refine tN ?_
              refine CW_seq ?_
              refine CW_block ?_
              refine CW_draw lateOk (by decide +kernel) ?_
              iterate 3 refine qM rfl rfl ?_
              first | refine qQ (Is0 rfl rfl rfl rfl rfl rfl) rfl rfl ?_ | refine qQ (Is1 rfl rfl rfl rfl rfl rfl) rfl rfl ?_
              refine qQ (Q_ldv rfl rfl rfl rfl rfl rfl) rfl rfl ?_
              refine qM rfl rfl ?_
              first | refine qQ (Is0 rfl rfl rfl rfl rfl rfl) rfl rfl ?_ | refine qQ (Is1 rfl rfl rfl rfl rfl rfl) rfl rfl ?_
              first | refine qQ (Q_ldc rfl rfl rfl rfl rfl) rfl rfl ?_ | refine qQ (Ld rfl rfl rfl rfl) rfl rfl ?_
              refine qM rfl rfl ?_
              first | refine qQ (Ia0 rfl rfl rfl rfl rfl rfl) rfl rfl ?_ | refine qQ (Ia1 rfl rfl rfl rfl rfl rfl) rfl rfl ?_
              first | refine qQ (Q_ldc rfl rfl rfl rfl rfl) rfl rfl ?_ | refine qQ (Ld rfl rfl rfl rfl) rfl rfl ?_
              refine qMulN 12 12 rfl rfl (by omega) (by omega) (by decide) rfl (fun z35 hz35 hl35 hu35 => ?_)
              subst hz35; refine qQ (Q_binu rfl rfl rfl (by omega)) rfl rfl ?_
              refine qA rfl rfl ?_
              refine QW_nil ?_
              all_goals first | with_reducible refine bN ?_ | with_reducible refine bE ?_ | with_reducible refine bR ?_ | refine bX rfl ?_
              all_goals with_reducible refine tN ?_
              all_goals (
               refine CW_region ?_
               refine oM rfl rfl ?_
               first | refine oQ (Q_binu rfl rfl rfl (by omega)) rfl rfl ?_ | refine oQ (Q_bin rfl rfl rfl) rfl rfl ?_
               refine oA rfl rfl ?_
               refine OW_nil ?_))
           all_goals first
             | with_reducible refine tR ?_
             | with_reducible refine tE ?_
             | (
              with_reducible refine tN ?_
              refine RW_succ ?_
              refine CW_seq ?_
              refine cR ?_
              refine oM rfl rfl ?_
              refine oQ (Q_bin rfl rfl rfl) rfl rfl ?_
              refine oN ?_
              first | refine cT rfl ?_ | refine cF rfl ?_ | refine CW_cond rfl (fun hc => ?_) (fun hc => ?_)
              all_goals try simp only [s1, s2, s3, s4, s5, s6, s7, s8, s9, s10, s11, s12] at hc
              all_goals try (exfalso; first | omega | (simp at hc; done); done)
              all_goals first
                | (
                 refine CW_skip ?_)
                | (
                 refine CW_exit ?_)
              all_goals first
                | with_reducible refine tR ?_
                | with_reducible refine tE ?_
                | (
                 with_reducible refine tN ?_
                 refine CW_seq ?_
                 refine CW_block ?_
                 refine CW_draw lateOk (by decide +kernel) ?_
                 iterate 3 refine qM rfl rfl ?_
                 first | refine qQ (Is0 rfl rfl rfl rfl rfl rfl) rfl rfl ?_ | refine qQ (Is1 rfl rfl rfl rfl rfl rfl) rfl rfl ?_
                 refine qQ (Q_ldv rfl rfl rfl rfl rfl rfl) rfl rfl ?_
                 refine qM rfl rfl ?_
                 first | refine qQ (Is0 rfl rfl rfl rfl rfl rfl) rfl rfl ?_ | refine qQ (Is1 rfl rfl rfl rfl rfl rfl) rfl rfl ?_
                 first | refine qQ (Q_ldc rfl rfl rfl rfl rfl) rfl rfl ?_ | refine qQ (Ld rfl rfl rfl rfl) rfl rfl ?_
                 refine qM rfl rfl ?_
                 first | refine qQ (Ia0 rfl rfl rfl rfl rfl rfl) rfl rfl ?_ | refine qQ (Ia1 rfl rfl rfl rfl rfl rfl) rfl rfl ?_
                 first | refine qQ (Q_ldc rfl rfl rfl rfl rfl) rfl rfl ?_ | refine qQ (Ld rfl rfl rfl rfl) rfl rfl ?_
                 refine qMulN 12 12 rfl rfl (by omega) (by omega) (by decide) rfl (fun z35 hz35 hl35 hu35 => ?_)
                 subst hz35; refine qQ (Q_binu rfl rfl rfl (by omega)) rfl rfl ?_
                 refine qA rfl rfl ?_
                 refine QW_nil ?_
                 all_goals first | with_reducible refine bN ?_ | with_reducible refine bE ?_ | with_reducible refine bR ?_ | refine bX rfl ?_
                 all_goals with_reducible refine tN ?_
                 all_goals (
                  refine CW_region ?_
                  refine oM rfl rfl ?_
                  first | refine oQ (Q_binu rfl rfl rfl (by omega)) rfl rfl ?_ | refine oQ (Q_bin rfl rfl rfl) rfl rfl ?_
                  refine oA rfl rfl ?_
                  refine OW_nil ?_))
              all_goals first
                | with_reducible refine tR ?_
                | with_reducible refine tE ?_
                | (
                 with_reducible refine tN ?_
                 refine RW_succ ?_
                 refine CW_seq ?_
                 refine cR ?_
                 refine oM rfl rfl ?_
                 refine oQ (Q_bin rfl rfl rfl) rfl rfl ?_
                 refine oN ?_
                 first | refine cT rfl ?_ | refine cF rfl ?_ | refine CW_cond rfl (fun hc => ?_) (fun hc => ?_)
                 all_goals try simp only [s1, s2, s3, s4, s5, s6, s7, s8, s9, s10, s11, s12] at hc
                 all_goals try (exfalso; first | omega | (simp at hc; done); done)
                 all_goals first
                   | (
                    refine CW_skip ?_)
                   | (
                    refine CW_exit ?_)
                 all_goals first
                   | with_reducible refine tR ?_
                   | with_reducible refine tE ?_
                   | (
                    with_reducible refine tN ?_
                    refine CW_seq ?_
                    refine CW_block ?_
                    refine CW_draw lateOk (by decide +kernel) ?_
                    iterate 3 refine qM rfl rfl ?_
                    first | refine qQ (Is0 rfl rfl rfl rfl rfl rfl) rfl rfl ?_ | refine qQ (Is1 rfl rfl rfl rfl rfl rfl) rfl rfl ?_
                    refine qQ (Q_ldv rfl rfl rfl rfl rfl rfl) rfl rfl ?_
                    refine qM rfl rfl ?_
                    first | refine qQ (Is0 rfl rfl rfl rfl rfl rfl) rfl rfl ?_ | refine qQ (Is1 rfl rfl rfl rfl rfl rfl) rfl rfl ?_
                    first | refine qQ (Q_ldc rfl rfl rfl rfl rfl) rfl rfl ?_ | refine qQ (Ld rfl rfl rfl rfl) rfl rfl ?_
                    refine qM rfl rfl ?_
                    first | refine qQ (Ia0 rfl rfl rfl rfl rfl rfl) rfl rfl ?_ | refine qQ (Ia1 rfl rfl rfl rfl rfl rfl) rfl rfl ?_
                    first | refine qQ (Q_ldc rfl rfl rfl rfl rfl) rfl rfl ?_ | refine qQ (Ld rfl rfl rfl rfl) rfl rfl ?_
                    refine qMulN 12 12 rfl rfl (by omega) (by omega) (by decide) rfl (fun z35 hz35 hl35 hu35 => ?_)
                    subst hz35; refine qQ (Q_binu rfl rfl rfl (by omega)) rfl rfl ?_
                    refine qA rfl rfl ?_
                    refine QW_nil ?_
                    all_goals first | with_reducible refine bN ?_ | with_reducible refine bE ?_ | with_reducible refine bR ?_ | refine bX rfl ?_
                    all_goals with_reducible refine tN ?_
                    all_goals (
                     refine CW_region ?_
                     refine oM rfl rfl ?_
                     first | refine oQ (Q_binu rfl rfl rfl (by omega)) rfl rfl ?_ | refine oQ (Q_bin rfl rfl rfl) rfl rfl ?_
                     refine oA rfl rfl ?_
                     refine OW_nil ?_))
                 all_goals first
                   | with_reducible refine tR ?_
                   | with_reducible refine tE ?_
                   | (
                    with_reducible refine tN ?_
                    refine RW_succ ?_
                    refine CW_seq ?_
                    refine cR ?_
                    refine oM rfl rfl ?_
                    refine oQ (Q_bin rfl rfl rfl) rfl rfl ?_
                    refine oN ?_
                    first | refine cT rfl ?_ | refine cF rfl ?_ | refine CW_cond rfl (fun hc => ?_) (fun hc => ?_)
                    all_goals try simp only [s1, s2, s3, s4, s5, s6, s7, s8, s9, s10, s11, s12] at hc
                    all_goals try (exfalso; first | omega | (simp at hc; done); done)
                    all_goals first
                      | (
                       refine CW_skip ?_)
                      | (
                       refine CW_exit ?_)
                    all_goals first
                      | with_reducible refine tR ?_
                      | with_reducible refine tE ?_
                      | (
                       with_reducible refine tN ?_
                       refine CW_seq ?_
                       refine CW_block ?_
                       refine CW_draw lateOk (by decide +kernel) ?_
                       iterate 3 refine qM rfl rfl ?_
                       first | refine qQ (Is0 rfl rfl rfl rfl rfl rfl) rfl rfl ?_ | refine qQ (Is1 rfl rfl rfl rfl rfl rfl) rfl rfl ?_
                       refine qQ (Q_ldv rfl rfl rfl rfl rfl rfl) rfl rfl ?_
                       refine qM rfl rfl ?_
                       first | refine qQ (Is0 rfl rfl rfl rfl rfl rfl) rfl rfl ?_ | refine qQ (Is1 rfl rfl rfl rfl rfl rfl) rfl rfl ?_
                       first | refine qQ (Q_ldc rfl rfl rfl rfl rfl) rfl rfl ?_ | refine qQ (Ld rfl rfl rfl rfl) rfl rfl ?_
                       refine qM rfl rfl ?_
                       first | refine qQ (Ia0 rfl rfl rfl rfl rfl rfl) rfl rfl ?_ | refine qQ (Ia1 rfl rfl rfl rfl rfl rfl) rfl rfl ?_
                       first | refine qQ (Q_ldc rfl rfl rfl rfl rfl) rfl rfl ?_ | refine qQ (Ld rfl rfl rfl rfl) rfl rfl ?_
                       refine qMulN 12 12 rfl rfl (by omega) (by omega) (by decide) rfl (fun z35 hz35 hl35 hu35 => ?_)
                       subst hz35; refine qQ (Q_binu rfl rfl rfl (by omega)) rfl rfl ?_
                       refine qA rfl rfl ?_
                       refine QW_nil ?_
                       all_goals first | with_reducible refine bN ?_ | with_reducible refine bE ?_ | with_reducible refine bR ?_ | refine bX rfl ?_
                       all_goals with_reducible refine tN ?_
                       all_goals (
                        refine CW_region ?_
                        refine oM rfl rfl ?_
                        first | refine oQ (Q_binu rfl rfl rfl (by omega)) rfl rfl ?_ | refine oQ (Q_bin rfl rfl rfl) rfl rfl ?_
                        refine oA rfl rfl ?_
                        refine OW_nil ?_))
                    all_goals first
                      | with_reducible refine tR ?_
                      | with_reducible refine tE ?_
                      | (
                       with_reducible refine tN ?_
                       exfalso; first | omega | (simp at hc; done) | (simp_all; done))))))
        all_goals first | with_reducible refine bN ?_ | with_reducible refine bE ?_ | with_reducible refine bR ?_ | refine bX rfl ?_
        all_goals with_reducible refine tN ?_
        all_goals (
         refine CW_region ?_
         iterate 3 refine oM rfl rfl ?_
         refine oQ (Q_rem rfl rfl (by omega)) rfl rfl ?_; rw [Int.tmod_eq_emod_of_nonneg (by omega)]
         refine oBsl (zl := []) (r := [_]) rfl rfl rfl rfl (.inl ⟨rfl, rfl⟩) rfl rfl rfl rfl rfl rfl ?_
         first | refine oApp (A := []) (sp := []) (sz := 1) (by_ := 8) rfl rfl rfl rfl rfl rfl ⟨by decide, rfl, .inl ⟨rfl, rfl⟩⟩ rfl rfl rfl rfl rfl rfl rfl rfl (by omega) (by omega) (by omega) (by omega) rfl rfl (fun k2 sp2 h1 h2 => ?_) | refine oApp (sz := 1) (by_ := 8) rfl rfl rfl rfl rfl rfl ⟨by decide, rfl, .inl ⟨rfl, rfl⟩⟩ rfl rfl rfl rfl rfl rfl rfl rfl (by omega) (by omega) (by omega) (by omega) rfl rfl (fun k2 sp2 h1 h2 => ?_)
         refine oA rfl rfl ?_
         refine OW_nil ?_)
        all_goals first | with_reducible refine bN ?_ | with_reducible refine bE ?_ | with_reducible refine bR ?_ | refine bX rfl ?_
        all_goals with_reducible refine tN ?_
        all_goals (
         refine CW_region ?_
         refine oM rfl rfl ?_
         first | refine oQ (Q_binu rfl rfl rfl (by omega)) rfl rfl ?_ | refine oQ (Q_bin rfl rfl rfl) rfl rfl ?_
         refine oA rfl rfl ?_
         refine OW_nil ?_))
     all_goals first
       | with_reducible refine tR ?_
       | with_reducible refine tE ?_
       | (
        with_reducible refine tN ?_
        refine RW_succ ?_
        refine CW_seq ?_
        refine cR ?_
        refine oM rfl rfl ?_
        refine oQ (Q_bin rfl rfl rfl) rfl rfl ?_
        refine oN ?_
        first | refine cT rfl ?_ | refine cF rfl ?_ | refine CW_cond rfl (fun hc => ?_) (fun hc => ?_)
        all_goals try simp only [s1, s2, s3, s4, s5, s6, s7, s8, s9, s10, s11, s12] at hc
        all_goals try (exfalso; first | omega | (simp at hc; done); done)
        all_goals first
          | (
           refine CW_skip ?_)
          | (
           refine CW_exit ?_)
        all_goals first
          | with_reducible refine tR ?_
          | with_reducible refine tE ?_
          | (
           with_reducible refine tN ?_
           refine CW_seq ?_
           refine CW_block ?_
           refine cR ?_
           refine oA rfl rfl ?_
           refine oN ?_
           refine CW_seq ?_
           refine cR ?_
           refine oA rfl rfl ?_
           refine oN ?_
           refine CW_block ?_
           refine CW_rounds 5 ?_
           refine RW_succ ?_
           refine CW_seq ?_
           refine cR ?_
           refine oM rfl rfl ?_
           refine oQ (Q_bin rfl rfl rfl) rfl rfl ?_
           refine oN ?_
           first | refine cT rfl ?_ | refine cF rfl ?_ | refine CW_cond rfl (fun hc => ?_) (fun hc => ?_)
           all_goals try simp only [s1, s2, s3, s4, s5, s6, s7, s8, s9, s10, s11, s12] at hc
           all_goals try (exfalso; first | omega | (simp at hc; done); done)
           all_goals first
             | (
              refine CW_skip ?_)
             | (
              refine CW_exit ?_)
           all_goals first
             | with_reducible refine tR ?_
             | with_reducible refine tE ?_
             | (
              with_reducible refine tN ?_
              refine CW_seq ?_
              refine CW_block ?_
              refine CW_draw lateOk (by decide +kernel) ?_
              iterate 3 refine qM rfl rfl ?_
              first | refine qQ (Is0 rfl rfl rfl rfl rfl rfl) rfl rfl ?_ | refine qQ (Is1 rfl rfl rfl rfl rfl rfl) rfl rfl ?_
              refine qQ (Q_ldv rfl rfl rfl rfl rfl rfl) rfl rfl ?_
              refine qM rfl rfl ?_
              first | refine qQ (Is0 rfl rfl rfl rfl rfl rfl) rfl rfl ?_ | refine qQ (Is1 rfl rfl rfl rfl rfl rfl) rfl rfl ?_
              first | refine qQ (Q_ldc rfl rfl rfl rfl rfl) rfl rfl ?_ | refine qQ (Ld rfl rfl rfl rfl) rfl rfl ?_
              refine qM rfl rfl ?_
              first | refine qQ (Ia0 rfl rfl rfl rfl rfl rfl) rfl rfl ?_ | refine qQ (Ia1 rfl rfl rfl rfl rfl rfl) rfl rfl ?_
              first | refine qQ (Q_ldc rfl rfl rfl rfl rfl) rfl rfl ?_ | refine qQ (Ld rfl rfl rfl rfl) rfl rfl ?_
              refine qMulN 12 12 rfl rfl (by omega) (by omega) (by decide) rfl (fun z35 hz35 hl35 hu35 => ?_)
              subst hz35; refine qQ (Q_binu rfl rfl rfl (by omega)) rfl rfl ?_
              refine qA rfl rfl ?_
              refine QW_nil ?_
              all_goals first | with_reducible refine bN ?_ | with_reducible refine bE ?_ | with_reducible refine bR ?_ | refine bX rfl ?_
              all_goals with_reducible refine tN ?_
              all_goals (
               refine CW_region ?_
               refine oM rfl rfl ?_
               first | refine oQ (Q_binu rfl rfl rfl (by omega)) rfl rfl ?_ | refine oQ (Q_bin rfl rfl rfl) rfl rfl ?_
               refine oA rfl rfl ?_
               refine OW_nil ?_))
           all_goals first
             | with_reducible refine tR ?_
             | with_reducible refine tE ?_
             | (
              with_reducible refine tN ?_
              refine RW_succ ?_
              refine CW_seq ?_
              refine cR ?_
              refine oM rfl rfl ?_
              refine oQ (Q_bin rfl rfl rfl) rfl rfl ?_
              refine oN ?_
              first | refine cT rfl ?_ | refine cF rfl ?_ | refine CW_cond rfl (fun hc => ?_) (fun hc => ?_)
              all_goals try simp only [s1, s2, s3, s4, s5, s6, s7, s8, s9, s10, s11, s12] at hc
              all_goals try (exfalso; first | omega | (simp at hc; done); done)
              all_goals first
                | (
                 refine CW_skip ?_)
                | (
                 refine CW_exit ?_)
              all_goals first
                | with_reducible refine tR ?_
                | with_reducible refine tE ?_
                | (
                 with_reducible refine tN ?_
                 refine CW_seq ?_
                 refine CW_block ?_
                 refine CW_draw lateOk (by decide +kernel) ?_
                 iterate 3 refine qM rfl rfl ?_
                 first | refine qQ (Is0 rfl rfl rfl rfl rfl rfl) rfl rfl ?_ | refine qQ (Is1 rfl rfl rfl rfl rfl rfl) rfl rfl ?_
                 refine qQ (Q_ldv rfl rfl rfl rfl rfl rfl) rfl rfl ?_
                 refine qM rfl rfl ?_
                 first | refine qQ (Is0 rfl rfl rfl rfl rfl rfl) rfl rfl ?_ | refine qQ (Is1 rfl rfl rfl rfl rfl rfl) rfl rfl ?_
                 first | refine qQ (Q_ldc rfl rfl rfl rfl rfl) rfl rfl ?_ | refine qQ (Ld rfl rfl rfl rfl) rfl rfl ?_
                 refine qM rfl rfl ?_
                 first | refine qQ (Ia0 rfl rfl rfl rfl rfl rfl) rfl rfl ?_ | refine qQ (Ia1 rfl rfl rfl rfl rfl rfl) rfl rfl ?_
                 first | refine qQ (Q_ldc rfl rfl rfl rfl rfl) rfl rfl ?_ | refine qQ (Ld rfl rfl rfl rfl) rfl rfl ?_
                 refine qMulN 12 12 rfl rfl (by omega) (by omega) (by decide) rfl (fun z35 hz35 hl35 hu35 => ?_)
                 subst hz35; refine qQ (Q_binu rfl rfl rfl (by omega)) rfl rfl ?_
                 refine qA rfl rfl ?_
                 refine QW_nil ?_
                 all_goals first | with_reducible refine bN ?_ | with_reducible refine bE ?_ | with_reducible refine bR ?_ | refine bX rfl ?_
                 all_goals with_reducible refine tN ?_
                 all_goals (
                  refine CW_region ?_
                  refine oM rfl rfl ?_
                  first | refine oQ (Q_binu rfl rfl rfl (by omega)) rfl rfl ?_ | refine oQ (Q_bin rfl rfl rfl) rfl rfl ?_
                  refine oA rfl rfl ?_
                  refine OW_nil ?_))
              all_goals first
                | with_reducible refine tR ?_
                | with_reducible refine tE ?_
                | (
                 with_reducible refine tN ?_
                 refine RW_succ ?_
                 refine CW_seq ?_
                 refine cR ?_
                 refine oM rfl rfl ?_
                 refine oQ (Q_bin rfl rfl rfl) rfl rfl ?_
                 refine oN ?_
                 first | refine cT rfl ?_ | refine cF rfl ?_ | refine CW_cond rfl (fun hc => ?_) (fun hc => ?_)
                 all_goals try simp only [s1, s2, s3, s4, s5, s6, s7, s8, s9, s10, s11, s12] at hc
                 all_goals try (exfalso; first | omega | (simp at hc; done); done)
                 all_goals first
                   | (
                    refine CW_skip ?_)
                   | (
                    refine CW_exit ?_)
                 all_goals first
                   | with_reducible refine tR ?_
                   | with_reducible refine tE ?_
                   | (
                    with_reducible refine tN ?_
                    refine CW_seq ?_
                    refine CW_block ?_
                    refine CW_draw lateOk (by decide +kernel) ?_
                    iterate 3 refine qM rfl rfl ?_
                    first | refine qQ (Is0 rfl rfl rfl rfl rfl rfl) rfl rfl ?_ | refine qQ (Is1 rfl rfl rfl rfl rfl rfl) rfl rfl ?_
                    refine qQ (Q_ldv rfl rfl rfl rfl rfl rfl) rfl rfl ?_
                    refine qM rfl rfl ?_
                    first | refine qQ (Is0 rfl rfl rfl rfl rfl rfl) rfl rfl ?_ | refine qQ (Is1 rfl rfl rfl rfl rfl rfl) rfl rfl ?_
                    first | refine qQ (Q_ldc rfl rfl rfl rfl rfl) rfl rfl ?_ | refine qQ (Ld rfl rfl rfl rfl) rfl rfl ?_
                    refine qM rfl rfl ?_
                    first | refine qQ (Ia0 rfl rfl rfl rfl rfl rfl) rfl rfl ?_ | refine qQ (Ia1 rfl rfl rfl rfl rfl rfl) rfl rfl ?_
                    first | refine qQ (Q_ldc rfl rfl rfl rfl rfl) rfl rfl ?_ | refine qQ (Ld rfl rfl rfl rfl) rfl rfl ?_
                    refine qMulN 12 12 rfl rfl (by omega) (by omega) (by decide) rfl (fun z35 hz35 hl35 hu35 => ?_)
                    subst hz35; refine qQ (Q_binu rfl rfl rfl (by omega)) rfl rfl ?_
                    refine qA rfl rfl ?_
                    refine QW_nil ?_
                    all_goals first | with_reducible refine bN ?_ | with_reducible refine bE ?_ | with_reducible refine bR ?_ | refine bX rfl ?_
                    all_goals with_reducible refine tN ?_
                    all_goals (
                     refine CW_region ?_
                     refine oM rfl rfl ?_
                     first | refine oQ (Q_binu rfl rfl rfl (by omega)) rfl rfl ?_ | refine oQ (Q_bin rfl rfl rfl) rfl rfl ?_
                     refine oA rfl rfl ?_
                     refine OW_nil ?_))
                 all_goals first
                   | with_reducible refine tR ?_
                   | with_reducible refine tE ?_
                   | (
                    with_reducible refine tN ?_
                    refine RW_succ ?_
                    refine CW_seq ?_
                    refine cR ?_
                    refine oM rfl rfl ?_
                    refine oQ (Q_bin rfl rfl rfl) rfl rfl ?_
                    refine oN ?_
                    first | refine cT rfl ?_ | refine cF rfl ?_ | refine CW_cond rfl (fun hc => ?_) (fun hc => ?_)
                    all_goals try simp only [s1, s2, s3, s4, s5, s6, s7, s8, s9, s10, s11, s12] at hc
                    all_goals try (exfalso; first | omega | (simp at hc; done); done)
                    all_goals first
                      | (
                       refine CW_skip ?_)
                      | (
                       refine CW_exit ?_)
                    all_goals first
                      | with_reducible refine tR ?_
                      | with_reducible refine tE ?_
                      | (
                       with_reducible refine tN ?_
                       refine CW_seq ?_
                       refine CW_block ?_
                       refine CW_draw lateOk (by decide +kernel) ?_
                       iterate 3 refine qM rfl rfl ?_
                       first | refine qQ (Is0 rfl rfl rfl rfl rfl rfl) rfl rfl ?_ | refine qQ (Is1 rfl rfl rfl rfl rfl rfl) rfl rfl ?_
                       refine qQ (Q_ldv rfl rfl rfl rfl rfl rfl) rfl rfl ?_
                       refine qM rfl rfl ?_
                       first | refine qQ (Is0 rfl rfl rfl rfl rfl rfl) rfl rfl ?_ | refine qQ (Is1 rfl rfl rfl rfl rfl rfl) rfl rfl ?_
                       first | refine qQ (Q_ldc rfl rfl rfl rfl rfl) rfl rfl ?_ | refine qQ (Ld rfl rfl rfl rfl) rfl rfl ?_
                       refine qM rfl rfl ?_
                       first | refine qQ (Ia0 rfl rfl rfl rfl rfl rfl) rfl rfl ?_ | refine qQ (Ia1 rfl rfl rfl rfl rfl rfl) rfl rfl ?_
                       first | refine qQ (Q_ldc rfl rfl rfl rfl rfl) rfl rfl ?_ | refine qQ (Ld rfl rfl rfl rfl) rfl rfl ?_
                       refine qMulN 12 12 rfl rfl (by omega) (by omega) (by decide) rfl (fun z35 hz35 hl35 hu35 => ?_)
                       subst hz35; refine qQ (Q_binu rfl rfl rfl (by omega)) rfl rfl ?_
                       refine qA rfl rfl ?_
                       refine QW_nil ?_
                       all_goals first | with_reducible refine bN ?_ | with_reducible refine bE ?_ | with_reducible refine bR ?_ | refine bX rfl ?_
                       all_goals with_reducible refine tN ?_
                       all_goals (
                        refine CW_region ?_
                        refine oM rfl rfl ?_
                        first | refine oQ (Q_binu rfl rfl rfl (by omega)) rfl rfl ?_ | refine oQ (Q_bin rfl rfl rfl) rfl rfl ?_
                        refine oA rfl rfl ?_
                        refine OW_nil ?_))
                    all_goals first
                      | with_reducible refine tR ?_
                      | with_reducible refine tE ?_
                      | (
                       with_reducible refine tN ?_
                       refine RW_succ ?_
                       refine CW_seq ?_
                       refine cR ?_
                       refine oM rfl rfl ?_
                       refine oQ (Q_bin rfl rfl rfl) rfl rfl ?_
                       refine oN ?_
                       first | refine cT rfl ?_ | refine cF rfl ?_ | refine CW_cond rfl (fun hc => ?_) (fun hc => ?_)
                       all_goals try simp only [s1, s2, s3, s4, s5, s6, s7, s8, s9, s10, s11, s12] at hc
                       all_goals try (exfalso; first | omega | (simp at hc; done); done)
                       all_goals first
                         | (
                          refine CW_skip ?_)
                         | (
                          refine CW_exit ?_)
                       all_goals first
                         | with_reducible refine tR ?_
                         | with_reducible refine tE ?_
                         | (
                          with_reducible refine tN ?_
                          refine CW_seq ?_
                          refine CW_block ?_
                          refine CW_draw lateOk (by decide +kernel) ?_
                          iterate 3 refine qM rfl rfl ?_
                          first | refine qQ (Is0 rfl rfl rfl rfl rfl rfl) rfl rfl ?_ | refine qQ (Is1 rfl rfl rfl rfl rfl rfl) rfl rfl ?_
                          refine qQ (Q_ldv rfl rfl rfl rfl rfl rfl) rfl rfl ?_
                          refine qM rfl rfl ?_
                          first | refine qQ (Is0 rfl rfl rfl rfl rfl rfl) rfl rfl ?_ | refine qQ (Is1 rfl rfl rfl rfl rfl rfl) rfl rfl ?_
                          first | refine qQ (Q_ldc rfl rfl rfl rfl rfl) rfl rfl ?_ | refine qQ (Ld rfl rfl rfl rfl) rfl rfl ?_
                          refine qM rfl rfl ?_
                          first | refine qQ (Ia0 rfl rfl rfl rfl rfl rfl) rfl rfl ?_ | refine qQ (Ia1 rfl rfl rfl rfl rfl rfl) rfl rfl ?_
                          first | refine qQ (Q_ldc rfl rfl rfl rfl rfl) rfl rfl ?_ | refine qQ (Ld rfl rfl rfl rfl) rfl rfl ?_
                          refine qMulN 12 12 rfl rfl (by omega) (by omega) (by decide) rfl (fun z35 hz35 hl35 hu35 => ?_)
                          subst hz35; refine qQ (Q_binu rfl rfl rfl (by omega)) rfl rfl ?_
                          refine qA rfl rfl ?_
                          refine QW_nil ?_
                          all_goals first | with_reducible refine bN ?_ | with_reducible refine bE ?_ | with_reducible refine bR ?_ | refine bX rfl ?_
                          all_goals with_reducible refine tN ?_
                          all_goals (
                           refine CW_region ?_
                           refine oM rfl rfl ?_
                           first | refine oQ (Q_binu rfl rfl rfl (by omega)) rfl rfl ?_ | refine oQ (Q_bin rfl rfl rfl) rfl rfl ?_
                           refine oA rfl rfl ?_
                           refine OW_nil ?_))
                       all_goals first
                         | with_reducible refine tR ?_
                         | with_reducible refine tE ?_
                         | (
                          with_reducible refine tN ?_
                          exfalso; first | omega | (simp at hc; done) | (simp_all; done))))))
           all_goals first | with_reducible refine bN ?_ | with_reducible refine bE ?_ | with_reducible refine bR ?_ | refine bX rfl ?_
           all_goals with_reducible refine tN ?_
           all_goals (
            refine CW_region ?_
            iterate 3 refine oM rfl rfl ?_
            refine oQ (Q_rem rfl rfl (by omega)) rfl rfl ?_; rw [Int.tmod_eq_emod_of_nonneg (by omega)]
            refine oBsl (zl := []) (r := [_]) rfl rfl rfl rfl (.inl ⟨rfl, rfl⟩) rfl rfl rfl rfl rfl rfl ?_
            first | refine oApp (A := []) (sp := []) (sz := 1) (by_ := 8) rfl rfl rfl rfl rfl rfl ⟨by decide, rfl, .inl ⟨rfl, rfl⟩⟩ rfl rfl rfl rfl rfl rfl rfl rfl (by omega) (by omega) (by omega) (by omega) rfl rfl (fun k2 sp2 h1 h2 => ?_) | refine oApp (sz := 1) (by_ := 8) rfl rfl rfl rfl rfl rfl ⟨by decide, rfl, .inl ⟨rfl, rfl⟩⟩ rfl rfl rfl rfl rfl rfl rfl rfl (by omega) (by omega) (by omega) (by omega) rfl rfl (fun k2 sp2 h1 h2 => ?_)
            refine oA rfl rfl ?_
            refine OW_nil ?_)
           all_goals first | with_reducible refine bN ?_ | with_reducible refine bE ?_ | with_reducible refine bR ?_ | refine bX rfl ?_
           all_goals with_reducible refine tN ?_
           all_goals (
            refine CW_region ?_
            refine oM rfl rfl ?_
            first | refine oQ (Q_binu rfl rfl rfl (by omega)) rfl rfl ?_ | refine oQ (Q_bin rfl rfl rfl) rfl rfl ?_
            refine oA rfl rfl ?_
            refine OW_nil ?_))
        all_goals first
          | with_reducible refine tR ?_
          | with_reducible refine tE ?_
          | (
           with_reducible refine tN ?_
           refine RW_succ ?_
           refine CW_seq ?_
           refine cR ?_
           refine oM rfl rfl ?_
           refine oQ (Q_bin rfl rfl rfl) rfl rfl ?_
           refine oN ?_
           first | refine cT rfl ?_ | refine cF rfl ?_ | refine CW_cond rfl (fun hc => ?_) (fun hc => ?_)
           all_goals try simp only [s1, s2, s3, s4, s5, s6, s7, s8, s9, s10, s11, s12] at hc
           all_goals try (exfalso; first | omega | (simp at hc; done); done)
           all_goals first
             | (
              refine CW_skip ?_)
             | (
              refine CW_exit ?_)
           all_goals first
             | with_reducible refine tR ?_
             | with_reducible refine tE ?_
             | (
              with_reducible refine tN ?_
              refine CW_seq ?_
              refine CW_block ?_
              refine cR ?_
              refine oA rfl rfl ?_
              refine oN ?_
              refine CW_seq ?_
              refine cR ?_
              refine oA rfl rfl ?_
              refine oN ?_
              refine CW_block ?_
              refine CW_rounds 5 ?_
              refine RW_succ ?_
              refine CW_seq ?_
              refine cR ?_
              refine oM rfl rfl ?_
              refine oQ (Q_bin rfl rfl rfl) rfl rfl ?_
              refine oN ?_
              first | refine cT rfl ?_ | refine cF rfl ?_ | refine CW_cond rfl (fun hc => ?_) (fun hc => ?_)
              all_goals try simp only [s1, s2, s3, s4, s5, s6, s7, s8, s9, s10, s11, s12] at hc
              all_goals try (exfalso; first | omega | (simp at hc; done); done)
              all_goals first
                | (
                 refine CW_skip ?_)
                | (
                 refine CW_exit ?_)
              all_goals first
                | with_reducible refine tR ?_
                | with_reducible refine tE ?_
                | (
                 with_reducible refine tN ?_
                 refine CW_seq ?_
                 refine CW_block ?_
                 refine CW_draw lateOk (by decide +kernel) ?_
                 iterate 3 refine qM rfl rfl ?_
                 first | refine qQ (Is0 rfl rfl rfl rfl rfl rfl) rfl rfl ?_ | refine qQ (Is1 rfl rfl rfl rfl rfl rfl) rfl rfl ?_
                 refine qQ (Q_ldv rfl rfl rfl rfl rfl rfl) rfl rfl ?_
                 refine qM rfl rfl ?_
                 first | refine qQ (Is0 rfl rfl rfl rfl rfl rfl) rfl rfl ?_ | refine qQ (Is1 rfl rfl rfl rfl rfl rfl) rfl rfl ?_
                 first | refine qQ (Q_ldc rfl rfl rfl rfl rfl) rfl rfl ?_ | refine qQ (Ld rfl rfl rfl rfl) rfl rfl ?_
                 refine qM rfl rfl ?_
                 first | refine qQ (Ia0 rfl rfl rfl rfl rfl rfl) rfl rfl ?_ | refine qQ (Ia1 rfl rfl rfl rfl rfl rfl) rfl rfl ?_
                 first | refine qQ (Q_ldc rfl rfl rfl rfl rfl) rfl rfl ?_ | refine qQ (Ld rfl rfl rfl rfl) rfl rfl ?_
                 refine qMulN 12 12 rfl rfl (by omega) (by omega) (by decide) rfl (fun z35 hz35 hl35 hu35 => ?_)
                 subst hz35; refine qQ (Q_binu rfl rfl rfl (by omega)) rfl rfl ?_
                 refine qA rfl rfl ?_
                 refine QW_nil ?_
                 all_goals first | with_reducible refine bN ?_ | with_reducible refine bE ?_ | with_reducible refine bR ?_ | refine bX rfl ?_
                 all_goals with_reducible refine tN ?_
                 all_goals (
                  refine CW_region ?_
                  refine oM rfl rfl ?_
                  first | refine oQ (Q_binu rfl rfl rfl (by omega)) rfl rfl ?_ | refine oQ (Q_bin rfl rfl rfl) rfl rfl ?_
                  refine oA rfl rfl ?_
                  refine OW_nil ?_))
              all_goals first
                | with_reducible refine tR ?_
                | with_reducible refine tE ?_
                | (
                 with_reducible refine tN ?_
                 refine RW_succ ?_
                 refine CW_seq ?_
                 refine cR ?_
                 refine oM rfl rfl ?_
                 refine oQ (Q_bin rfl rfl rfl) rfl rfl ?_
                 refine oN ?_
                 first | refine cT rfl ?_ | refine cF rfl ?_ | refine CW_cond rfl (fun hc => ?_) (fun hc => ?_)
                 all_goals try simp only [s1, s2, s3, s4, s5, s6, s7, s8, s9, s10, s11, s12] at hc
                 all_goals try (exfalso; first | omega | (simp at hc; done); done)
                 all_goals first
                   | (
                    refine CW_skip ?_)
                   | (
                    refine CW_exit ?_)
                 all_goals first
                   | with_reducible refine tR ?_
                   | with_reducible refine tE ?_
                   | (
                    with_reducible refine tN ?_
                    refine CW_seq ?_
                    refine CW_block ?_
                    refine CW_draw lateOk (by decide +kernel) ?_
                    iterate 3 refine qM rfl rfl ?_
                    first | refine qQ (Is0 rfl rfl rfl rfl rfl rfl) rfl rfl ?_ | refine qQ (Is1 rfl rfl rfl rfl rfl rfl) rfl rfl ?_
                    refine qQ (Q_ldv rfl rfl rfl rfl rfl rfl) rfl rfl ?_
                    refine qM rfl rfl ?_
                    first | refine qQ (Is0 rfl rfl rfl rfl rfl rfl) rfl rfl ?_ | refine qQ (Is1 rfl rfl rfl rfl rfl rfl) rfl rfl ?_
                    first | refine qQ (Q_ldc rfl rfl rfl rfl rfl) rfl rfl ?_ | refine qQ (Ld rfl rfl rfl rfl) rfl rfl ?_
                    refine qM rfl rfl ?_
                    first | refine qQ (Ia0 rfl rfl rfl rfl rfl rfl) rfl rfl ?_ | refine qQ (Ia1 rfl rfl rfl rfl rfl rfl) rfl rfl ?_
                    first | refine qQ (Q_ldc rfl rfl rfl rfl rfl) rfl rfl ?_ | refine qQ (Ld rfl rfl rfl rfl) rfl rfl ?_
                    refine qMulN 12 12 rfl rfl (by omega) (by omega) (by decide) rfl (fun z35 hz35 hl35 hu35 => ?_)
                    subst hz35; refine qQ (Q_binu rfl rfl rfl (by omega)) rfl rfl ?_
                    refine qA rfl rfl ?_
                    refine QW_nil ?_
                    all_goals first | with_reducible refine bN ?_ | with_reducible refine bE ?_ | with_reducible refine bR ?_ | refine bX rfl ?_
                    all_goals with_reducible refine tN ?_
                    all_goals (
                     refine CW_region ?_
                     refine oM rfl rfl ?_
                     first | refine oQ (Q_binu rfl rfl rfl (by omega)) rfl rfl ?_ | refine oQ (Q_bin rfl rfl rfl) rfl rfl ?_
                     refine oA rfl rfl ?_
                     refine OW_nil ?_))
                 all_goals first
                   | with_reducible refine tR ?_
                   | with_reducible refine tE ?_
                   | (
                    with_reducible refine tN ?_
                    refine RW_succ ?_
                    refine CW_seq ?_
                    refine cR ?_
                    refine oM rfl rfl ?_
                    refine oQ (Q_bin rfl rfl rfl) rfl rfl ?_
                    refine oN ?_
                    first | refine cT rfl ?_ | refine cF rfl ?_ | refine CW_cond rfl (fun hc => ?_) (fun hc => ?_)
                    all_goals try simp only [s1, s2, s3, s4, s5, s6, s7, s8, s9, s10, s11, s12] at hc
                    all_goals try (exfalso; first | omega | (simp at hc; done); done)
                    all_goals first
                      | (
                       refine CW_skip ?_)
                      | (
                       refine CW_exit ?_)
                    all_goals first
                      | with_reducible refine tR ?_
                      | with_reducible refine tE ?_
                      | (
                       with_reducible refine tN ?_
                       refine CW_seq ?_
                       refine CW_block ?_
                       refine CW_draw lateOk (by decide +kernel) ?_
                       iterate 3 refine qM rfl rfl ?_
                       first | refine qQ (Is0 rfl rfl rfl rfl rfl rfl) rfl rfl ?_ | refine qQ (Is1 rfl rfl rfl rfl rfl rfl) rfl rfl ?_
                       refine qQ (Q_ldv rfl rfl rfl rfl rfl rfl) rfl rfl ?_
                       refine qM rfl rfl ?_
                       first | refine qQ (Is0 rfl rfl rfl rfl rfl rfl) rfl rfl ?_ | refine qQ (Is1 rfl rfl rfl rfl rfl rfl) rfl rfl ?_
                       first | refine qQ (Q_ldc rfl rfl rfl rfl rfl) rfl rfl ?_ | refine qQ (Ld rfl rfl rfl rfl) rfl rfl ?_
                       refine qM rfl rfl ?_
                       first | refine qQ (Ia0 rfl rfl rfl rfl rfl rfl) rfl rfl ?_ | refine qQ (Ia1 rfl rfl rfl rfl rfl rfl) rfl rfl ?_
                       first | refine qQ (Q_ldc rfl rfl rfl rfl rfl) rfl rfl ?_ | refine qQ (Ld rfl rfl rfl rfl) rfl rfl ?_
                       refine qMulN 12 12 rfl rfl (by omega) (by omega) (by decide) rfl (fun z35 hz35 hl35 hu35 => ?_)
                       subst hz35; refine qQ (Q_binu rfl rfl rfl (by omega)) rfl rfl ?_
                       refine qA rfl rfl ?_
                       refine QW_nil ?_
                       all_goals first | with_reducible refine bN ?_ | with_reducible refine bE ?_ | with_reducible refine bR ?_ | refine bX rfl ?_
                       all_goals with_reducible refine tN ?_
                       all_goals (
                        refine CW_region ?_
                        refine oM rfl rfl ?_
                        first | refine oQ (Q_binu rfl rfl rfl (by omega)) rfl rfl ?_ | refine oQ (Q_bin rfl rfl rfl) rfl rfl ?_
                        refine oA rfl rfl ?_
                        refine OW_nil ?_))
                    all_goals first
                      | with_reducible refine tR ?_
                      | with_reducible refine tE ?_
                      | (
                       with_reducible refine tN ?_
                       refine RW_succ ?_
                       refine CW_seq ?_
                       refine cR ?_
                       refine oM rfl rfl ?_
                       refine oQ (Q_bin rfl rfl rfl) rfl rfl ?_
                       refine oN ?_
                       first | refine cT rfl ?_ | refine cF rfl ?_ | refine CW_cond rfl (fun hc => ?_) (fun hc => ?_)
                       all_goals try simp only [s1, s2, s3, s4, s5, s6, s7, s8, s9, s10, s11, s12] at hc
                       all_goals try (exfalso; first | omega | (simp at hc; done); done)
                       all_goals first
                         | (
                          refine CW_skip ?_)
                         | (
                          refine CW_exit ?_)
                       all_goals first
                         | with_reducible refine tR ?_
                         | with_reducible refine tE ?_
                         | (
                          with_reducible refine tN ?_
                          refine CW_seq ?_
                          refine CW_block ?_
                          refine CW_draw lateOk (by decide +kernel) ?_
                          iterate 3 refine qM rfl rfl ?_
                          first | refine qQ (Is0 rfl rfl rfl rfl rfl rfl) rfl rfl ?_ | refine qQ (Is1 rfl rfl rfl rfl rfl rfl) rfl rfl ?_
                          refine qQ (Q_ldv rfl rfl rfl rfl rfl rfl) rfl rfl ?_
                          refine qM rfl rfl ?_
                          first | refine qQ (Is0 rfl rfl rfl rfl rfl rfl) rfl rfl ?_ | refine qQ (Is1 rfl rfl rfl rfl rfl rfl) rfl rfl ?_
                          first | refine qQ (Q_ldc rfl rfl rfl rfl rfl) rfl rfl ?_ | refine qQ (Ld rfl rfl rfl rfl) rfl rfl ?_
                          refine qM rfl rfl ?_
                          first | refine qQ (Ia0 rfl rfl rfl rfl rfl rfl) rfl rfl ?_ | refine qQ (Ia1 rfl rfl rfl rfl rfl rfl) rfl rfl ?_
                          first | refine qQ (Q_ldc rfl rfl rfl rfl rfl) rfl rfl ?_ | refine qQ (Ld rfl rfl rfl rfl) rfl rfl ?_
                          refine qMulN 12 12 rfl rfl (by omega) (by omega) (by decide) rfl (fun z35 hz35 hl35 hu35 => ?_)
                          subst hz35; refine qQ (Q_binu rfl rfl rfl (by omega)) rfl rfl ?_
                          refine qA rfl rfl ?_
                          refine QW_nil ?_
                          all_goals first | with_reducible refine bN ?_ | with_reducible refine bE ?_ | with_reducible refine bR ?_ | refine bX rfl ?_
                          all_goals with_reducible refine tN ?_
                          all_goals (
                           refine CW_region ?_
                           refine oM rfl rfl ?_
                           first | refine oQ (Q_binu rfl rfl rfl (by omega)) rfl rfl ?_ | refine oQ (Q_bin rfl rfl rfl) rfl rfl ?_
                           refine oA rfl rfl ?_
                           refine OW_nil ?_))
                       all_goals first
                         | with_reducible refine tR ?_
                         | with_reducible refine tE ?_
                         | (
                          with_reducible refine tN ?_
                          refine RW_succ ?_
                          refine CW_seq ?_
                          refine cR ?_
                          refine oM rfl rfl ?_
                          refine oQ (Q_bin rfl rfl rfl) rfl rfl ?_
                          refine oN ?_
                          first | refine cT rfl ?_ | refine cF rfl ?_ | refine CW_cond rfl (fun hc => ?_) (fun hc => ?_)
                          all_goals try simp only [s1, s2, s3, s4, s5, s6, s7, s8, s9, s10, s11, s12] at hc
                          all_goals try (exfalso; first | omega | (simp at hc; done); done)
                          all_goals first
                            | (
                             refine CW_skip ?_)
                            | (
                             refine CW_exit ?_)
                          all_goals first
                            | with_reducible refine tR ?_
                            | with_reducible refine tE ?_
                            | (
                             with_reducible refine tN ?_
                             refine CW_seq ?_
                             refine CW_block ?_
                             refine CW_draw lateOk (by decide +kernel) ?_
                             iterate 3 refine qM rfl rfl ?_
                             first | refine qQ (Is0 rfl rfl rfl rfl rfl rfl) rfl rfl ?_ | refine qQ (Is1 rfl rfl rfl rfl rfl rfl) rfl rfl ?_
                             refine qQ (Q_ldv rfl rfl rfl rfl rfl rfl) rfl rfl ?_
                             refine qM rfl rfl ?_
                             first | refine qQ (Is0 rfl rfl rfl rfl rfl rfl) rfl rfl ?_ | refine qQ (Is1 rfl rfl rfl rfl rfl rfl) rfl rfl ?_
                             first | refine qQ (Q_ldc rfl rfl rfl rfl rfl) rfl rfl ?_ | refine qQ (Ld rfl rfl rfl rfl) rfl rfl ?_
                             refine qM rfl rfl ?_
                             first | refine qQ (Ia0 rfl rfl rfl rfl rfl rfl) rfl rfl ?_ | refine qQ (Ia1 rfl rfl rfl rfl rfl rfl) rfl rfl ?_
                             first | refine qQ (Q_ldc rfl rfl rfl rfl rfl) rfl rfl ?_ | refine qQ (Ld rfl rfl rfl rfl) rfl rfl ?_
                             refine qMulN 12 12 rfl rfl (by omega) (by omega) (by decide) rfl (fun z35 hz35 hl35 hu35 => ?_)
                             subst hz35; refine qQ (Q_binu rfl rfl rfl (by omega)) rfl rfl ?_
                             refine qA rfl rfl ?_
                             refine QW_nil ?_
                             all_goals first | with_reducible refine bN ?_ | with_reducible refine bE ?_ | with_reducible refine bR ?_ | refine bX rfl ?_
                             all_goals with_reducible refine tN ?_
                             all_goals (
                              refine CW_region ?_
                              refine oM rfl rfl ?_
                              first | refine oQ (Q_binu rfl rfl rfl (by omega)) rfl rfl ?_ | refine oQ (Q_bin rfl rfl rfl) rfl rfl ?_
                              refine oA rfl rfl ?_
                              refine OW_nil ?_))
                          all_goals first
                            | with_reducible refine tR ?_
                            | with_reducible refine tE ?_
                            | (
                             with_reducible refine tN ?_
                             exfalso; first | omega | (simp at hc; done) | (simp_all; done))))))
              all_goals first | with_reducible refine bN ?_ | with_reducible refine bE ?_ | with_reducible refine bR ?_ | refine bX rfl ?_
              all_goals with_reducible refine tN ?_
              all_goals (
               refine CW_region ?_
               iterate 3 refine oM rfl rfl ?_
               refine oQ (Q_rem rfl rfl (by omega)) rfl rfl ?_; rw [Int.tmod_eq_emod_of_nonneg (by omega)]
               refine oBsl (zl := []) (r := [_]) rfl rfl rfl rfl (.inl ⟨rfl, rfl⟩) rfl rfl rfl rfl rfl rfl ?_
               first | refine oApp (A := []) (sp := []) (sz := 1) (by_ := 8) rfl rfl rfl rfl rfl rfl ⟨by decide, rfl, .inl ⟨rfl, rfl⟩⟩ rfl rfl rfl rfl rfl rfl rfl rfl (by omega) (by omega) (by omega) (by omega) rfl rfl (fun k2 sp2 h1 h2 => ?_) | refine oApp (sz := 1) (by_ := 8) rfl rfl rfl rfl rfl rfl ⟨by decide, rfl, .inl ⟨rfl, rfl⟩⟩ rfl rfl rfl rfl rfl rfl rfl rfl (by omega) (by omega) (by omega) (by omega) rfl rfl (fun k2 sp2 h1 h2 => ?_)
               refine oA rfl rfl ?_
               refine OW_nil ?_)
              all_goals first | with_reducible refine bN ?_ | with_reducible refine bE ?_ | with_reducible refine bR ?_ | refine bX rfl ?_
              all_goals with_reducible refine tN ?_
              all_goals (
               refine CW_region ?_
               refine oM rfl rfl ?_
               first | refine oQ (Q_binu rfl rfl rfl (by omega)) rfl rfl ?_ | refine oQ (Q_bin rfl rfl rfl) rfl rfl ?_
               refine oA rfl rfl ?_
               refine OW_nil ?_))
           all_goals first
             | with_reducible refine tR ?_
             | with_reducible refine tE ?_
             | (
              with_reducible refine tN ?_
              refine RW_succ ?_
              refine CW_seq ?_
              refine cR ?_
              refine oM rfl rfl ?_
              refine oQ (Q_bin rfl rfl rfl) rfl rfl ?_
              refine oN ?_
              first | refine cT rfl ?_ | refine cF rfl ?_ | refine CW_cond rfl (fun hc => ?_) (fun hc => ?_)
              all_goals try simp only [s1, s2, s3, s4, s5, s6, s7, s8, s9, s10, s11, s12] at hc
              all_goals try (exfalso; first | omega | (simp at hc; done); done)
              all_goals first
                | (
                 refine CW_skip ?_)
                | (
                 refine CW_exit ?_)
              all_goals first
                | with_reducible refine tR ?_
                | with_reducible refine tE ?_
                | (
                 with_reducible refine tN ?_
                 refine CW_seq ?_
                 refine CW_block ?_
                 refine cR ?_
                 refine oA rfl rfl ?_
                 refine oN ?_
                 refine CW_seq ?_
                 refine cR ?_
                 refine oA rfl rfl ?_
                 refine oN ?_
                 refine CW_block ?_
                 refine CW_rounds 5 ?_
                 refine RW_succ ?_
                 refine CW_seq ?_
                 refine cR ?_
                 refine oM rfl rfl ?_
                 refine oQ (Q_bin rfl rfl rfl) rfl rfl ?_
                 refine oN ?_
                 first | refine cT rfl ?_ | refine cF rfl ?_ | refine CW_cond rfl (fun hc => ?_) (fun hc => ?_)
                 all_goals try simp only [s1, s2, s3, s4, s5, s6, s7, s8, s9, s10, s11, s12] at hc
                 all_goals try (exfalso; first | omega | (simp at hc; done); done)
                 all_goals first
                   | (
                    refine CW_skip ?_)
                   | (
                    refine CW_exit ?_)
                 all_goals first
                   | with_reducible refine tR ?_
                   | with_reducible refine tE ?_
                   | (
                    with_reducible refine tN ?_
                    refine CW_seq ?_
                    refine CW_block ?_
                    refine CW_draw lateOk (by decide +kernel) ?_
                    iterate 3 refine qM rfl rfl ?_
                    first | refine qQ (Is0 rfl rfl rfl rfl rfl rfl) rfl rfl ?_ | refine qQ (Is1 rfl rfl rfl rfl rfl rfl) rfl rfl ?_
                    refine qQ (Q_ldv rfl rfl rfl rfl rfl rfl) rfl rfl ?_
                    refine qM rfl rfl ?_
                    first | refine qQ (Is0 rfl rfl rfl rfl rfl rfl) rfl rfl ?_ | refine qQ (Is1 rfl rfl rfl rfl rfl rfl) rfl rfl ?_
                    first | refine qQ (Q_ldc rfl rfl rfl rfl rfl) rfl rfl ?_ | refine qQ (Ld rfl rfl rfl rfl) rfl rfl ?_
                    refine qM rfl rfl ?_
                    first | refine qQ (Ia0 rfl rfl rfl rfl rfl rfl) rfl rfl ?_ | refine qQ (Ia1 rfl rfl rfl rfl rfl rfl) rfl rfl ?_
                    first | refine qQ (Q_ldc rfl rfl rfl rfl rfl) rfl rfl ?_ | refine qQ (Ld rfl rfl rfl rfl) rfl rfl ?_
                    refine qMulN 12 12 rfl rfl (by omega) (by omega) (by decide) rfl (fun z35 hz35 hl35 hu35 => ?_)
                    subst hz35; refine qQ (Q_binu rfl rfl rfl (by omega)) rfl rfl ?_
                    refine qA rfl rfl ?_
                    refine QW_nil ?_
                    all_goals first | with_reducible refine bN ?_ | with_reducible refine bE ?_ | with_reducible refine bR ?_ | refine bX rfl ?_
                    all_goals with_reducible refine tN ?_
                    all_goals (
                     refine CW_region ?_
                     refine oM rfl rfl ?_
                     first | refine oQ (Q_binu rfl rfl rfl (by omega)) rfl rfl ?_ | refine oQ (Q_bin rfl rfl rfl) rfl rfl ?_
                     refine oA rfl rfl ?_
                     refine OW_nil ?_))
                 all_goals first
                   | with_reducible refine tR ?_
                   | with_reducible refine tE ?_
                   | (
                    with_reducible refine tN ?_
                    refine RW_succ ?_
                    refine CW_seq ?_
                    refine cR ?_
                    refine oM rfl rfl ?_
                    refine oQ (Q_bin rfl rfl rfl) rfl rfl ?_
                    refine oN ?_
                    first | refine cT rfl ?_ | refine cF rfl ?_ | refine CW_cond rfl (fun hc => ?_) (fun hc => ?_)
                    all_goals try simp only [s1, s2, s3, s4, s5, s6, s7, s8, s9, s10, s11, s12] at hc
                    all_goals try (exfalso; first | omega | (simp at hc; done); done)
                    all_goals first
                      | (
                       refine CW_skip ?_)
                      | (
                       refine CW_exit ?_)
                    all_goals first
                      | with_reducible refine tR ?_
                      | with_reducible refine tE ?_
                      | (
                       with_reducible refine tN ?_
                       refine CW_seq ?_
                       refine CW_block ?_
                       refine CW_draw lateOk (by decide +kernel) ?_
                       iterate 3 refine qM rfl rfl ?_
                       first | refine qQ (Is0 rfl rfl rfl rfl rfl rfl) rfl rfl ?_ | refine qQ (Is1 rfl rfl rfl rfl rfl rfl) rfl rfl ?_
                       refine qQ (Q_ldv rfl rfl rfl rfl rfl rfl) rfl rfl ?_
                       refine qM rfl rfl ?_
                       first | refine qQ (Is0 rfl rfl rfl rfl rfl rfl) rfl rfl ?_ | refine qQ (Is1 rfl rfl rfl rfl rfl rfl) rfl rfl ?_
                       first | refine qQ (Q_ldc rfl rfl rfl rfl rfl) rfl rfl ?_ | refine qQ (Ld rfl rfl rfl rfl) rfl rfl ?_
                       refine qM rfl rfl ?_
                       first | refine qQ (Ia0 rfl rfl rfl rfl rfl rfl) rfl rfl ?_ | refine qQ (Ia1 rfl rfl rfl rfl rfl rfl) rfl rfl ?_
                       first | refine qQ (Q_ldc rfl rfl rfl rfl rfl) rfl rfl ?_ | refine qQ (Ld rfl rfl rfl rfl) rfl rfl ?_
                       refine qMulN 12 12 rfl rfl (by omega) (by omega) (by decide) rfl (fun z35 hz35 hl35 hu35 => ?_)
                       subst hz35; refine qQ (Q_binu rfl rfl rfl (by omega)) rfl rfl ?_
                       refine qA rfl rfl ?_
                       refine QW_nil ?_
                       all_goals first | with_reducible refine bN ?_ | with_reducible refine bE ?_ | with_reducible refine bR ?_ | refine bX rfl ?_
                       all_goals with_reducible refine tN ?_
                       all_goals (
                        refine CW_region ?_
                        refine oM rfl rfl ?_
                        first | refine oQ (Q_binu rfl rfl rfl (by omega)) rfl rfl ?_ | refine oQ (Q_bin rfl rfl rfl) rfl rfl ?_
                        refine oA rfl rfl ?_
                        refine OW_nil ?_))
                    all_goals first
                      | with_reducible refine tR ?_
                      | with_reducible refine tE ?_
                      | (
                       with_reducible refine tN ?_
                       refine RW_succ ?_
                       refine CW_seq ?_
                       refine cR ?_
                       refine oM rfl rfl ?_
                       refine oQ (Q_bin rfl rfl rfl) rfl rfl ?_
                       refine oN ?_
                       first | refine cT rfl ?_ | refine cF rfl ?_ | refine CW_cond rfl (fun hc => ?_) (fun hc => ?_)
                       all_goals try simp only [s1, s2, s3, s4, s5, s6, s7, s8, s9, s10, s11, s12] at hc
                       all_goals try (exfalso; first | omega | (simp at hc; done); done)
                       all_goals first
                         | (
                          refine CW_skip ?_)
                         | (
                          refine CW_exit ?_)
                       all_goals first
                         | with_reducible refine tR ?_
                         | with_reducible refine tE ?_
                         | (
                          with_reducible refine tN ?_
                          refine CW_seq ?_
                          refine CW_block ?_
                          refine CW_draw lateOk (by decide +kernel) ?_
                          iterate 3 refine qM rfl rfl ?_
                          first | refine qQ (Is0 rfl rfl rfl rfl rfl rfl) rfl rfl ?_ | refine qQ (Is1 rfl rfl rfl rfl rfl rfl) rfl rfl ?_
                          refine qQ (Q_ldv rfl rfl rfl rfl rfl rfl) rfl rfl ?_
                          refine qM rfl rfl ?_
                          first | refine qQ (Is0 rfl rfl rfl rfl rfl rfl) rfl rfl ?_ | refine qQ (Is1 rfl rfl rfl rfl rfl rfl) rfl rfl ?_
                          first | refine qQ (Q_ldc rfl rfl rfl rfl rfl) rfl rfl ?_ | refine qQ (Ld rfl rfl rfl rfl) rfl rfl ?_
                          refine qM rfl rfl ?_
                          first | refine qQ (Ia0 rfl rfl rfl rfl rfl rfl) rfl rfl ?_ | refine qQ (Ia1 rfl rfl rfl rfl rfl rfl) rfl rfl ?_
                          first | refine qQ (Q_ldc rfl rfl rfl rfl rfl) rfl rfl ?_ | refine qQ (Ld rfl rfl rfl rfl) rfl rfl ?_
                          refine qMulN 12 12 rfl rfl (by omega) (by omega) (by decide) rfl (fun z35 hz35 hl35 hu35 => ?_)
                          subst hz35; refine qQ (Q_binu rfl rfl rfl (by omega)) rfl rfl ?_
                          refine qA rfl rfl ?_
                          refine QW_nil ?_
                          all_goals first | with_reducible refine bN ?_ | with_reducible refine bE ?_ | with_reducible refine bR ?_ | refine bX rfl ?_
                          all_goals with_reducible refine tN ?_
                          all_goals (
                           refine CW_region ?_
                           refine oM rfl rfl ?_
                           first | refine oQ (Q_binu rfl rfl rfl (by omega)) rfl rfl ?_ | refine oQ (Q_bin rfl rfl rfl) rfl rfl ?_
                           refine oA rfl rfl ?_
                           refine OW_nil ?_))
                       all_goals first
                         | with_reducible refine tR ?_
                         | with_reducible refine tE ?_
                         | (
                          with_reducible refine tN ?_
                          refine RW_succ ?_
                          refine CW_seq ?_
                          refine cR ?_
                          refine oM rfl rfl ?_
                          refine oQ (Q_bin rfl rfl rfl) rfl rfl ?_
                          refine oN ?_
                          first | refine cT rfl ?_ | refine cF rfl ?_ | refine CW_cond rfl (fun hc => ?_) (fun hc => ?_)
                          all_goals try simp only [s1, s2, s3, s4, s5, s6, s7, s8, s9, s10, s11, s12] at hc
                          all_goals try (exfalso; first | omega | (simp at hc; done); done)
                          all_goals first
                            | (
                             refine CW_skip ?_)
                            | (
                             refine CW_exit ?_)
                          all_goals first
                            | with_reducible refine tR ?_
                            | with_reducible refine tE ?_
                            | (
                             with_reducible refine tN ?_
                             refine CW_seq ?_
                             refine CW_block ?_
                             refine CW_draw lateOk (by decide +kernel) ?_
                             iterate 3 refine qM rfl rfl ?_
                             first | refine qQ (Is0 rfl rfl rfl rfl rfl rfl) rfl rfl ?_ | refine qQ (Is1 rfl rfl rfl rfl rfl rfl) rfl rfl ?_
                             refine qQ (Q_ldv rfl rfl rfl rfl rfl rfl) rfl rfl ?_
                             refine qM rfl rfl ?_
                             first | refine qQ (Is0 rfl rfl rfl rfl rfl rfl) rfl rfl ?_ | refine qQ (Is1 rfl rfl rfl rfl rfl rfl) rfl rfl ?_
                             first | refine qQ (Q_ldc rfl rfl rfl rfl rfl) rfl rfl ?_ | refine qQ (Ld rfl rfl rfl rfl) rfl rfl ?_
                             refine qM rfl rfl ?_
                             first | refine qQ (Ia0 rfl rfl rfl rfl rfl rfl) rfl rfl ?_ | refine qQ (Ia1 rfl rfl rfl rfl rfl rfl) rfl rfl ?_
                             first | refine qQ (Q_ldc rfl rfl rfl rfl rfl) rfl rfl ?_ | refine qQ (Ld rfl rfl rfl rfl) rfl rfl ?_
                             refine qMulN 12 12 rfl rfl (by omega) (by omega) (by decide) rfl (fun z35 hz35 hl35 hu35 => ?_)
                             subst hz35; refine qQ (Q_binu rfl rfl rfl (by omega)) rfl rfl ?_
                             refine qA rfl rfl ?_
                             refine QW_nil ?_
                             all_goals first | with_reducible refine bN ?_ | with_reducible refine bE ?_ | with_reducible refine bR ?_ | refine bX rfl ?_
                             all_goals with_reducible refine tN ?_
                             all_goals (
                              refine CW_region ?_
                              refine oM rfl rfl ?_
                              first | refine oQ (Q_binu rfl rfl rfl (by omega)) rfl rfl ?_ | refine oQ (Q_bin rfl rfl rfl) rfl rfl ?_
                              refine oA rfl rfl ?_
                              refine OW_nil ?_))
                          all_goals first
                            | with_reducible refine tR ?_
                            | with_reducible refine tE ?_
                            | (
                             with_reducible refine tN ?_
                             refine RW_succ ?_
                             refine CW_seq ?_
                             refine cR ?_
                             refine oM rfl rfl ?_
                             refine oQ (Q_bin rfl rfl rfl) rfl rfl ?_
                             refine oN ?_
                             first | refine cT rfl ?_ | refine cF rfl ?_ | refine CW_cond rfl (fun hc => ?_) (fun hc => ?_)
                             all_goals try simp only [s1, s2, s3, s4, s5, s6, s7, s8, s9, s10, s11, s12] at hc
                             all_goals try (exfalso; first | omega | (simp at hc; done); done)
                             all_goals first
                               | (
                                refine CW_skip ?_)
                               | (
                                refine CW_exit ?_)
                             all_goals first
                               | with_reducible refine tR ?_
                               | with_reducible refine tE ?_
                               | (
                                with_reducible refine tN ?_
                                refine CW_seq ?_
                                refine CW_block ?_
                                refine CW_draw lateOk (by decide +kernel) ?_
                                iterate 3 refine qM rfl rfl ?_
                                first | refine qQ (Is0 rfl rfl rfl rfl rfl rfl) rfl rfl ?_ | refine qQ (Is1 rfl rfl rfl rfl rfl rfl) rfl rfl ?_
                                refine qQ (Q_ldv rfl rfl rfl rfl rfl rfl) rfl rfl ?_
                                refine qM rfl rfl ?_
                                first | refine qQ (Is0 rfl rfl rfl rfl rfl rfl) rfl rfl ?_ | refine qQ (Is1 rfl rfl rfl rfl rfl rfl) rfl rfl ?_
                                first | refine qQ (Q_ldc rfl rfl rfl rfl rfl) rfl rfl ?_ | refine qQ (Ld rfl rfl rfl rfl) rfl rfl ?_
                                refine qM rfl rfl ?_
                                first | refine qQ (Ia0 rfl rfl rfl rfl rfl rfl) rfl rfl ?_ | refine qQ (Ia1 rfl rfl rfl rfl rfl rfl) rfl rfl ?_
                                first | refine qQ (Q_ldc rfl rfl rfl rfl rfl) rfl rfl ?_ | refine qQ (Ld rfl rfl rfl rfl) rfl rfl ?_
                                refine qMulN 12 12 rfl rfl (by omega) (by omega) (by decide) rfl (fun z35 hz35 hl35 hu35 => ?_)
                                subst hz35; refine qQ (Q_binu rfl rfl rfl (by omega)) rfl rfl ?_
                                refine qA rfl rfl ?_
                                refine QW_nil ?_
                                all_goals first | with_reducible refine bN ?_ | with_reducible refine bE ?_ | with_reducible refine bR ?_ | refine bX rfl ?_
                                all_goals with_reducible refine tN ?_
                                all_goals (
                                 refine CW_region ?_
                                 refine oM rfl rfl ?_
                                 first | refine oQ (Q_binu rfl rfl rfl (by omega)) rfl rfl ?_ | refine oQ (Q_bin rfl rfl rfl) rfl rfl ?_
                                 refine oA rfl rfl ?_
                                 refine OW_nil ?_))
                             all_goals first
                               | with_reducible refine tR ?_
                               | with_reducible refine tE ?_
                               | (
                                with_reducible refine tN ?_
                                exfalso; first | omega | (simp at hc; done) | (simp_all; done))))))
                 all_goals first | with_reducible refine bN ?_ | with_reducible refine bE ?_ | with_reducible refine bR ?_ | refine bX rfl ?_
                 all_goals with_reducible refine tN ?_
                 all_goals (
                  refine CW_region ?_
                  iterate 3 refine oM rfl rfl ?_
                  refine oQ (Q_rem rfl rfl (by omega)) rfl rfl ?_; rw [Int.tmod_eq_emod_of_nonneg (by omega)]
                  refine oBsl (zl := []) (r := [_]) rfl rfl rfl rfl (.inl ⟨rfl, rfl⟩) rfl rfl rfl rfl rfl rfl ?_
                  first | refine oApp (A := []) (sp := []) (sz := 1) (by_ := 8) rfl rfl rfl rfl rfl rfl ⟨by decide, rfl, .inl ⟨rfl, rfl⟩⟩ rfl rfl rfl rfl rfl rfl rfl rfl (by omega) (by omega) (by omega) (by omega) rfl rfl (fun k2 sp2 h1 h2 => ?_) | refine oApp (sz := 1) (by_ := 8) rfl rfl rfl rfl rfl rfl ⟨by decide, rfl, .inl ⟨rfl, rfl⟩⟩ rfl rfl rfl rfl rfl rfl rfl rfl (by omega) (by omega) (by omega) (by omega) rfl rfl (fun k2 sp2 h1 h2 => ?_)
                  refine oA rfl rfl ?_
                  refine OW_nil ?_)
                 all_goals first | with_reducible refine bN ?_ | with_reducible refine bE ?_ | with_reducible refine bR ?_ | refine bX rfl ?_
                 all_goals with_reducible refine tN ?_
                 all_goals (
                  refine CW_region ?_
                  refine oM rfl rfl ?_
                  first | refine oQ (Q_binu rfl rfl rfl (by omega)) rfl rfl ?_ | refine oQ (Q_bin rfl rfl rfl) rfl rfl ?_
                  refine oA rfl rfl ?_
                  refine OW_nil ?_))
              all_goals first
                | with_reducible refine tR ?_
                | with_reducible refine tE ?_
                | (
                 with_reducible refine tN ?_
                 exfalso; first | omega | (simp at hc; done) | (simp_all; done))))))
  all_goals first | with_reducible refine bN ?_ | with_reducible refine bE ?_ | with_reducible refine bR ?_ | refine bX rfl ?_
  all_goals with_reducible refine tN ?_
  all_goals (
   refine cR ?_
   refine oM rfl rfl ?_
   refine oA rfl rfl ?_
   refine oN ?_
   refine CW_ret ?_)
  all_goals (
   exact exitH (r0 := .slice 0 0 4 k2) (H0 := [(0, .ints 2 (suV p [r0, r1, r2, r3, r1, r4, r5, r6, r2, r5, r7, r8, r3, r6, r8, r9] [x, y, z, w] ++ sp2))]) (.inr rfl) [(0, 15)] 1 (.cons (.tmp rfl rfl) .nil) rfl rfl rfl (vHc rfl vHn) rfl rfl ⟨k2, sp2, by omega, by omega, rfl, rfl⟩)
theorem l08Sums_con (p : Int) (q a : List Int) (hp : primeB p = true) (hql : q.length = 10) (hal : a.length = 4) (hq : smN 12 q) (ha : smN 12 a) : Con Tryd.prog [] 96 [.int p, .arr q, .arr a] [] (fun r H' => ∃ (k : Nat) (sp : List Int), 4 ≤ k ∧ k ≤ 4 + sp.length ∧ r = .slice 0 0 4 k ∧ H' = [(0, .ints 2 (plL p q a ++ sp))]) := by
  match q, hql, hq, a, hal, ha with
  | [q0, q1, q2, q3, q4, q5, q6, q7, q8, q9], _, hq, [x, y, z, w], _, ha => exact l08Sums_con10 p q0 q1 q2 q3 q4 q5 q6 q7 q8 q9 x y z w hp hq ha
end Go.Proofs.YtendffbpmpobnaaDoor
