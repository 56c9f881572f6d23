/- What the last text of BrianchonPoint needs, part 8: contracts of functions and plain mathematics. No conditions beyond those each theorem states. -/
import Derived.Test.YtoiolpgmilobnaaBBrianchonPointG
namespace Go.Proofs.Ytoiolpgmilobnaa
set_option maxRecDepth 10000
set_option linter.unusedSimpArgs false
set_option linter.unusedVariables false
set_option maxHeartbeats 4000000
/-- the reference's list of rows -/
structure ES where
  i : Nat
  r : Nat
  kO : Nat
  E : Nat → List Int
  K : Nat → Nat
  S : Nat → List Int
  P : Nat → Nat
attribute [local irreducible] CW OW QW QOp Con thenP inBlockP AW QX RW AX
theorem echelon33_con (p : Int) (M : Nat → List Int) (k c0 c1 c2 : Nat) (hp : primeB p = true) (hM : ∀ i, i < 3 → rwB p 3 (M i)) : Con Try.prog [] 77 [.int p, .slice 0 0 3 k] [(0, .vals 103 [.slice 1 0 3 c0, .slice 2 0 3 c1, .slice 3 0 3 c2]), (1, .ints 2 (M 0)), (2, .ints 2 (M 1)), (3, .ints 2 (M 2))] (fun v H' => ∃ kO : Nat, v = .slice 4 0 (rkI p M 3 3) kO ∧ H' = [(0, .vals 103 [.slice 1 0 3 c0, .slice 2 0 3 c1, .slice 3 0 3 c2]), (1, .ints 2 (M 0)), (2, .ints 2 (M 1)), (3, .ints 2 (M 2))]) := by
  have hpb := prime_bd hp
  have hp0 : 0 < p := by omega
  have ho : ∀ i c, i < 3 → Con Try.prog [] 119 [.slice 0 0 3 c] [(0, .ints 2 (M i))] (fun v H' => ∃ k2 sp, 3 ≤ k2 ∧ k2 ≤ 3 + sp.length ∧ v = .slice 1 0 3 k2 ∧ H' = [(0, .ints 2 (M i)), (1, .ints 2 (M i ++ sp))]) := fun i c hi => by
    have := own64_con 2 (M i) 0 3 c (by rw [(hM i hi).1]; omega) (by decide)
    rwa [List.drop_zero, List.take_of_length_le (by rw [(hM i hi).1]; omega)] at this
  refine conW tab_ok [(0, .int p), (1, .slice 0 0 3 k)] 4 [0, 1, 2, 3] [0, 1, 2, 3] Try.func77 rfl rfl rfl rfl rfl rfl rfl rfl rfl ?_
  refine cR ?_
  refine oA rfl rfl ?_
  refine oN ?_
  refine cR ?_
  refine oBslv (r := []) rfl rfl rfl rfl rfl rfl rfl rfl rfl rfl rfl rfl rfl ?_
  refine oA rfl rfl ?_
  refine oN ?_
  refine CW_seq ?_
  refine cR ?_
  refine oA rfl rfl ?_
  refine oN ?_
  refine CW_block ?_
  refine CW_loop (ι := ES) (fun x => x.i ≤ 3 ∧ x.r ≤ x.i ∧ (∀ k, k < x.r → rwB p 3 (x.E k)) ∧ EcI p M x.i 3 x.E x.r x.P) (fun x => match x.r with | 0 => ⟨[(0, .int p), (1, .slice 0 0 3 k), (5, .slice 4 0 0 x.kO), (6, .int x.i)], [(0, .vals 103 [.slice 1 0 3 c0, .slice 2 0 3 c1, .slice 3 0 3 c2]), (1, .ints 2 (M 0)), (2, .ints 2 (M 1)), (3, .ints 2 (M 2)), (4, .vals 103 ([] ++ List.replicate (x.kO - 0) .bot))], 5⟩ | 1 => ⟨[(0, .int p), (1, .slice 0 0 3 k), (5, .slice 4 0 1 x.kO), (6, .int x.i)], [(0, .vals 103 [.slice 1 0 3 c0, .slice 2 0 3 c1, .slice 3 0 3 c2]), (1, .ints 2 (M 0)), (2, .ints 2 (M 1)), (3, .ints 2 (M 2)), (5, .ints 2 (x.E 0 ++ x.S 0)), (4, .vals 103 ([.slice 5 0 3 (x.K 0)] ++ List.replicate (x.kO - 1) .bot))], 6⟩ | 2 => ⟨[(0, .int p), (1, .slice 0 0 3 k), (5, .slice 4 0 2 x.kO), (6, .int x.i)], [(0, .vals 103 [.slice 1 0 3 c0, .slice 2 0 3 c1, .slice 3 0 3 c2]), (1, .ints 2 (M 0)), (2, .ints 2 (M 1)), (3, .ints 2 (M 2)), (5, .ints 2 (x.E 0 ++ x.S 0)), (6, .ints 2 (x.E 1 ++ x.S 1)), (4, .vals 103 ([.slice 5 0 3 (x.K 0), .slice 6 0 3 (x.K 1)] ++ List.replicate (x.kO - 2) .bot))], 7⟩ | _ => ⟨[(0, .int p), (1, .slice 0 0 3 k), (5, .slice 4 0 3 x.kO), (6, .int x.i)], [(0, .vals 103 [.slice 1 0 3 c0, .slice 2 0 3 c1, .slice 3 0 3 c2]), (1, .ints 2 (M 0)), (2, .ints 2 (M 1)), (3, .ints 2 (M 2)), (5, .ints 2 (x.E 0 ++ x.S 0)), (6, .ints 2 (x.E 1 ++ x.S 1)), (7, .ints 2 (x.E 2 ++ x.S 2)), (4, .vals 103 ([.slice 5 0 3 (x.K 0), .slice 6 0 3 (x.K 1), .slice 7 0 3 (x.K 2)] ++ List.replicate (x.kO - 3) .bot))], 8⟩) (fun x => 3 - x.i) ⟨0, 0, 0, fun _ => [], fun _ => 0, fun _ => [], fun _ => 0⟩ ?_ ?_ ?_
  · exact ⟨Nat.zero_le _, Nat.le_refl _, fun k hk => absurd hk (Nat.not_lt_zero _), EcI_start p M _ _ _⟩
  · refine View.mk' [] rfl (by simp only [wfB, List.all_cons, List.all_nil, ids_bots]; rfl) rfl ?_ ?_
    repeat' first | exact vFn | refine vFc rfl ?_ | exact vHn | refine vHc rfl ?_ | refine vFc (congrArg (fun z => some (V.int z)) ?_) ?_ | refine vHc (congrArg (fun z => some (Blk.ints _ z)) ?_) ?_ | refine vFc (congrArg (fun z => some (V.bool z)) ?_) ?_ | refine vFs rfl rfl ?_ ?_ | refine vHc (by rw [ren_bots]; rfl) ?_
  rintro ⟨i, r, kO, E, K, S, P⟩ ⟨h1, h2, hE, hEc⟩
  dsimp only at h1 h2 hE hEc ⊢
  have hP : ∀ k, k < r → P k < 3 := fun k hk => EcI_lt hp hEc hk
  have hld : ∀ k, k < r → ConQ Try.prog [] 121 [.slice 0 0 3 (K k)] [(0, .ints 2 (E k ++ S k))] (.int (P k)) := fun k hk => leadw_con 2 3 (E k) (S k) (K k) (by decide) (hE k hk).1 _ (EcI_ld hp hEc hk (hE k hk))
  have hel : ∀ k, k < r → (E k).length = 3 := fun k hk => (hE k hk).1
  have hrr : r = 0 ∨ r = 1 ∨ r = 2 ∨ r = 3 := by omega
  obtain ⟨r2, hr2⟩ : ∃ z, z = r := ⟨r, rfl⟩
  obtain ⟨r3, hr3⟩ : ∃ z, z = r := ⟨r, rfl⟩
  obtain ⟨r4, hr4⟩ : ∃ z, z = r := ⟨r, rfl⟩
  obtain ⟨r5, hr5⟩ : ∃ z, z = r := ⟨r, rfl⟩
  rcases hrr with rfl | rfl | rfl | rfl
  all_goals (
   refine CW_seq ?_
   refine cR ?_
   iterate 2 refine oM rfl rfl ?_
   first | refine oQ (Q_len rfl rfl rfl rfl) rfl rfl ?_ | refine oQ (Q_len0 rfl rfl rfl rfl) rfl rfl ?_
   refine oQ (Q_bin rfl rfl rfl) rfl rfl ?_
   refine oN ?_
   first | refine cT rfl ?_ | refine cF rfl ?_ | refine CW_cond rfl (fun hc => ?_) (fun hc => ?_)
   all_goals try simp only [s1, s2, s3, s4, s5, s6, s7, s8, s9, s10, s11, s12] at hc
   all_goals try (exfalso; first | omega | (simp at hc; done); done)
   all_goals first
     | (
      refine CW_skip ?_)
     | (
      refine CW_exit ?_)
   all_goals first
     | with_reducible refine tR ?_
     | with_reducible refine tE ?_
     | (
      with_reducible refine tN ?_
      refine CW_seq ?_
      refine CW_block ?_
      refine CW_cut (ι := Nat × List Int) (fun x => i < 3 ∧ 3 ≤ x.1 ∧ x.1 ≤ 3 + x.2.length) (fun x => match r2 with | 0 => ⟨[(0, .int p), (1, .slice 0 0 3 k), (5, .slice 4 0 0 kO), (6, .int i), (7, .slice 5 0 3 x.1)], [(0, .vals 103 [.slice 1 0 3 c0, .slice 2 0 3 c1, .slice 3 0 3 c2]), (1, .ints 2 (M 0)), (2, .ints 2 (M 1)), (3, .ints 2 (M 2)), (4, .vals 103 ([] ++ List.replicate (kO - 0) .bot)), (5, .ints 2 (rdc p E P 3 (M i) 0 ++ x.2))], 6⟩ | 1 => ⟨[(0, .int p), (1, .slice 0 0 3 k), (5, .slice 4 0 1 kO), (6, .int i), (7, .slice 6 0 3 x.1)], [(0, .vals 103 [.slice 1 0 3 c0, .slice 2 0 3 c1, .slice 3 0 3 c2]), (1, .ints 2 (M 0)), (2, .ints 2 (M 1)), (3, .ints 2 (M 2)), (5, .ints 2 (E 0 ++ S 0)), (4, .vals 103 ([.slice 5 0 3 (K 0)] ++ List.replicate (kO - 1) .bot)), (6, .ints 2 (rdc p E P 3 (M i) 0 ++ x.2))], 7⟩ | _ => ⟨[(0, .int p), (1, .slice 0 0 3 k), (5, .slice 4 0 2 kO), (6, .int i), (7, .slice 7 0 3 x.1)], [(0, .vals 103 [.slice 1 0 3 c0, .slice 2 0 3 c1, .slice 3 0 3 c2]), (1, .ints 2 (M 0)), (2, .ints 2 (M 1)), (3, .ints 2 (M 2)), (5, .ints 2 (E 0 ++ S 0)), (6, .ints 2 (E 1 ++ S 1)), (4, .vals 103 ([.slice 5 0 3 (K 0), .slice 6 0 3 (K 1)] ++ List.replicate (kO - 2) .bot)), (7, .ints 2 (rdc p E P 3 (M i) 0 ++ x.2))], 8⟩) ?_ ?_
      · (
       subst hr2
       have him : i < 3 := by omega
       have hii : i = 0 ∨ i = 1 ∨ i = 2 := by omega
       rcases hii with rfl | rfl | rfl
       all_goals (
        refine CW_region ?_
        iterate 2 refine oM rfl rfl ?_
        first | refine oQ (Is0 rfl rfl rfl rfl rfl rfl) rfl rfl ?_ | refine oQ (Is1 rfl rfl rfl rfl rfl rfl) rfl rfl ?_
        refine oQ (Q_ldv rfl rfl rfl rfl rfl rfl) rfl rfl ?_
        first
          | (refine oCall (ho 0 c0 (by omega)) [(0, 1)] 2 rfl rfl (Fits.mk' (vHc rfl vHn) rfl rfl (by simp)) rfl rfl ?_; rintro v1 H1 ⟨ko, so, hko1, hko2, rfl, rfl⟩; first | refine ⟨.slice 6 0 3 ko, [(1, .ints 2 (M 0)), (6, .ints 2 (M 0 ++ so))], rfl, rfl, rfl, ?_⟩ | refine ⟨.slice 7 0 3 ko, [(1, .ints 2 (M 0)), (7, .ints 2 (M 0 ++ so))], rfl, rfl, rfl, ?_⟩ | refine ⟨.slice 8 0 3 ko, [(1, .ints 2 (M 0)), (8, .ints 2 (M 0 ++ so))], rfl, rfl, rfl, ?_⟩)
          | (refine oCall (ho 1 c1 (by omega)) [(0, 2)] 2 rfl rfl (Fits.mk' (vHc rfl vHn) rfl rfl (by simp)) rfl rfl ?_; rintro v1 H1 ⟨ko, so, hko1, hko2, rfl, rfl⟩; first | refine ⟨.slice 6 0 3 ko, [(2, .ints 2 (M 1)), (6, .ints 2 (M 1 ++ so))], rfl, rfl, rfl, ?_⟩ | refine ⟨.slice 7 0 3 ko, [(2, .ints 2 (M 1)), (7, .ints 2 (M 1 ++ so))], rfl, rfl, rfl, ?_⟩ | refine ⟨.slice 8 0 3 ko, [(2, .ints 2 (M 1)), (8, .ints 2 (M 1 ++ so))], rfl, rfl, rfl, ?_⟩)
          | (refine oCall (ho 2 c2 (by omega)) [(0, 3)] 2 rfl rfl (Fits.mk' (vHc rfl vHn) rfl rfl (by simp)) rfl rfl ?_; rintro v1 H1 ⟨ko, so, hko1, hko2, rfl, rfl⟩; first | refine ⟨.slice 6 0 3 ko, [(3, .ints 2 (M 2)), (6, .ints 2 (M 2 ++ so))], rfl, rfl, rfl, ?_⟩ | refine ⟨.slice 7 0 3 ko, [(3, .ints 2 (M 2)), (7, .ints 2 (M 2 ++ so))], rfl, rfl, rfl, ?_⟩ | refine ⟨.slice 8 0 3 ko, [(3, .ints 2 (M 2)), (8, .ints 2 (M 2 ++ so))], rfl, rfl, rfl, ?_⟩)
        refine oA rfl rfl ?_
        refine OW_nil ?_
        all_goals with_reducible refine tN ?_
        all_goals (
         first
           | (
            refine ⟨(ko, so), ?_, View.mk' [(5, 6)] rfl (by simp only [wfB, List.all_cons, List.all_nil, ids_bots]; rfl) rfl ?_ ?_⟩
            · exact ⟨him, hko1, hko2⟩
            all_goals (repeat' first | exact vFn | refine vFc rfl ?_ | exact vHn | refine vHc rfl ?_ | refine vFc (congrArg (fun z => some (V.int z)) ?_) ?_ | refine vHc (congrArg (fun z => some (Blk.ints _ z)) ?_) ?_ | refine vFc (congrArg (fun z => some (V.bool z)) ?_) ?_ | refine vFs rfl rfl ?_ ?_ | refine vHc (by rw [ren_bots]; rfl) ?_)
            done)
           | (
            refine ⟨(ko, so), ?_, View.mk' [(6, 7)] rfl (by simp only [wfB, List.all_cons, List.all_nil, ids_bots]; rfl) rfl ?_ ?_⟩
            · exact ⟨him, hko1, hko2⟩
            all_goals (repeat' first | exact vFn | refine vFc rfl ?_ | exact vHn | refine vHc rfl ?_ | refine vFc (congrArg (fun z => some (V.int z)) ?_) ?_ | refine vHc (congrArg (fun z => some (Blk.ints _ z)) ?_) ?_ | refine vFc (congrArg (fun z => some (V.bool z)) ?_) ?_ | refine vFs rfl rfl ?_ ?_ | refine vHc (by rw [ren_bots]; rfl) ?_)
            done)
           | (
            refine ⟨(ko, so), ?_, View.mk' [(7, 8)] rfl (by simp only [wfB, List.all_cons, List.all_nil, ids_bots]; rfl) rfl ?_ ?_⟩
            · exact ⟨him, hko1, hko2⟩
            all_goals (repeat' first | exact vFn | refine vFc rfl ?_ | exact vHn | refine vHc rfl ?_ | refine vFc (congrArg (fun z => some (V.int z)) ?_) ?_ | refine vHc (congrArg (fun z => some (Blk.ints _ z)) ?_) ?_ | refine vFc (congrArg (fun z => some (V.bool z)) ?_) ?_ | refine vFs rfl rfl ?_ ?_ | refine vHc (by rw [ren_bots]; rfl) ?_)
            done))))
      rintro ⟨ko, so⟩ ⟨him, hko1, hko2⟩
      subst hr2
      dsimp only at hko1 hko2 ⊢
      have hMi := hM i him
      have hrd := fun k => rdc_B (E := E) (P := P) hp0 hMi k
      have d0 := (hrd 0).1
      have d1 := (hrd 1).1
      have d2 := (hrd 2).1
      have hls : ∀ k (a : List Int) (ka : Nat), k < 3 → rwB p 3 (E k) → Con Try.prog [] 120 [.int p, .slice 0 0 3 ka, .slice 1 0 3 (K k), .int ((rdc p E P 3 (M i) k).getD (P k) 0)] [(0, .ints 2 (rdc p E P 3 (M i) k ++ a)), (1, .ints 2 (E k ++ S k))] (fun v H' => ∃ k2 sp, 3 ≤ k2 ∧ k2 ≤ 3 + sp.length ∧ v = .slice 2 0 3 k2 ∧ H' = [(0, .ints 2 (rdc p E P 3 (M i) k ++ a)), (1, .ints 2 (E k ++ S k)), (2, .ints 2 (rdc p E P 3 (M i) (k + 1) ++ sp))]) := fun k a ka hk hek => lessw_con hp 2 2 3 _ _ a (S k) ka (K k) _ (by decide) (hrd k) hek ((hrd k).2 _)
      refine CW_cut (ι := Nat × List Int) (fun x => 3 ≤ x.1 ∧ x.1 ≤ 3 + x.2.length) (fun x => match r3 with | 0 => ⟨[(0, .int p), (1, .slice 0 0 3 k), (5, .slice 4 0 0 kO), (6, .int i), (7, .slice 5 0 3 x.1)], [(0, .vals 103 [.slice 1 0 3 c0, .slice 2 0 3 c1, .slice 3 0 3 c2]), (1, .ints 2 (M 0)), (2, .ints 2 (M 1)), (3, .ints 2 (M 2)), (4, .vals 103 ([] ++ List.replicate (kO - 0) .bot)), (5, .ints 2 (rdc p E P 3 (M i) r3 ++ x.2))], 6⟩ | 1 => ⟨[(0, .int p), (1, .slice 0 0 3 k), (5, .slice 4 0 1 kO), (6, .int i), (7, .slice 6 0 3 x.1)], [(0, .vals 103 [.slice 1 0 3 c0, .slice 2 0 3 c1, .slice 3 0 3 c2]), (1, .ints 2 (M 0)), (2, .ints 2 (M 1)), (3, .ints 2 (M 2)), (5, .ints 2 (E 0 ++ S 0)), (4, .vals 103 ([.slice 5 0 3 (K 0)] ++ List.replicate (kO - 1) .bot)), (6, .ints 2 (rdc p E P 3 (M i) r3 ++ x.2))], 7⟩ | _ => ⟨[(0, .int p), (1, .slice 0 0 3 k), (5, .slice 4 0 2 kO), (6, .int i), (7, .slice 7 0 3 x.1)], [(0, .vals 103 [.slice 1 0 3 c0, .slice 2 0 3 c1, .slice 3 0 3 c2]), (1, .ints 2 (M 0)), (2, .ints 2 (M 1)), (3, .ints 2 (M 2)), (5, .ints 2 (E 0 ++ S 0)), (6, .ints 2 (E 1 ++ S 1)), (4, .vals 103 ([.slice 5 0 3 (K 0), .slice 6 0 3 (K 1)] ++ List.replicate (kO - 2) .bot)), (7, .ints 2 (rdc p E P 3 (M i) r3 ++ x.2))], 8⟩) ?_ ?_
      · (
       subst hr3
       all_goals (
        refine cR ?_
        refine oA rfl rfl ?_
        refine oN ?_
        refine CW_block ?_
        refine CW_rounds 4 ?_
        refine RW_succ ?_
        refine CW_seq ?_
        refine cR ?_
        iterate 2 refine oM rfl rfl ?_
        first | refine oQ (Q_len rfl rfl rfl rfl) rfl rfl ?_ | refine oQ (Q_len0 rfl rfl rfl rfl) rfl rfl ?_
        refine oQ (Q_bin rfl rfl rfl) rfl rfl ?_
        refine oN ?_
        first | refine cT rfl ?_ | refine cF rfl ?_ | refine CW_cond rfl (fun hc => ?_) (fun hc => ?_)
        all_goals try simp only [s1, s2, s3, s4, s5, s6, s7, s8, s9, s10, s11, s12] at hc
        all_goals try (exfalso; first | omega | (simp at hc; done); done)
        all_goals first
          | (
           refine CW_skip ?_)
          | (
           refine CW_exit ?_)
        all_goals first
          | with_reducible refine tR ?_
          | with_reducible refine tE ?_
          | (
           with_reducible refine tN ?_
           refine CW_seq ?_
           refine CW_block ?_
           refine CW_any (fun _ => false) 16 rfl lateOk (by decide +kernel) (fun hst => ?_)
           refine aP 0 hst rfl rfl (by decide +kernel) (PX_move rfl rfl) rfl rfl ?_
           refine aP 1 hst rfl rfl (by decide +kernel) (PX_move rfl rfl) rfl rfl ?_
           refine aP 2 hst rfl rfl (by decide +kernel) (PX_move rfl rfl) rfl rfl ?_
           refine aP 3 hst rfl rfl (by decide +kernel) (PX_move rfl rfl) rfl rfl ?_
           first | refine aQ 4 hst rfl rfl (by decide +kernel) (QX_of (Is0 rfl rfl rfl rfl rfl rfl) NE_ix) rfl rfl ?_ | refine aQ 4 hst rfl rfl (by decide +kernel) (QX_of (Is1 rfl rfl rfl rfl rfl rfl) NE_ix) rfl rfl ?_
           refine aQ 5 hst rfl rfl (by decide +kernel) (QX_of (Q_ldv rfl rfl rfl rfl rfl rfl) NE_load) rfl rfl ?_
           refine aP 6 hst rfl rfl (by decide +kernel) (PX_move rfl rfl) rfl rfl ?_
           refine aP 7 hst rfl rfl (by decide +kernel) (PX_move rfl rfl) rfl rfl ?_
           refine aP 8 hst rfl rfl (by decide +kernel) (PX_move rfl rfl) rfl rfl ?_
           first | refine aQ 9 hst rfl rfl (by decide +kernel) (QX_of (Is0 rfl rfl rfl rfl rfl rfl) NE_ix) rfl rfl ?_ | refine aQ 9 hst rfl rfl (by decide +kernel) (QX_of (Is1 rfl rfl rfl rfl rfl rfl) NE_ix) rfl rfl ?_
           refine aQ 10 hst rfl rfl (by decide +kernel) (QX_of (Q_ldv rfl rfl rfl rfl rfl rfl) NE_load) rfl rfl ?_
           first
             | refine aQ 11 hst rfl rfl (by decide +kernel) (QX_call (hld 0 (by omega)) [(0, 5)] rfl rfl (Fits.mk' (vHc rfl vHn) rfl rfl (by simp)) rfl rfl rfl) rfl rfl ?_
             | refine aQ 11 hst rfl rfl (by decide +kernel) (QX_call (hld 1 (by omega)) [(0, 6)] rfl rfl (Fits.mk' (vHc rfl vHn) rfl rfl (by simp)) rfl rfl rfl) rfl rfl ?_
           ((try have pp0 := hP 0 (by omega)); (try have pp1 := hP 1 (by omega)))
           first
             | refine aQ 12 hst rfl rfl (by decide +kernel) (QX_of (Is0 rfl rfl rfl rfl rfl rfl) NE_ix) rfl rfl ?_
             | refine aQ 12 hst rfl rfl (by decide +kernel) (QX_of (Is1 rfl rfl rfl rfl rfl rfl) NE_ix) rfl rfl ?_
           ((try have pp0 := hP 0 (by omega)); (try have pp1 := hP 1 (by omega)))
           refine aQ 13 hst rfl rfl (by decide +kernel) (QX_of (Ld rfl rfl rfl rfl) NE_load) rfl rfl ?_
           rw [getD_app (by omega)]
           refine AW_one (i := 14) (by decide +kernel) ?_
           first
             | (refine gCall rfl rfl (hls 0 so ko (by omega) (hE 0 (by omega))) [(0, 6), (1, 5)] 3 rfl rfl (Fits.mk' (vHc rfl (vHc rfl vHn)) rfl rfl (by simp)) rfl rfl rfl ?_; rintro v1 H1 ⟨kl0, sl0, hkl0, hkm0, rfl, rfl⟩; refine ⟨.slice 9 0 3 kl0, [(6, .ints 2 (rdc p E P 3 (M i) 0 ++ so)), (5, .ints 2 (E 0 ++ S 0)), (9, .ints 2 (rdc p E P 3 (M i) 1 ++ sl0))], rfl, keep_pre _ _, rfl, rfl, ?_⟩)
             | (refine gCall rfl rfl (hls 0 so ko (by omega) (hE 0 (by omega))) [(0, 7), (1, 5)] 3 rfl rfl (Fits.mk' (vHc rfl (vHc rfl vHn)) rfl rfl (by simp)) rfl rfl rfl ?_; rintro v1 H1 ⟨kl0, sl0, hkl0, hkm0, rfl, rfl⟩; refine ⟨.slice 10 0 3 kl0, [(7, .ints 2 (rdc p E P 3 (M i) 0 ++ so)), (5, .ints 2 (E 0 ++ S 0)), (10, .ints 2 (rdc p E P 3 (M i) 1 ++ sl0))], rfl, keep_pre _ _, rfl, rfl, ?_⟩)
             | (refine gCall rfl rfl (hls 1 sl0 kl0 (by omega) (hE 1 (by omega))) [(0, 10), (1, 6)] 3 rfl rfl (Fits.mk' (vHc rfl (vHc rfl vHn)) rfl rfl (by simp)) rfl rfl rfl ?_; rintro v1 H1 ⟨kl1, sl1, hkl1, hkm1, rfl, rfl⟩; refine ⟨.slice 13 0 3 kl1, [(10, .ints 2 (rdc p E P 3 (M i) 1 ++ sl0)), (6, .ints 2 (E 1 ++ S 1)), (13, .ints 2 (rdc p E P 3 (M i) 2 ++ sl1))], rfl, keep_pre _ _, rfl, rfl, ?_⟩)
           refine aQ 15 hst rfl rfl (by decide +kernel) (QX_of (Q_assign rfl rfl) NE_assign) rfl rfl ?_
           refine AW_done (by decide +kernel) ?_
           all_goals first | with_reducible refine bN ?_ | with_reducible refine bE ?_ | with_reducible refine bR ?_ | refine bX rfl ?_
           all_goals with_reducible refine tN ?_
           all_goals (
            refine CW_region ?_
            refine oM rfl rfl ?_
            first | refine oQ (Q_binu rfl rfl rfl (by omega)) rfl rfl ?_ | refine oQ (Q_bin rfl rfl rfl) rfl rfl ?_
            refine oA rfl rfl ?_
            refine OW_nil ?_))
        all_goals first
          | with_reducible refine tR ?_
          | with_reducible refine tE ?_
          | (
           with_reducible refine tN ?_
           refine RW_succ ?_
           refine CW_seq ?_
           refine cR ?_
           iterate 2 refine oM rfl rfl ?_
           first | refine oQ (Q_len rfl rfl rfl rfl) rfl rfl ?_ | refine oQ (Q_len0 rfl rfl rfl rfl) rfl rfl ?_
           refine oQ (Q_bin rfl rfl rfl) rfl rfl ?_
           refine oN ?_
           first | refine cT rfl ?_ | refine cF rfl ?_ | refine CW_cond rfl (fun hc => ?_) (fun hc => ?_)
           all_goals try simp only [s1, s2, s3, s4, s5, s6, s7, s8, s9, s10, s11, s12] at hc
           all_goals try (exfalso; first | omega | (simp at hc; done); done)
           all_goals first
             | (
              refine CW_skip ?_)
             | (
              refine CW_exit ?_)
           all_goals first
             | with_reducible refine tR ?_
             | with_reducible refine tE ?_
             | (
              with_reducible refine tN ?_
              refine CW_seq ?_
              refine CW_block ?_
              refine CW_any (fun _ => false) 16 rfl lateOk (by decide +kernel) (fun hst => ?_)
              refine aP 0 hst rfl rfl (by decide +kernel) (PX_move rfl rfl) rfl rfl ?_
              refine aP 1 hst rfl rfl (by decide +kernel) (PX_move rfl rfl) rfl rfl ?_
              refine aP 2 hst rfl rfl (by decide +kernel) (PX_move rfl rfl) rfl rfl ?_
              refine aP 3 hst rfl rfl (by decide +kernel) (PX_move rfl rfl) rfl rfl ?_
              first | refine aQ 4 hst rfl rfl (by decide +kernel) (QX_of (Is0 rfl rfl rfl rfl rfl rfl) NE_ix) rfl rfl ?_ | refine aQ 4 hst rfl rfl (by decide +kernel) (QX_of (Is1 rfl rfl rfl rfl rfl rfl) NE_ix) rfl rfl ?_
              refine aQ 5 hst rfl rfl (by decide +kernel) (QX_of (Q_ldv rfl rfl rfl rfl rfl rfl) NE_load) rfl rfl ?_
              refine aP 6 hst rfl rfl (by decide +kernel) (PX_move rfl rfl) rfl rfl ?_
              refine aP 7 hst rfl rfl (by decide +kernel) (PX_move rfl rfl) rfl rfl ?_
              refine aP 8 hst rfl rfl (by decide +kernel) (PX_move rfl rfl) rfl rfl ?_
              first | refine aQ 9 hst rfl rfl (by decide +kernel) (QX_of (Is0 rfl rfl rfl rfl rfl rfl) NE_ix) rfl rfl ?_ | refine aQ 9 hst rfl rfl (by decide +kernel) (QX_of (Is1 rfl rfl rfl rfl rfl rfl) NE_ix) rfl rfl ?_
              refine aQ 10 hst rfl rfl (by decide +kernel) (QX_of (Q_ldv rfl rfl rfl rfl rfl rfl) NE_load) rfl rfl ?_
              first
                | refine aQ 11 hst rfl rfl (by decide +kernel) (QX_call (hld 0 (by omega)) [(0, 5)] rfl rfl (Fits.mk' (vHc rfl vHn) rfl rfl (by simp)) rfl rfl rfl) rfl rfl ?_
                | refine aQ 11 hst rfl rfl (by decide +kernel) (QX_call (hld 1 (by omega)) [(0, 6)] rfl rfl (Fits.mk' (vHc rfl vHn) rfl rfl (by simp)) rfl rfl rfl) rfl rfl ?_
              ((try have pp0 := hP 0 (by omega)); (try have pp1 := hP 1 (by omega)))
              first
                | refine aQ 12 hst rfl rfl (by decide +kernel) (QX_of (Is0 rfl rfl rfl rfl rfl rfl) NE_ix) rfl rfl ?_
                | refine aQ 12 hst rfl rfl (by decide +kernel) (QX_of (Is1 rfl rfl rfl rfl rfl rfl) NE_ix) rfl rfl ?_
              ((try have pp0 := hP 0 (by omega)); (try have pp1 := hP 1 (by omega)))
              refine aQ 13 hst rfl rfl (by decide +kernel) (QX_of (Ld rfl rfl rfl rfl) NE_load) rfl rfl ?_
              rw [getD_app (by omega)]
              refine AW_one (i := 14) (by decide +kernel) ?_
              first
                | (refine gCall rfl rfl (hls 0 so ko (by omega) (hE 0 (by omega))) [(0, 6), (1, 5)] 3 rfl rfl (Fits.mk' (vHc rfl (vHc rfl vHn)) rfl rfl (by simp)) rfl rfl rfl ?_; rintro v1 H1 ⟨kl0, sl0, hkl0, hkm0, rfl, rfl⟩; refine ⟨.slice 9 0 3 kl0, [(6, .ints 2 (rdc p E P 3 (M i) 0 ++ so)), (5, .ints 2 (E 0 ++ S 0)), (9, .ints 2 (rdc p E P 3 (M i) 1 ++ sl0))], rfl, keep_pre _ _, rfl, rfl, ?_⟩)
                | (refine gCall rfl rfl (hls 0 so ko (by omega) (hE 0 (by omega))) [(0, 7), (1, 5)] 3 rfl rfl (Fits.mk' (vHc rfl (vHc rfl vHn)) rfl rfl (by simp)) rfl rfl rfl ?_; rintro v1 H1 ⟨kl0, sl0, hkl0, hkm0, rfl, rfl⟩; refine ⟨.slice 10 0 3 kl0, [(7, .ints 2 (rdc p E P 3 (M i) 0 ++ so)), (5, .ints 2 (E 0 ++ S 0)), (10, .ints 2 (rdc p E P 3 (M i) 1 ++ sl0))], rfl, keep_pre _ _, rfl, rfl, ?_⟩)
                | (refine gCall rfl rfl (hls 1 sl0 kl0 (by omega) (hE 1 (by omega))) [(0, 10), (1, 6)] 3 rfl rfl (Fits.mk' (vHc rfl (vHc rfl vHn)) rfl rfl (by simp)) rfl rfl rfl ?_; rintro v1 H1 ⟨kl1, sl1, hkl1, hkm1, rfl, rfl⟩; refine ⟨.slice 13 0 3 kl1, [(10, .ints 2 (rdc p E P 3 (M i) 1 ++ sl0)), (6, .ints 2 (E 1 ++ S 1)), (13, .ints 2 (rdc p E P 3 (M i) 2 ++ sl1))], rfl, keep_pre _ _, rfl, rfl, ?_⟩)
              refine aQ 15 hst rfl rfl (by decide +kernel) (QX_of (Q_assign rfl rfl) NE_assign) rfl rfl ?_
              refine AW_done (by decide +kernel) ?_
              all_goals first | with_reducible refine bN ?_ | with_reducible refine bE ?_ | with_reducible refine bR ?_ | refine bX rfl ?_
              all_goals with_reducible refine tN ?_
              all_goals (
               refine CW_region ?_
               refine oM rfl rfl ?_
               first | refine oQ (Q_binu rfl rfl rfl (by omega)) rfl rfl ?_ | refine oQ (Q_bin rfl rfl rfl) rfl rfl ?_
               refine oA rfl rfl ?_
               refine OW_nil ?_))
           all_goals first
             | with_reducible refine tR ?_
             | with_reducible refine tE ?_
             | (
              with_reducible refine tN ?_
              refine RW_succ ?_
              refine CW_seq ?_
              refine cR ?_
              iterate 2 refine oM rfl rfl ?_
              first | refine oQ (Q_len rfl rfl rfl rfl) rfl rfl ?_ | refine oQ (Q_len0 rfl rfl rfl rfl) rfl rfl ?_
              refine oQ (Q_bin rfl rfl rfl) rfl rfl ?_
              refine oN ?_
              first | refine cT rfl ?_ | refine cF rfl ?_ | refine CW_cond rfl (fun hc => ?_) (fun hc => ?_)
              all_goals try simp only [s1, s2, s3, s4, s5, s6, s7, s8, s9, s10, s11, s12] at hc
              all_goals try (exfalso; first | omega | (simp at hc; done); done)
              all_goals first
                | (
                 refine CW_skip ?_)
                | (
                 refine CW_exit ?_)
              all_goals first
                | with_reducible refine tR ?_
                | with_reducible refine tE ?_
                | (
                 with_reducible refine tN ?_
                 refine CW_seq ?_
                 refine CW_block ?_
                 refine CW_any (fun _ => false) 16 rfl lateOk (by decide +kernel) (fun hst => ?_)
                 refine aP 0 hst rfl rfl (by decide +kernel) (PX_move rfl rfl) rfl rfl ?_
                 refine aP 1 hst rfl rfl (by decide +kernel) (PX_move rfl rfl) rfl rfl ?_
                 refine aP 2 hst rfl rfl (by decide +kernel) (PX_move rfl rfl) rfl rfl ?_
                 refine aP 3 hst rfl rfl (by decide +kernel) (PX_move rfl rfl) rfl rfl ?_
                 first | refine aQ 4 hst rfl rfl (by decide +kernel) (QX_of (Is0 rfl rfl rfl rfl rfl rfl) NE_ix) rfl rfl ?_ | refine aQ 4 hst rfl rfl (by decide +kernel) (QX_of (Is1 rfl rfl rfl rfl rfl rfl) NE_ix) rfl rfl ?_
                 refine aQ 5 hst rfl rfl (by decide +kernel) (QX_of (Q_ldv rfl rfl rfl rfl rfl rfl) NE_load) rfl rfl ?_
                 refine aP 6 hst rfl rfl (by decide +kernel) (PX_move rfl rfl) rfl rfl ?_
                 refine aP 7 hst rfl rfl (by decide +kernel) (PX_move rfl rfl) rfl rfl ?_
                 refine aP 8 hst rfl rfl (by decide +kernel) (PX_move rfl rfl) rfl rfl ?_
                 first | refine aQ 9 hst rfl rfl (by decide +kernel) (QX_of (Is0 rfl rfl rfl rfl rfl rfl) NE_ix) rfl rfl ?_ | refine aQ 9 hst rfl rfl (by decide +kernel) (QX_of (Is1 rfl rfl rfl rfl rfl rfl) NE_ix) rfl rfl ?_
                 refine aQ 10 hst rfl rfl (by decide +kernel) (QX_of (Q_ldv rfl rfl rfl rfl rfl rfl) NE_load) rfl rfl ?_
                 first
                   | refine aQ 11 hst rfl rfl (by decide +kernel) (QX_call (hld 0 (by omega)) [(0, 5)] rfl rfl (Fits.mk' (vHc rfl vHn) rfl rfl (by simp)) rfl rfl rfl) rfl rfl ?_
                   | refine aQ 11 hst rfl rfl (by decide +kernel) (QX_call (hld 1 (by omega)) [(0, 6)] rfl rfl (Fits.mk' (vHc rfl vHn) rfl rfl (by simp)) rfl rfl rfl) rfl rfl ?_
                 ((try have pp0 := hP 0 (by omega)); (try have pp1 := hP 1 (by omega)))
                 first
                   | refine aQ 12 hst rfl rfl (by decide +kernel) (QX_of (Is0 rfl rfl rfl rfl rfl rfl) NE_ix) rfl rfl ?_
                   | refine aQ 12 hst rfl rfl (by decide +kernel) (QX_of (Is1 rfl rfl rfl rfl rfl rfl) NE_ix) rfl rfl ?_
                 ((try have pp0 := hP 0 (by omega)); (try have pp1 := hP 1 (by omega)))
                 refine aQ 13 hst rfl rfl (by decide +kernel) (QX_of (Ld rfl rfl rfl rfl) NE_load) rfl rfl ?_
                 rw [getD_app (by omega)]
                 refine AW_one (i := 14) (by decide +kernel) ?_
                 first
                   | (refine gCall rfl rfl (hls 0 so ko (by omega) (hE 0 (by omega))) [(0, 6), (1, 5)] 3 rfl rfl (Fits.mk' (vHc rfl (vHc rfl vHn)) rfl rfl (by simp)) rfl rfl rfl ?_; rintro v1 H1 ⟨kl0, sl0, hkl0, hkm0, rfl, rfl⟩; refine ⟨.slice 9 0 3 kl0, [(6, .ints 2 (rdc p E P 3 (M i) 0 ++ so)), (5, .ints 2 (E 0 ++ S 0)), (9, .ints 2 (rdc p E P 3 (M i) 1 ++ sl0))], rfl, keep_pre _ _, rfl, rfl, ?_⟩)
                   | (refine gCall rfl rfl (hls 0 so ko (by omega) (hE 0 (by omega))) [(0, 7), (1, 5)] 3 rfl rfl (Fits.mk' (vHc rfl (vHc rfl vHn)) rfl rfl (by simp)) rfl rfl rfl ?_; rintro v1 H1 ⟨kl0, sl0, hkl0, hkm0, rfl, rfl⟩; refine ⟨.slice 10 0 3 kl0, [(7, .ints 2 (rdc p E P 3 (M i) 0 ++ so)), (5, .ints 2 (E 0 ++ S 0)), (10, .ints 2 (rdc p E P 3 (M i) 1 ++ sl0))], rfl, keep_pre _ _, rfl, rfl, ?_⟩)
                   | (refine gCall rfl rfl (hls 1 sl0 kl0 (by omega) (hE 1 (by omega))) [(0, 10), (1, 6)] 3 rfl rfl (Fits.mk' (vHc rfl (vHc rfl vHn)) rfl rfl (by simp)) rfl rfl rfl ?_; rintro v1 H1 ⟨kl1, sl1, hkl1, hkm1, rfl, rfl⟩; refine ⟨.slice 13 0 3 kl1, [(10, .ints 2 (rdc p E P 3 (M i) 1 ++ sl0)), (6, .ints 2 (E 1 ++ S 1)), (13, .ints 2 (rdc p E P 3 (M i) 2 ++ sl1))], rfl, keep_pre _ _, rfl, rfl, ?_⟩)
                 refine aQ 15 hst rfl rfl (by decide +kernel) (QX_of (Q_assign rfl rfl) NE_assign) rfl rfl ?_
                 refine AW_done (by decide +kernel) ?_
                 all_goals first | with_reducible refine bN ?_ | with_reducible refine bE ?_ | with_reducible refine bR ?_ | refine bX rfl ?_
                 all_goals with_reducible refine tN ?_
                 all_goals (
                  refine CW_region ?_
                  refine oM rfl rfl ?_
                  first | refine oQ (Q_binu rfl rfl rfl (by omega)) rfl rfl ?_ | refine oQ (Q_bin rfl rfl rfl) rfl rfl ?_
                  refine oA rfl rfl ?_
                  refine OW_nil ?_))
              all_goals first
                | with_reducible refine tR ?_
                | with_reducible refine tE ?_
                | (
                 with_reducible refine tN ?_
                 refine RW_succ ?_
                 refine CW_seq ?_
                 refine cR ?_
                 iterate 2 refine oM rfl rfl ?_
                 first | refine oQ (Q_len rfl rfl rfl rfl) rfl rfl ?_ | refine oQ (Q_len0 rfl rfl rfl rfl) rfl rfl ?_
                 refine oQ (Q_bin rfl rfl rfl) rfl rfl ?_
                 refine oN ?_
                 first | refine cT rfl ?_ | refine cF rfl ?_ | refine CW_cond rfl (fun hc => ?_) (fun hc => ?_)
                 all_goals try simp only [s1, s2, s3, s4, s5, s6, s7, s8, s9, s10, s11, s12] at hc
                 all_goals try (exfalso; first | omega | (simp at hc; done); done)
                 all_goals first
                   | (
                    refine CW_skip ?_)
                   | (
                    refine CW_exit ?_)
                 all_goals first
                   | with_reducible refine tR ?_
                   | with_reducible refine tE ?_
                   | (
                    with_reducible refine tN ?_
                    refine CW_seq ?_
                    refine CW_block ?_
                    refine CW_any (fun _ => false) 16 rfl lateOk (by decide +kernel) (fun hst => ?_)
                    refine aP 0 hst rfl rfl (by decide +kernel) (PX_move rfl rfl) rfl rfl ?_
                    refine aP 1 hst rfl rfl (by decide +kernel) (PX_move rfl rfl) rfl rfl ?_
                    refine aP 2 hst rfl rfl (by decide +kernel) (PX_move rfl rfl) rfl rfl ?_
                    refine aP 3 hst rfl rfl (by decide +kernel) (PX_move rfl rfl) rfl rfl ?_
                    first | refine aQ 4 hst rfl rfl (by decide +kernel) (QX_of (Is0 rfl rfl rfl rfl rfl rfl) NE_ix) rfl rfl ?_ | refine aQ 4 hst rfl rfl (by decide +kernel) (QX_of (Is1 rfl rfl rfl rfl rfl rfl) NE_ix) rfl rfl ?_
                    refine aQ 5 hst rfl rfl (by decide +kernel) (QX_of (Q_ldv rfl rfl rfl rfl rfl rfl) NE_load) rfl rfl ?_
                    refine aP 6 hst rfl rfl (by decide +kernel) (PX_move rfl rfl) rfl rfl ?_
                    refine aP 7 hst rfl rfl (by decide +kernel) (PX_move rfl rfl) rfl rfl ?_
                    refine aP 8 hst rfl rfl (by decide +kernel) (PX_move rfl rfl) rfl rfl ?_
                    first | refine aQ 9 hst rfl rfl (by decide +kernel) (QX_of (Is0 rfl rfl rfl rfl rfl rfl) NE_ix) rfl rfl ?_ | refine aQ 9 hst rfl rfl (by decide +kernel) (QX_of (Is1 rfl rfl rfl rfl rfl rfl) NE_ix) rfl rfl ?_
                    refine aQ 10 hst rfl rfl (by decide +kernel) (QX_of (Q_ldv rfl rfl rfl rfl rfl rfl) NE_load) rfl rfl ?_
                    first
                      | refine aQ 11 hst rfl rfl (by decide +kernel) (QX_call (hld 0 (by omega)) [(0, 5)] rfl rfl (Fits.mk' (vHc rfl vHn) rfl rfl (by simp)) rfl rfl rfl) rfl rfl ?_
                      | refine aQ 11 hst rfl rfl (by decide +kernel) (QX_call (hld 1 (by omega)) [(0, 6)] rfl rfl (Fits.mk' (vHc rfl vHn) rfl rfl (by simp)) rfl rfl rfl) rfl rfl ?_
                    ((try have pp0 := hP 0 (by omega)); (try have pp1 := hP 1 (by omega)))
                    first
                      | refine aQ 12 hst rfl rfl (by decide +kernel) (QX_of (Is0 rfl rfl rfl rfl rfl rfl) NE_ix) rfl rfl ?_
                      | refine aQ 12 hst rfl rfl (by decide +kernel) (QX_of (Is1 rfl rfl rfl rfl rfl rfl) NE_ix) rfl rfl ?_
                    ((try have pp0 := hP 0 (by omega)); (try have pp1 := hP 1 (by omega)))
                    refine aQ 13 hst rfl rfl (by decide +kernel) (QX_of (Ld rfl rfl rfl rfl) NE_load) rfl rfl ?_
                    rw [getD_app (by omega)]
                    refine AW_one (i := 14) (by decide +kernel) ?_
                    first
                      | (refine gCall rfl rfl (hls 0 so ko (by omega) (hE 0 (by omega))) [(0, 6), (1, 5)] 3 rfl rfl (Fits.mk' (vHc rfl (vHc rfl vHn)) rfl rfl (by simp)) rfl rfl rfl ?_; rintro v1 H1 ⟨kl0, sl0, hkl0, hkm0, rfl, rfl⟩; refine ⟨.slice 9 0 3 kl0, [(6, .ints 2 (rdc p E P 3 (M i) 0 ++ so)), (5, .ints 2 (E 0 ++ S 0)), (9, .ints 2 (rdc p E P 3 (M i) 1 ++ sl0))], rfl, keep_pre _ _, rfl, rfl, ?_⟩)
                      | (refine gCall rfl rfl (hls 0 so ko (by omega) (hE 0 (by omega))) [(0, 7), (1, 5)] 3 rfl rfl (Fits.mk' (vHc rfl (vHc rfl vHn)) rfl rfl (by simp)) rfl rfl rfl ?_; rintro v1 H1 ⟨kl0, sl0, hkl0, hkm0, rfl, rfl⟩; refine ⟨.slice 10 0 3 kl0, [(7, .ints 2 (rdc p E P 3 (M i) 0 ++ so)), (5, .ints 2 (E 0 ++ S 0)), (10, .ints 2 (rdc p E P 3 (M i) 1 ++ sl0))], rfl, keep_pre _ _, rfl, rfl, ?_⟩)
                      | (refine gCall rfl rfl (hls 1 sl0 kl0 (by omega) (hE 1 (by omega))) [(0, 10), (1, 6)] 3 rfl rfl (Fits.mk' (vHc rfl (vHc rfl vHn)) rfl rfl (by simp)) rfl rfl rfl ?_; rintro v1 H1 ⟨kl1, sl1, hkl1, hkm1, rfl, rfl⟩; refine ⟨.slice 13 0 3 kl1, [(10, .ints 2 (rdc p E P 3 (M i) 1 ++ sl0)), (6, .ints 2 (E 1 ++ S 1)), (13, .ints 2 (rdc p E P 3 (M i) 2 ++ sl1))], rfl, keep_pre _ _, rfl, rfl, ?_⟩)
                    refine aQ 15 hst rfl rfl (by decide +kernel) (QX_of (Q_assign rfl rfl) NE_assign) rfl rfl ?_
                    refine AW_done (by decide +kernel) ?_
                    all_goals first | with_reducible refine bN ?_ | with_reducible refine bE ?_ | with_reducible refine bR ?_ | refine bX rfl ?_
                    all_goals with_reducible refine tN ?_
                    all_goals (
                     refine CW_region ?_
                     refine oM rfl rfl ?_
                     first | refine oQ (Q_binu rfl rfl rfl (by omega)) rfl rfl ?_ | refine oQ (Q_bin rfl rfl rfl) rfl rfl ?_
                     refine oA rfl rfl ?_
                     refine OW_nil ?_))
                 all_goals first
                   | with_reducible refine tR ?_
                   | with_reducible refine tE ?_
                   | (
                    with_reducible refine tN ?_
                    exfalso; first | omega | (simp at hc; done) | (simp_all; done)))))
        all_goals first | with_reducible refine bN ?_ | with_reducible refine bE ?_ | with_reducible refine bR ?_ | refine bX rfl ?_
        all_goals with_reducible refine tN ?_
        all_goals (
         first
           | (
            refine ⟨(ko, so), ?_, View.mk' [] rfl (by simp only [wfB, List.all_cons, List.all_nil, ids_bots]; rfl) rfl ?_ ?_⟩
            · first | exact ⟨hko1, hko2⟩ | exact ⟨hkl0, hkm0⟩ | exact ⟨hkl1, hkm1⟩
            all_goals (repeat' first | exact vFn | refine vFc rfl ?_ | exact vHn | refine vHc rfl ?_ | refine vFc (congrArg (fun z => some (V.int z)) ?_) ?_ | refine vHc (congrArg (fun z => some (Blk.ints _ z)) ?_) ?_ | refine vFc (congrArg (fun z => some (V.bool z)) ?_) ?_ | refine vFs rfl rfl ?_ ?_ | refine vHc (by rw [ren_bots]; rfl) ?_)
            done)
           | (
            refine ⟨(kl0, sl0), ?_, View.mk' [] rfl (by simp only [wfB, List.all_cons, List.all_nil, ids_bots]; rfl) rfl ?_ ?_⟩
            · first | exact ⟨hko1, hko2⟩ | exact ⟨hkl0, hkm0⟩ | exact ⟨hkl1, hkm1⟩
            all_goals (repeat' first | exact vFn | refine vFc rfl ?_ | exact vHn | refine vHc rfl ?_ | refine vFc (congrArg (fun z => some (V.int z)) ?_) ?_ | refine vHc (congrArg (fun z => some (Blk.ints _ z)) ?_) ?_ | refine vFc (congrArg (fun z => some (V.bool z)) ?_) ?_ | refine vFs rfl rfl ?_ ?_ | refine vHc (by rw [ren_bots]; rfl) ?_)
            done)
           | (
            refine ⟨(kl1, sl1), ?_, View.mk' [] rfl (by simp only [wfB, List.all_cons, List.all_nil, ids_bots]; rfl) rfl ?_ ?_⟩
            · first | exact ⟨hko1, hko2⟩ | exact ⟨hkl0, hkm0⟩ | exact ⟨hkl1, hkm1⟩
            all_goals (repeat' first | exact vFn | refine vFc rfl ?_ | exact vHn | refine vHc rfl ?_ | refine vFc (congrArg (fun z => some (V.int z)) ?_) ?_ | refine vHc (congrArg (fun z => some (Blk.ints _ z)) ?_) ?_ | refine vFc (congrArg (fun z => some (V.bool z)) ?_) ?_ | refine vFs rfl rfl ?_ ?_ | refine vHc (by rw [ren_bots]; rfl) ?_)
            done)
           | (
            refine ⟨(ko, so), ?_, View.mk' [(6, 9)] rfl (by simp only [wfB, List.all_cons, List.all_nil, ids_bots]; rfl) rfl ?_ ?_⟩
            · first | exact ⟨hko1, hko2⟩ | exact ⟨hkl0, hkm0⟩ | exact ⟨hkl1, hkm1⟩
            all_goals (repeat' first | exact vFn | refine vFc rfl ?_ | exact vHn | refine vHc rfl ?_ | refine vFc (congrArg (fun z => some (V.int z)) ?_) ?_ | refine vHc (congrArg (fun z => some (Blk.ints _ z)) ?_) ?_ | refine vFc (congrArg (fun z => some (V.bool z)) ?_) ?_ | refine vFs rfl rfl ?_ ?_ | refine vHc (by rw [ren_bots]; rfl) ?_)
            done)
           | (
            refine ⟨(kl0, sl0), ?_, View.mk' [(6, 9)] rfl (by simp only [wfB, List.all_cons, List.all_nil, ids_bots]; rfl) rfl ?_ ?_⟩
            · first | exact ⟨hko1, hko2⟩ | exact ⟨hkl0, hkm0⟩ | exact ⟨hkl1, hkm1⟩
            all_goals (repeat' first | exact vFn | refine vFc rfl ?_ | exact vHn | refine vHc rfl ?_ | refine vFc (congrArg (fun z => some (V.int z)) ?_) ?_ | refine vHc (congrArg (fun z => some (Blk.ints _ z)) ?_) ?_ | refine vFc (congrArg (fun z => some (V.bool z)) ?_) ?_ | refine vFs rfl rfl ?_ ?_ | refine vHc (by rw [ren_bots]; rfl) ?_)
            done)
           | (
            refine ⟨(kl1, sl1), ?_, View.mk' [(6, 9)] rfl (by simp only [wfB, List.all_cons, List.all_nil, ids_bots]; rfl) rfl ?_ ?_⟩
            · first | exact ⟨hko1, hko2⟩ | exact ⟨hkl0, hkm0⟩ | exact ⟨hkl1, hkm1⟩
            all_goals (repeat' first | exact vFn | refine vFc rfl ?_ | exact vHn | refine vHc rfl ?_ | refine vFc (congrArg (fun z => some (V.int z)) ?_) ?_ | refine vHc (congrArg (fun z => some (Blk.ints _ z)) ?_) ?_ | refine vFc (congrArg (fun z => some (V.bool z)) ?_) ?_ | refine vFs rfl rfl ?_ ?_ | refine vHc (by rw [ren_bots]; rfl) ?_)
            done)
           | (
            refine ⟨(ko, so), ?_, View.mk' [(7, 13)] rfl (by simp only [wfB, List.all_cons, List.all_nil, ids_bots]; rfl) rfl ?_ ?_⟩
            · first | exact ⟨hko1, hko2⟩ | exact ⟨hkl0, hkm0⟩ | exact ⟨hkl1, hkm1⟩
            all_goals (repeat' first | exact vFn | refine vFc rfl ?_ | exact vHn | refine vHc rfl ?_ | refine vFc (congrArg (fun z => some (V.int z)) ?_) ?_ | refine vHc (congrArg (fun z => some (Blk.ints _ z)) ?_) ?_ | refine vFc (congrArg (fun z => some (V.bool z)) ?_) ?_ | refine vFs rfl rfl ?_ ?_ | refine vHc (by rw [ren_bots]; rfl) ?_)
            done)
           | (
            refine ⟨(kl0, sl0), ?_, View.mk' [(7, 13)] rfl (by simp only [wfB, List.all_cons, List.all_nil, ids_bots]; rfl) rfl ?_ ?_⟩
            · first | exact ⟨hko1, hko2⟩ | exact ⟨hkl0, hkm0⟩ | exact ⟨hkl1, hkm1⟩
            all_goals (repeat' first | exact vFn | refine vFc rfl ?_ | exact vHn | refine vHc rfl ?_ | refine vFc (congrArg (fun z => some (V.int z)) ?_) ?_ | refine vHc (congrArg (fun z => some (Blk.ints _ z)) ?_) ?_ | refine vFc (congrArg (fun z => some (V.bool z)) ?_) ?_ | refine vFs rfl rfl ?_ ?_ | refine vHc (by rw [ren_bots]; rfl) ?_)
            done)
           | (
            refine ⟨(kl1, sl1), ?_, View.mk' [(7, 13)] rfl (by simp only [wfB, List.all_cons, List.all_nil, ids_bots]; rfl) rfl ?_ ?_⟩
            · first | exact ⟨hko1, hko2⟩ | exact ⟨hkl0, hkm0⟩ | exact ⟨hkl1, hkm1⟩
            all_goals (repeat' first | exact vFn | refine vFc rfl ?_ | exact vHn | refine vHc rfl ?_ | refine vFc (congrArg (fun z => some (V.int z)) ?_) ?_ | refine vHc (congrArg (fun z => some (Blk.ints _ z)) ?_) ?_ | refine vFc (congrArg (fun z => some (V.bool z)) ?_) ?_ | refine vFs rfl rfl ?_ ?_ | refine vHc (by rw [ren_bots]; rfl) ?_)
            done))))
      rintro ⟨ka, sa⟩ ⟨hka1, hka2⟩
      obtain ⟨R', hR'⟩ : ∃ z, z = rdc p E P 3 (M i) r3 := ⟨_, rfl⟩
      rw [← hR']
      have hRB : rwB p 3 R' := by rw [hR']; exact hrd _
      subst hr3
      dsimp only at hka1 hka2 ⊢
      refine cR ?_
      refine oM rfl rfl ?_
      first
        | refine oQ (Q_call (leadw_con 2 3 R' sa ka (by decide) hRB.1 _ rfl) [(0, 5)] rfl rfl (Fits.mk' (vHc rfl vHn) rfl rfl (by simp)) rfl rfl) rfl rfl ?_
        | refine oQ (Q_call (leadw_con 2 3 R' sa ka (by decide) hRB.1 _ rfl) [(0, 6)] rfl rfl (Fits.mk' (vHc rfl vHn) rfl rfl (by simp)) rfl rfl) rfl rfl ?_
        | refine oQ (Q_call (leadw_con 2 3 R' sa ka (by decide) hRB.1 _ rfl) [(0, 7)] rfl rfl (Fits.mk' (vHc rfl vHn) rfl rfl (by simp)) rfl rfl) rfl rfl ?_
      refine oA rfl rfl ?_
      refine oN ?_
      refine CW_seq ?_
      refine cR ?_
      refine oM rfl rfl ?_
      refine oQ (Q_bin rfl rfl rfl) rfl rfl ?_
      refine oN ?_
      first | refine cT rfl ?_ | refine cF rfl ?_ | refine CW_cond rfl (fun hc => ?_) (fun hc => ?_)
      all_goals try simp only [s1, s2, s3, s4, s5, s6, s7, s8, s9, s10, s11, s12] at hc
      all_goals try (exfalso; first | omega | (simp at hc; done); done)
      all_goals first
        | (
         refine CW_exit ?_)
        | (
         refine CW_skip ?_)
      all_goals first
        | with_reducible refine tR ?_
        | with_reducible refine tE ?_
        | (
         with_reducible refine tN ?_
         refine CW_cut (ι := Nat × Nat × List Int) (fun x => x.1 < 3 ∧ (∀ j, j < x.1 → R'.getD j 0 = 0) ∧ R'.getD x.1 0 ≠ 0) (fun x => match r4 with | 0 => ⟨[(0, .int p), (1, .slice 0 0 3 k), (5, .slice 4 0 0 kO), (6, .int i), (7, .slice 5 0 3 x.2.1), (9, .int (x.1 : Int))], [(0, .vals 103 [.slice 1 0 3 c0, .slice 2 0 3 c1, .slice 3 0 3 c2]), (1, .ints 2 (M 0)), (2, .ints 2 (M 1)), (3, .ints 2 (M 2)), (4, .vals 103 ([] ++ List.replicate (kO - 0) .bot)), (5, .ints 2 (normL p R' ++ x.2.2))], 6⟩ | 1 => ⟨[(0, .int p), (1, .slice 0 0 3 k), (5, .slice 4 0 1 kO), (6, .int i), (7, .slice 6 0 3 x.2.1), (9, .int (x.1 : Int))], [(0, .vals 103 [.slice 1 0 3 c0, .slice 2 0 3 c1, .slice 3 0 3 c2]), (1, .ints 2 (M 0)), (2, .ints 2 (M 1)), (3, .ints 2 (M 2)), (5, .ints 2 (E 0 ++ S 0)), (4, .vals 103 ([.slice 5 0 3 (K 0)] ++ List.replicate (kO - 1) .bot)), (6, .ints 2 (normL p R' ++ x.2.2))], 7⟩ | _ => ⟨[(0, .int p), (1, .slice 0 0 3 k), (5, .slice 4 0 2 kO), (6, .int i), (7, .slice 7 0 3 x.2.1), (9, .int (x.1 : Int))], [(0, .vals 103 [.slice 1 0 3 c0, .slice 2 0 3 c1, .slice 3 0 3 c2]), (1, .ints 2 (M 0)), (2, .ints 2 (M 1)), (3, .ints 2 (M 2)), (5, .ints 2 (E 0 ++ S 0)), (6, .ints 2 (E 1 ++ S 1)), (4, .vals 103 ([.slice 5 0 3 (K 0), .slice 6 0 3 (K 1)] ++ List.replicate (kO - 2) .bot)), (7, .ints 2 (normL p R' ++ x.2.2))], 8⟩) ?_ ?_
         · (
          subst hr4
          all_goals (
           refine CW_region ?_
           iterate 2 refine oM rfl rfl ?_
           first
             | (refine oCall (normw_con hp 2 3 R' sa ka (by decide) hRB.1) [(0, 5)] 2 rfl rfl (Fits.mk' (vHc rfl vHn) rfl rfl (by simp)) rfl rfl ?_; rintro v1 H1 ⟨kn, sn, hkn1, hkn2, rfl, rfl⟩; refine ⟨.tuple [.slice 7 0 3 kn, .bool (facP p R' != 0)], [(5, .ints 2 (R' ++ sa)), (7, .ints 2 (normL p R' ++ sn))], rfl, rfl, rfl, ?_⟩)
             | (refine oCall (normw_con hp 2 3 R' sa ka (by decide) hRB.1) [(0, 6)] 2 rfl rfl (Fits.mk' (vHc rfl vHn) rfl rfl (by simp)) rfl rfl ?_; rintro v1 H1 ⟨kn, sn, hkn1, hkn2, rfl, rfl⟩; refine ⟨.tuple [.slice 8 0 3 kn, .bool (facP p R' != 0)], [(6, .ints 2 (R' ++ sa)), (8, .ints 2 (normL p R' ++ sn))], rfl, rfl, rfl, ?_⟩)
             | (refine oCall (normw_con hp 2 3 R' sa ka (by decide) hRB.1) [(0, 7)] 2 rfl rfl (Fits.mk' (vHc rfl vHn) rfl rfl (by simp)) rfl rfl ?_; rintro v1 H1 ⟨kn, sn, hkn1, hkn2, rfl, rfl⟩; refine ⟨.tuple [.slice 9 0 3 kn, .bool (facP p R' != 0)], [(7, .ints 2 (R' ++ sa)), (9, .ints 2 (normL p R' ++ sn))], rfl, rfl, rfl, ?_⟩)
           refine oM rfl rfl ?_
           iterate 2 refine oQ (Q_extract rfl rfl) rfl rfl ?_
           refine oA rfl rfl ?_
           refine OW_nil ?_
           all_goals with_reducible refine tN ?_
           all_goals (
            first
              | (
               refine ⟨((ldI R').toNat, kn, sn), ?_, View.mk' [(5, 7)] rfl (by simp only [wfB, List.all_cons, List.all_nil, ids_bots]; rfl) rfl ?_ ?_⟩
               · have hla := ldI_at (l := R') (by omega)
                 exact ⟨by rw [← hRB.1]; exact hla.1, hla.2⟩
               all_goals (repeat' first | exact vFn | refine vFc rfl ?_ | exact vHn | refine vHc rfl ?_ | refine vFc (congrArg (fun z => some (V.int z)) ?_) ?_ | refine vHc (congrArg (fun z => some (Blk.ints _ z)) ?_) ?_ | refine vFc (congrArg (fun z => some (V.bool z)) ?_) ?_ | refine vFs rfl rfl ?_ ?_ | refine vHc (by rw [ren_bots]; rfl) ?_)
               all_goals first | rfl | (dsimp only; omega)
               done)
              | (
               refine ⟨((ldI R').toNat, kn, sn), ?_, View.mk' [(6, 8)] rfl (by simp only [wfB, List.all_cons, List.all_nil, ids_bots]; rfl) rfl ?_ ?_⟩
               · have hla := ldI_at (l := R') (by omega)
                 exact ⟨by rw [← hRB.1]; exact hla.1, hla.2⟩
               all_goals (repeat' first | exact vFn | refine vFc rfl ?_ | exact vHn | refine vHc rfl ?_ | refine vFc (congrArg (fun z => some (V.int z)) ?_) ?_ | refine vHc (congrArg (fun z => some (Blk.ints _ z)) ?_) ?_ | refine vFc (congrArg (fun z => some (V.bool z)) ?_) ?_ | refine vFs rfl rfl ?_ ?_ | refine vHc (by rw [ren_bots]; rfl) ?_)
               all_goals first | rfl | (dsimp only; omega)
               done)
              | (
               refine ⟨((ldI R').toNat, kn, sn), ?_, View.mk' [(7, 9)] rfl (by simp only [wfB, List.all_cons, List.all_nil, ids_bots]; rfl) rfl ?_ ?_⟩
               · have hla := ldI_at (l := R') (by omega)
                 exact ⟨by rw [← hRB.1]; exact hla.1, hla.2⟩
               all_goals (repeat' first | exact vFn | refine vFc rfl ?_ | exact vHn | refine vHc rfl ?_ | refine vFc (congrArg (fun z => some (V.int z)) ?_) ?_ | refine vHc (congrArg (fun z => some (Blk.ints _ z)) ?_) ?_ | refine vFc (congrArg (fun z => some (V.bool z)) ?_) ?_ | refine vFs rfl rfl ?_ ?_ | refine vHc (by rw [ren_bots]; rfl) ?_)
               all_goals first | rfl | (dsimp only; omega)
               done))))
         rintro ⟨a, kn, sn⟩ ⟨ha, ha0, ha1⟩
         subst hr4
         dsimp only at ha ha0 ha1 ⊢
         have hN := rwB_no hp0 hRB
         have hl2 : ∀ k, rwB p 3 (E k) → Con Try.prog [] 120 [.int p, .slice 0 0 3 (K k), .slice 1 0 3 kn, .int ((E k).getD a 0)] [(0, .ints 2 (E k ++ S k)), (1, .ints 2 (normL p R' ++ sn))] (fun v H' => ∃ k2 sp, 3 ≤ k2 ∧ k2 ≤ 3 + sp.length ∧ v = .slice 2 0 3 k2 ∧ H' = [(0, .ints 2 (E k ++ S k)), (1, .ints 2 (normL p R' ++ sn)), (2, .ints 2 (lsL p (E k) (normL p R') ((E k).getD a 0) 3 ++ sp))]) := fun k hek => lessw_con hp 2 2 3 _ _ (S k) sn (K k) kn _ (by decide) hek hN (hek.2 _)
         (try have f0 := hel 0 (by omega))
         (try have f1 := hel 1 (by omega))
         refine cR ?_
         refine oBslv (r := []) rfl rfl rfl rfl rfl rfl rfl rfl rfl rfl rfl rfl rfl ?_
         iterate 2 refine oA rfl rfl ?_
         refine oN ?_
         refine CW_seq ?_
         refine cR ?_
         refine oA rfl rfl ?_
         refine oN ?_
         refine CW_block ?_
         refine CW_rounds 4 ?_
         refine RW_succ ?_
         refine CW_seq ?_
         refine cR ?_
         iterate 2 refine oM rfl rfl ?_
         first | refine oQ (Q_len rfl rfl rfl rfl) rfl rfl ?_ | refine oQ (Q_len0 rfl rfl rfl rfl) rfl rfl ?_
         refine oQ (Q_bin rfl rfl rfl) rfl rfl ?_
         refine oN ?_
         first | refine cT rfl ?_ | refine cF rfl ?_ | refine CW_cond rfl (fun hc => ?_) (fun hc => ?_)
         all_goals try simp only [s1, s2, s3, s4, s5, s6, s7, s8, s9, s10, s11, s12] at hc
         all_goals try (exfalso; first | omega | (simp at hc; done); done)
         all_goals first
           | (
            refine CW_skip ?_)
           | (
            refine CW_exit ?_)
         all_goals first
           | with_reducible refine tR ?_
           | with_reducible refine tE ?_
           | (
            with_reducible refine tN ?_
            refine CW_seq ?_
            refine CW_block ?_
            refine CW_seq ?_
            refine cR ?_
            refine oM rfl rfl ?_
            refine oQ (Q_not rfl) rfl rfl ?_
            refine oM rfl rfl ?_
            all_goals first | refine oT rfl rfl ?_ | refine o1 rfl rfl rfl ?_ | refine o0 rfl rfl rfl ?_ | refine ogP1 rfl rfl rfl (fun hg => ?_) (fun hg => ?_) | refine ogP0 rfl rfl rfl (fun hg => ?_) (fun hg => ?_)
            all_goals try simp only [s1, s2, s3, s4, s5, s6, s7, s8, s9, s10, s11, s12] at hg
            all_goals try (exfalso; first | omega | exact absurd trivial hg | (simp at hg; done); done)
            all_goals first | (refine oM rfl rfl ?_) | skip
            all_goals first | refine oT rfl rfl ?_ | refine o1 rfl rfl rfl ?_ | refine o0 rfl rfl rfl ?_ | refine ogP1 rfl rfl rfl (fun hg => ?_) (fun hg => ?_) | refine ogP0 rfl rfl rfl (fun hg => ?_) (fun hg => ?_)
            all_goals try simp only [s1, s2, s3, s4, s5, s6, s7, s8, s9, s10, s11, s12] at hg
            all_goals try (exfalso; first | omega | exact absurd trivial hg | (simp at hg; done); done)
            all_goals first | (refine oM rfl rfl ?_) | skip
            all_goals first | refine oT rfl rfl ?_ | refine o1 rfl rfl rfl ?_ | refine o0 rfl rfl rfl ?_ | refine ogP1 rfl rfl rfl (fun hg => ?_) (fun hg => ?_) | refine ogP0 rfl rfl rfl (fun hg => ?_) (fun hg => ?_)
            all_goals try simp only [s1, s2, s3, s4, s5, s6, s7, s8, s9, s10, s11, s12] at hg
            all_goals try (exfalso; first | omega | exact absurd trivial hg | (simp at hg; done); done)
            all_goals first | refine oQ (Is0 rfl rfl rfl rfl rfl rfl) rfl rfl ?_ | refine oQ (Is1 rfl rfl rfl rfl rfl rfl) rfl rfl ?_ | skip
            all_goals first | refine oT rfl rfl ?_ | refine o1 rfl rfl rfl ?_ | refine o0 rfl rfl rfl ?_ | refine ogP1 rfl rfl rfl (fun hg => ?_) (fun hg => ?_) | refine ogP0 rfl rfl rfl (fun hg => ?_) (fun hg => ?_)
            all_goals try simp only [s1, s2, s3, s4, s5, s6, s7, s8, s9, s10, s11, s12] at hg
            all_goals try (exfalso; first | omega | exact absurd trivial hg | (simp at hg; done); done)
            all_goals first | (refine oQ (Q_ldv rfl rfl rfl rfl rfl rfl) rfl rfl ?_) | skip
            all_goals first | refine oT rfl rfl ?_ | refine o1 rfl rfl rfl ?_ | refine o0 rfl rfl rfl ?_ | refine ogP1 rfl rfl rfl (fun hg => ?_) (fun hg => ?_) | refine ogP0 rfl rfl rfl (fun hg => ?_) (fun hg => ?_)
            all_goals try simp only [s1, s2, s3, s4, s5, s6, s7, s8, s9, s10, s11, s12] at hg
            all_goals try (exfalso; first | omega | exact absurd trivial hg | (simp at hg; done); done)
            all_goals first | refine oQ (Q_call (hld 0 (by omega)) [(0, 5)] rfl rfl (Fits.mk' (vHc rfl vHn) rfl rfl (by simp)) rfl rfl) rfl rfl ?_ | refine oQ (Q_call (hld 1 (by omega)) [(0, 6)] rfl rfl (Fits.mk' (vHc rfl vHn) rfl rfl (by simp)) rfl rfl) rfl rfl ?_ | skip
            all_goals first | refine oT rfl rfl ?_ | refine o1 rfl rfl rfl ?_ | refine o0 rfl rfl rfl ?_ | refine ogP1 rfl rfl rfl (fun hg => ?_) (fun hg => ?_) | refine ogP0 rfl rfl rfl (fun hg => ?_) (fun hg => ?_)
            all_goals try simp only [s1, s2, s3, s4, s5, s6, s7, s8, s9, s10, s11, s12] at hg
            all_goals try (exfalso; first | omega | exact absurd trivial hg | (simp at hg; done); done)
            all_goals first | (refine oM rfl rfl ?_) | skip
            all_goals first | refine oT rfl rfl ?_ | refine o1 rfl rfl rfl ?_ | refine o0 rfl rfl rfl ?_ | refine ogP1 rfl rfl rfl (fun hg => ?_) (fun hg => ?_) | refine ogP0 rfl rfl rfl (fun hg => ?_) (fun hg => ?_)
            all_goals try simp only [s1, s2, s3, s4, s5, s6, s7, s8, s9, s10, s11, s12] at hg
            all_goals try (exfalso; first | omega | exact absurd trivial hg | (simp at hg; done); done)
            all_goals first | (refine oQ (Q_bin rfl rfl rfl) rfl rfl ?_) | skip
            all_goals first | refine oQ (Q_pick_t rfl (by with_reducible rfl) rfl rfl) rfl rfl ?_ | refine oQ (Q_pick_f rfl (by with_reducible rfl) rfl rfl) rfl rfl ?_
            all_goals refine oN ?_
            all_goals (
             first | refine cT rfl ?_ | refine cF rfl ?_ | refine CW_cond rfl (fun hc => ?_) (fun hc => ?_)
             all_goals try simp only [s1, s2, s3, s4, s5, s6, s7, s8, s9, s10, s11, s12] at hc
             all_goals try (exfalso; first | omega | (simp at hc; done); done)
             all_goals first
               | (
                refine CW_skip ?_)
               | (
                refine cR ?_
                iterate 2 refine oM rfl rfl ?_
                refine oBslv rfl rfl rfl rfl rfl rfl rfl rfl rfl rfl rfl rfl rfl ?_
                first | refine oAppV (by_ := 24) (A := []) (sp := []) rfl rfl rfl rfl rfl rfl rfl rfl rfl rfl rfl rfl rfl rfl rfl rfl rfl rfl (by first | rfl | omega | (simp; omega)) (by omega) (by omega) rfl rfl (fun kO hkO => ?_) | refine oAppV (by_ := 24) rfl rfl rfl rfl rfl rfl rfl rfl rfl rfl rfl rfl rfl rfl rfl rfl rfl rfl (by first | rfl | omega | (simp; omega)) (by omega) (by omega) rfl rfl (fun kO hkO => ?_)
                refine oA rfl rfl ?_
                refine oN ?_
                refine CW_region ?_
                refine oA rfl rfl ?_
                refine OW_nil ?_))
            all_goals with_reducible refine tN ?_
            all_goals (
             refine CW_any (fun i => List.elem i [16, 17]) 18 rfl lateOk (by decide +kernel) (fun hst => ?_)
             refine aP 0 hst rfl rfl (by decide +kernel) (PX_move rfl rfl) rfl rfl ?_
             refine aP 1 hst rfl rfl (by decide +kernel) (PX_move rfl rfl) rfl rfl ?_
             refine aP 2 hst rfl rfl (by decide +kernel) (PX_move rfl rfl) rfl rfl ?_
             refine aP 3 hst rfl rfl (by decide +kernel) (PX_move rfl rfl) rfl rfl ?_
             first | refine aQ 4 hst rfl rfl (by decide +kernel) (QX_of (Is0 rfl rfl rfl rfl rfl rfl) NE_ix) rfl rfl ?_ | refine aQ 4 hst rfl rfl (by decide +kernel) (QX_of (Is1 rfl rfl rfl rfl rfl rfl) NE_ix) rfl rfl ?_
             refine aQ 5 hst rfl rfl (by decide +kernel) (QX_of (Q_ldv rfl rfl rfl rfl rfl rfl) NE_load) rfl rfl ?_
             refine aP 6 hst rfl rfl (by decide +kernel) (PX_move rfl rfl) rfl rfl ?_
             refine aP 7 hst rfl rfl (by decide +kernel) (PX_move rfl rfl) rfl rfl ?_
             refine aP 8 hst rfl rfl (by decide +kernel) (PX_move rfl rfl) rfl rfl ?_
             first | refine aQ 9 hst rfl rfl (by decide +kernel) (QX_of (Is0 rfl rfl rfl rfl rfl rfl) NE_ix) rfl rfl ?_ | refine aQ 9 hst rfl rfl (by decide +kernel) (QX_of (Is1 rfl rfl rfl rfl rfl rfl) NE_ix) rfl rfl ?_
             refine aQ 10 hst rfl rfl (by decide +kernel) (QX_of (Q_ldv rfl rfl rfl rfl rfl rfl) NE_load) rfl rfl ?_
             refine aP 11 hst rfl rfl (by decide +kernel) (PX_move rfl rfl) rfl rfl ?_
             first | refine aQ 12 hst rfl rfl (by decide +kernel) (QX_of (Is0 rfl rfl rfl rfl rfl rfl) NE_ix) rfl rfl ?_ | refine aQ 12 hst rfl rfl (by decide +kernel) (QX_of (Is1 rfl rfl rfl rfl rfl rfl) NE_ix) rfl rfl ?_
             refine aQ 13 hst rfl rfl (by decide +kernel) (QX_of (Ld rfl rfl rfl rfl) NE_load) rfl rfl ?_
             rw [getD_app (by omega)]
             refine AW_one (i := 14) (by decide +kernel) ?_
             first
               | (refine gCall rfl rfl (hl2 0 (hE 0 (by omega))) [(0, 5), (1, 6)] 3 rfl rfl (Fits.mk' (vHc rfl (vHc rfl vHn)) rfl rfl (by simp)) rfl rfl rfl ?_; rintro v1 H1 ⟨km0, sm0, hm0, hn0, rfl, rfl⟩; refine ⟨.slice 12 0 3 km0, [(5, .ints 2 (E 0 ++ S 0)), (6, .ints 2 (normL p R' ++ sn)), (12, .ints 2 (lsL p (E 0) (normL p R') ((E 0).getD a 0) 3 ++ sm0))], rfl, keep_pre _ _, rfl, rfl, ?_⟩)
               | (refine gCall rfl rfl (hl2 0 (hE 0 (by omega))) [(0, 5), (1, 6)] 3 rfl rfl (Fits.mk' (vHc rfl (vHc rfl vHn)) rfl rfl (by simp)) rfl rfl rfl ?_; rintro v1 H1 ⟨km0, sm0, hm0, hn0, rfl, rfl⟩; refine ⟨.slice 10 0 3 km0, [(5, .ints 2 (E 0 ++ S 0)), (6, .ints 2 (normL p R' ++ sn)), (10, .ints 2 (lsL p (E 0) (normL p R') ((E 0).getD a 0) 3 ++ sm0))], rfl, keep_pre _ _, rfl, rfl, ?_⟩)
               | (refine gCall rfl rfl (hl2 0 (hE 0 (by omega))) [(0, 5), (1, 7)] 3 rfl rfl (Fits.mk' (vHc rfl (vHc rfl vHn)) rfl rfl (by simp)) rfl rfl rfl ?_; rintro v1 H1 ⟨km0, sm0, hm0, hn0, rfl, rfl⟩; refine ⟨.slice 13 0 3 km0, [(5, .ints 2 (E 0 ++ S 0)), (7, .ints 2 (normL p R' ++ sn)), (13, .ints 2 (lsL p (E 0) (normL p R') ((E 0).getD a 0) 3 ++ sm0))], rfl, keep_pre _ _, rfl, rfl, ?_⟩)
               | (refine gCall rfl rfl (hl2 1 (hE 1 (by omega))) [(0, 6), (1, 7)] 3 rfl rfl (Fits.mk' (vHc rfl (vHc rfl vHn)) rfl rfl (by simp)) rfl rfl rfl ?_; rintro v1 H1 ⟨km1, sm1, hm1, hn1, rfl, rfl⟩; refine ⟨.slice 18 0 3 km1, [(6, .ints 2 (E 1 ++ S 1)), (7, .ints 2 (normL p R' ++ sn)), (18, .ints 2 (lsL p (E 1) (normL p R') ((E 1).getD a 0) 3 ++ sm1))], rfl, keep_pre _ _, rfl, rfl, ?_⟩)
               | (refine gCall rfl rfl (hl2 0 (hE 0 (by omega))) [(0, 5), (1, 7)] 3 rfl rfl (Fits.mk' (vHc rfl (vHc rfl vHn)) rfl rfl (by simp)) rfl rfl rfl ?_; rintro v1 H1 ⟨km0, sm0, hm0, hn0, rfl, rfl⟩; refine ⟨.slice 11 0 3 km0, [(5, .ints 2 (E 0 ++ S 0)), (7, .ints 2 (normL p R' ++ sn)), (11, .ints 2 (lsL p (E 0) (normL p R') ((E 0).getD a 0) 3 ++ sm0))], rfl, keep_pre _ _, rfl, rfl, ?_⟩)
               | (refine gCall rfl rfl (hl2 1 (hE 1 (by omega))) [(0, 6), (1, 7)] 3 rfl rfl (Fits.mk' (vHc rfl (vHc rfl vHn)) rfl rfl (by simp)) rfl rfl rfl ?_; rintro v1 H1 ⟨km1, sm1, hm1, hn1, rfl, rfl⟩; refine ⟨.slice 18 0 3 km1, [(6, .ints 2 (E 1 ++ S 1)), (7, .ints 2 (normL p R' ++ sn)), (18, .ints 2 (lsL p (E 1) (normL p R') ((E 1).getD a 0) 3 ++ sm1))], rfl, keep_pre _ _, rfl, rfl, ?_⟩)
               | (refine gCall rfl rfl (hl2 0 (hE 0 (by omega))) [(0, 5), (1, 7)] 3 rfl rfl (Fits.mk' (vHc rfl (vHc rfl vHn)) rfl rfl (by simp)) rfl rfl rfl ?_; rintro v1 H1 ⟨km0, sm0, hm0, hn0, rfl, rfl⟩; refine ⟨.slice 11 0 3 km0, [(5, .ints 2 (E 0 ++ S 0)), (7, .ints 2 (normL p R' ++ sn)), (11, .ints 2 (lsL p (E 0) (normL p R') ((E 0).getD a 0) 3 ++ sm0))], rfl, keep_pre _ _, rfl, rfl, ?_⟩)
               | (refine gCall rfl rfl (hl2 1 (hE 1 (by omega))) [(0, 6), (1, 7)] 3 rfl rfl (Fits.mk' (vHc rfl (vHc rfl vHn)) rfl rfl (by simp)) rfl rfl rfl ?_; rintro v1 H1 ⟨km1, sm1, hm1, hn1, rfl, rfl⟩; refine ⟨.slice 16 0 3 km1, [(6, .ints 2 (E 1 ++ S 1)), (7, .ints 2 (normL p R' ++ sn)), (16, .ints 2 (lsL p (E 1) (normL p R') ((E 1).getD a 0) 3 ++ sm1))], rfl, keep_pre _ _, rfl, rfl, ?_⟩)
             refine AW_one (i := 15) (by decide +kernel) ?_
             refine gBslv rfl rfl rfl rfl rfl rfl rfl rfl rfl rfl rfl rfl rfl rfl rfl ?_
             refine AW_last [16, 17] rfl (by decide +kernel) rfl ?_
             first | refine oAppV (by_ := 24) (A := []) (sp := []) rfl rfl rfl rfl rfl rfl rfl rfl rfl rfl rfl rfl rfl rfl rfl rfl rfl rfl (by first | rfl | omega | (simp; omega)) (by omega) (by omega) rfl rfl (fun kO hkO => ?_) | refine oAppV (by_ := 24) rfl rfl rfl rfl rfl rfl rfl rfl rfl rfl rfl rfl rfl rfl rfl rfl rfl rfl (by first | rfl | omega | (simp; omega)) (by omega) (by omega) rfl rfl (fun kO hkO => ?_)
             refine oA rfl rfl ?_
             refine OW_nil (npN ?_))
            all_goals first | with_reducible refine bN ?_ | with_reducible refine bE ?_ | with_reducible refine bR ?_ | refine bX rfl ?_
            all_goals with_reducible refine tN ?_
            all_goals (
             refine CW_region ?_
             refine oM rfl rfl ?_
             first | refine oQ (Q_binu rfl rfl rfl (by omega)) rfl rfl ?_ | refine oQ (Q_bin rfl rfl rfl) rfl rfl ?_
             refine oA rfl rfl ?_
             refine OW_nil ?_))
         all_goals first
           | with_reducible refine tR ?_
           | with_reducible refine tE ?_
           | (
            with_reducible refine tN ?_
            refine RW_succ ?_
            refine CW_seq ?_
            refine cR ?_
            iterate 2 refine oM rfl rfl ?_
            first | refine oQ (Q_len rfl rfl rfl rfl) rfl rfl ?_ | refine oQ (Q_len0 rfl rfl rfl rfl) rfl rfl ?_
            refine oQ (Q_bin rfl rfl rfl) rfl rfl ?_
            refine oN ?_
            first | refine cT rfl ?_ | refine cF rfl ?_ | refine CW_cond rfl (fun hc => ?_) (fun hc => ?_)
            all_goals try simp only [s1, s2, s3, s4, s5, s6, s7, s8, s9, s10, s11, s12] at hc
            all_goals try (exfalso; first | omega | (simp at hc; done); done)
            all_goals first
              | (
               refine CW_skip ?_)
              | (
               refine CW_exit ?_)
            all_goals first
              | with_reducible refine tR ?_
              | with_reducible refine tE ?_
              | (
               with_reducible refine tN ?_
               refine CW_seq ?_
               refine CW_block ?_
               refine CW_seq ?_
               refine cR ?_
               refine oM rfl rfl ?_
               refine oQ (Q_not rfl) rfl rfl ?_
               refine oM rfl rfl ?_
               all_goals first | refine oT rfl rfl ?_ | refine o1 rfl rfl rfl ?_ | refine o0 rfl rfl rfl ?_ | refine ogP1 rfl rfl rfl (fun hg => ?_) (fun hg => ?_) | refine ogP0 rfl rfl rfl (fun hg => ?_) (fun hg => ?_)
               all_goals try simp only [s1, s2, s3, s4, s5, s6, s7, s8, s9, s10, s11, s12] at hg
               all_goals try (exfalso; first | omega | exact absurd trivial hg | (simp at hg; done); done)
               all_goals first | (refine oM rfl rfl ?_) | skip
               all_goals first | refine oT rfl rfl ?_ | refine o1 rfl rfl rfl ?_ | refine o0 rfl rfl rfl ?_ | refine ogP1 rfl rfl rfl (fun hg => ?_) (fun hg => ?_) | refine ogP0 rfl rfl rfl (fun hg => ?_) (fun hg => ?_)
               all_goals try simp only [s1, s2, s3, s4, s5, s6, s7, s8, s9, s10, s11, s12] at hg
               all_goals try (exfalso; first | omega | exact absurd trivial hg | (simp at hg; done); done)
               all_goals first | (refine oM rfl rfl ?_) | skip
               all_goals first | refine oT rfl rfl ?_ | refine o1 rfl rfl rfl ?_ | refine o0 rfl rfl rfl ?_ | refine ogP1 rfl rfl rfl (fun hg => ?_) (fun hg => ?_) | refine ogP0 rfl rfl rfl (fun hg => ?_) (fun hg => ?_)
               all_goals try simp only [s1, s2, s3, s4, s5, s6, s7, s8, s9, s10, s11, s12] at hg
               all_goals try (exfalso; first | omega | exact absurd trivial hg | (simp at hg; done); done)
               all_goals first | refine oQ (Is0 rfl rfl rfl rfl rfl rfl) rfl rfl ?_ | refine oQ (Is1 rfl rfl rfl rfl rfl rfl) rfl rfl ?_ | skip
               all_goals first | refine oT rfl rfl ?_ | refine o1 rfl rfl rfl ?_ | refine o0 rfl rfl rfl ?_ | refine ogP1 rfl rfl rfl (fun hg => ?_) (fun hg => ?_) | refine ogP0 rfl rfl rfl (fun hg => ?_) (fun hg => ?_)
               all_goals try simp only [s1, s2, s3, s4, s5, s6, s7, s8, s9, s10, s11, s12] at hg
               all_goals try (exfalso; first | omega | exact absurd trivial hg | (simp at hg; done); done)
               all_goals first | (refine oQ (Q_ldv rfl rfl rfl rfl rfl rfl) rfl rfl ?_) | skip
               all_goals first | refine oT rfl rfl ?_ | refine o1 rfl rfl rfl ?_ | refine o0 rfl rfl rfl ?_ | refine ogP1 rfl rfl rfl (fun hg => ?_) (fun hg => ?_) | refine ogP0 rfl rfl rfl (fun hg => ?_) (fun hg => ?_)
               all_goals try simp only [s1, s2, s3, s4, s5, s6, s7, s8, s9, s10, s11, s12] at hg
               all_goals try (exfalso; first | omega | exact absurd trivial hg | (simp at hg; done); done)
               all_goals first | refine oQ (Q_call (hld 0 (by omega)) [(0, 5)] rfl rfl (Fits.mk' (vHc rfl vHn) rfl rfl (by simp)) rfl rfl) rfl rfl ?_ | refine oQ (Q_call (hld 1 (by omega)) [(0, 6)] rfl rfl (Fits.mk' (vHc rfl vHn) rfl rfl (by simp)) rfl rfl) rfl rfl ?_ | skip
               all_goals first | refine oT rfl rfl ?_ | refine o1 rfl rfl rfl ?_ | refine o0 rfl rfl rfl ?_ | refine ogP1 rfl rfl rfl (fun hg => ?_) (fun hg => ?_) | refine ogP0 rfl rfl rfl (fun hg => ?_) (fun hg => ?_)
               all_goals try simp only [s1, s2, s3, s4, s5, s6, s7, s8, s9, s10, s11, s12] at hg
               all_goals try (exfalso; first | omega | exact absurd trivial hg | (simp at hg; done); done)
               all_goals first | (refine oM rfl rfl ?_) | skip
               all_goals first | refine oT rfl rfl ?_ | refine o1 rfl rfl rfl ?_ | refine o0 rfl rfl rfl ?_ | refine ogP1 rfl rfl rfl (fun hg => ?_) (fun hg => ?_) | refine ogP0 rfl rfl rfl (fun hg => ?_) (fun hg => ?_)
               all_goals try simp only [s1, s2, s3, s4, s5, s6, s7, s8, s9, s10, s11, s12] at hg
               all_goals try (exfalso; first | omega | exact absurd trivial hg | (simp at hg; done); done)
               all_goals first | (refine oQ (Q_bin rfl rfl rfl) rfl rfl ?_) | skip
               all_goals first | refine oQ (Q_pick_t rfl (by with_reducible rfl) rfl rfl) rfl rfl ?_ | refine oQ (Q_pick_f rfl (by with_reducible rfl) rfl rfl) rfl rfl ?_
               all_goals refine oN ?_
               all_goals (
                first | refine cT rfl ?_ | refine cF rfl ?_ | refine CW_cond rfl (fun hc => ?_) (fun hc => ?_)
                all_goals try simp only [s1, s2, s3, s4, s5, s6, s7, s8, s9, s10, s11, s12] at hc
                all_goals try (exfalso; first | omega | (simp at hc; done); done)
                all_goals first
                  | (
                   refine CW_skip ?_)
                  | (
                   refine cR ?_
                   iterate 2 refine oM rfl rfl ?_
                   refine oBslv rfl rfl rfl rfl rfl rfl rfl rfl rfl rfl rfl rfl rfl ?_
                   first | refine oAppV (by_ := 24) (A := []) (sp := []) rfl rfl rfl rfl rfl rfl rfl rfl rfl rfl rfl rfl rfl rfl rfl rfl rfl rfl (by first | rfl | omega | (simp; omega)) (by omega) (by omega) rfl rfl (fun kO hkO => ?_) | refine oAppV (by_ := 24) rfl rfl rfl rfl rfl rfl rfl rfl rfl rfl rfl rfl rfl rfl rfl rfl rfl rfl (by first | rfl | omega | (simp; omega)) (by omega) (by omega) rfl rfl (fun kO hkO => ?_)
                   refine oA rfl rfl ?_
                   refine oN ?_
                   refine CW_region ?_
                   refine oA rfl rfl ?_
                   refine OW_nil ?_))
               all_goals with_reducible refine tN ?_
               all_goals (
                refine CW_any (fun i => List.elem i [16, 17]) 18 rfl lateOk (by decide +kernel) (fun hst => ?_)
                refine aP 0 hst rfl rfl (by decide +kernel) (PX_move rfl rfl) rfl rfl ?_
                refine aP 1 hst rfl rfl (by decide +kernel) (PX_move rfl rfl) rfl rfl ?_
                refine aP 2 hst rfl rfl (by decide +kernel) (PX_move rfl rfl) rfl rfl ?_
                refine aP 3 hst rfl rfl (by decide +kernel) (PX_move rfl rfl) rfl rfl ?_
                first | refine aQ 4 hst rfl rfl (by decide +kernel) (QX_of (Is0 rfl rfl rfl rfl rfl rfl) NE_ix) rfl rfl ?_ | refine aQ 4 hst rfl rfl (by decide +kernel) (QX_of (Is1 rfl rfl rfl rfl rfl rfl) NE_ix) rfl rfl ?_
                refine aQ 5 hst rfl rfl (by decide +kernel) (QX_of (Q_ldv rfl rfl rfl rfl rfl rfl) NE_load) rfl rfl ?_
                refine aP 6 hst rfl rfl (by decide +kernel) (PX_move rfl rfl) rfl rfl ?_
                refine aP 7 hst rfl rfl (by decide +kernel) (PX_move rfl rfl) rfl rfl ?_
                refine aP 8 hst rfl rfl (by decide +kernel) (PX_move rfl rfl) rfl rfl ?_
                first | refine aQ 9 hst rfl rfl (by decide +kernel) (QX_of (Is0 rfl rfl rfl rfl rfl rfl) NE_ix) rfl rfl ?_ | refine aQ 9 hst rfl rfl (by decide +kernel) (QX_of (Is1 rfl rfl rfl rfl rfl rfl) NE_ix) rfl rfl ?_
                refine aQ 10 hst rfl rfl (by decide +kernel) (QX_of (Q_ldv rfl rfl rfl rfl rfl rfl) NE_load) rfl rfl ?_
                refine aP 11 hst rfl rfl (by decide +kernel) (PX_move rfl rfl) rfl rfl ?_
                first | refine aQ 12 hst rfl rfl (by decide +kernel) (QX_of (Is0 rfl rfl rfl rfl rfl rfl) NE_ix) rfl rfl ?_ | refine aQ 12 hst rfl rfl (by decide +kernel) (QX_of (Is1 rfl rfl rfl rfl rfl rfl) NE_ix) rfl rfl ?_
                refine aQ 13 hst rfl rfl (by decide +kernel) (QX_of (Ld rfl rfl rfl rfl) NE_load) rfl rfl ?_
                rw [getD_app (by omega)]
                refine AW_one (i := 14) (by decide +kernel) ?_
                first
                  | (refine gCall rfl rfl (hl2 0 (hE 0 (by omega))) [(0, 5), (1, 6)] 3 rfl rfl (Fits.mk' (vHc rfl (vHc rfl vHn)) rfl rfl (by simp)) rfl rfl rfl ?_; rintro v1 H1 ⟨km0, sm0, hm0, hn0, rfl, rfl⟩; refine ⟨.slice 12 0 3 km0, [(5, .ints 2 (E 0 ++ S 0)), (6, .ints 2 (normL p R' ++ sn)), (12, .ints 2 (lsL p (E 0) (normL p R') ((E 0).getD a 0) 3 ++ sm0))], rfl, keep_pre _ _, rfl, rfl, ?_⟩)
                  | (refine gCall rfl rfl (hl2 0 (hE 0 (by omega))) [(0, 5), (1, 6)] 3 rfl rfl (Fits.mk' (vHc rfl (vHc rfl vHn)) rfl rfl (by simp)) rfl rfl rfl ?_; rintro v1 H1 ⟨km0, sm0, hm0, hn0, rfl, rfl⟩; refine ⟨.slice 10 0 3 km0, [(5, .ints 2 (E 0 ++ S 0)), (6, .ints 2 (normL p R' ++ sn)), (10, .ints 2 (lsL p (E 0) (normL p R') ((E 0).getD a 0) 3 ++ sm0))], rfl, keep_pre _ _, rfl, rfl, ?_⟩)
                  | (refine gCall rfl rfl (hl2 0 (hE 0 (by omega))) [(0, 5), (1, 7)] 3 rfl rfl (Fits.mk' (vHc rfl (vHc rfl vHn)) rfl rfl (by simp)) rfl rfl rfl ?_; rintro v1 H1 ⟨km0, sm0, hm0, hn0, rfl, rfl⟩; refine ⟨.slice 13 0 3 km0, [(5, .ints 2 (E 0 ++ S 0)), (7, .ints 2 (normL p R' ++ sn)), (13, .ints 2 (lsL p (E 0) (normL p R') ((E 0).getD a 0) 3 ++ sm0))], rfl, keep_pre _ _, rfl, rfl, ?_⟩)
                  | (refine gCall rfl rfl (hl2 1 (hE 1 (by omega))) [(0, 6), (1, 7)] 3 rfl rfl (Fits.mk' (vHc rfl (vHc rfl vHn)) rfl rfl (by simp)) rfl rfl rfl ?_; rintro v1 H1 ⟨km1, sm1, hm1, hn1, rfl, rfl⟩; refine ⟨.slice 18 0 3 km1, [(6, .ints 2 (E 1 ++ S 1)), (7, .ints 2 (normL p R' ++ sn)), (18, .ints 2 (lsL p (E 1) (normL p R') ((E 1).getD a 0) 3 ++ sm1))], rfl, keep_pre _ _, rfl, rfl, ?_⟩)
                  | (refine gCall rfl rfl (hl2 0 (hE 0 (by omega))) [(0, 5), (1, 7)] 3 rfl rfl (Fits.mk' (vHc rfl (vHc rfl vHn)) rfl rfl (by simp)) rfl rfl rfl ?_; rintro v1 H1 ⟨km0, sm0, hm0, hn0, rfl, rfl⟩; refine ⟨.slice 11 0 3 km0, [(5, .ints 2 (E 0 ++ S 0)), (7, .ints 2 (normL p R' ++ sn)), (11, .ints 2 (lsL p (E 0) (normL p R') ((E 0).getD a 0) 3 ++ sm0))], rfl, keep_pre _ _, rfl, rfl, ?_⟩)
                  | (refine gCall rfl rfl (hl2 1 (hE 1 (by omega))) [(0, 6), (1, 7)] 3 rfl rfl (Fits.mk' (vHc rfl (vHc rfl vHn)) rfl rfl (by simp)) rfl rfl rfl ?_; rintro v1 H1 ⟨km1, sm1, hm1, hn1, rfl, rfl⟩; refine ⟨.slice 18 0 3 km1, [(6, .ints 2 (E 1 ++ S 1)), (7, .ints 2 (normL p R' ++ sn)), (18, .ints 2 (lsL p (E 1) (normL p R') ((E 1).getD a 0) 3 ++ sm1))], rfl, keep_pre _ _, rfl, rfl, ?_⟩)
                  | (refine gCall rfl rfl (hl2 0 (hE 0 (by omega))) [(0, 5), (1, 7)] 3 rfl rfl (Fits.mk' (vHc rfl (vHc rfl vHn)) rfl rfl (by simp)) rfl rfl rfl ?_; rintro v1 H1 ⟨km0, sm0, hm0, hn0, rfl, rfl⟩; refine ⟨.slice 11 0 3 km0, [(5, .ints 2 (E 0 ++ S 0)), (7, .ints 2 (normL p R' ++ sn)), (11, .ints 2 (lsL p (E 0) (normL p R') ((E 0).getD a 0) 3 ++ sm0))], rfl, keep_pre _ _, rfl, rfl, ?_⟩)
                  | (refine gCall rfl rfl (hl2 1 (hE 1 (by omega))) [(0, 6), (1, 7)] 3 rfl rfl (Fits.mk' (vHc rfl (vHc rfl vHn)) rfl rfl (by simp)) rfl rfl rfl ?_; rintro v1 H1 ⟨km1, sm1, hm1, hn1, rfl, rfl⟩; refine ⟨.slice 16 0 3 km1, [(6, .ints 2 (E 1 ++ S 1)), (7, .ints 2 (normL p R' ++ sn)), (16, .ints 2 (lsL p (E 1) (normL p R') ((E 1).getD a 0) 3 ++ sm1))], rfl, keep_pre _ _, rfl, rfl, ?_⟩)
                refine AW_one (i := 15) (by decide +kernel) ?_
                refine gBslv rfl rfl rfl rfl rfl rfl rfl rfl rfl rfl rfl rfl rfl rfl rfl ?_
                refine AW_last [16, 17] rfl (by decide +kernel) rfl ?_
                first | refine oAppV (by_ := 24) (A := []) (sp := []) rfl rfl rfl rfl rfl rfl rfl rfl rfl rfl rfl rfl rfl rfl rfl rfl rfl rfl (by first | rfl | omega | (simp; omega)) (by omega) (by omega) rfl rfl (fun kO hkO => ?_) | refine oAppV (by_ := 24) rfl rfl rfl rfl rfl rfl rfl rfl rfl rfl rfl rfl rfl rfl rfl rfl rfl rfl (by first | rfl | omega | (simp; omega)) (by omega) (by omega) rfl rfl (fun kO hkO => ?_)
                refine oA rfl rfl ?_
                refine OW_nil (npN ?_))
               all_goals first | with_reducible refine bN ?_ | with_reducible refine bE ?_ | with_reducible refine bR ?_ | refine bX rfl ?_
               all_goals with_reducible refine tN ?_
               all_goals (
                refine CW_region ?_
                refine oM rfl rfl ?_
                first | refine oQ (Q_binu rfl rfl rfl (by omega)) rfl rfl ?_ | refine oQ (Q_bin rfl rfl rfl) rfl rfl ?_
                refine oA rfl rfl ?_
                refine OW_nil ?_))
            all_goals first
              | with_reducible refine tR ?_
              | with_reducible refine tE ?_
              | (
               with_reducible refine tN ?_
               refine RW_succ ?_
               refine CW_seq ?_
               refine cR ?_
               iterate 2 refine oM rfl rfl ?_
               first | refine oQ (Q_len rfl rfl rfl rfl) rfl rfl ?_ | refine oQ (Q_len0 rfl rfl rfl rfl) rfl rfl ?_
               refine oQ (Q_bin rfl rfl rfl) rfl rfl ?_
               refine oN ?_
               first | refine cT rfl ?_ | refine cF rfl ?_ | refine CW_cond rfl (fun hc => ?_) (fun hc => ?_)
               all_goals try simp only [s1, s2, s3, s4, s5, s6, s7, s8, s9, s10, s11, s12] at hc
               all_goals try (exfalso; first | omega | (simp at hc; done); done)
               all_goals first
                 | (
                  refine CW_skip ?_)
                 | (
                  refine CW_exit ?_)
               all_goals first
                 | with_reducible refine tR ?_
                 | with_reducible refine tE ?_
                 | (
                  with_reducible refine tN ?_
                  refine CW_seq ?_
                  refine CW_block ?_
                  refine CW_seq ?_
                  refine cR ?_
                  refine oM rfl rfl ?_
                  refine oQ (Q_not rfl) rfl rfl ?_
                  refine oM rfl rfl ?_
                  all_goals first | refine oT rfl rfl ?_ | refine o1 rfl rfl rfl ?_ | refine o0 rfl rfl rfl ?_ | refine ogP1 rfl rfl rfl (fun hg => ?_) (fun hg => ?_) | refine ogP0 rfl rfl rfl (fun hg => ?_) (fun hg => ?_)
                  all_goals try simp only [s1, s2, s3, s4, s5, s6, s7, s8, s9, s10, s11, s12] at hg
                  all_goals try (exfalso; first | omega | exact absurd trivial hg | (simp at hg; done); done)
                  all_goals first | (refine oM rfl rfl ?_) | skip
                  all_goals first | refine oT rfl rfl ?_ | refine o1 rfl rfl rfl ?_ | refine o0 rfl rfl rfl ?_ | refine ogP1 rfl rfl rfl (fun hg => ?_) (fun hg => ?_) | refine ogP0 rfl rfl rfl (fun hg => ?_) (fun hg => ?_)
                  all_goals try simp only [s1, s2, s3, s4, s5, s6, s7, s8, s9, s10, s11, s12] at hg
                  all_goals try (exfalso; first | omega | exact absurd trivial hg | (simp at hg; done); done)
                  all_goals first | (refine oM rfl rfl ?_) | skip
                  all_goals first | refine oT rfl rfl ?_ | refine o1 rfl rfl rfl ?_ | refine o0 rfl rfl rfl ?_ | refine ogP1 rfl rfl rfl (fun hg => ?_) (fun hg => ?_) | refine ogP0 rfl rfl rfl (fun hg => ?_) (fun hg => ?_)
                  all_goals try simp only [s1, s2, s3, s4, s5, s6, s7, s8, s9, s10, s11, s12] at hg
                  all_goals try (exfalso; first | omega | exact absurd trivial hg | (simp at hg; done); done)
                  all_goals first | refine oQ (Is0 rfl rfl rfl rfl rfl rfl) rfl rfl ?_ | refine oQ (Is1 rfl rfl rfl rfl rfl rfl) rfl rfl ?_ | skip
                  all_goals first | refine oT rfl rfl ?_ | refine o1 rfl rfl rfl ?_ | refine o0 rfl rfl rfl ?_ | refine ogP1 rfl rfl rfl (fun hg => ?_) (fun hg => ?_) | refine ogP0 rfl rfl rfl (fun hg => ?_) (fun hg => ?_)
                  all_goals try simp only [s1, s2, s3, s4, s5, s6, s7, s8, s9, s10, s11, s12] at hg
                  all_goals try (exfalso; first | omega | exact absurd trivial hg | (simp at hg; done); done)
                  all_goals first | (refine oQ (Q_ldv rfl rfl rfl rfl rfl rfl) rfl rfl ?_) | skip
                  all_goals first | refine oT rfl rfl ?_ | refine o1 rfl rfl rfl ?_ | refine o0 rfl rfl rfl ?_ | refine ogP1 rfl rfl rfl (fun hg => ?_) (fun hg => ?_) | refine ogP0 rfl rfl rfl (fun hg => ?_) (fun hg => ?_)
                  all_goals try simp only [s1, s2, s3, s4, s5, s6, s7, s8, s9, s10, s11, s12] at hg
                  all_goals try (exfalso; first | omega | exact absurd trivial hg | (simp at hg; done); done)
                  all_goals first | refine oQ (Q_call (hld 0 (by omega)) [(0, 5)] rfl rfl (Fits.mk' (vHc rfl vHn) rfl rfl (by simp)) rfl rfl) rfl rfl ?_ | refine oQ (Q_call (hld 1 (by omega)) [(0, 6)] rfl rfl (Fits.mk' (vHc rfl vHn) rfl rfl (by simp)) rfl rfl) rfl rfl ?_ | skip
                  all_goals first | refine oT rfl rfl ?_ | refine o1 rfl rfl rfl ?_ | refine o0 rfl rfl rfl ?_ | refine ogP1 rfl rfl rfl (fun hg => ?_) (fun hg => ?_) | refine ogP0 rfl rfl rfl (fun hg => ?_) (fun hg => ?_)
                  all_goals try simp only [s1, s2, s3, s4, s5, s6, s7, s8, s9, s10, s11, s12] at hg
                  all_goals try (exfalso; first | omega | exact absurd trivial hg | (simp at hg; done); done)
                  all_goals first | (refine oM rfl rfl ?_) | skip
                  all_goals first | refine oT rfl rfl ?_ | refine o1 rfl rfl rfl ?_ | refine o0 rfl rfl rfl ?_ | refine ogP1 rfl rfl rfl (fun hg => ?_) (fun hg => ?_) | refine ogP0 rfl rfl rfl (fun hg => ?_) (fun hg => ?_)
                  all_goals try simp only [s1, s2, s3, s4, s5, s6, s7, s8, s9, s10, s11, s12] at hg
                  all_goals try (exfalso; first | omega | exact absurd trivial hg | (simp at hg; done); done)
                  all_goals first | (refine oQ (Q_bin rfl rfl rfl) rfl rfl ?_) | skip
                  all_goals first | refine oQ (Q_pick_t rfl (by with_reducible rfl) rfl rfl) rfl rfl ?_ | refine oQ (Q_pick_f rfl (by with_reducible rfl) rfl rfl) rfl rfl ?_
                  all_goals refine oN ?_
                  all_goals (
                   first | refine cT rfl ?_ | refine cF rfl ?_ | refine CW_cond rfl (fun hc => ?_) (fun hc => ?_)
                   all_goals try simp only [s1, s2, s3, s4, s5, s6, s7, s8, s9, s10, s11, s12] at hc
                   all_goals try (exfalso; first | omega | (simp at hc; done); done)
                   all_goals first
                     | (
                      refine CW_skip ?_)
                     | (
                      refine cR ?_
                      iterate 2 refine oM rfl rfl ?_
                      refine oBslv rfl rfl rfl rfl rfl rfl rfl rfl rfl rfl rfl rfl rfl ?_
                      first | refine oAppV (by_ := 24) (A := []) (sp := []) rfl rfl rfl rfl rfl rfl rfl rfl rfl rfl rfl rfl rfl rfl rfl rfl rfl rfl (by first | rfl | omega | (simp; omega)) (by omega) (by omega) rfl rfl (fun kO hkO => ?_) | refine oAppV (by_ := 24) rfl rfl rfl rfl rfl rfl rfl rfl rfl rfl rfl rfl rfl rfl rfl rfl rfl rfl (by first | rfl | omega | (simp; omega)) (by omega) (by omega) rfl rfl (fun kO hkO => ?_)
                      refine oA rfl rfl ?_
                      refine oN ?_
                      refine CW_region ?_
                      refine oA rfl rfl ?_
                      refine OW_nil ?_))
                  all_goals with_reducible refine tN ?_
                  all_goals (
                   refine CW_any (fun i => List.elem i [16, 17]) 18 rfl lateOk (by decide +kernel) (fun hst => ?_)
                   refine aP 0 hst rfl rfl (by decide +kernel) (PX_move rfl rfl) rfl rfl ?_
                   refine aP 1 hst rfl rfl (by decide +kernel) (PX_move rfl rfl) rfl rfl ?_
                   refine aP 2 hst rfl rfl (by decide +kernel) (PX_move rfl rfl) rfl rfl ?_
                   refine aP 3 hst rfl rfl (by decide +kernel) (PX_move rfl rfl) rfl rfl ?_
                   first | refine aQ 4 hst rfl rfl (by decide +kernel) (QX_of (Is0 rfl rfl rfl rfl rfl rfl) NE_ix) rfl rfl ?_ | refine aQ 4 hst rfl rfl (by decide +kernel) (QX_of (Is1 rfl rfl rfl rfl rfl rfl) NE_ix) rfl rfl ?_
                   refine aQ 5 hst rfl rfl (by decide +kernel) (QX_of (Q_ldv rfl rfl rfl rfl rfl rfl) NE_load) rfl rfl ?_
                   refine aP 6 hst rfl rfl (by decide +kernel) (PX_move rfl rfl) rfl rfl ?_
                   refine aP 7 hst rfl rfl (by decide +kernel) (PX_move rfl rfl) rfl rfl ?_
                   refine aP 8 hst rfl rfl (by decide +kernel) (PX_move rfl rfl) rfl rfl ?_
                   first | refine aQ 9 hst rfl rfl (by decide +kernel) (QX_of (Is0 rfl rfl rfl rfl rfl rfl) NE_ix) rfl rfl ?_ | refine aQ 9 hst rfl rfl (by decide +kernel) (QX_of (Is1 rfl rfl rfl rfl rfl rfl) NE_ix) rfl rfl ?_
                   refine aQ 10 hst rfl rfl (by decide +kernel) (QX_of (Q_ldv rfl rfl rfl rfl rfl rfl) NE_load) rfl rfl ?_
                   refine aP 11 hst rfl rfl (by decide +kernel) (PX_move rfl rfl) rfl rfl ?_
                   first | refine aQ 12 hst rfl rfl (by decide +kernel) (QX_of (Is0 rfl rfl rfl rfl rfl rfl) NE_ix) rfl rfl ?_ | refine aQ 12 hst rfl rfl (by decide +kernel) (QX_of (Is1 rfl rfl rfl rfl rfl rfl) NE_ix) rfl rfl ?_
                   refine aQ 13 hst rfl rfl (by decide +kernel) (QX_of (Ld rfl rfl rfl rfl) NE_load) rfl rfl ?_
                   rw [getD_app (by omega)]
                   refine AW_one (i := 14) (by decide +kernel) ?_
                   first
                     | (refine gCall rfl rfl (hl2 0 (hE 0 (by omega))) [(0, 5), (1, 6)] 3 rfl rfl (Fits.mk' (vHc rfl (vHc rfl vHn)) rfl rfl (by simp)) rfl rfl rfl ?_; rintro v1 H1 ⟨km0, sm0, hm0, hn0, rfl, rfl⟩; refine ⟨.slice 12 0 3 km0, [(5, .ints 2 (E 0 ++ S 0)), (6, .ints 2 (normL p R' ++ sn)), (12, .ints 2 (lsL p (E 0) (normL p R') ((E 0).getD a 0) 3 ++ sm0))], rfl, keep_pre _ _, rfl, rfl, ?_⟩)
                     | (refine gCall rfl rfl (hl2 0 (hE 0 (by omega))) [(0, 5), (1, 6)] 3 rfl rfl (Fits.mk' (vHc rfl (vHc rfl vHn)) rfl rfl (by simp)) rfl rfl rfl ?_; rintro v1 H1 ⟨km0, sm0, hm0, hn0, rfl, rfl⟩; refine ⟨.slice 10 0 3 km0, [(5, .ints 2 (E 0 ++ S 0)), (6, .ints 2 (normL p R' ++ sn)), (10, .ints 2 (lsL p (E 0) (normL p R') ((E 0).getD a 0) 3 ++ sm0))], rfl, keep_pre _ _, rfl, rfl, ?_⟩)
                     | (refine gCall rfl rfl (hl2 0 (hE 0 (by omega))) [(0, 5), (1, 7)] 3 rfl rfl (Fits.mk' (vHc rfl (vHc rfl vHn)) rfl rfl (by simp)) rfl rfl rfl ?_; rintro v1 H1 ⟨km0, sm0, hm0, hn0, rfl, rfl⟩; refine ⟨.slice 13 0 3 km0, [(5, .ints 2 (E 0 ++ S 0)), (7, .ints 2 (normL p R' ++ sn)), (13, .ints 2 (lsL p (E 0) (normL p R') ((E 0).getD a 0) 3 ++ sm0))], rfl, keep_pre _ _, rfl, rfl, ?_⟩)
                     | (refine gCall rfl rfl (hl2 1 (hE 1 (by omega))) [(0, 6), (1, 7)] 3 rfl rfl (Fits.mk' (vHc rfl (vHc rfl vHn)) rfl rfl (by simp)) rfl rfl rfl ?_; rintro v1 H1 ⟨km1, sm1, hm1, hn1, rfl, rfl⟩; refine ⟨.slice 18 0 3 km1, [(6, .ints 2 (E 1 ++ S 1)), (7, .ints 2 (normL p R' ++ sn)), (18, .ints 2 (lsL p (E 1) (normL p R') ((E 1).getD a 0) 3 ++ sm1))], rfl, keep_pre _ _, rfl, rfl, ?_⟩)
                     | (refine gCall rfl rfl (hl2 0 (hE 0 (by omega))) [(0, 5), (1, 7)] 3 rfl rfl (Fits.mk' (vHc rfl (vHc rfl vHn)) rfl rfl (by simp)) rfl rfl rfl ?_; rintro v1 H1 ⟨km0, sm0, hm0, hn0, rfl, rfl⟩; refine ⟨.slice 11 0 3 km0, [(5, .ints 2 (E 0 ++ S 0)), (7, .ints 2 (normL p R' ++ sn)), (11, .ints 2 (lsL p (E 0) (normL p R') ((E 0).getD a 0) 3 ++ sm0))], rfl, keep_pre _ _, rfl, rfl, ?_⟩)
                     | (refine gCall rfl rfl (hl2 1 (hE 1 (by omega))) [(0, 6), (1, 7)] 3 rfl rfl (Fits.mk' (vHc rfl (vHc rfl vHn)) rfl rfl (by simp)) rfl rfl rfl ?_; rintro v1 H1 ⟨km1, sm1, hm1, hn1, rfl, rfl⟩; refine ⟨.slice 18 0 3 km1, [(6, .ints 2 (E 1 ++ S 1)), (7, .ints 2 (normL p R' ++ sn)), (18, .ints 2 (lsL p (E 1) (normL p R') ((E 1).getD a 0) 3 ++ sm1))], rfl, keep_pre _ _, rfl, rfl, ?_⟩)
                     | (refine gCall rfl rfl (hl2 0 (hE 0 (by omega))) [(0, 5), (1, 7)] 3 rfl rfl (Fits.mk' (vHc rfl (vHc rfl vHn)) rfl rfl (by simp)) rfl rfl rfl ?_; rintro v1 H1 ⟨km0, sm0, hm0, hn0, rfl, rfl⟩; refine ⟨.slice 11 0 3 km0, [(5, .ints 2 (E 0 ++ S 0)), (7, .ints 2 (normL p R' ++ sn)), (11, .ints 2 (lsL p (E 0) (normL p R') ((E 0).getD a 0) 3 ++ sm0))], rfl, keep_pre _ _, rfl, rfl, ?_⟩)
                     | (refine gCall rfl rfl (hl2 1 (hE 1 (by omega))) [(0, 6), (1, 7)] 3 rfl rfl (Fits.mk' (vHc rfl (vHc rfl vHn)) rfl rfl (by simp)) rfl rfl rfl ?_; rintro v1 H1 ⟨km1, sm1, hm1, hn1, rfl, rfl⟩; refine ⟨.slice 16 0 3 km1, [(6, .ints 2 (E 1 ++ S 1)), (7, .ints 2 (normL p R' ++ sn)), (16, .ints 2 (lsL p (E 1) (normL p R') ((E 1).getD a 0) 3 ++ sm1))], rfl, keep_pre _ _, rfl, rfl, ?_⟩)
                   refine AW_one (i := 15) (by decide +kernel) ?_
                   refine gBslv rfl rfl rfl rfl rfl rfl rfl rfl rfl rfl rfl rfl rfl rfl rfl ?_
                   refine AW_last [16, 17] rfl (by decide +kernel) rfl ?_
                   first | refine oAppV (by_ := 24) (A := []) (sp := []) rfl rfl rfl rfl rfl rfl rfl rfl rfl rfl rfl rfl rfl rfl rfl rfl rfl rfl (by first | rfl | omega | (simp; omega)) (by omega) (by omega) rfl rfl (fun kO hkO => ?_) | refine oAppV (by_ := 24) rfl rfl rfl rfl rfl rfl rfl rfl rfl rfl rfl rfl rfl rfl rfl rfl rfl rfl (by first | rfl | omega | (simp; omega)) (by omega) (by omega) rfl rfl (fun kO hkO => ?_)
                   refine oA rfl rfl ?_
                   refine OW_nil (npN ?_))
                  all_goals first | with_reducible refine bN ?_ | with_reducible refine bE ?_ | with_reducible refine bR ?_ | refine bX rfl ?_
                  all_goals with_reducible refine tN ?_
                  all_goals (
                   refine CW_region ?_
                   refine oM rfl rfl ?_
                   first | refine oQ (Q_binu rfl rfl rfl (by omega)) rfl rfl ?_ | refine oQ (Q_bin rfl rfl rfl) rfl rfl ?_
                   refine oA rfl rfl ?_
                   refine OW_nil ?_))
               all_goals first
                 | with_reducible refine tR ?_
                 | with_reducible refine tE ?_
                 | (
                  with_reducible refine tN ?_
                  refine RW_succ ?_
                  refine CW_seq ?_
                  refine cR ?_
                  iterate 2 refine oM rfl rfl ?_
                  first | refine oQ (Q_len rfl rfl rfl rfl) rfl rfl ?_ | refine oQ (Q_len0 rfl rfl rfl rfl) rfl rfl ?_
                  refine oQ (Q_bin rfl rfl rfl) rfl rfl ?_
                  refine oN ?_
                  first | refine cT rfl ?_ | refine cF rfl ?_ | refine CW_cond rfl (fun hc => ?_) (fun hc => ?_)
                  all_goals try simp only [s1, s2, s3, s4, s5, s6, s7, s8, s9, s10, s11, s12] at hc
                  all_goals try (exfalso; first | omega | (simp at hc; done); done)
                  all_goals first
                    | (
                     refine CW_skip ?_)
                    | (
                     refine CW_exit ?_)
                  all_goals first
                    | with_reducible refine tR ?_
                    | with_reducible refine tE ?_
                    | (
                     with_reducible refine tN ?_
                     refine CW_seq ?_
                     refine CW_block ?_
                     refine CW_seq ?_
                     refine cR ?_
                     refine oM rfl rfl ?_
                     refine oQ (Q_not rfl) rfl rfl ?_
                     refine oM rfl rfl ?_
                     all_goals first | refine oT rfl rfl ?_ | refine o1 rfl rfl rfl ?_ | refine o0 rfl rfl rfl ?_ | refine ogP1 rfl rfl rfl (fun hg => ?_) (fun hg => ?_) | refine ogP0 rfl rfl rfl (fun hg => ?_) (fun hg => ?_)
                     all_goals try simp only [s1, s2, s3, s4, s5, s6, s7, s8, s9, s10, s11, s12] at hg
                     all_goals try (exfalso; first | omega | exact absurd trivial hg | (simp at hg; done); done)
                     all_goals first | (refine oM rfl rfl ?_) | skip
                     all_goals first | refine oT rfl rfl ?_ | refine o1 rfl rfl rfl ?_ | refine o0 rfl rfl rfl ?_ | refine ogP1 rfl rfl rfl (fun hg => ?_) (fun hg => ?_) | refine ogP0 rfl rfl rfl (fun hg => ?_) (fun hg => ?_)
                     all_goals try simp only [s1, s2, s3, s4, s5, s6, s7, s8, s9, s10, s11, s12] at hg
                     all_goals try (exfalso; first | omega | exact absurd trivial hg | (simp at hg; done); done)
                     all_goals first | (refine oM rfl rfl ?_) | skip
                     all_goals first | refine oT rfl rfl ?_ | refine o1 rfl rfl rfl ?_ | refine o0 rfl rfl rfl ?_ | refine ogP1 rfl rfl rfl (fun hg => ?_) (fun hg => ?_) | refine ogP0 rfl rfl rfl (fun hg => ?_) (fun hg => ?_)
                     all_goals try simp only [s1, s2, s3, s4, s5, s6, s7, s8, s9, s10, s11, s12] at hg
                     all_goals try (exfalso; first | omega | exact absurd trivial hg | (simp at hg; done); done)
                     all_goals first | refine oQ (Is0 rfl rfl rfl rfl rfl rfl) rfl rfl ?_ | refine oQ (Is1 rfl rfl rfl rfl rfl rfl) rfl rfl ?_ | skip
                     all_goals first | refine oT rfl rfl ?_ | refine o1 rfl rfl rfl ?_ | refine o0 rfl rfl rfl ?_ | refine ogP1 rfl rfl rfl (fun hg => ?_) (fun hg => ?_) | refine ogP0 rfl rfl rfl (fun hg => ?_) (fun hg => ?_)
                     all_goals try simp only [s1, s2, s3, s4, s5, s6, s7, s8, s9, s10, s11, s12] at hg
                     all_goals try (exfalso; first | omega | exact absurd trivial hg | (simp at hg; done); done)
                     all_goals first | (refine oQ (Q_ldv rfl rfl rfl rfl rfl rfl) rfl rfl ?_) | skip
                     all_goals first | refine oT rfl rfl ?_ | refine o1 rfl rfl rfl ?_ | refine o0 rfl rfl rfl ?_ | refine ogP1 rfl rfl rfl (fun hg => ?_) (fun hg => ?_) | refine ogP0 rfl rfl rfl (fun hg => ?_) (fun hg => ?_)
                     all_goals try simp only [s1, s2, s3, s4, s5, s6, s7, s8, s9, s10, s11, s12] at hg
                     all_goals try (exfalso; first | omega | exact absurd trivial hg | (simp at hg; done); done)
                     all_goals first | refine oQ (Q_call (hld 0 (by omega)) [(0, 5)] rfl rfl (Fits.mk' (vHc rfl vHn) rfl rfl (by simp)) rfl rfl) rfl rfl ?_ | refine oQ (Q_call (hld 1 (by omega)) [(0, 6)] rfl rfl (Fits.mk' (vHc rfl vHn) rfl rfl (by simp)) rfl rfl) rfl rfl ?_ | skip
                     all_goals first | refine oT rfl rfl ?_ | refine o1 rfl rfl rfl ?_ | refine o0 rfl rfl rfl ?_ | refine ogP1 rfl rfl rfl (fun hg => ?_) (fun hg => ?_) | refine ogP0 rfl rfl rfl (fun hg => ?_) (fun hg => ?_)
                     all_goals try simp only [s1, s2, s3, s4, s5, s6, s7, s8, s9, s10, s11, s12] at hg
                     all_goals try (exfalso; first | omega | exact absurd trivial hg | (simp at hg; done); done)
                     all_goals first | (refine oM rfl rfl ?_) | skip
                     all_goals first | refine oT rfl rfl ?_ | refine o1 rfl rfl rfl ?_ | refine o0 rfl rfl rfl ?_ | refine ogP1 rfl rfl rfl (fun hg => ?_) (fun hg => ?_) | refine ogP0 rfl rfl rfl (fun hg => ?_) (fun hg => ?_)
                     all_goals try simp only [s1, s2, s3, s4, s5, s6, s7, s8, s9, s10, s11, s12] at hg
                     all_goals try (exfalso; first | omega | exact absurd trivial hg | (simp at hg; done); done)
                     all_goals first | (refine oQ (Q_bin rfl rfl rfl) rfl rfl ?_) | skip
                     all_goals first | refine oQ (Q_pick_t rfl (by with_reducible rfl) rfl rfl) rfl rfl ?_ | refine oQ (Q_pick_f rfl (by with_reducible rfl) rfl rfl) rfl rfl ?_
                     all_goals refine oN ?_
                     all_goals (
                      first | refine cT rfl ?_ | refine cF rfl ?_ | refine CW_cond rfl (fun hc => ?_) (fun hc => ?_)
                      all_goals try simp only [s1, s2, s3, s4, s5, s6, s7, s8, s9, s10, s11, s12] at hc
                      all_goals try (exfalso; first | omega | (simp at hc; done); done)
                      all_goals first
                        | (
                         refine CW_skip ?_)
                        | (
                         refine cR ?_
                         iterate 2 refine oM rfl rfl ?_
                         refine oBslv rfl rfl rfl rfl rfl rfl rfl rfl rfl rfl rfl rfl rfl ?_
                         first | refine oAppV (by_ := 24) (A := []) (sp := []) rfl rfl rfl rfl rfl rfl rfl rfl rfl rfl rfl rfl rfl rfl rfl rfl rfl rfl (by first | rfl | omega | (simp; omega)) (by omega) (by omega) rfl rfl (fun kO hkO => ?_) | refine oAppV (by_ := 24) rfl rfl rfl rfl rfl rfl rfl rfl rfl rfl rfl rfl rfl rfl rfl rfl rfl rfl (by first | rfl | omega | (simp; omega)) (by omega) (by omega) rfl rfl (fun kO hkO => ?_)
                         refine oA rfl rfl ?_
                         refine oN ?_
                         refine CW_region ?_
                         refine oA rfl rfl ?_
                         refine OW_nil ?_))
                     all_goals with_reducible refine tN ?_
                     all_goals (
                      refine CW_any (fun i => List.elem i [16, 17]) 18 rfl lateOk (by decide +kernel) (fun hst => ?_)
                      refine aP 0 hst rfl rfl (by decide +kernel) (PX_move rfl rfl) rfl rfl ?_
                      refine aP 1 hst rfl rfl (by decide +kernel) (PX_move rfl rfl) rfl rfl ?_
                      refine aP 2 hst rfl rfl (by decide +kernel) (PX_move rfl rfl) rfl rfl ?_
                      refine aP 3 hst rfl rfl (by decide +kernel) (PX_move rfl rfl) rfl rfl ?_
                      first | refine aQ 4 hst rfl rfl (by decide +kernel) (QX_of (Is0 rfl rfl rfl rfl rfl rfl) NE_ix) rfl rfl ?_ | refine aQ 4 hst rfl rfl (by decide +kernel) (QX_of (Is1 rfl rfl rfl rfl rfl rfl) NE_ix) rfl rfl ?_
                      refine aQ 5 hst rfl rfl (by decide +kernel) (QX_of (Q_ldv rfl rfl rfl rfl rfl rfl) NE_load) rfl rfl ?_
                      refine aP 6 hst rfl rfl (by decide +kernel) (PX_move rfl rfl) rfl rfl ?_
                      refine aP 7 hst rfl rfl (by decide +kernel) (PX_move rfl rfl) rfl rfl ?_
                      refine aP 8 hst rfl rfl (by decide +kernel) (PX_move rfl rfl) rfl rfl ?_
                      first | refine aQ 9 hst rfl rfl (by decide +kernel) (QX_of (Is0 rfl rfl rfl rfl rfl rfl) NE_ix) rfl rfl ?_ | refine aQ 9 hst rfl rfl (by decide +kernel) (QX_of (Is1 rfl rfl rfl rfl rfl rfl) NE_ix) rfl rfl ?_
                      refine aQ 10 hst rfl rfl (by decide +kernel) (QX_of (Q_ldv rfl rfl rfl rfl rfl rfl) NE_load) rfl rfl ?_
                      refine aP 11 hst rfl rfl (by decide +kernel) (PX_move rfl rfl) rfl rfl ?_
                      first | refine aQ 12 hst rfl rfl (by decide +kernel) (QX_of (Is0 rfl rfl rfl rfl rfl rfl) NE_ix) rfl rfl ?_ | refine aQ 12 hst rfl rfl (by decide +kernel) (QX_of (Is1 rfl rfl rfl rfl rfl rfl) NE_ix) rfl rfl ?_
                      refine aQ 13 hst rfl rfl (by decide +kernel) (QX_of (Ld rfl rfl rfl rfl) NE_load) rfl rfl ?_
                      rw [getD_app (by omega)]
                      refine AW_one (i := 14) (by decide +kernel) ?_
                      first
                        | (refine gCall rfl rfl (hl2 0 (hE 0 (by omega))) [(0, 5), (1, 6)] 3 rfl rfl (Fits.mk' (vHc rfl (vHc rfl vHn)) rfl rfl (by simp)) rfl rfl rfl ?_; rintro v1 H1 ⟨km0, sm0, hm0, hn0, rfl, rfl⟩; refine ⟨.slice 12 0 3 km0, [(5, .ints 2 (E 0 ++ S 0)), (6, .ints 2 (normL p R' ++ sn)), (12, .ints 2 (lsL p (E 0) (normL p R') ((E 0).getD a 0) 3 ++ sm0))], rfl, keep_pre _ _, rfl, rfl, ?_⟩)
                        | (refine gCall rfl rfl (hl2 0 (hE 0 (by omega))) [(0, 5), (1, 6)] 3 rfl rfl (Fits.mk' (vHc rfl (vHc rfl vHn)) rfl rfl (by simp)) rfl rfl rfl ?_; rintro v1 H1 ⟨km0, sm0, hm0, hn0, rfl, rfl⟩; refine ⟨.slice 10 0 3 km0, [(5, .ints 2 (E 0 ++ S 0)), (6, .ints 2 (normL p R' ++ sn)), (10, .ints 2 (lsL p (E 0) (normL p R') ((E 0).getD a 0) 3 ++ sm0))], rfl, keep_pre _ _, rfl, rfl, ?_⟩)
                        | (refine gCall rfl rfl (hl2 0 (hE 0 (by omega))) [(0, 5), (1, 7)] 3 rfl rfl (Fits.mk' (vHc rfl (vHc rfl vHn)) rfl rfl (by simp)) rfl rfl rfl ?_; rintro v1 H1 ⟨km0, sm0, hm0, hn0, rfl, rfl⟩; refine ⟨.slice 13 0 3 km0, [(5, .ints 2 (E 0 ++ S 0)), (7, .ints 2 (normL p R' ++ sn)), (13, .ints 2 (lsL p (E 0) (normL p R') ((E 0).getD a 0) 3 ++ sm0))], rfl, keep_pre _ _, rfl, rfl, ?_⟩)
                        | (refine gCall rfl rfl (hl2 1 (hE 1 (by omega))) [(0, 6), (1, 7)] 3 rfl rfl (Fits.mk' (vHc rfl (vHc rfl vHn)) rfl rfl (by simp)) rfl rfl rfl ?_; rintro v1 H1 ⟨km1, sm1, hm1, hn1, rfl, rfl⟩; refine ⟨.slice 18 0 3 km1, [(6, .ints 2 (E 1 ++ S 1)), (7, .ints 2 (normL p R' ++ sn)), (18, .ints 2 (lsL p (E 1) (normL p R') ((E 1).getD a 0) 3 ++ sm1))], rfl, keep_pre _ _, rfl, rfl, ?_⟩)
                        | (refine gCall rfl rfl (hl2 0 (hE 0 (by omega))) [(0, 5), (1, 7)] 3 rfl rfl (Fits.mk' (vHc rfl (vHc rfl vHn)) rfl rfl (by simp)) rfl rfl rfl ?_; rintro v1 H1 ⟨km0, sm0, hm0, hn0, rfl, rfl⟩; refine ⟨.slice 11 0 3 km0, [(5, .ints 2 (E 0 ++ S 0)), (7, .ints 2 (normL p R' ++ sn)), (11, .ints 2 (lsL p (E 0) (normL p R') ((E 0).getD a 0) 3 ++ sm0))], rfl, keep_pre _ _, rfl, rfl, ?_⟩)
                        | (refine gCall rfl rfl (hl2 1 (hE 1 (by omega))) [(0, 6), (1, 7)] 3 rfl rfl (Fits.mk' (vHc rfl (vHc rfl vHn)) rfl rfl (by simp)) rfl rfl rfl ?_; rintro v1 H1 ⟨km1, sm1, hm1, hn1, rfl, rfl⟩; refine ⟨.slice 18 0 3 km1, [(6, .ints 2 (E 1 ++ S 1)), (7, .ints 2 (normL p R' ++ sn)), (18, .ints 2 (lsL p (E 1) (normL p R') ((E 1).getD a 0) 3 ++ sm1))], rfl, keep_pre _ _, rfl, rfl, ?_⟩)
                        | (refine gCall rfl rfl (hl2 0 (hE 0 (by omega))) [(0, 5), (1, 7)] 3 rfl rfl (Fits.mk' (vHc rfl (vHc rfl vHn)) rfl rfl (by simp)) rfl rfl rfl ?_; rintro v1 H1 ⟨km0, sm0, hm0, hn0, rfl, rfl⟩; refine ⟨.slice 11 0 3 km0, [(5, .ints 2 (E 0 ++ S 0)), (7, .ints 2 (normL p R' ++ sn)), (11, .ints 2 (lsL p (E 0) (normL p R') ((E 0).getD a 0) 3 ++ sm0))], rfl, keep_pre _ _, rfl, rfl, ?_⟩)
                        | (refine gCall rfl rfl (hl2 1 (hE 1 (by omega))) [(0, 6), (1, 7)] 3 rfl rfl (Fits.mk' (vHc rfl (vHc rfl vHn)) rfl rfl (by simp)) rfl rfl rfl ?_; rintro v1 H1 ⟨km1, sm1, hm1, hn1, rfl, rfl⟩; refine ⟨.slice 16 0 3 km1, [(6, .ints 2 (E 1 ++ S 1)), (7, .ints 2 (normL p R' ++ sn)), (16, .ints 2 (lsL p (E 1) (normL p R') ((E 1).getD a 0) 3 ++ sm1))], rfl, keep_pre _ _, rfl, rfl, ?_⟩)
                      refine AW_one (i := 15) (by decide +kernel) ?_
                      refine gBslv rfl rfl rfl rfl rfl rfl rfl rfl rfl rfl rfl rfl rfl rfl rfl ?_
                      refine AW_last [16, 17] rfl (by decide +kernel) rfl ?_
                      first | refine oAppV (by_ := 24) (A := []) (sp := []) rfl rfl rfl rfl rfl rfl rfl rfl rfl rfl rfl rfl rfl rfl rfl rfl rfl rfl (by first | rfl | omega | (simp; omega)) (by omega) (by omega) rfl rfl (fun kO hkO => ?_) | refine oAppV (by_ := 24) rfl rfl rfl rfl rfl rfl rfl rfl rfl rfl rfl rfl rfl rfl rfl rfl rfl rfl (by first | rfl | omega | (simp; omega)) (by omega) (by omega) rfl rfl (fun kO hkO => ?_)
                      refine oA rfl rfl ?_
                      refine OW_nil (npN ?_))
                     all_goals first | with_reducible refine bN ?_ | with_reducible refine bE ?_ | with_reducible refine bR ?_ | refine bX rfl ?_
                     all_goals with_reducible refine tN ?_
                     all_goals (
                      refine CW_region ?_
                      refine oM rfl rfl ?_
                      first | refine oQ (Q_binu rfl rfl rfl (by omega)) rfl rfl ?_ | refine oQ (Q_bin rfl rfl rfl) rfl rfl ?_
                      refine oA rfl rfl ?_
                      refine OW_nil ?_))
                  all_goals first
                    | with_reducible refine tR ?_
                    | with_reducible refine tE ?_
                    | (
                     with_reducible refine tN ?_
                     exfalso; first | omega | (simp at hc; done) | (simp_all; done)))))
         all_goals first | with_reducible refine bN ?_ | with_reducible refine bE ?_ | with_reducible refine bR ?_ | refine bX rfl ?_
         all_goals with_reducible refine tN ?_
         all_goals (
          refine CW_seq ?_
          refine cR ?_
          refine oM rfl rfl ?_
          refine oQ (Q_not rfl) rfl rfl ?_
          refine oN ?_
          first | refine cT rfl ?_ | refine cF rfl ?_ | refine CW_cond rfl (fun hc => ?_) (fun hc => ?_)
          all_goals try simp only [s1, s2, s3, s4, s5, s6, s7, s8, s9, s10, s11, s12] at hc
          all_goals try (exfalso; first | omega | (simp at hc; done); done)
          all_goals first
            | (
             refine CW_skip ?_)
            | (
             refine CW_region ?_
             iterate 2 refine oM rfl rfl ?_
             refine oBslv rfl rfl rfl rfl rfl rfl rfl rfl rfl rfl rfl rfl rfl ?_
             first | refine oAppV (by_ := 24) (A := []) (sp := []) rfl rfl rfl rfl rfl rfl rfl rfl rfl rfl rfl rfl rfl rfl rfl rfl rfl rfl (by first | rfl | omega | (simp; omega)) (by omega) (by omega) rfl rfl (fun kO hkO => ?_) | refine oAppV (by_ := 24) rfl rfl rfl rfl rfl rfl rfl rfl rfl rfl rfl rfl rfl rfl rfl rfl rfl rfl (by first | rfl | omega | (simp; omega)) (by omega) (by omega) rfl rfl (fun kO hkO => ?_)
             refine oA rfl rfl ?_
             refine OW_nil ?_)
          all_goals with_reducible refine tN ?_
          all_goals (
           refine CW_region ?_
           refine oM rfl rfl ?_
           refine oA rfl rfl ?_
           refine OW_nil ?_)))
      all_goals first | with_reducible refine bN ?_ | with_reducible refine bE ?_ | with_reducible refine bR ?_ | refine bX rfl ?_
      all_goals with_reducible refine tN ?_
      all_goals (
       refine CW_region ?_
       refine oM rfl rfl ?_
       first | refine oQ (Q_binu rfl rfl rfl (by omega)) rfl rfl ?_ | refine oQ (Q_bin rfl rfl rfl) rfl rfl ?_
       refine oA rfl rfl ?_
       refine OW_nil ?_))
   all_goals first
     | with_reducible refine tR ?_
     | with_reducible refine tE ?_
     | (
      with_reducible refine tN ?_
      first
        | (
         refine ⟨⟨i + 1, 0, kO, E, K, S, P⟩, ?_, ?_, View.mk' [] rfl (by simp only [wfB, List.all_cons, List.all_nil, ids_bots]; rfl) rfl ?_ ?_⟩
         · try dsimp only
           refine ⟨by omega, by omega, ?_, ?_⟩
           · first | exact hE | (intro z hz; (have e : z = 0 ∨ z = 1 ∨ z = 2 := by omega); rcases e with rfl | rfl | rfl <;> first | exact rwB_ls hp0 _ _ _ _ | exact hN | (exfalso; omega))
           · first
               | exact EcI_skip hp hEc hMi hE (by rw [← hR']; omega)
               | (refine EcI_put hp hEc hMi hE (by decide) ha (by rw [← hR']; exact ha0) (by rw [← hR']; exact ha1) ?_ ?_ ?_
                  · rw [← hR']; intro z hz; (have e : z = 0 ∨ z = 1 ∨ z = 2 := by omega); (rcases e with rfl | rfl | rfl <;> first | rfl | (exfalso; omega))
                  · first | (rw [← hR']; done) | (rw [← hR']; rfl)
                  · rw [← hR']; intro z hz hz2; (have e : z = 0 ∨ z = 1 ∨ z = 2 := by omega); (rcases e with rfl | rfl | rfl <;> first | rfl | (exfalso; omega)))
         · (try dsimp only); omega
         all_goals (repeat' first | exact vFn | refine vFc rfl ?_ | exact vHn | refine vHc rfl ?_ | refine vFc (congrArg (fun z => some (V.int z)) ?_) ?_ | refine vHc (congrArg (fun z => some (Blk.ints _ z)) ?_) ?_ | refine vFc (congrArg (fun z => some (V.bool z)) ?_) ?_ | refine vFs rfl rfl ?_ ?_ | refine vHc (by rw [ren_bots]; rfl) ?_)
         all_goals first | rfl | omega
         done)
        | (
         refine ⟨⟨i + 1, 1, kO, E, K, S, P⟩, ?_, ?_, View.mk' [] rfl (by simp only [wfB, List.all_cons, List.all_nil, ids_bots]; rfl) rfl ?_ ?_⟩
         · try dsimp only
           refine ⟨by omega, by omega, ?_, ?_⟩
           · first | exact hE | (intro z hz; (have e : z = 0 ∨ z = 1 ∨ z = 2 := by omega); rcases e with rfl | rfl | rfl <;> first | exact rwB_ls hp0 _ _ _ _ | exact hN | (exfalso; omega))
           · first
               | exact EcI_skip hp hEc hMi hE (by rw [← hR']; omega)
               | (refine EcI_put hp hEc hMi hE (by decide) ha (by rw [← hR']; exact ha0) (by rw [← hR']; exact ha1) ?_ ?_ ?_
                  · rw [← hR']; intro z hz; (have e : z = 0 ∨ z = 1 ∨ z = 2 := by omega); (rcases e with rfl | rfl | rfl <;> first | rfl | (exfalso; omega))
                  · first | (rw [← hR']; done) | (rw [← hR']; rfl)
                  · rw [← hR']; intro z hz hz2; (have e : z = 0 ∨ z = 1 ∨ z = 2 := by omega); (rcases e with rfl | rfl | rfl <;> first | rfl | (exfalso; omega)))
         · (try dsimp only); omega
         all_goals (repeat' first | exact vFn | refine vFc rfl ?_ | exact vHn | refine vHc rfl ?_ | refine vFc (congrArg (fun z => some (V.int z)) ?_) ?_ | refine vHc (congrArg (fun z => some (Blk.ints _ z)) ?_) ?_ | refine vFc (congrArg (fun z => some (V.bool z)) ?_) ?_ | refine vFs rfl rfl ?_ ?_ | refine vHc (by rw [ren_bots]; rfl) ?_)
         all_goals first | rfl | omega
         done)
        | (
         refine ⟨⟨i + 1, 2, kO, E, K, S, P⟩, ?_, ?_, View.mk' [] rfl (by simp only [wfB, List.all_cons, List.all_nil, ids_bots]; rfl) rfl ?_ ?_⟩
         · try dsimp only
           refine ⟨by omega, by omega, ?_, ?_⟩
           · first | exact hE | (intro z hz; (have e : z = 0 ∨ z = 1 ∨ z = 2 := by omega); rcases e with rfl | rfl | rfl <;> first | exact rwB_ls hp0 _ _ _ _ | exact hN | (exfalso; omega))
           · first
               | exact EcI_skip hp hEc hMi hE (by rw [← hR']; omega)
               | (refine EcI_put hp hEc hMi hE (by decide) ha (by rw [← hR']; exact ha0) (by rw [← hR']; exact ha1) ?_ ?_ ?_
                  · rw [← hR']; intro z hz; (have e : z = 0 ∨ z = 1 ∨ z = 2 := by omega); (rcases e with rfl | rfl | rfl <;> first | rfl | (exfalso; omega))
                  · first | (rw [← hR']; done) | (rw [← hR']; rfl)
                  · rw [← hR']; intro z hz hz2; (have e : z = 0 ∨ z = 1 ∨ z = 2 := by omega); (rcases e with rfl | rfl | rfl <;> first | rfl | (exfalso; omega)))
         · (try dsimp only); omega
         all_goals (repeat' first | exact vFn | refine vFc rfl ?_ | exact vHn | refine vHc rfl ?_ | refine vFc (congrArg (fun z => some (V.int z)) ?_) ?_ | refine vHc (congrArg (fun z => some (Blk.ints _ z)) ?_) ?_ | refine vFc (congrArg (fun z => some (V.bool z)) ?_) ?_ | refine vFs rfl rfl ?_ ?_ | refine vHc (by rw [ren_bots]; rfl) ?_)
         all_goals first | rfl | omega
         done)
        | (
         refine ⟨⟨i + 1, 0 + 1, kO, fun j => match j with | _ => normL p R', fun j => match j with | _ => kn, fun j => match j with | _ => sn, inP P 0 a⟩, ?_, ?_, View.mk' [(4, 8), (5, 5)] rfl (by simp only [wfB, List.all_cons, List.all_nil, ids_bots]; rfl) rfl ?_ ?_⟩
         · try dsimp only
           refine ⟨by omega, by omega, ?_, ?_⟩
           · first | exact hE | (intro z hz; (have e : z = 0 ∨ z = 1 ∨ z = 2 := by omega); rcases e with rfl | rfl | rfl <;> first | exact rwB_ls hp0 _ _ _ _ | exact hN | (exfalso; omega))
           · first
               | exact EcI_skip hp hEc hMi hE (by rw [← hR']; omega)
               | (refine EcI_put hp hEc hMi hE (by decide) ha (by rw [← hR']; exact ha0) (by rw [← hR']; exact ha1) ?_ ?_ ?_
                  · rw [← hR']; intro z hz; (have e : z = 0 ∨ z = 1 ∨ z = 2 := by omega); (rcases e with rfl | rfl | rfl <;> first | rfl | (exfalso; omega))
                  · first | (rw [← hR']; done) | (rw [← hR']; rfl)
                  · rw [← hR']; intro z hz hz2; (have e : z = 0 ∨ z = 1 ∨ z = 2 := by omega); (rcases e with rfl | rfl | rfl <;> first | rfl | (exfalso; omega)))
         · (try dsimp only); omega
         all_goals (repeat' first | exact vFn | refine vFc rfl ?_ | exact vHn | refine vHc rfl ?_ | refine vFc (congrArg (fun z => some (V.int z)) ?_) ?_ | refine vHc (congrArg (fun z => some (Blk.ints _ z)) ?_) ?_ | refine vFc (congrArg (fun z => some (V.bool z)) ?_) ?_ | refine vFs rfl rfl ?_ ?_ | refine vHc (by rw [ren_bots]; rfl) ?_)
         all_goals first | rfl | omega
         done)
        | (
         refine ⟨⟨i + 1, 1 + 1, kO, fun j => match j with | 0 => normL p R' | _ => lsL p (E 0) (normL p R') ((E 0).getD a 0) 3, fun j => match j with | 0 => kn | _ => km0, fun j => match j with | 0 => sn | _ => sm0, inP P 0 a⟩, ?_, ?_, View.mk' [(4, 14), (5, 6), (6, 12)] rfl (by simp only [wfB, List.all_cons, List.all_nil, ids_bots]; rfl) rfl ?_ ?_⟩
         · try dsimp only
           refine ⟨by omega, by omega, ?_, ?_⟩
           · first | exact hE | (intro z hz; (have e : z = 0 ∨ z = 1 ∨ z = 2 := by omega); rcases e with rfl | rfl | rfl <;> first | exact rwB_ls hp0 _ _ _ _ | exact hN | (exfalso; omega))
           · first
               | exact EcI_skip hp hEc hMi hE (by rw [← hR']; omega)
               | (refine EcI_put hp hEc hMi hE (by decide) ha (by rw [← hR']; exact ha0) (by rw [← hR']; exact ha1) ?_ ?_ ?_
                  · rw [← hR']; intro z hz; (have e : z = 0 ∨ z = 1 ∨ z = 2 := by omega); (rcases e with rfl | rfl | rfl <;> first | rfl | (exfalso; omega))
                  · first | (rw [← hR']; done) | (rw [← hR']; rfl)
                  · rw [← hR']; intro z hz hz2; (have e : z = 0 ∨ z = 1 ∨ z = 2 := by omega); (rcases e with rfl | rfl | rfl <;> first | rfl | (exfalso; omega)))
         · (try dsimp only); omega
         all_goals (repeat' first | exact vFn | refine vFc rfl ?_ | exact vHn | refine vHc rfl ?_ | refine vFc (congrArg (fun z => some (V.int z)) ?_) ?_ | refine vHc (congrArg (fun z => some (Blk.ints _ z)) ?_) ?_ | refine vFc (congrArg (fun z => some (V.bool z)) ?_) ?_ | refine vFs rfl rfl ?_ ?_ | refine vHc (by rw [ren_bots]; rfl) ?_)
         all_goals first | rfl | omega
         done)
        | (
         refine ⟨⟨i + 1, 1 + 1, kO, fun j => match j with | 0 => lsL p (E 0) (normL p R') ((E 0).getD a 0) 3 | _ => normL p R', fun j => match j with | 0 => km0 | _ => kn, fun j => match j with | 0 => sm0 | _ => sn, inP P 1 a⟩, ?_, ?_, View.mk' [(4, 14), (5, 10), (6, 6)] rfl (by simp only [wfB, List.all_cons, List.all_nil, ids_bots]; rfl) rfl ?_ ?_⟩
         · try dsimp only
           refine ⟨by omega, by omega, ?_, ?_⟩
           · first | exact hE | (intro z hz; (have e : z = 0 ∨ z = 1 ∨ z = 2 := by omega); rcases e with rfl | rfl | rfl <;> first | exact rwB_ls hp0 _ _ _ _ | exact hN | (exfalso; omega))
           · first
               | exact EcI_skip hp hEc hMi hE (by rw [← hR']; omega)
               | (refine EcI_put hp hEc hMi hE (by decide) ha (by rw [← hR']; exact ha0) (by rw [← hR']; exact ha1) ?_ ?_ ?_
                  · rw [← hR']; intro z hz; (have e : z = 0 ∨ z = 1 ∨ z = 2 := by omega); (rcases e with rfl | rfl | rfl <;> first | rfl | (exfalso; omega))
                  · first | (rw [← hR']; done) | (rw [← hR']; rfl)
                  · rw [← hR']; intro z hz hz2; (have e : z = 0 ∨ z = 1 ∨ z = 2 := by omega); (rcases e with rfl | rfl | rfl <;> first | rfl | (exfalso; omega)))
         · (try dsimp only); omega
         all_goals (repeat' first | exact vFn | refine vFc rfl ?_ | exact vHn | refine vHc rfl ?_ | refine vFc (congrArg (fun z => some (V.int z)) ?_) ?_ | refine vHc (congrArg (fun z => some (Blk.ints _ z)) ?_) ?_ | refine vFc (congrArg (fun z => some (V.bool z)) ?_) ?_ | refine vFs rfl rfl ?_ ?_ | refine vHc (by rw [ren_bots]; rfl) ?_)
         all_goals first | rfl | omega
         done)
        | (
         refine ⟨⟨i + 1, 2 + 1, kO, fun j => match j with | 0 => normL p R' | 1 => lsL p (E 0) (normL p R') ((E 0).getD a 0) 3 | _ => lsL p (E 1) (normL p R') ((E 1).getD a 0) 3, fun j => match j with | 0 => kn | 1 => km0 | _ => km1, fun j => match j with | 0 => sn | 1 => sm0 | _ => sm1, inP P 0 a⟩, ?_, ?_, View.mk' [(4, 20), (5, 7), (6, 13), (7, 18)] rfl (by simp only [wfB, List.all_cons, List.all_nil, ids_bots]; rfl) rfl ?_ ?_⟩
         · try dsimp only
           refine ⟨by omega, by omega, ?_, ?_⟩
           · first | exact hE | (intro z hz; (have e : z = 0 ∨ z = 1 ∨ z = 2 := by omega); rcases e with rfl | rfl | rfl <;> first | exact rwB_ls hp0 _ _ _ _ | exact hN | (exfalso; omega))
           · first
               | exact EcI_skip hp hEc hMi hE (by rw [← hR']; omega)
               | (refine EcI_put hp hEc hMi hE (by decide) ha (by rw [← hR']; exact ha0) (by rw [← hR']; exact ha1) ?_ ?_ ?_
                  · rw [← hR']; intro z hz; (have e : z = 0 ∨ z = 1 ∨ z = 2 := by omega); (rcases e with rfl | rfl | rfl <;> first | rfl | (exfalso; omega))
                  · first | (rw [← hR']; done) | (rw [← hR']; rfl)
                  · rw [← hR']; intro z hz hz2; (have e : z = 0 ∨ z = 1 ∨ z = 2 := by omega); (rcases e with rfl | rfl | rfl <;> first | rfl | (exfalso; omega)))
         · (try dsimp only); omega
         all_goals (repeat' first | exact vFn | refine vFc rfl ?_ | exact vHn | refine vHc rfl ?_ | refine vFc (congrArg (fun z => some (V.int z)) ?_) ?_ | refine vHc (congrArg (fun z => some (Blk.ints _ z)) ?_) ?_ | refine vFc (congrArg (fun z => some (V.bool z)) ?_) ?_ | refine vFs rfl rfl ?_ ?_ | refine vHc (by rw [ren_bots]; rfl) ?_)
         all_goals first | rfl | omega
         done)
        | (
         refine ⟨⟨i + 1, 2 + 1, kO, fun j => match j with | 0 => lsL p (E 0) (normL p R') ((E 0).getD a 0) 3 | 1 => normL p R' | _ => lsL p (E 1) (normL p R') ((E 1).getD a 0) 3, fun j => match j with | 0 => km0 | 1 => kn | _ => km1, fun j => match j with | 0 => sm0 | 1 => sn | _ => sm1, inP P 1 a⟩, ?_, ?_, View.mk' [(4, 20), (5, 11), (6, 7), (7, 18)] rfl (by simp only [wfB, List.all_cons, List.all_nil, ids_bots]; rfl) rfl ?_ ?_⟩
         · try dsimp only
           refine ⟨by omega, by omega, ?_, ?_⟩
           · first | exact hE | (intro z hz; (have e : z = 0 ∨ z = 1 ∨ z = 2 := by omega); rcases e with rfl | rfl | rfl <;> first | exact rwB_ls hp0 _ _ _ _ | exact hN | (exfalso; omega))
           · first
               | exact EcI_skip hp hEc hMi hE (by rw [← hR']; omega)
               | (refine EcI_put hp hEc hMi hE (by decide) ha (by rw [← hR']; exact ha0) (by rw [← hR']; exact ha1) ?_ ?_ ?_
                  · rw [← hR']; intro z hz; (have e : z = 0 ∨ z = 1 ∨ z = 2 := by omega); (rcases e with rfl | rfl | rfl <;> first | rfl | (exfalso; omega))
                  · first | (rw [← hR']; done) | (rw [← hR']; rfl)
                  · rw [← hR']; intro z hz hz2; (have e : z = 0 ∨ z = 1 ∨ z = 2 := by omega); (rcases e with rfl | rfl | rfl <;> first | rfl | (exfalso; omega)))
         · (try dsimp only); omega
         all_goals (repeat' first | exact vFn | refine vFc rfl ?_ | exact vHn | refine vHc rfl ?_ | refine vFc (congrArg (fun z => some (V.int z)) ?_) ?_ | refine vHc (congrArg (fun z => some (Blk.ints _ z)) ?_) ?_ | refine vFc (congrArg (fun z => some (V.bool z)) ?_) ?_ | refine vFs rfl rfl ?_ ?_ | refine vHc (by rw [ren_bots]; rfl) ?_)
         all_goals first | rfl | omega
         done)
        | (
         refine ⟨⟨i + 1, 2 + 1, kO, fun j => match j with | 0 => lsL p (E 0) (normL p R') ((E 0).getD a 0) 3 | 1 => lsL p (E 1) (normL p R') ((E 1).getD a 0) 3 | _ => normL p R', fun j => match j with | 0 => km0 | 1 => km1 | _ => kn, fun j => match j with | 0 => sm0 | 1 => sm1 | _ => sn, inP P 2 a⟩, ?_, ?_, View.mk' [(4, 20), (5, 11), (6, 16), (7, 7)] rfl (by simp only [wfB, List.all_cons, List.all_nil, ids_bots]; rfl) rfl ?_ ?_⟩
         · try dsimp only
           refine ⟨by omega, by omega, ?_, ?_⟩
           · first | exact hE | (intro z hz; (have e : z = 0 ∨ z = 1 ∨ z = 2 := by omega); rcases e with rfl | rfl | rfl <;> first | exact rwB_ls hp0 _ _ _ _ | exact hN | (exfalso; omega))
           · first
               | exact EcI_skip hp hEc hMi hE (by rw [← hR']; omega)
               | (refine EcI_put hp hEc hMi hE (by decide) ha (by rw [← hR']; exact ha0) (by rw [← hR']; exact ha1) ?_ ?_ ?_
                  · rw [← hR']; intro z hz; (have e : z = 0 ∨ z = 1 ∨ z = 2 := by omega); (rcases e with rfl | rfl | rfl <;> first | rfl | (exfalso; omega))
                  · first | (rw [← hR']; done) | (rw [← hR']; rfl)
                  · rw [← hR']; intro z hz hz2; (have e : z = 0 ∨ z = 1 ∨ z = 2 := by omega); (rcases e with rfl | rfl | rfl <;> first | rfl | (exfalso; omega)))
         · (try dsimp only); omega
         all_goals (repeat' first | exact vFn | refine vFc rfl ?_ | exact vHn | refine vHc rfl ?_ | refine vFc (congrArg (fun z => some (V.int z)) ?_) ?_ | refine vHc (congrArg (fun z => some (Blk.ints _ z)) ?_) ?_ | refine vFc (congrArg (fun z => some (V.bool z)) ?_) ?_ | refine vFs rfl rfl ?_ ?_ | refine vHc (by rw [ren_bots]; rfl) ?_)
         all_goals first | rfl | omega
         done)))
  all_goals first | with_reducible refine bN ?_ | with_reducible refine bE ?_ | with_reducible refine bR ?_ | refine bX rfl ?_
  all_goals with_reducible refine tN ?_
  all_goals (
   refine cR ?_
   refine oM rfl rfl ?_
   refine oA rfl rfl ?_
   refine oN ?_
   refine CW_ret ?_)
  all_goals (
   have ei : i = 3 := by omega
   subst ei
   have e := EcI_end hp hEc
   first | exact exitH (r0 := .slice 4 0 0 kO) (H0 := [(0, .vals 103 [.slice 1 0 3 c0, .slice 2 0 3 c1, .slice 3 0 3 c2]), (1, .ints 2 (M 0)), (2, .ints 2 (M 1)), (3, .ints 2 (M 2))]) (.inr rfl) [] 5 (.cons (.tmp rfl rfl) .nil) rfl rfl rfl (vHc rfl (vHc rfl (vHc rfl (vHc rfl vHn)))) rfl rfl ⟨kO, by rw [e], rfl⟩ | exact exitH (r0 := .slice 4 0 1 kO) (H0 := [(0, .vals 103 [.slice 1 0 3 c0, .slice 2 0 3 c1, .slice 3 0 3 c2]), (1, .ints 2 (M 0)), (2, .ints 2 (M 1)), (3, .ints 2 (M 2))]) (.inr rfl) [] 5 (.cons (.tmp rfl rfl) .nil) rfl rfl rfl (vHc rfl (vHc rfl (vHc rfl (vHc rfl vHn)))) rfl rfl ⟨kO, by rw [e], rfl⟩ | exact exitH (r0 := .slice 4 0 2 kO) (H0 := [(0, .vals 103 [.slice 1 0 3 c0, .slice 2 0 3 c1, .slice 3 0 3 c2]), (1, .ints 2 (M 0)), (2, .ints 2 (M 1)), (3, .ints 2 (M 2))]) (.inr rfl) [] 5 (.cons (.tmp rfl rfl) .nil) rfl rfl rfl (vHc rfl (vHc rfl (vHc rfl (vHc rfl vHn)))) rfl rfl ⟨kO, by rw [e], rfl⟩ | exact exitH (r0 := .slice 4 0 3 kO) (H0 := [(0, .vals 103 [.slice 1 0 3 c0, .slice 2 0 3 c1, .slice 3 0 3 c2]), (1, .ints 2 (M 0)), (2, .ints 2 (M 1)), (3, .ints 2 (M 2))]) (.inr rfl) [] 5 (.cons (.tmp rfl rfl) .nil) rfl rfl rfl (vHc rfl (vHc rfl (vHc rfl (vHc rfl vHn)))) rfl rfl ⟨kO, by rw [e], rfl⟩)
end Go.Proofs.Ytoiolpgmilobnaa
namespace Go.Proofs.Ytoiolpgmilobnaa
theorem fac_mod (p : Int) (l : List Int) : facP p (l.map (· % p)) = facP p l := by
  unfold facP
  rw [List.map_map]
  congr 2
  apply List.map_congr_left
  intro x _
  exact mod_mod_self p x
theorem normL_mod (p : Int) (l : List Int) : normL p (l.map (· % p)) = normL p l := by
  unfold normL
  rw [fac_mod, List.map_map]
  apply List.map_congr_left
  intro x _
  simp only [Function.comp_apply, mod_mod_self]
theorem normL_zero {p : Int} {l : List Int} (h : facP p l = 0) : normL p l = List.replicate l.length 0 := by
  unfold normL
  rw [h]
  apply List.ext_getElem (by simp)
  intro i h1 h2
  simp
end Go.Proofs.Ytoiolpgmilobnaa
namespace Go.Proofs.Ytoiolpgmilobnaa
attribute [local irreducible] CW OW QW QOp Con thenP inBlockP
set_option maxRecDepth 10000
set_option linter.unusedSimpArgs false
set_option linter.unusedVariables false
/-- three numbers are a point modulo a prime -/
def pointB (p : Int) (l : List Int) : Bool := primeB p && normB p l
theorem l01List_con (a b c : Int) : Con Try.prog [] 142 [.arr [a, b, c]] [] (fun r H' => r = .slice 0 0 3 3 ∧ H' = [(0, .ints 2 [a, b, c])]) := by
  refine conW tab_ok [(0, .arr [a, b, c])] 0 [] [] Try.func142 rfl rfl rfl rfl rfl rfl rfl rfl rfl ?_
  refine cR ?_
  refine oBox rfl rfl rfl rfl rfl rfl ?_
  refine oA rfl rfl ?_
  refine oN ?_
  refine cR ?_
  first | refine oQ (Ia0 rfl rfl rfl rfl rfl rfl) rfl rfl ?_ | refine oQ (Ia1 rfl rfl rfl rfl rfl rfl) rfl rfl ?_
  first | refine oQ (Q_ldc rfl rfl rfl rfl rfl) rfl rfl ?_ | refine oQ (Ld rfl rfl rfl rfl) rfl rfl ?_
  first | refine oQ (Ia0 rfl rfl rfl rfl rfl rfl) rfl rfl ?_ | refine oQ (Ia1 rfl rfl rfl rfl rfl rfl) rfl rfl ?_
  first | refine oQ (Q_ldc rfl rfl rfl rfl rfl) rfl rfl ?_ | refine oQ (Ld rfl rfl rfl rfl) rfl rfl ?_
  first | refine oQ (Ia0 rfl rfl rfl rfl rfl rfl) rfl rfl ?_ | refine oQ (Ia1 rfl rfl rfl rfl rfl rfl) rfl rfl ?_
  first | refine oQ (Q_ldc rfl rfl rfl rfl rfl) rfl rfl ?_ | refine oQ (Ld rfl rfl rfl rfl) rfl rfl ?_
  refine oBsl (zl := []) rfl rfl rfl rfl (.inl ⟨rfl, rfl⟩) rfl rfl rfl rfl rfl rfl ?_
  refine oA rfl rfl ?_
  refine oN ?_
  refine CW_ret ?_
  all_goals (
   exact exitH (r0 := .slice 0 0 3 3) (H0 := [(0, .ints 2 [a, b, c])]) (.inr rfl) [(0, 1)] 1 (.cons (.tmp rfl rfl) .nil) rfl rfl rfl (vHc rfl vHn) rfl rfl ⟨rfl, rfl⟩)
theorem l01Point_con (p : Int) (l : List Int) (hl : l.length = 3) : ConQ Try.prog [] 117 [.int p, .arr l] [] (.bool (pointB p l)) := by
  match l, hl with
  | [a, b, c], _ =>
    refine conW tab_ok [(0, .int p), (1, .arr [a, b, c])] 0 [] [] Try.func117 rfl rfl rfl rfl rfl rfl rfl rfl rfl ?_
    refine cR ?_
    refine oBox rfl rfl rfl rfl rfl rfl ?_
    refine oA rfl rfl ?_
    refine oN ?_
    refine cR ?_
    refine oM rfl rfl ?_
    refine oQ (Q_call0 (l01Prime_con _) rfl rfl rfl) rfl rfl ?_
    refine oM rfl rfl ?_
    all_goals first | refine oT rfl rfl ?_ | refine o1 rfl rfl rfl ?_ | refine o0 rfl rfl rfl ?_ | refine ogP1 rfl rfl rfl (fun hg => ?_) (fun hg => ?_) | refine ogP0 rfl rfl rfl (fun hg => ?_) (fun hg => ?_)
    all_goals try simp only [s1, s2, s3, s4, s5, s6, s7, s8, s9, s10, s11, s12] at hg
    all_goals first | (refine oM rfl rfl ?_) | skip
    all_goals first | refine oT rfl rfl ?_ | refine o1 rfl rfl rfl ?_ | refine o0 rfl rfl rfl ?_ | refine ogP1 rfl rfl rfl (fun hg => ?_) (fun hg => ?_) | refine ogP0 rfl rfl rfl (fun hg => ?_) (fun hg => ?_)
    all_goals try simp only [s1, s2, s3, s4, s5, s6, s7, s8, s9, s10, s11, s12] at hg
    all_goals first | refine oQ (Lw rfl rfl rfl rfl) rfl rfl ?_ | refine oQ (La rfl rfl rfl rfl rfl) rfl rfl ?_ | skip
    all_goals first | refine oT rfl rfl ?_ | refine o1 rfl rfl rfl ?_ | refine o0 rfl rfl rfl ?_ | refine ogP1 rfl rfl rfl (fun hg => ?_) (fun hg => ?_) | refine ogP0 rfl rfl rfl (fun hg => ?_) (fun hg => ?_)
    all_goals try simp only [s1, s2, s3, s4, s5, s6, s7, s8, s9, s10, s11, s12] at hg
    all_goals first | (refine oCall (l01List_con a b c) [] 1 rfl rfl (Fits.mk' vHn rfl rfl (by simp)) rfl rfl ?_; rintro r H1 ⟨rfl, rfl⟩; refine ⟨.slice 1 0 3 3, [(1, .ints 2 [a, b, c])], rfl, rfl, rfl, ?_⟩) | skip
    all_goals first | refine oT rfl rfl ?_ | refine o1 rfl rfl rfl ?_ | refine o0 rfl rfl rfl ?_ | refine ogP1 rfl rfl rfl (fun hg => ?_) (fun hg => ?_) | refine ogP0 rfl rfl rfl (fun hg => ?_) (fun hg => ?_)
    all_goals try simp only [s1, s2, s3, s4, s5, s6, s7, s8, s9, s10, s11, s12] at hg
    all_goals first | ((have hb := prime_bd hg); refine oQ (Q_call (l01Normal_con p 2 [a, b, c] 3 3 (Nat.le_refl _) (by omega) (by decide)) [(0, 1)] rfl rfl (Fits.mk' (vHc rfl vHn) rfl rfl (by simp)) rfl rfl) rfl rfl ?_) | skip
    all_goals first | refine oQ (Q_pick_t rfl (by with_reducible rfl) rfl rfl) rfl rfl ?_ | refine oQ (Q_pick_f rfl (by with_reducible rfl) rfl rfl) rfl rfl ?_
    all_goals first | (refine oA rfl rfl ?_)
    all_goals refine oN ?_
    all_goals (
     refine CW_ret ?_)
    all_goals (
     refine exitQ (.inr rfl) 0 (.cons (.tmp rfl rfl) .nil) ?_ rfl vHn rfl rfl
     simp only [resV, ren, pointB, V.bool.injEq, hg, Bool.true_and, Bool.false_and]
     try rfl)
def allF (g : List Int → Bool) (sz : Nat) (M : List Int) (k : Nat) : Bool := (List.range k).all fun i => g (elemAt sz M i)
theorem allF_yes {g : List Int → Bool} {sz : Nat} {M : List Int} {k : Nat} (h : ∀ j, j < k → g (elemAt sz M j) = true) : allF g sz M k = true := by
  unfold allF
  rw [List.all_eq_true]
  intro j hj
  exact h j (by simpa using hj)
theorem allF_no {g : List Int → Bool} {sz : Nat} {M : List Int} {k i : Nat} (hi : i < k) (h : g (elemAt sz M i) = false) : allF g sz M k = false := by
  unfold allF
  rw [List.all_eq_false]
  exact ⟨i, by simpa using hi, by simp [h]⟩
theorem impl_IsPoint_con (p : Int) (l : List Int) (hl : l.length = 3) : ConQ Try.prog [] 97 [.int p, .arr l] [] (.bool (pointB p l)) := by
  refine conW tab_ok [(0, .int p), (1, .arr l)] 0 [] [] Try.func97 rfl rfl rfl rfl rfl rfl rfl rfl rfl ?_
  refine cR ?_
  refine oBox rfl rfl rfl rfl rfl rfl ?_
  refine oA rfl rfl ?_
  refine oN ?_
  refine cR ?_
  refine oM rfl rfl ?_
  refine oQ (Q_call0 (isPrime_con _) rfl rfl rfl) rfl rfl ?_
  refine oM rfl rfl ?_
  all_goals first | refine oT rfl rfl ?_ | refine o1 rfl rfl rfl ?_ | refine o0 rfl rfl rfl ?_ | refine ogP1 rfl rfl rfl (fun hg => ?_) (fun hg => ?_) | refine ogP0 rfl rfl rfl (fun hg => ?_) (fun hg => ?_)
  all_goals try simp only [s1, s2, s3, s4, s5, s6, s7, s8, s9, s10, s11, s12] at hg
  all_goals first | (refine oM rfl rfl ?_) | skip
  all_goals first | refine oT rfl rfl ?_ | refine o1 rfl rfl rfl ?_ | refine o0 rfl rfl rfl ?_ | refine ogP1 rfl rfl rfl (fun hg => ?_) (fun hg => ?_) | refine ogP0 rfl rfl rfl (fun hg => ?_) (fun hg => ?_)
  all_goals try simp only [s1, s2, s3, s4, s5, s6, s7, s8, s9, s10, s11, s12] at hg
  all_goals first | (refine oQ (Q_slaF rfl rfl rfl rfl) rfl rfl ?_) | skip
  all_goals first | refine oT rfl rfl ?_ | refine o1 rfl rfl rfl ?_ | refine o0 rfl rfl rfl ?_ | refine ogP1 rfl rfl rfl (fun hg => ?_) (fun hg => ?_) | refine ogP0 rfl rfl rfl (fun hg => ?_) (fun hg => ?_)
  all_goals try simp only [s1, s2, s3, s4, s5, s6, s7, s8, s9, s10, s11, s12] at hg
  all_goals first | ((have hb := prime_bd hg); refine oQ (Q_call (isNormal_con p 32 l 3 3 (by omega) (by omega) (by omega)) [] rfl rfl (Fits.mk' (vHc rfl vHn) rfl rfl (by simp)) rfl rfl) rfl rfl ?_) | skip
  all_goals first | refine oQ (Q_pick_t rfl (by with_reducible rfl) rfl rfl) rfl rfl ?_ | refine oQ (Q_pick_f rfl (by with_reducible rfl) rfl rfl) rfl rfl ?_
  all_goals first | (refine oA rfl rfl ?_)
  all_goals refine oN ?_
  all_goals (
   refine CW_ret ?_)
  all_goals (
   refine exitQ (.inr rfl) 0 (.cons (.tmp rfl rfl) .nil) ?_ rfl vHn rfl rfl
   simp only [resV, ren, pointB, V.bool.injEq, ← hl, List.take_length]
   simp [hg])
theorem impl_IsConic_con (p : Int) (l : List Int) (hl : l.length = 6) : ConQ Try.prog [] 84 [.int p, .arr l] [] (.bool (pointB p l)) := by
  refine conW tab_ok [(0, .int p), (1, .arr l)] 0 [] [] Try.func84 rfl rfl rfl rfl rfl rfl rfl rfl rfl ?_
  refine cR ?_
  refine oBox rfl rfl rfl rfl rfl rfl ?_
  refine oA rfl rfl ?_
  refine oN ?_
  refine cR ?_
  refine oM rfl rfl ?_
  refine oQ (Q_call0 (isPrime_con _) rfl rfl rfl) rfl rfl ?_
  refine oM rfl rfl ?_
  all_goals first | refine oT rfl rfl ?_ | refine o1 rfl rfl rfl ?_ | refine o0 rfl rfl rfl ?_ | refine ogP1 rfl rfl rfl (fun hg => ?_) (fun hg => ?_) | refine ogP0 rfl rfl rfl (fun hg => ?_) (fun hg => ?_)
  all_goals try simp only [s1, s2, s3, s4, s5, s6, s7, s8, s9, s10, s11, s12] at hg
  all_goals first | (refine oM rfl rfl ?_) | skip
  all_goals first | refine oT rfl rfl ?_ | refine o1 rfl rfl rfl ?_ | refine o0 rfl rfl rfl ?_ | refine ogP1 rfl rfl rfl (fun hg => ?_) (fun hg => ?_) | refine ogP0 rfl rfl rfl (fun hg => ?_) (fun hg => ?_)
  all_goals try simp only [s1, s2, s3, s4, s5, s6, s7, s8, s9, s10, s11, s12] at hg
  all_goals first | (refine oQ (Q_slaF rfl rfl rfl rfl) rfl rfl ?_) | skip
  all_goals first | refine oT rfl rfl ?_ | refine o1 rfl rfl rfl ?_ | refine o0 rfl rfl rfl ?_ | refine ogP1 rfl rfl rfl (fun hg => ?_) (fun hg => ?_) | refine ogP0 rfl rfl rfl (fun hg => ?_) (fun hg => ?_)
  all_goals try simp only [s1, s2, s3, s4, s5, s6, s7, s8, s9, s10, s11, s12] at hg
  all_goals first | ((have hb := prime_bd hg); refine oQ (Q_call (isNormal_con p 25 l 6 6 (by omega) (by omega) (by omega)) [] rfl rfl (Fits.mk' (vHc rfl vHn) rfl rfl (by simp)) rfl rfl) rfl rfl ?_) | skip
  all_goals first | refine oQ (Q_pick_t rfl (by with_reducible rfl) rfl rfl) rfl rfl ?_ | refine oQ (Q_pick_f rfl (by with_reducible rfl) rfl rfl) rfl rfl ?_
  all_goals first | (refine oA rfl rfl ?_)
  all_goals refine oN ?_
  all_goals (
   refine CW_ret ?_)
  all_goals (
   refine exitQ (.inr rfl) 0 (.cons (.tmp rfl rfl) .nil) ?_ rfl vHn rfl rfl
   simp only [resV, ren, pointB, V.bool.injEq, ← hl, List.take_length]
   simp [hg])
theorem arePoints_con (p : Int) (tM : TypeId) (M : List Int) (k ck : Nat) (hM : k * 3 ≤ M.length) (hk : k ≤ 1000000000) : ConQ Try.prog [] 55 [.int p, .slice 0 0 k ck] [(0, .ints tM M)] (.bool (allF (pointB p) 3 M k)) := by
  refine conW tab_ok [(0, .int p), (1, .slice 0 0 k ck)] 1 [0] [0] Try.func55 rfl rfl rfl rfl rfl rfl rfl rfl rfl ?_
  refine cR ?_
  refine oA rfl rfl ?_
  refine oN ?_
  refine CW_seq ?_
  refine cR ?_
  refine oM rfl rfl ?_
  first | refine oQ (Q_len rfl rfl rfl rfl) rfl rfl ?_ | refine oQ (Q_len0 rfl rfl rfl rfl) rfl rfl ?_
  refine oM rfl rfl ?_
  refine oN ?_
  refine CW_block ?_
  refine CW_loop (ι := Nat) (fun i => i ≤ k ∧ ∀ j, j < i → pointB p (elemAt 3 M j) = true) (fun i => ⟨[(0, .int p), (7, .slice 0 0 k ck), (8, .int k), (9, .int i)], [(0, .ints tM M)], 1⟩) (fun i => k - i) 0 ?_ ?_ ?_
  · exact ⟨Nat.zero_le _, fun j h => absurd h (Nat.not_lt_zero _)⟩
  · refine View.mk' [] rfl rfl rfl ?_ ?_
    repeat' first | exact vFn | refine vFc rfl ?_ | exact vHn | refine vHc rfl ?_ | refine vFc (congrArg (fun z => some (V.int z)) ?_) ?_ | refine vHc (congrArg (fun z => some (Blk.ints _ z)) ?_) ?_ | refine vFc (congrArg (fun z => some (V.bool z)) ?_) ?_ | refine vFs rfl rfl ?_ ?_
  rintro i ⟨hi, hi2⟩
  have hel : i < k → (elemAt 3 M i).length = 3 := fun h => elemAt_length hM h
  refine cR ?_
  refine oQ (Q_bin rfl rfl rfl) rfl rfl ?_
  refine oN ?_
  refine CW_seq ?_
  first | refine cT rfl ?_ | refine cF rfl ?_ | refine CW_cond rfl (fun hc => ?_) (fun hc => ?_)
  all_goals try simp only [s1, s2, s3, s4, s5, s6, s7, s8, s9, s10, s11, s12] at hc
  all_goals first
    | (
     refine CW_skip ?_)
    | (
     refine CW_exit ?_)
  all_goals first
    | with_reducible refine tR ?_
    | with_reducible refine tE ?_
    | (
     with_reducible refine tN ?_
     refine CW_seq ?_
     refine CW_block ?_
     refine cR ?_
     first | refine oQ (Q_ixs0z 3 rfl rfl rfl rfl rfl rfl (by first | omega | (dsimp only; omega) | (simp; omega) | (simp; done))) rfl rfl ?_ | refine oQ (Q_ixsz 3 rfl rfl rfl rfl rfl rfl (by first | omega | (dsimp only; omega) | (simp; omega) | (simp; done))) rfl rfl ?_
     first | refine oQ (Lw rfl rfl rfl rfl) rfl rfl ?_ | refine oQ (La rfl rfl rfl rfl rfl) rfl rfl ?_
     refine oAlloc rfl rfl rfl rfl rfl rfl rfl ?_
     first | refine oSw rfl rfl rfl rfl ?_ | refine oSa rfl rfl rfl rfl ?_
     refine oN ?_
     refine cR ?_
     refine oM rfl rfl ?_
     first | refine oQ (Lw rfl rfl rfl rfl) rfl rfl ?_ | refine oQ (La rfl rfl rfl rfl rfl) rfl rfl ?_
     refine oQ (Q_call0 (impl_IsPoint_con p _ (elemAt_length hM (by omega))) rfl rfl rfl) rfl rfl ?_
     refine oQ (Q_not rfl) rfl rfl ?_
     refine oN ?_
     first | refine cT rfl ?_ | refine cF rfl ?_ | refine CW_cond rfl (fun hc => ?_) (fun hc => ?_)
     all_goals try simp only [s1, s2, s3, s4, s5, s6, s7, s8, s9, s10, s11, s12] at hc
     all_goals first
       | (
        refine CW_skip ?_)
       | (
        refine cR ?_
        refine oA rfl rfl ?_
        refine oN ?_
        refine CW_ret ?_)
     all_goals first | with_reducible refine bN ?_ | with_reducible refine bE ?_ | with_reducible refine bR ?_ | refine bX rfl ?_
     all_goals first
       | with_reducible refine tR ?_
       | with_reducible refine tE ?_
       | (
        with_reducible refine tN ?_
        refine CW_region ?_
        first | refine oQ (Q_binu rfl rfl rfl (by omega)) rfl rfl ?_ | refine oQ (Q_bin rfl rfl rfl) rfl rfl ?_
        refine oM rfl rfl ?_
        refine OW_nil ?_))
  all_goals first
    | with_reducible refine tR ?_
    | with_reducible refine tE ?_
    | (
     with_reducible refine tN ?_
     refine ⟨i + 1, ?_, ?_, View.mk' [] rfl rfl rfl ?_ ?_⟩
     · refine ⟨by omega, fun j hj => ?_⟩
       by_cases e : j = i
       · subst e; exact hc
       · exact hi2 j (by omega)
     · omega
     all_goals (repeat' first | exact vFn | refine vFc rfl ?_ | exact vHn | refine vHc rfl ?_ | refine vFc (congrArg (fun z => some (V.int z)) ?_) ?_ | refine vHc (congrArg (fun z => some (Blk.ints _ z)) ?_) ?_ | refine vFc (congrArg (fun z => some (V.bool z)) ?_) ?_ | refine vFs rfl rfl ?_ ?_))
  all_goals first | with_reducible refine bN ?_ | with_reducible refine bE ?_ | with_reducible refine bR ?_ | refine bX rfl ?_
  all_goals first
    | with_reducible refine tR ?_
    | with_reducible refine tE ?_
    | (
     with_reducible refine tN ?_
     refine cR ?_
     refine oA rfl rfl ?_
     refine oN ?_
     refine CW_ret ?_)
  all_goals (
   refine exitQ (.inr rfl) 1 (.cons (.tmp rfl rfl) .nil) ?_ rfl (vHc rfl vHn) rfl rfl
   first
     | exact congrArg V.bool (allF_no (i := i) (by omega) hc).symm
     | exact congrArg V.bool (allF_yes (fun j hj => hi2 j (by omega))).symm)
theorem arePoints_nil (p : Int) : ConQ Try.prog [] 55 [.int p, .nilsl] [] (.bool true) := by
  refine conW tab_ok [(0, .int p), (1, .nilsl)] 1 [] [] Try.func55 rfl rfl rfl rfl rfl rfl rfl rfl rfl ?_
  refine cR ?_
  refine oA rfl rfl ?_
  refine oN ?_
  refine CW_seq ?_
  refine cR ?_
  refine oM rfl rfl ?_
  first | refine oQ (Q_len rfl rfl rfl rfl) rfl rfl ?_ | refine oQ (Q_len0 rfl rfl rfl rfl) rfl rfl ?_
  refine oM rfl rfl ?_
  refine oN ?_
  refine CW_block ?_
  refine CW_loop (ι := Nat) (fun i => i = 0) (fun i => ⟨[(0, .int p), (7, .nilsl), (8, .int 0), (9, .int i)], [], 1⟩) (fun i => 0) 0 ?_ ?_ ?_
  · first | trivial | omega | (simp; done) | (simp; omega)
  · refine View.mk' [] rfl rfl rfl ?_ ?_
    repeat' first | exact vFn | refine vFc rfl ?_ | exact vHn | refine vHc rfl ?_ | refine vFc (congrArg (fun z => some (V.int z)) ?_) ?_ | refine vHc (congrArg (fun z => some (Blk.ints _ z)) ?_) ?_ | refine vFc (congrArg (fun z => some (V.bool z)) ?_) ?_ | refine vFs rfl rfl ?_ ?_
  intro i hi
  refine cR ?_
  refine oQ (Q_bin rfl rfl rfl) rfl rfl ?_
  refine oN ?_
  refine CW_seq ?_
  first | refine cT rfl ?_ | refine cF rfl ?_ | refine CW_cond rfl (fun hc => ?_) (fun hc => ?_)
  all_goals try simp only [s1, s2, s3, s4, s5, s6, s7, s8, s9, s10, s11, s12] at hc
  all_goals try (exfalso; first | omega | (simp at hc); done)
  all_goals first
    | (
     refine CW_skip ?_)
    | (
     refine CW_exit ?_)
  all_goals first
    | with_reducible refine tR ?_
    | with_reducible refine tE ?_
    | (
     with_reducible refine tN ?_
     refine CW_seq ?_
     refine CW_block ?_
     refine cR ?_
     first | refine oQ (Q_ixs0z 3 rfl rfl rfl rfl rfl rfl (by first | omega | (dsimp only; omega) | (simp; omega) | (simp; done))) rfl rfl ?_ | refine oQ (Q_ixsz 3 rfl rfl rfl rfl rfl rfl (by first | omega | (dsimp only; omega) | (simp; omega) | (simp; done))) rfl rfl ?_
     first | refine oQ (Lw rfl rfl rfl rfl) rfl rfl ?_ | refine oQ (La rfl rfl rfl rfl rfl) rfl rfl ?_
     refine oAlloc rfl rfl rfl rfl rfl rfl rfl ?_
     first | refine oSw rfl rfl rfl rfl ?_ | refine oSa rfl rfl rfl rfl ?_
     refine oN ?_
     refine cR ?_
     refine oM rfl rfl ?_
     first | refine oQ (Lw rfl rfl rfl rfl) rfl rfl ?_ | refine oQ (La rfl rfl rfl rfl rfl) rfl rfl ?_
     fail "call of loop.example/g01310/impl.IsPoint at slot 15"
     refine oQ (Q_not rfl) rfl rfl ?_
     refine oN ?_
     first | refine cT rfl ?_ | refine cF rfl ?_ | refine CW_cond rfl (fun hc => ?_) (fun hc => ?_)
     all_goals try simp only [s1, s2, s3, s4, s5, s6, s7, s8, s9, s10, s11, s12] at hc
     all_goals try (exfalso; first | omega | (simp at hc); done)
     all_goals first
       | (
        refine CW_skip ?_)
       | (
        refine cR ?_
        refine oA rfl rfl ?_
        refine oN ?_
        refine CW_ret ?_)
     all_goals first | with_reducible refine bN ?_ | with_reducible refine bE ?_ | with_reducible refine bR ?_ | refine bX rfl ?_
     all_goals first
       | with_reducible refine tR ?_
       | with_reducible refine tE ?_
       | (
        with_reducible refine tN ?_
        refine CW_region ?_
        first | refine oQ (Q_binu rfl rfl rfl (by omega)) rfl rfl ?_ | refine oQ (Q_bin rfl rfl rfl) rfl rfl ?_
        refine oM rfl rfl ?_
        refine OW_nil ?_))
  all_goals first
    | with_reducible refine tR ?_
    | with_reducible refine tE ?_
    | (
     with_reducible refine tN ?_
     refine ⟨i + 1, ?_, ?_, View.mk' [] rfl rfl rfl ?_ ?_⟩
     · omega
     · omega
     all_goals (repeat' first | exact vFn | refine vFc rfl ?_ | exact vHn | refine vHc rfl ?_ | refine vFc (congrArg (fun z => some (V.int z)) ?_) ?_ | refine vHc (congrArg (fun z => some (Blk.ints _ z)) ?_) ?_ | refine vFc (congrArg (fun z => some (V.bool z)) ?_) ?_ | refine vFs rfl rfl ?_ ?_))
  all_goals first | with_reducible refine bN ?_ | with_reducible refine bE ?_ | with_reducible refine bR ?_ | refine bX rfl ?_
  all_goals first
    | with_reducible refine tR ?_
    | with_reducible refine tE ?_
    | (
     with_reducible refine tN ?_
     refine cR ?_
     refine oA rfl rfl ?_
     refine oN ?_
     refine CW_ret ?_)
  all_goals (
   exact exitQ (.inr rfl) 1 (.cons (.tmp rfl rfl) .nil) rfl rfl vHn rfl rfl)
theorem l01Code_con (p : Int) (tM : TypeId) (M : List Int) (k ck : Nat) (hM : k * 3 ≤ M.length) (hk : k ≤ 1000000000) : ConQ Try.prog [] 75 [.int p, .slice 0 0 k ck] [(0, .ints tM M)] (.int (if primeB p = true then (if (allF (pointB p) 3 M k) = true then 0 else 1) else 2)) := by
  refine conW tab_ok [(0, .int p), (1, .slice 0 0 k ck)] 1 [0] [0] Try.func75 rfl rfl rfl rfl rfl rfl rfl rfl rfl ?_
  refine cR ?_
  refine oA rfl rfl ?_
  refine oN ?_
  refine CW_seq ?_
  refine cR ?_
  refine oM rfl rfl ?_
  refine oQ (Q_call0 (l01Prime_con _) rfl rfl rfl) rfl rfl ?_
  refine oQ (Q_not rfl) rfl rfl ?_
  refine oN ?_
  first | refine cT rfl ?_ | refine cF rfl ?_ | refine CW_cond rfl (fun hc => ?_) (fun hc => ?_)
  all_goals try simp only [s1, s2, s3, s4, s5, s6, s7, s8, s9, s10, s11, s12] at hc
  all_goals first
    | (
     refine CW_skip ?_)
    | (
     refine cR ?_
     refine oA rfl rfl ?_
     refine oN ?_
     refine CW_ret ?_)
  all_goals first
    | with_reducible refine tR ?_
    | with_reducible refine tE ?_
    | (
     with_reducible refine tN ?_
     refine CW_seq ?_
     refine cR ?_
     refine oA rfl rfl ?_
     refine oN ?_
     refine CW_block ?_
     (have hp : primeB p = true := hc)
     refine CW_loop (ι := Nat) (fun i => i ≤ k ∧ ∀ j, j < i → pointB p (elemAt 3 M j) = true) (fun i => ⟨[(0, .int p), (1, .slice 0 0 k ck), (5, .int i)], [(0, .ints tM M)], 1⟩) (fun i => k - i) 0 ?_ ?_ ?_
     · exact ⟨Nat.zero_le _, fun j h => absurd h (Nat.not_lt_zero _)⟩
     · refine View.mk' [] rfl rfl rfl ?_ ?_
       repeat' first | exact vFn | refine vFc rfl ?_ | exact vHn | refine vHc rfl ?_ | refine vFc (congrArg (fun z => some (V.int z)) ?_) ?_ | refine vHc (congrArg (fun z => some (Blk.ints _ z)) ?_) ?_ | refine vFc (congrArg (fun z => some (V.bool z)) ?_) ?_ | refine vFs rfl rfl ?_ ?_
     rintro i ⟨hi, hi2⟩
     refine CW_seq ?_
     refine cR ?_
     iterate 2 refine oM rfl rfl ?_
     first | refine oQ (Q_len rfl rfl rfl rfl) rfl rfl ?_ | refine oQ (Q_len0 rfl rfl rfl rfl) rfl rfl ?_
     refine oQ (Q_bin rfl rfl rfl) rfl rfl ?_
     refine oN ?_
     first | refine cT rfl ?_ | refine cF rfl ?_ | refine CW_cond rfl (fun hc => ?_) (fun hc => ?_)
     all_goals try simp only [s1, s2, s3, s4, s5, s6, s7, s8, s9, s10, s11, s12] at hc
     all_goals first
       | (
        refine CW_skip ?_)
       | (
        refine CW_exit ?_)
     all_goals first
       | with_reducible refine tR ?_
       | with_reducible refine tE ?_
       | (
        with_reducible refine tN ?_
        refine CW_seq ?_
        refine CW_block ?_
        refine cR ?_
        iterate 3 refine oM rfl rfl ?_
        first | refine oQ (Q_ixs0z 3 rfl rfl rfl rfl rfl rfl (by first | omega | (dsimp only; omega) | (simp; omega) | (simp; done))) rfl rfl ?_ | refine oQ (Q_ixsz 3 rfl rfl rfl rfl rfl rfl (by first | omega | (dsimp only; omega) | (simp; omega) | (simp; done))) rfl rfl ?_
        first | refine oQ (Lw rfl rfl rfl rfl) rfl rfl ?_ | refine oQ (La rfl rfl rfl rfl rfl) rfl rfl ?_
        refine oQ (Q_call0 (l01Point_con p _ (elemAt_length hM (by omega))) rfl rfl rfl) rfl rfl ?_
        refine oQ (Q_not rfl) rfl rfl ?_
        refine oN ?_
        first | refine cT rfl ?_ | refine cF rfl ?_ | refine CW_cond rfl (fun hc => ?_) (fun hc => ?_)
        all_goals try simp only [s1, s2, s3, s4, s5, s6, s7, s8, s9, s10, s11, s12] at hc
        all_goals first
          | (
           refine CW_skip ?_)
          | (
           refine cR ?_
           refine oA rfl rfl ?_
           refine oN ?_
           refine CW_ret ?_)
        all_goals first | with_reducible refine bN ?_ | with_reducible refine bE ?_ | with_reducible refine bR ?_ | refine bX rfl ?_
        all_goals first
          | with_reducible refine tR ?_
          | with_reducible refine tE ?_
          | (
           with_reducible refine tN ?_
           refine CW_region ?_
           refine oM rfl rfl ?_
           first | refine oQ (Q_binu rfl rfl rfl (by omega)) rfl rfl ?_ | refine oQ (Q_bin rfl rfl rfl) rfl rfl ?_
           refine oA rfl rfl ?_
           refine OW_nil ?_))
     all_goals first
       | with_reducible refine tR ?_
       | with_reducible refine tE ?_
       | (
        with_reducible refine tN ?_
        refine ⟨i + 1, ?_, ?_, View.mk' [] rfl rfl rfl ?_ ?_⟩
        · refine ⟨by omega, fun j hj => ?_⟩
          by_cases e : j = i
          · subst e; exact hc
          · exact hi2 j (by omega)
        · omega
        all_goals (repeat' first | exact vFn | refine vFc rfl ?_ | exact vHn | refine vHc rfl ?_ | refine vFc (congrArg (fun z => some (V.int z)) ?_) ?_ | refine vHc (congrArg (fun z => some (Blk.ints _ z)) ?_) ?_ | refine vFc (congrArg (fun z => some (V.bool z)) ?_) ?_ | refine vFs rfl rfl ?_ ?_))
     all_goals first | with_reducible refine bN ?_ | with_reducible refine bE ?_ | with_reducible refine bR ?_ | refine bX rfl ?_
     all_goals first
       | with_reducible refine tR ?_
       | with_reducible refine tE ?_
       | (
        with_reducible refine tN ?_
        refine cR ?_
        refine oA rfl rfl ?_
        refine oN ?_
        refine CW_ret ?_))
  all_goals (
   refine exitQ (.inr rfl) 1 (.cons (.tmp rfl rfl) .nil) ?_ rfl (vHc rfl vHn) rfl rfl
   first
     | (simp [resV, hc]; done)
     | ((have h9 := allF_no (k := k) (i := i) (by omega) hc); simp [resV, hp, h9]; done)
     | ((have h9 : allF (pointB p) 3 M k = true := allF_yes (fun j hj => hi2 j (by omega))); simp [resV, hp, h9]))
end Go.Proofs.Ytoiolpgmilobnaa
namespace Go.Proofs.Ytoiolpgmilobnaa
attribute [local irreducible] CW OW QW QOp Con thenP inBlockP
set_option maxRecDepth 10000
set_option linter.unusedSimpArgs false
set_option linter.unusedVariables false
def row1 (n : Nat) : List (List Int) := (List.range n).map fun (z : Nat) => [0, 1, (z : Int)]
def row2 (y n : Nat) : List (List Int) := (List.range n).map fun (z : Nat) => [1, (y : Int), (z : Int)]
def rows2 (n m : Nat) : List (List Int) := (List.range m).flatMap fun y => row2 y n
def allPts (p : Int) : List (List Int) := [[0, 0, 1]] ++ row1 p.toNat ++ rows2 p.toNat p.toNat
theorem row1_snoc (n : Nat) : row1 (n + 1) = row1 n ++ [[0, 1, (n : Int)]] := by simp [row1, List.range_succ]
theorem row2_snoc (y n : Nat) : row2 y (n + 1) = row2 y n ++ [[1, (y : Int), (n : Int)]] := by simp [row2, List.range_succ]
theorem rows2_snoc (n m : Nat) : rows2 n (m + 1) = rows2 n m ++ row2 m n := by simp [rows2, List.range_succ]
theorem row1_length (n : Nat) : (row1 n).length = n := by simp [row1]
theorem row2_length (y n : Nat) : (row2 y n).length = n := by simp [row2]
theorem rows2_length (n m : Nat) : (rows2 n m).length = m * n := by
  induction m with
  | zero => simp [rows2]
  | succ m ih => rw [rows2_snoc, List.length_append, ih, row2_length, Nat.add_mul, Nat.one_mul]
theorem allPts_three {p : Int} {x : List Int} (h : x ∈ allPts p) : x.length = 3 := by
  simp only [allPts, row1, rows2, row2, List.mem_append, List.mem_map, List.mem_flatMap, List.mem_singleton] at h
  rcases h with (rfl | ⟨_, _, rfl⟩) | ⟨_, _, _, _, rfl⟩ <;> rfl
/-- an own row of arrays: the told ones, and room behind them -/
def ownR (sz : Nat) (T : TypeId) (H0 : Hp) (b : Nat) (L : List (List Int)) (r : V) (H' : Hp) : Prop :=
  ∃ (k : Nat) (sp : List Int), L.length ≤ k ∧ k * sz ≤ L.length * sz + sp.length ∧ r = .slice b 0 L.length k ∧ H' = H0 ++ [(b, .ints T (L.flatten ++ sp))]
def ptsTo (n y z : Nat) : List (List Int) := [[0, 0, 1]] ++ row1 n ++ rows2 n y ++ row2 y z
theorem ptsTo_next (n y z : Nat) : ptsTo n y (z + 1) = ptsTo n y z ++ [[1, (y : Int), (z : Int)]] := by simp [ptsTo, row2_snoc]
theorem ptsTo_row (n y : Nat) : ptsTo n y n = ptsTo n (y + 1) 0 := by simp [ptsTo, rows2_snoc]; simp [row2]
theorem ptsTo_start (n : Nat) : [[0, 0, 1]] ++ row1 n = ptsTo n 0 0 := by simp [ptsTo, rows2, row2]
theorem ptsTo_all {p : Int} {n : Nat} (h : p = (n : Int)) : ptsTo n n 0 = allPts p := by subst h; simp [ptsTo, allPts, row2]
theorem ptsTo_three {n y z : Nat} {x : List Int} (h : x ∈ ptsTo n y z) : x.length = 3 := by
  simp only [ptsTo, row1, rows2, row2, List.mem_append, List.mem_map, List.mem_flatMap, List.mem_singleton] at h
  rcases h with ((rfl | ⟨_, _, rfl⟩) | ⟨_, _, _, _, rfl⟩) | ⟨_, _, rfl⟩ <;> rfl
theorem row1_three {n : Nat} {x : List Int} (h : x ∈ [[0, 0, 1]] ++ row1 n) : x.length = 3 := by
  simp only [row1, List.mem_append, List.mem_map, List.mem_singleton] at h
  rcases h with rfl | ⟨_, _, rfl⟩ <;> rfl
theorem ptsTo_length (n y z : Nat) : (ptsTo n y z).length = 1 + n + y * n + z := by simp [ptsTo, row1_length, rows2_length, row2_length]; omega
theorem sq_bound {n y : Nat} (hn : n ≤ 13) (hy : y ≤ n) : y * n ≤ 169 := Nat.le_trans (Nat.mul_le_mul hy hn) (Nat.mul_le_mul hn (Nat.le_refl 13))
theorem allPoints_n (n : Nat) (hn : n ≤ 13) : Con Try.prog [] 132 [.int (n : Int)] [] (ownR 3 32 [] 0 (ptsTo n n 0)) := by
  refine conW tab_ok [(0, .int (n : Int))] 0 [] [] Try.func132 rfl rfl rfl rfl rfl rfl rfl rfl rfl ?_
  refine cR ?_
  refine oA rfl rfl ?_
  refine oN ?_
  refine cR ?_
  refine oQ (Q_build rfl rfl rfl rfl rfl rfl rfl rfl) rfl rfl ?_
  refine oBsl rfl rfl rfl rfl (.inr ⟨rfl, rfl, by decide⟩) rfl rfl rfl rfl rfl rfl ?_
  refine oA rfl rfl ?_
  refine oN ?_
  refine CW_seq ?_
  refine cR ?_
  iterate 2 refine oM rfl rfl ?_
  refine oN ?_
  refine CW_block ?_
  refine CW_loop (ι := Nat × Nat × List Int) (fun x => x.1 ≤ n ∧ 1 + x.1 ≤ x.2.1 ∧ x.2.1 * 3 ≤ (1 + x.1) * 3 + x.2.2.length) (fun x => ⟨[(0, .int (n : Int)), (3, .slice 0 0 (1 + x.1) x.2.1), (10, .int (x.1 : Int)), (9, .int (n : Int))], [(0, .ints 32 (([[0, 0, 1]] ++ row1 x.1).flatten ++ x.2.2))], 1⟩) (fun x => n - x.1) (0, 1, []) ?_ ?_ ?_
  · first | trivial | omega | (simp; done) | (simp; omega)
  · refine View.mk' [] rfl rfl rfl ?_ ?_
    repeat' first | exact vFn | refine vFc rfl ?_ | exact vHn | refine vHc rfl ?_ | refine vFc (congrArg (fun z => some (V.int z)) ?_) ?_ | refine vHc (congrArg (fun z => some (Blk.ints _ z)) ?_) ?_ | refine vFc (congrArg (fun z => some (V.bool z)) ?_) ?_ | refine vFs rfl rfl ?_ ?_
    skip
  rintro ⟨i, k, sp⟩ ⟨hi, hk, hsp⟩
  dsimp only at hi hk hsp ⊢
  have hlen : ([[0, 0, 1]] ++ row1 i).flatten.length = (1 + i) * 3 := by rw [flat3 (sz := 3) (fun x hx => row1_three hx)]; simp [row1_length]; omega
  refine cR ?_
  refine oQ (Q_bin rfl rfl rfl) rfl rfl ?_
  refine oN ?_
  refine CW_seq ?_
  first | refine cT rfl ?_ | refine cF rfl ?_ | refine CW_cond rfl (fun hc => ?_) (fun hc => ?_)
  all_goals try simp only [s1, s2, s3, s4, s5, s6, s7, s8, s9, s10, s11, s12] at hc
  all_goals first
    | (
     refine CW_skip ?_)
    | (
     refine CW_exit ?_)
  all_goals first
    | with_reducible refine tR ?_
    | with_reducible refine tE ?_
    | (
     with_reducible refine tN ?_
     refine CW_seq ?_
     refine CW_block ?_
     refine cR ?_
     refine oM rfl rfl ?_
     refine oA rfl rfl ?_
     refine oN ?_
     refine CW_region ?_
     iterate 2 refine oM rfl rfl ?_
     refine oQ (Q_build rfl rfl rfl rfl rfl rfl rfl rfl) rfl rfl ?_
     refine oBsl rfl rfl rfl rfl (.inr ⟨rfl, rfl, by decide⟩) rfl rfl rfl rfl rfl rfl ?_
     refine oApp (sz := 3) (by_ := 24) (xl := [0, 1, (i : Int)]) rfl rfl rfl rfl rfl rfl ⟨by decide, rfl, .inr rfl⟩ rfl rfl rfl rfl rfl rfl hlen rfl (by omega) (by omega) (by omega) (by omega) rfl rfl (fun k2 sp2 h1 h2 => ?_)
     refine oA rfl rfl ?_
     refine OW_nil ?_
     all_goals first | with_reducible refine bN ?_ | with_reducible refine bE ?_ | with_reducible refine bR ?_ | refine bX rfl ?_
     all_goals with_reducible refine tN ?_
     all_goals (
      refine CW_region ?_
      first | refine oQ (Q_binu rfl rfl rfl (by omega)) rfl rfl ?_ | refine oQ (Q_bin rfl rfl rfl) rfl rfl ?_
      refine oM rfl rfl ?_
      refine OW_nil ?_))
  all_goals first
    | with_reducible refine tR ?_
    | with_reducible refine tE ?_
    | (
     with_reducible refine tN ?_
     refine ⟨(i + 1, k2, sp2), ?_, ?_, View.mk' [(0, 2)] rfl rfl rfl ?_ ?_⟩
     · exact ⟨by omega, by omega, by omega⟩
     · omega
     all_goals (repeat' first | exact vFn | refine vFc rfl ?_ | exact vHn | refine vHc rfl ?_ | refine vFc (congrArg (fun z => some (V.int z)) ?_) ?_ | refine vHc (congrArg (fun z => some (Blk.ints _ z)) ?_) ?_ | refine vFc (congrArg (fun z => some (V.bool z)) ?_) ?_ | refine vFs rfl rfl ?_ ?_)
     all_goals first | (rw [row1_snoc]; simp; done) | fail
     all_goals simp)
  all_goals first | with_reducible refine bN ?_ | with_reducible refine bE ?_ | with_reducible refine bR ?_ | refine bX rfl ?_
  all_goals with_reducible refine tN ?_
  all_goals (
   refine CW_seq ?_
   refine cR ?_
   iterate 2 refine oM rfl rfl ?_
   refine oN ?_
   refine CW_block ?_
   refine CW_loop (ι := Nat × Nat × List Int) (fun x => x.1 ≤ n ∧ (ptsTo n x.1 0).length ≤ x.2.1 ∧ x.2.1 * 3 ≤ (ptsTo n x.1 0).length * 3 + x.2.2.length) (fun x => ⟨[(0, .int (n : Int)), (3, .slice 0 0 (ptsTo n x.1 0).length x.2.1), (20, .int (x.1 : Int)), (19, .int (n : Int))], [(0, .ints 32 ((ptsTo n x.1 0).flatten ++ x.2.2))], 1⟩) (fun x => n - x.1) (0, k, sp) ?_ ?_ ?_
   · (have e : i = n := by omega); subst e; simp only [ptsTo_length]; exact ⟨Nat.zero_le _, by omega, by omega⟩
   · refine View.mk' [] rfl rfl rfl ?_ ?_
     repeat' first | exact vFn | refine vFc rfl ?_ | exact vHn | refine vHc rfl ?_ | refine vFc (congrArg (fun z => some (V.int z)) ?_) ?_ | refine vHc (congrArg (fun z => some (Blk.ints _ z)) ?_) ?_ | refine vFc (congrArg (fun z => some (V.bool z)) ?_) ?_ | refine vFs rfl rfl ?_ ?_
     all_goals (have e : i = n := by omega)
     all_goals subst e
     all_goals first | (rw [ptsTo_length]; omega) | (rw [← ptsTo_start])
   rintro ⟨y, k, sp⟩ ⟨hy, hk, hsp⟩
   dsimp only at hy hk hsp ⊢
   have hq := sq_bound hn hy
   refine cR ?_
   refine oQ (Q_bin rfl rfl rfl) rfl rfl ?_
   refine oN ?_
   refine CW_seq ?_
   first | refine cT rfl ?_ | refine cF rfl ?_ | refine CW_cond rfl (fun hc => ?_) (fun hc => ?_)
   all_goals try simp only [s1, s2, s3, s4, s5, s6, s7, s8, s9, s10, s11, s12] at hc
   all_goals first
     | (
      refine CW_skip ?_)
     | (
      refine CW_exit ?_)
   all_goals first
     | with_reducible refine tR ?_
     | with_reducible refine tE ?_
     | (
      with_reducible refine tN ?_
      refine CW_seq ?_
      refine CW_block ?_
      refine cR ?_
      refine oM rfl rfl ?_
      refine oA rfl rfl ?_
      refine oN ?_
      refine cR ?_
      iterate 2 refine oM rfl rfl ?_
      refine oN ?_
      refine CW_block ?_
      refine CW_loop (ι := Nat × Nat × List Int) (fun x => x.1 ≤ n ∧ (ptsTo n y x.1).length ≤ x.2.1 ∧ x.2.1 * 3 ≤ (ptsTo n y x.1).length * 3 + x.2.2.length) (fun x => ⟨[(0, .int (n : Int)), (3, .slice 0 0 (ptsTo n y x.1).length x.2.1), (5, .int (y : Int)), (24, .int (x.1 : Int)), (19, .int (n : Int)), (20, .int (y : Int)), (23, .int (n : Int))], [(0, .ints 32 ((ptsTo n y x.1).flatten ++ x.2.2))], 1⟩) (fun x => n - x.1) (0, k, sp) ?_ ?_ ?_
      · exact ⟨Nat.zero_le _, hk, hsp⟩
      · refine View.mk' [] rfl rfl rfl ?_ ?_
        repeat' first | exact vFn | refine vFc rfl ?_ | exact vHn | refine vHc rfl ?_ | refine vFc (congrArg (fun z => some (V.int z)) ?_) ?_ | refine vHc (congrArg (fun z => some (Blk.ints _ z)) ?_) ?_ | refine vFc (congrArg (fun z => some (V.bool z)) ?_) ?_ | refine vFs rfl rfl ?_ ?_
      rintro ⟨z, k, sp⟩ ⟨hz, hk, hsp⟩
      dsimp only at hz hk hsp ⊢
      have hl2 := ptsTo_length n y z
      have hlen := flat3 (sz := 3) (L := ptsTo n y z) (fun x hx => ptsTo_three hx)
      refine cR ?_
      refine oQ (Q_bin rfl rfl rfl) rfl rfl ?_
      refine oN ?_
      refine CW_seq ?_
      first | refine cT rfl ?_ | refine cF rfl ?_ | refine CW_cond rfl (fun hc => ?_) (fun hc => ?_)
      all_goals try simp only [s1, s2, s3, s4, s5, s6, s7, s8, s9, s10, s11, s12] at hc
      all_goals first
        | (
         refine CW_skip ?_)
        | (
         refine CW_exit ?_)
      all_goals first
        | with_reducible refine tR ?_
        | with_reducible refine tE ?_
        | (
         with_reducible refine tN ?_
         refine CW_seq ?_
         refine CW_block ?_
         refine cR ?_
         refine oM rfl rfl ?_
         refine oA rfl rfl ?_
         refine oN ?_
         refine CW_region ?_
         iterate 3 refine oM rfl rfl ?_
         refine oQ (Q_build rfl rfl rfl rfl rfl rfl rfl rfl) rfl rfl ?_
         refine oBsl rfl rfl rfl rfl (.inr ⟨rfl, rfl, by decide⟩) rfl rfl rfl rfl rfl rfl ?_
         refine oApp (sz := 3) (by_ := 24) (xl := [1, (y : Int), (z : Int)]) rfl rfl rfl rfl rfl rfl ⟨by decide, rfl, .inr rfl⟩ rfl rfl rfl rfl rfl rfl hlen rfl (by omega) (by omega) (by omega) (by omega) rfl rfl (fun k2 sp2 h1 h2 => ?_)
         refine oA rfl rfl ?_
         refine OW_nil ?_
         all_goals first | with_reducible refine bN ?_ | with_reducible refine bE ?_ | with_reducible refine bR ?_ | refine bX rfl ?_
         all_goals with_reducible refine tN ?_
         all_goals (
          refine CW_region ?_
          first | refine oQ (Q_binu rfl rfl rfl (by omega)) rfl rfl ?_ | refine oQ (Q_bin rfl rfl rfl) rfl rfl ?_
          refine oM rfl rfl ?_
          refine OW_nil ?_))
      all_goals first
        | with_reducible refine tR ?_
        | with_reducible refine tE ?_
        | (
         with_reducible refine tN ?_
         refine ⟨(z + 1, k2, sp2), ?_, ?_, View.mk' [(0, 2)] rfl rfl rfl ?_ ?_⟩
         · rw [ptsTo_length] at h1 h2 ⊢; exact ⟨by omega, by dsimp only; omega, by dsimp only; omega⟩
         · omega
         all_goals (repeat' first | exact vFn | refine vFc rfl ?_ | exact vHn | refine vHc rfl ?_ | refine vFc (congrArg (fun z => some (V.int z)) ?_) ?_ | refine vHc (congrArg (fun z => some (Blk.ints _ z)) ?_) ?_ | refine vFc (congrArg (fun z => some (V.bool z)) ?_) ?_ | refine vFs rfl rfl ?_ ?_)
         all_goals rw [ptsTo_next]
         all_goals simp)
      all_goals first | with_reducible refine bN ?_ | with_reducible refine bE ?_ | with_reducible refine bR ?_ | refine bX rfl ?_
      all_goals first | with_reducible refine bN ?_ | with_reducible refine bE ?_ | with_reducible refine bR ?_ | refine bX rfl ?_
      all_goals with_reducible refine tN ?_
      all_goals (
       refine CW_region ?_
       first | refine oQ (Q_binu rfl rfl rfl (by omega)) rfl rfl ?_ | refine oQ (Q_bin rfl rfl rfl) rfl rfl ?_
       refine oM rfl rfl ?_
       refine OW_nil ?_))
   all_goals first
     | with_reducible refine tR ?_
     | with_reducible refine tE ?_
     | (
      with_reducible refine tN ?_
      refine ⟨(y + 1, k, sp), ?_, ?_, View.mk' [] rfl rfl rfl ?_ ?_⟩
      · (have e : z = n := by omega); subst e; dsimp only; rw [← ptsTo_row]; exact ⟨by omega, hk, hsp⟩
      · omega
      all_goals (repeat' first | exact vFn | refine vFc rfl ?_ | exact vHn | refine vHc rfl ?_ | refine vFc (congrArg (fun z => some (V.int z)) ?_) ?_ | refine vHc (congrArg (fun z => some (Blk.ints _ z)) ?_) ?_ | refine vFc (congrArg (fun z => some (V.bool z)) ?_) ?_ | refine vFs rfl rfl ?_ ?_)
      all_goals (have e : z = n := by omega)
      all_goals subst e
      all_goals rw [ptsTo_row])
   all_goals first | with_reducible refine bN ?_ | with_reducible refine bE ?_ | with_reducible refine bR ?_ | refine bX rfl ?_
   all_goals with_reducible refine tN ?_
   all_goals (
    refine cR ?_
    refine oM rfl rfl ?_
    refine oA rfl rfl ?_
    refine oN ?_
    refine CW_ret ?_))
  all_goals (
   have e : y = n := by omega
   subst e
   exact exitH (.inr rfl) [] 1 (.cons (.tmp rfl rfl) .nil) rfl rfl rfl (vHc rfl vHn) rfl rfl ⟨k, sp, hk, hsp, rfl, rfl⟩)
theorem l01Points_n (n : Nat) (hn : n ≤ 13) : Con Try.prog [] 91 [.int (n : Int)] [] (ownR 3 32 [] 0 (ptsTo n n 0)) := by
  refine conW tab_ok [(0, .int (n : Int))] 0 [] [] Try.func91 rfl rfl rfl rfl rfl rfl rfl rfl rfl ?_
  refine cR ?_
  refine oA rfl rfl ?_
  refine oN ?_
  refine cR ?_
  refine oQ (Q_build rfl rfl rfl rfl rfl rfl rfl rfl) rfl rfl ?_
  refine oBsl rfl rfl rfl rfl (.inr ⟨rfl, rfl, by decide⟩) rfl rfl rfl rfl rfl rfl ?_
  refine oA rfl rfl ?_
  refine oN ?_
  refine CW_seq ?_
  refine cR ?_
  refine oA rfl rfl ?_
  refine oN ?_
  refine CW_block ?_
  refine CW_loop (ι := Nat × Nat × List Int) (fun x => x.1 ≤ n ∧ 1 + x.1 ≤ x.2.1 ∧ x.2.1 * 3 ≤ (1 + x.1) * 3 + x.2.2.length) (fun x => ⟨[(0, .int (n : Int)), (3, .slice 0 0 (1 + x.1) x.2.1), (4, .int (x.1 : Int))], [(0, .ints 32 (([[0, 0, 1]] ++ row1 x.1).flatten ++ x.2.2))], 1⟩) (fun x => n - x.1) (0, 1, []) ?_ ?_ ?_
  · first | trivial | omega | (simp; done) | (simp; omega)
  · refine View.mk' [] rfl rfl rfl ?_ ?_
    repeat' first | exact vFn | refine vFc rfl ?_ | exact vHn | refine vHc rfl ?_ | refine vFc (congrArg (fun z => some (V.int z)) ?_) ?_ | refine vHc (congrArg (fun z => some (Blk.ints _ z)) ?_) ?_ | refine vFc (congrArg (fun z => some (V.bool z)) ?_) ?_ | refine vFs rfl rfl ?_ ?_
    skip
  rintro ⟨i, k, sp⟩ ⟨hi, hk, hsp⟩
  dsimp only at hi hk hsp ⊢
  have hlen : ([[0, 0, 1]] ++ row1 i).flatten.length = (1 + i) * 3 := by rw [flat3 (sz := 3) (fun x hx => row1_three hx)]; simp [row1_length]; omega
  refine CW_seq ?_
  refine cR ?_
  iterate 2 refine oM rfl rfl ?_
  refine oQ (Q_bin rfl rfl rfl) rfl rfl ?_
  refine oN ?_
  first | refine cT rfl ?_ | refine cF rfl ?_ | refine CW_cond rfl (fun hc => ?_) (fun hc => ?_)
  all_goals try simp only [s1, s2, s3, s4, s5, s6, s7, s8, s9, s10, s11, s12] at hc
  all_goals first
    | (
     refine CW_skip ?_)
    | (
     refine CW_exit ?_)
  all_goals first
    | with_reducible refine tR ?_
    | with_reducible refine tE ?_
    | (
     with_reducible refine tN ?_
     refine CW_seq ?_
     refine CW_block ?_
     refine CW_region ?_
     iterate 2 refine oM rfl rfl ?_
     refine oQ (Q_build rfl rfl rfl rfl rfl rfl rfl rfl) rfl rfl ?_
     refine oBsl rfl rfl rfl rfl (.inr ⟨rfl, rfl, by decide⟩) rfl rfl rfl rfl rfl rfl ?_
     refine oApp (sz := 3) (by_ := 24) (xl := [0, 1, (i : Int)]) rfl rfl rfl rfl rfl rfl ⟨by decide, rfl, .inr rfl⟩ rfl rfl rfl rfl rfl rfl hlen rfl (by omega) (by omega) (by omega) (by omega) rfl rfl (fun k2 sp2 h1 h2 => ?_)
     refine oA rfl rfl ?_
     refine OW_nil ?_
     all_goals first | with_reducible refine bN ?_ | with_reducible refine bE ?_ | with_reducible refine bR ?_ | refine bX rfl ?_
     all_goals with_reducible refine tN ?_
     all_goals (
      refine CW_region ?_
      refine oM rfl rfl ?_
      first | refine oQ (Q_binu rfl rfl rfl (by omega)) rfl rfl ?_ | refine oQ (Q_bin rfl rfl rfl) rfl rfl ?_
      refine oA rfl rfl ?_
      refine OW_nil ?_))
  all_goals first
    | with_reducible refine tR ?_
    | with_reducible refine tE ?_
    | (
     with_reducible refine tN ?_
     refine ⟨(i + 1, k2, sp2), ?_, ?_, View.mk' [(0, 2)] rfl rfl rfl ?_ ?_⟩
     · exact ⟨by omega, by omega, by omega⟩
     · omega
     all_goals (repeat' first | exact vFn | refine vFc rfl ?_ | exact vHn | refine vHc rfl ?_ | refine vFc (congrArg (fun z => some (V.int z)) ?_) ?_ | refine vHc (congrArg (fun z => some (Blk.ints _ z)) ?_) ?_ | refine vFc (congrArg (fun z => some (V.bool z)) ?_) ?_ | refine vFs rfl rfl ?_ ?_)
     all_goals first | (rw [row1_snoc]; simp; done) | fail
     all_goals simp)
  all_goals first | with_reducible refine bN ?_ | with_reducible refine bE ?_ | with_reducible refine bR ?_ | refine bX rfl ?_
  all_goals with_reducible refine tN ?_
  all_goals (
   refine CW_seq ?_
   refine cR ?_
   refine oA rfl rfl ?_
   refine oN ?_
   refine CW_block ?_
   refine CW_loop (ι := Nat × Nat × List Int) (fun x => x.1 ≤ n ∧ (ptsTo n x.1 0).length ≤ x.2.1 ∧ x.2.1 * 3 ≤ (ptsTo n x.1 0).length * 3 + x.2.2.length) (fun x => ⟨[(0, .int (n : Int)), (3, .slice 0 0 (ptsTo n x.1 0).length x.2.1), (5, .int (x.1 : Int))], [(0, .ints 32 ((ptsTo n x.1 0).flatten ++ x.2.2))], 1⟩) (fun x => n - x.1) (0, k, sp) ?_ ?_ ?_
   · (have e : i = n := by omega); subst e; simp only [ptsTo_length]; exact ⟨Nat.zero_le _, by omega, by omega⟩
   · refine View.mk' [] rfl rfl rfl ?_ ?_
     repeat' first | exact vFn | refine vFc rfl ?_ | exact vHn | refine vHc rfl ?_ | refine vFc (congrArg (fun z => some (V.int z)) ?_) ?_ | refine vHc (congrArg (fun z => some (Blk.ints _ z)) ?_) ?_ | refine vFc (congrArg (fun z => some (V.bool z)) ?_) ?_ | refine vFs rfl rfl ?_ ?_
     all_goals (have e : i = n := by omega)
     all_goals subst e
     all_goals first | (rw [ptsTo_length]; omega) | (rw [← ptsTo_start])
   rintro ⟨y, k, sp⟩ ⟨hy, hk, hsp⟩
   dsimp only at hy hk hsp ⊢
   have hq := sq_bound hn hy
   refine CW_seq ?_
   refine cR ?_
   iterate 2 refine oM rfl rfl ?_
   refine oQ (Q_bin rfl rfl rfl) rfl rfl ?_
   refine oN ?_
   first | refine cT rfl ?_ | refine cF rfl ?_ | refine CW_cond rfl (fun hc => ?_) (fun hc => ?_)
   all_goals try simp only [s1, s2, s3, s4, s5, s6, s7, s8, s9, s10, s11, s12] at hc
   all_goals first
     | (
      refine CW_skip ?_)
     | (
      refine CW_exit ?_)
   all_goals first
     | with_reducible refine tR ?_
     | with_reducible refine tE ?_
     | (
      with_reducible refine tN ?_
      refine CW_seq ?_
      refine CW_block ?_
      refine cR ?_
      refine oA rfl rfl ?_
      refine oN ?_
      refine CW_block ?_
      refine CW_loop (ι := Nat × Nat × List Int) (fun x => x.1 ≤ n ∧ (ptsTo n y x.1).length ≤ x.2.1 ∧ x.2.1 * 3 ≤ (ptsTo n y x.1).length * 3 + x.2.2.length) (fun x => ⟨[(0, .int (n : Int)), (3, .slice 0 0 (ptsTo n y x.1).length x.2.1), (5, .int (y : Int)), (6, .int (x.1 : Int))], [(0, .ints 32 ((ptsTo n y x.1).flatten ++ x.2.2))], 1⟩) (fun x => n - x.1) (0, k, sp) ?_ ?_ ?_
      · exact ⟨Nat.zero_le _, hk, hsp⟩
      · refine View.mk' [] rfl rfl rfl ?_ ?_
        repeat' first | exact vFn | refine vFc rfl ?_ | exact vHn | refine vHc rfl ?_ | refine vFc (congrArg (fun z => some (V.int z)) ?_) ?_ | refine vHc (congrArg (fun z => some (Blk.ints _ z)) ?_) ?_ | refine vFc (congrArg (fun z => some (V.bool z)) ?_) ?_ | refine vFs rfl rfl ?_ ?_
      rintro ⟨z, k, sp⟩ ⟨hz, hk, hsp⟩
      dsimp only at hz hk hsp ⊢
      have hl2 := ptsTo_length n y z
      have hlen := flat3 (sz := 3) (L := ptsTo n y z) (fun x hx => ptsTo_three hx)
      refine CW_seq ?_
      refine cR ?_
      iterate 2 refine oM rfl rfl ?_
      refine oQ (Q_bin rfl rfl rfl) rfl rfl ?_
      refine oN ?_
      first | refine cT rfl ?_ | refine cF rfl ?_ | refine CW_cond rfl (fun hc => ?_) (fun hc => ?_)
      all_goals try simp only [s1, s2, s3, s4, s5, s6, s7, s8, s9, s10, s11, s12] at hc
      all_goals first
        | (
         refine CW_skip ?_)
        | (
         refine CW_exit ?_)
      all_goals first
        | with_reducible refine tR ?_
        | with_reducible refine tE ?_
        | (
         with_reducible refine tN ?_
         refine CW_seq ?_
         refine CW_block ?_
         refine CW_region ?_
         iterate 3 refine oM rfl rfl ?_
         refine oQ (Q_build rfl rfl rfl rfl rfl rfl rfl rfl) rfl rfl ?_
         refine oBsl rfl rfl rfl rfl (.inr ⟨rfl, rfl, by decide⟩) rfl rfl rfl rfl rfl rfl ?_
         refine oApp (sz := 3) (by_ := 24) (xl := [1, (y : Int), (z : Int)]) rfl rfl rfl rfl rfl rfl ⟨by decide, rfl, .inr rfl⟩ rfl rfl rfl rfl rfl rfl hlen rfl (by omega) (by omega) (by omega) (by omega) rfl rfl (fun k2 sp2 h1 h2 => ?_)
         refine oA rfl rfl ?_
         refine OW_nil ?_
         all_goals first | with_reducible refine bN ?_ | with_reducible refine bE ?_ | with_reducible refine bR ?_ | refine bX rfl ?_
         all_goals with_reducible refine tN ?_
         all_goals (
          refine CW_region ?_
          refine oM rfl rfl ?_
          first | refine oQ (Q_binu rfl rfl rfl (by omega)) rfl rfl ?_ | refine oQ (Q_bin rfl rfl rfl) rfl rfl ?_
          refine oA rfl rfl ?_
          refine OW_nil ?_))
      all_goals first
        | with_reducible refine tR ?_
        | with_reducible refine tE ?_
        | (
         with_reducible refine tN ?_
         refine ⟨(z + 1, k2, sp2), ?_, ?_, View.mk' [(0, 2)] rfl rfl rfl ?_ ?_⟩
         · rw [ptsTo_length] at h1 h2 ⊢; exact ⟨by omega, by dsimp only; omega, by dsimp only; omega⟩
         · omega
         all_goals (repeat' first | exact vFn | refine vFc rfl ?_ | exact vHn | refine vHc rfl ?_ | refine vFc (congrArg (fun z => some (V.int z)) ?_) ?_ | refine vHc (congrArg (fun z => some (Blk.ints _ z)) ?_) ?_ | refine vFc (congrArg (fun z => some (V.bool z)) ?_) ?_ | refine vFs rfl rfl ?_ ?_)
         all_goals rw [ptsTo_next]
         all_goals simp)
      all_goals first | with_reducible refine bN ?_ | with_reducible refine bE ?_ | with_reducible refine bR ?_ | refine bX rfl ?_
      all_goals first | with_reducible refine bN ?_ | with_reducible refine bE ?_ | with_reducible refine bR ?_ | refine bX rfl ?_
      all_goals with_reducible refine tN ?_
      all_goals (
       refine CW_region ?_
       refine oM rfl rfl ?_
       first | refine oQ (Q_binu rfl rfl rfl (by omega)) rfl rfl ?_ | refine oQ (Q_bin rfl rfl rfl) rfl rfl ?_
       refine oA rfl rfl ?_
       refine OW_nil ?_))
   all_goals first
     | with_reducible refine tR ?_
     | with_reducible refine tE ?_
     | (
      with_reducible refine tN ?_
      refine ⟨(y + 1, k, sp), ?_, ?_, View.mk' [] rfl rfl rfl ?_ ?_⟩
      · (have e : z = n := by omega); subst e; dsimp only; rw [← ptsTo_row]; exact ⟨by omega, hk, hsp⟩
      · omega
      all_goals (repeat' first | exact vFn | refine vFc rfl ?_ | exact vHn | refine vHc rfl ?_ | refine vFc (congrArg (fun z => some (V.int z)) ?_) ?_ | refine vHc (congrArg (fun z => some (Blk.ints _ z)) ?_) ?_ | refine vFc (congrArg (fun z => some (V.bool z)) ?_) ?_ | refine vFs rfl rfl ?_ ?_)
      all_goals (have e : z = n := by omega)
      all_goals subst e
      all_goals rw [ptsTo_row])
   all_goals first | with_reducible refine bN ?_ | with_reducible refine bE ?_ | with_reducible refine bR ?_ | refine bX rfl ?_
   all_goals with_reducible refine tN ?_
   all_goals (
    refine cR ?_
    refine oM rfl rfl ?_
    refine oA rfl rfl ?_
    refine oN ?_
    refine CW_ret ?_))
  all_goals (
   have e : y = n := by omega
   subst e
   exact exitH (.inr rfl) [] 1 (.cons (.tmp rfl rfl) .nil) rfl rfl rfl (vHc rfl vHn) rfl rfl ⟨k, sp, hk, hsp, rfl, rfl⟩)
theorem of_prime {p : Int} (hp : primeB p = true) : ∃ n : Nat, p = (n : Int) ∧ n ≤ 13 := by
  have := prime_bd hp
  exact ⟨p.toNat, by omega, by omega⟩
theorem allPoints_con (p : Int) (hp : primeB p = true) : Con Try.prog [] 132 [.int p] [] (ownR 3 32 [] 0 (allPts p)) := by
  obtain ⟨n, e, hn⟩ := of_prime hp
  rw [← ptsTo_all e, e]
  exact allPoints_n n hn
theorem l01Points_con (p : Int) (hp : primeB p = true) : Con Try.prog [] 91 [.int p] [] (ownR 3 32 [] 0 (allPts p)) := by
  obtain ⟨n, e, hn⟩ := of_prime hp
  rw [← ptsTo_all e, e]
  exact l01Points_n n hn
end Go.Proofs.Ytoiolpgmilobnaa
namespace Go.Proofs.Ytoiolpgmilobnaa
attribute [local irreducible] CW OW QW QOp Con thenP inBlockP
set_option maxRecDepth 10000
set_option linter.unusedSimpArgs false
set_option linter.unusedVariables false
theorem notnot {L : List (List Int)} {g : List Int → Bool} : (L.filter fun x => !(fun x => !g x) x) = L.filter g := by congr 1; funext x; simp
theorem allPts_len {p : Int} (hp : primeB p = true) : (allPts p).length ≤ 183 ∧ 13 ≤ (allPts p).length := by
  obtain ⟨n, rfl, hn⟩ := of_prime hp
  have hb := prime_bd hp
  rw [← ptsTo_all rfl, ptsTo_length]
  have h1 : n * n ≤ 13 * 13 := Nat.mul_le_mul hn hn
  have h2 : 3 * 3 ≤ n * n := Nat.mul_le_mul (by omega) (by omega)
  omega
theorem idxPointD2 (f : Nat) (t0 : TypeId) (L0 : List Int) (t1 : TypeId) (L1 : List Int) (g : List Int → Bool) (tM : TypeId) (L : List (List Int)) (sp : List Int) (k ck : Nat) (hk : k = L.length) (h3 : ∀ x ∈ L, x.length = 3) (hk9 : L.length ≤ 1000000000) (hf : ∀ m, m ∈ L → ConQ Try.prog [] 133 [.arr m, .ptr 1002 0] [(1000, .ints t0 L0), (1001, .ints t1 L1), (1002, .vals 120 [.func f [] [.ptr 1000 0, .ptr 1001 0]])] (.bool (g m))) : ConQ Try.prog [] 146 [.slice 0 0 k ck, .func 133 [] [.ptr 1002 0]] [(0, .ints tM (L.flatten ++ sp)), (1000, .ints t0 L0), (1001, .ints t1 L1), (1002, .vals 120 [.func f [] [.ptr 1000 0, .ptr 1001 0]])] (.int (idxL g L)) := by
  have hfl := flat3 h3
  refine conW tab_ok [(0, .slice 0 0 k ck), (1, .func 133 [] [.ptr 1002 0])] 1 [0, 1000, 1001, 1002] [0, 1000, 1001, 1002] Try.func146 rfl rfl rfl rfl rfl rfl rfl rfl rfl ?_
  refine cR ?_
  refine oA rfl rfl ?_
  refine oN ?_
  refine CW_seq ?_
  refine cR ?_
  refine oM rfl rfl ?_
  first | refine oQ (Q_len rfl rfl rfl rfl) rfl rfl ?_ | refine oQ (Q_len0 rfl rfl rfl rfl) rfl rfl ?_
  refine oM rfl rfl ?_
  refine oN ?_
  refine CW_block ?_
  refine CW_loop (ι := Nat) (fun i => i ≤ L.length ∧ ∀ j, j < i → g (L.getD j []) = false) (fun i => ⟨[(0, .slice 0 0 k ck), (1, .func 133 [] [.ptr 1002 0]), (7, .int k), (8, .int i)], [(0, .ints tM (L.flatten ++ sp)), (1000, .ints t0 L0), (1001, .ints t1 L1), (1002, .vals 120 [.func f [] [.ptr 1000 0, .ptr 1001 0]])], 1⟩) (fun i => L.length - i) 0 ?_ ?_ ?_
  · exact ⟨Nat.zero_le _, fun j h => absurd h (Nat.not_lt_zero _)⟩
  · refine View.mk' [] rfl rfl rfl ?_ ?_
    repeat' first | exact vFn | refine vFc rfl ?_ | exact vHn | refine vHc rfl ?_ | refine vFc (congrArg (fun z => some (V.int z)) ?_) ?_ | refine vHc (congrArg (fun z => some (Blk.ints _ z)) ?_) ?_ | refine vFc (congrArg (fun z => some (V.bool z)) ?_) ?_ | refine vFs rfl rfl ?_ ?_
  rintro i ⟨hi, hi2⟩
  refine cR ?_
  refine oQ (Q_bin rfl rfl rfl) rfl rfl ?_
  refine oN ?_
  refine CW_seq ?_
  first | refine cT rfl ?_ | refine cF rfl ?_ | refine CW_cond rfl (fun hc => ?_) (fun hc => ?_)
  all_goals try simp only [s1, s2, s3, s4, s5, s6, s7, s8, s9, s10, s11, s12] at hc
  all_goals first
    | (
     refine CW_skip ?_)
    | (
     refine CW_exit ?_)
  all_goals first
    | with_reducible refine tR ?_
    | with_reducible refine tE ?_
    | (
     with_reducible refine tN ?_
     refine CW_seq ?_
     refine CW_block ?_
     refine cR ?_
     refine oM rfl rfl ?_
     refine oA rfl rfl ?_
     refine oN ?_
     refine cR ?_
     iterate 3 refine oM rfl rfl ?_
     first | refine oQ (Q_ixs0z 3 rfl rfl rfl rfl rfl rfl (by first | omega | (dsimp only; omega) | (simp; omega) | (simp; done))) rfl rfl ?_ | refine oQ (Q_ixsz 3 rfl rfl rfl rfl rfl rfl (by first | omega | (dsimp only; omega) | (simp; omega) | (simp; done))) rfl rfl ?_
     refine oQ (Q_lda (n := 3) rfl rfl rfl rfl rfl (by rw [List.length_append, hfl]; omega)) rfl rfl ?_; rw [flat_get h3 (show i < L.length by omega)]
     refine oQ (Q_callf (hf _ (getD_mem (by omega))) [] rfl rfl rfl (Fits.mk' (vHc rfl (vHc rfl (vHc rfl vHn))) rfl rfl (by first | (simp; done) | exact glOk rfl rfl rfl)) rfl rfl) rfl rfl ?_
     refine oN ?_
     first | refine cT rfl ?_ | refine cF rfl ?_ | refine CW_cond rfl (fun hc => ?_) (fun hc => ?_)
     all_goals try simp only [s1, s2, s3, s4, s5, s6, s7, s8, s9, s10, s11, s12] at hc
     all_goals first
       | (
        refine CW_skip ?_)
       | (
        refine cR ?_
        refine oM rfl rfl ?_
        refine oA rfl rfl ?_
        refine oN ?_
        refine CW_ret ?_)
     all_goals first | with_reducible refine bN ?_ | with_reducible refine bE ?_ | with_reducible refine bR ?_ | refine bX rfl ?_
     all_goals first
       | with_reducible refine tR ?_
       | with_reducible refine tE ?_
       | (
        with_reducible refine tN ?_
        refine CW_region ?_
        first | refine oQ (Q_binu rfl rfl rfl (by omega)) rfl rfl ?_ | refine oQ (Q_bin rfl rfl rfl) rfl rfl ?_
        refine oM rfl rfl ?_
        refine OW_nil ?_))
  all_goals first
    | with_reducible refine tR ?_
    | with_reducible refine tE ?_
    | (
     with_reducible refine tN ?_
     refine ⟨i + 1, ?_, ?_, View.mk' [] rfl rfl rfl ?_ ?_⟩
     · refine ⟨by omega, fun j hj => ?_⟩
       by_cases e : j = i
       · subst e; exact hc
       · exact hi2 j (by omega)
     · omega
     all_goals (repeat' first | exact vFn | refine vFc rfl ?_ | exact vHn | refine vHc rfl ?_ | refine vFc (congrArg (fun z => some (V.int z)) ?_) ?_ | refine vHc (congrArg (fun z => some (Blk.ints _ z)) ?_) ?_ | refine vFc (congrArg (fun z => some (V.bool z)) ?_) ?_ | refine vFs rfl rfl ?_ ?_))
  all_goals first | with_reducible refine bN ?_ | with_reducible refine bE ?_ | with_reducible refine bR ?_ | refine bX rfl ?_
  all_goals first
    | with_reducible refine tR ?_
    | with_reducible refine tE ?_
    | (
     with_reducible refine tN ?_
     refine cR ?_
     refine oA rfl rfl ?_
     refine oN ?_
     refine CW_ret ?_)
  all_goals (
   refine exitQ (.inr rfl) 1 (.cons (.tmp rfl rfl) .nil) ?_ rfl (vHc rfl (vHc rfl (vHc rfl (vHc rfl vHn)))) rfl rfl
   first
     | exact congrArg V.int (idxL_found (by omega) hi2 hc).symm
     | exact congrArg V.int (idxL_none (fun j hj => hi2 j (by omega))).symm)
theorem delPointD2 (f : Nat) (t0 : TypeId) (L0 : List Int) (t1 : TypeId) (L1 : List Int) (g : List Int → Bool) (tM : TypeId) (L : List (List Int)) (sp : List Int) (ck : Nat) (h3 : ∀ x ∈ L, x.length = 3) (hk9 : L.length ≤ 1000000000) (hck : L.length ≤ ck) (hf : ∀ m, m ∈ L → ConQ Try.prog [] 133 [.arr m, .ptr 1002 0] [(1000, .ints t0 L0), (1001, .ints t1 L1), (1002, .vals 120 [.func f [] [.ptr 1000 0, .ptr 1001 0]])] (.bool (g m))) : Con Try.prog [] 131 [.slice 0 0 L.length ck, .func 133 [] [.ptr 1002 0]] [(0, .ints tM (L.flatten ++ sp)), (1000, .ints t0 L0), (1001, .ints t1 L1), (1002, .vals 120 [.func f [] [.ptr 1000 0, .ptr 1001 0]])] (fun r H' => ∃ z, z.length = (L.length - (L.filter fun x => !g x).length) * 3 ∧ r = .slice 0 0 (L.filter fun x => !g x).length ck ∧ H' = [(0, .ints tM ((L.filter fun x => !g x).flatten ++ (z ++ sp))), (1000, .ints t0 L0), (1001, .ints t1 L1), (1002, .vals 120 [.func f [] [.ptr 1000 0, .ptr 1001 0]])]) := by
  have hfl := flat3 h3
  rcases idxL_cases g L with ⟨hix, hix1⟩ | ⟨a, hix, ha, ha1, ha2⟩
  · have hall : (L.filter fun x => !g x) = L := by rw [List.filter_eq_self]; intro x hx; simp [hix1 x hx]
    rw [hall]
    refine conW tab_ok [(0, .slice 0 0 L.length ck), (1, .func 133 [] [.ptr 1002 0])] 1 [0, 1000, 1001, 1002] [0, 1000, 1001, 1002] Try.func131 rfl rfl rfl rfl rfl rfl rfl rfl rfl ?_
    refine cR ?_
    refine oA rfl rfl ?_
    refine oN ?_
    refine cR ?_
    iterate 2 refine oM rfl rfl ?_
    refine oQ (Q_call (idxPointD2 f t0 L0 t1 L1 g tM L sp L.length ck rfl h3 hk9 hf) [] rfl rfl (Fits.mk' (vHc rfl (vHc rfl (vHc rfl (vHc rfl vHn)))) rfl rfl (by first | (simp; done) | exact glOk rfl rfl rfl)) rfl rfl) rfl rfl ?_
    refine oA rfl rfl ?_
    refine oN ?_
    refine CW_seq ?_
    refine cR ?_
    refine oM rfl rfl ?_
    refine oQ (Q_bin rfl rfl rfl) rfl rfl ?_; rw [hix]
    refine oN ?_
    first | refine cT rfl ?_ | refine cF rfl ?_ | refine CW_cond rfl (fun hc => ?_) (fun hc => ?_)
    all_goals try simp only [s1, s2, s3, s4, s5, s6, s7, s8, s9, s10, s11, s12] at hc
    all_goals try (exfalso; first | omega | (simp at hc); done)
    all_goals first
      | (
       refine CW_skip ?_)
      | (
       refine cR ?_
       refine oM rfl rfl ?_
       refine oA rfl rfl ?_
       refine oN ?_
       refine CW_ret ?_)
    all_goals first
      | with_reducible refine tR ?_
      | with_reducible refine tE ?_
      | (
       with_reducible refine tN ?_
       refine CW_seq ?_
       refine cR ?_
       refine oM rfl rfl ?_
       first | refine oQ (Q_binu rfl rfl rfl (by omega)) rfl rfl ?_ | refine oQ (Q_bin rfl rfl rfl) rfl rfl ?_
       refine oA rfl rfl ?_
       refine oN ?_
       refine CW_block ?_
       exfalso; simp at hc
       · first | trivial | omega | (simp; done) | (simp; omega)
       · refine View.mk' [] rfl rfl rfl ?_ ?_
         repeat' first | exact vFn | refine vFc rfl ?_ | exact vHn | refine vHc rfl ?_ | refine vFc (congrArg (fun z => some (V.int z)) ?_) ?_ | refine vHc (congrArg (fun z => some (Blk.ints _ z)) ?_) ?_ | refine vFc (congrArg (fun z => some (V.bool z)) ?_) ?_ | refine vFs rfl rfl ?_ ?_
       intro i hi
       refine CW_seq ?_
       refine cR ?_
       iterate 2 refine oM rfl rfl ?_
       first | refine oQ (Q_len rfl rfl rfl rfl) rfl rfl ?_ | refine oQ (Q_len0 rfl rfl rfl rfl) rfl rfl ?_
       refine oQ (Q_bin rfl rfl rfl) rfl rfl ?_
       refine oN ?_
       first | refine cT rfl ?_ | refine cF rfl ?_ | refine CW_cond rfl (fun hc => ?_) (fun hc => ?_)
       all_goals try simp only [s1, s2, s3, s4, s5, s6, s7, s8, s9, s10, s11, s12] at hc
       all_goals try (exfalso; first | omega | (simp at hc); done)
       all_goals first
         | (
          refine CW_skip ?_)
         | (
          refine CW_exit ?_)
       all_goals first
         | with_reducible refine tR ?_
         | with_reducible refine tE ?_
         | (
          with_reducible refine tN ?_
          refine CW_seq ?_
          refine CW_block ?_
          refine cR ?_
          iterate 2 refine oM rfl rfl ?_
          first | refine oQ (Q_ixs0z 3 rfl rfl rfl rfl rfl rfl (by first | omega | (dsimp only; omega) | (simp; omega) | (simp; done))) rfl rfl ?_ | refine oQ (Q_ixsz 3 rfl rfl rfl rfl rfl rfl (by first | omega | (dsimp only; omega) | (simp; omega) | (simp; done))) rfl rfl ?_
          first | refine oQ (Lw rfl rfl rfl rfl) rfl rfl ?_ | refine oQ (La rfl rfl rfl rfl rfl) rfl rfl ?_
          refine oAlloc rfl rfl rfl rfl rfl rfl rfl ?_
          first | refine oSw rfl rfl rfl rfl ?_ | refine oSa rfl rfl rfl rfl ?_
          refine oN ?_
          refine cR ?_
          refine oM rfl rfl ?_
          first | refine oQ (Lw rfl rfl rfl rfl) rfl rfl ?_ | refine oQ (La rfl rfl rfl rfl rfl) rfl rfl ?_
          fail "call of a value at slot 28"
          refine oQ (Q_not rfl) rfl rfl ?_
          refine oN ?_
          first | refine cT rfl ?_ | refine cF rfl ?_ | refine CW_cond rfl (fun hc => ?_) (fun hc => ?_)
          all_goals try simp only [s1, s2, s3, s4, s5, s6, s7, s8, s9, s10, s11, s12] at hc
          all_goals try (exfalso; first | omega | (simp at hc); done)
          all_goals first
            | (
             refine CW_skip ?_)
            | (
             refine cR ?_
             iterate 2 refine oM rfl rfl ?_
             first | refine oQ (Lw rfl rfl rfl rfl) rfl rfl ?_ | refine oQ (La rfl rfl rfl rfl rfl) rfl rfl ?_
             first | refine oQ (Q_ixs0z 3 rfl rfl rfl rfl rfl rfl (by first | omega | (dsimp only; omega) | (simp; omega) | (simp; done))) rfl rfl ?_ | refine oQ (Q_ixsz 3 rfl rfl rfl rfl rfl rfl (by first | omega | (dsimp only; omega) | (simp; omega) | (simp; done))) rfl rfl ?_
             first | refine oSw rfl rfl rfl rfl ?_ | refine oSa rfl rfl rfl rfl ?_
             refine oN ?_
             refine CW_region ?_
             refine oM rfl rfl ?_
             first | refine oQ (Q_binu rfl rfl rfl (by omega)) rfl rfl ?_ | refine oQ (Q_bin rfl rfl rfl) rfl rfl ?_
             refine oA rfl rfl ?_
             refine OW_nil ?_)
          all_goals first | with_reducible refine bN ?_ | with_reducible refine bE ?_ | with_reducible refine bR ?_ | refine bX rfl ?_
          all_goals with_reducible refine tN ?_
          all_goals (
           refine CW_region ?_
           refine oM rfl rfl ?_
           first | refine oQ (Q_binu rfl rfl rfl (by omega)) rfl rfl ?_ | refine oQ (Q_bin rfl rfl rfl) rfl rfl ?_
           refine oA rfl rfl ?_
           refine OW_nil ?_))
       all_goals first
         | with_reducible refine tR ?_
         | with_reducible refine tE ?_
         | (
          with_reducible refine tN ?_
          fail "again 0")
       all_goals first | with_reducible refine bN ?_ | with_reducible refine bE ?_ | with_reducible refine bR ?_ | refine bX rfl ?_
       all_goals with_reducible refine tN ?_
       all_goals (
        refine cR ?_
        iterate 2 refine oM rfl rfl ?_
        refine oQ (Q_slsL 3 rfl rfl rfl rfl rfl rfl (by first | omega | (dsimp only; omega) | (simp; omega) | (simp; done)) (by first | omega | (dsimp only; omega) | (simp; omega) | (simp; done))) rfl rfl ?_
        fail "builtin clear at slot None"
        refine oN ?_
        refine cR ?_
        iterate 2 refine oM rfl rfl ?_
        refine oQ (Q_slsH rfl rfl rfl rfl rfl (by first | omega | (dsimp only; omega) | (simp; omega) | (simp; done))) rfl rfl ?_
        refine oA rfl rfl ?_
        refine oN ?_
        refine CW_ret ?_))
    all_goals (
     exact exitH (r0 := .slice 0 0 L.length ck) (.inr rfl) [] 1 (.cons (.tmp rfl rfl) .nil) rfl rfl rfl (vHc rfl (vHc rfl (vHc rfl (vHc rfl vHn)))) rfl rfl ⟨[], by simp, rfl, rfl⟩)
  · have hall : ((L.take a).filter fun x => !g x) = L.take a := by rw [List.filter_eq_self]; intro x hx; simp [ha2 x hx]
    refine conW tab_ok [(0, .slice 0 0 L.length ck), (1, .func 133 [] [.ptr 1002 0])] 1 [0, 1000, 1001, 1002] [0, 1000, 1001, 1002] Try.func131 rfl rfl rfl rfl rfl rfl rfl rfl rfl ?_
    refine cR ?_
    refine oA rfl rfl ?_
    refine oN ?_
    refine cR ?_
    iterate 2 refine oM rfl rfl ?_
    refine oQ (Q_call (idxPointD2 f t0 L0 t1 L1 g tM L sp L.length ck rfl h3 hk9 hf) [] rfl rfl (Fits.mk' (vHc rfl (vHc rfl (vHc rfl (vHc rfl vHn)))) rfl rfl (by first | (simp; done) | exact glOk rfl rfl rfl)) rfl rfl) rfl rfl ?_
    refine oA rfl rfl ?_
    refine oN ?_
    refine CW_seq ?_
    refine cR ?_
    refine oM rfl rfl ?_
    refine oQ (Q_bin rfl rfl rfl) rfl rfl ?_
    refine oN ?_
    first | refine cT rfl ?_ | refine cF rfl ?_ | refine CW_cond rfl (fun hc => ?_) (fun hc => ?_)
    all_goals try simp only [s1, s2, s3, s4, s5, s6, s7, s8, s9, s10, s11, s12] at hc
    all_goals try (exfalso; first | omega | (simp at hc); done)
    all_goals first
      | (
       refine CW_skip ?_)
      | (
       refine cR ?_
       refine oM rfl rfl ?_
       refine oA rfl rfl ?_
       refine oN ?_
       refine CW_ret ?_)
    all_goals first
      | with_reducible refine tR ?_
      | with_reducible refine tE ?_
      | (
       with_reducible refine tN ?_
       refine CW_seq ?_
       refine cR ?_
       refine oM rfl rfl ?_
       first | refine oQ (Q_binu rfl rfl rfl (by omega)) rfl rfl ?_ | refine oQ (Q_bin rfl rfl rfl) rfl rfl ?_
       refine oA rfl rfl ?_
       refine oN ?_
       refine CW_block ?_
       refine CW_loop (ι := Nat × List Int) (fun x => x.1 ≤ L.length ∧ x.2.length + ((L.take x.1).filter fun x => !g x).length * 3 = x.1 * 3 ∧ ((L.take x.1).filter fun x => !g x).length < x.1) (fun x => ⟨[(0, .slice 0 0 L.length ck), (1, .func 133 [] [.ptr 1002 0]), (5, .int (((L.take x.1).filter fun x => !g x).length : Nat)), (6, .int (x.1 : Int))], [(0, .ints tM (delM 3 g L x.1 x.2 sp)), (1000, .ints t0 L0), (1001, .ints t1 L1), (1002, .vals 120 [.func f [] [.ptr 1000 0, .ptr 1001 0]])], 1⟩) (fun x => L.length - x.1) (a + 1, L.getD a []) ?_ ?_ ?_
       · refine ⟨ha, ?_⟩; rw [filter_skip ha (by rw [ha1]; rfl), hall, List.length_take, h3 _ (getD_mem ha)]; exact ⟨by omega, by dsimp only; omega⟩
       · refine View.mk' [] rfl rfl rfl ?_ ?_
         repeat' first | exact vFn | refine vFc rfl ?_ | exact vHn | refine vHc rfl ?_ | refine vFc (congrArg (fun z => some (V.int z)) ?_) ?_ | refine vHc (congrArg (fun z => some (Blk.ints _ z)) ?_) ?_ | refine vFc (congrArg (fun z => some (V.bool z)) ?_) ?_ | refine vFs rfl rfl ?_ ?_
         · rw [hix, filter_skip ha (by rw [ha1]; rfl), hall, List.length_take, Nat.min_eq_left (by omega)]
         · rw [hix]; rfl
         · have hd := delM_skip (sz := 3) (junk := []) (sp := sp) ha ha1; rw [List.nil_append] at hd; dsimp only; rw [← hd]; unfold delM; rw [hall, List.nil_append, ← List.append_assoc, ← List.flatten_append, List.take_append_drop]
       rintro ⟨j, junk⟩ ⟨hj, hju, hlt⟩
       dsimp only at hj hju hlt ⊢
       have hfn := filter_len (g := fun x => !g x) j hj
       have hdl := delM_len (sp := sp) h3 hj hju
       have hdl2 := fun h : j < L.length => h3 _ (getD_mem h)
       refine CW_seq ?_
       refine cR ?_
       iterate 2 refine oM rfl rfl ?_
       first | refine oQ (Q_len rfl rfl rfl rfl) rfl rfl ?_ | refine oQ (Q_len0 rfl rfl rfl rfl) rfl rfl ?_
       refine oQ (Q_bin rfl rfl rfl) rfl rfl ?_
       refine oN ?_
       first | refine cT rfl ?_ | refine cF rfl ?_ | refine CW_cond rfl (fun hc => ?_) (fun hc => ?_)
       all_goals try simp only [s1, s2, s3, s4, s5, s6, s7, s8, s9, s10, s11, s12] at hc
       all_goals try (exfalso; first | omega | (simp at hc); done)
       all_goals first
         | (
          refine CW_skip ?_)
         | (
          refine CW_exit ?_)
       all_goals first
         | with_reducible refine tR ?_
         | with_reducible refine tE ?_
         | (
          with_reducible refine tN ?_
          refine CW_seq ?_
          refine CW_block ?_
          refine cR ?_
          iterate 2 refine oM rfl rfl ?_
          first | refine oQ (Q_ixs0z 3 rfl rfl rfl rfl rfl rfl (by first | omega | (dsimp only; omega) | (simp; omega) | (simp; done))) rfl rfl ?_ | refine oQ (Q_ixsz 3 rfl rfl rfl rfl rfl rfl (by first | omega | (dsimp only; omega) | (simp; omega) | (simp; done))) rfl rfl ?_
          refine oQ (Q_lda (n := 3) rfl rfl rfl rfl rfl (by rw [hdl]; omega)) rfl rfl ?_; rw [delM_get h3 (show j < L.length by omega) hju]
          refine oAlloc rfl rfl rfl rfl rfl rfl rfl ?_
          first | refine oSw rfl rfl rfl rfl ?_ | refine oSa rfl rfl rfl rfl ?_
          refine oN ?_
          refine cR ?_
          refine oM rfl rfl ?_
          first | refine oQ (Lw rfl rfl rfl rfl) rfl rfl ?_ | refine oQ (La rfl rfl rfl rfl rfl) rfl rfl ?_
          refine oQ (Q_callf (hf _ (getD_mem (by omega))) [] rfl rfl rfl (Fits.mk' (vHc rfl (vHc rfl (vHc rfl vHn))) rfl rfl (by first | (simp; done) | exact glOk rfl rfl rfl)) rfl rfl) rfl rfl ?_
          refine oQ (Q_not rfl) rfl rfl ?_
          refine oN ?_
          first | refine cT rfl ?_ | refine cF rfl ?_ | refine CW_cond rfl (fun hc => ?_) (fun hc => ?_)
          all_goals try simp only [s1, s2, s3, s4, s5, s6, s7, s8, s9, s10, s11, s12] at hc
          all_goals try (exfalso; first | omega | (simp at hc); done)
          all_goals first
            | (
             refine CW_skip ?_)
            | (
             refine cR ?_
             iterate 2 refine oM rfl rfl ?_
             first | refine oQ (Lw rfl rfl rfl rfl) rfl rfl ?_ | refine oQ (La rfl rfl rfl rfl rfl) rfl rfl ?_
             refine oQ (Q_ixs0z 3 rfl rfl rfl rfl rfl rfl (by omega)) rfl rfl ?_
             first | refine oSw rfl rfl rfl rfl ?_ | refine oSa rfl rfl rfl rfl ?_
             refine oN ?_
             refine CW_region ?_
             refine oM rfl rfl ?_
             first | refine oQ (Q_binu rfl rfl rfl (by omega)) rfl rfl ?_ | refine oQ (Q_bin rfl rfl rfl) rfl rfl ?_
             refine oA rfl rfl ?_
             refine OW_nil ?_)
          all_goals first | with_reducible refine bN ?_ | with_reducible refine bE ?_ | with_reducible refine bR ?_ | refine bX rfl ?_
          all_goals with_reducible refine tN ?_
          all_goals (
           refine CW_region ?_
           refine oM rfl rfl ?_
           first | refine oQ (Q_binu rfl rfl rfl (by omega)) rfl rfl ?_ | refine oQ (Q_bin rfl rfl rfl) rfl rfl ?_
           refine oA rfl rfl ?_
           refine OW_nil ?_))
       all_goals first
         | with_reducible refine tR ?_
         | with_reducible refine tE ?_
         | (
          with_reducible refine tN ?_
          refine ⟨(j + 1, if g (L.getD j []) = true then junk ++ L.getD j [] else (junk ++ L.getD j []).drop 3), ?_, ?_, View.mk' [] rfl rfl rfl ?_ ?_⟩
          · have e3 := h3 _ (getD_mem (show j < L.length by omega))
            refine ⟨by dsimp only; omega, ?_⟩
            dsimp only
            cases hg : g (L.getD j [])
            · rw [filter_snoc (by omega) (by rw [hg]; rfl)]; simp only [Bool.false_eq_true, if_false, List.length_drop, List.length_append, List.length_cons, List.length_nil, e3]; exact ⟨by omega, by omega⟩
            · rw [filter_skip (by omega) (by rw [hg]; rfl)]; simp only [if_true, List.length_append, e3]; exact ⟨by omega, by omega⟩
          · omega
          all_goals (repeat' first | exact vFn | refine vFc rfl ?_ | exact vHn | refine vHc rfl ?_ | refine vFc (congrArg (fun z => some (V.int z)) ?_) ?_ | refine vHc (congrArg (fun z => some (Blk.ints _ z)) ?_) ?_ | refine vFc (congrArg (fun z => some (V.bool z)) ?_) ?_ | refine vFs rfl rfl ?_ ?_)
          all_goals dsimp only
          all_goals first
            | (rw [filter_snoc (by omega) (by rw [hc]; rfl)]; simp; done)
            | (rw [filter_skip (by omega) (by rw [hc]; rfl)]; done)
            | (rw [if_pos hc]; exact delM_skip (by omega) hc)
            | (rw [if_neg (by rw [hc]; exact Bool.false_ne_true)]; exact delM_keep h3 (by omega) hc hju))
       all_goals first | with_reducible refine bN ?_ | with_reducible refine bE ?_ | with_reducible refine bR ?_ | refine bX rfl ?_
       all_goals with_reducible refine tN ?_
       all_goals (
        refine cR ?_
        iterate 2 refine oM rfl rfl ?_
        refine oQ (Q_slsL 3 rfl rfl rfl rfl rfl rfl (by omega) (by omega)) rfl rfl ?_; rw [if_neg (show ¬ ck = ((L.take j).filter fun x => !g x).length by omega), Nat.zero_add]
        refine oClear (sz := 3) rfl rfl rfl rfl ⟨by decide, rfl, .inr rfl⟩ rfl rfl (by rw [hdl]; omega) ?_
        refine oN ?_
        refine cR ?_
        iterate 2 refine oM rfl rfl ?_
        refine oQ (Q_slsH rfl rfl rfl rfl rfl (by first | omega | (dsimp only; omega) | (simp; omega) | (simp; done))) rfl rfl ?_
        refine oA rfl rfl ?_
        refine oN ?_
        refine CW_ret ?_))
    all_goals (
     have e : j = L.length := by omega
     subst e
     refine exitH (r0 := .slice 0 0 (L.filter fun x => !g x).length ck) (H0 := [(0, .ints tM ((L.filter fun x => !g x).flatten ++ (List.replicate ((L.length - (L.filter fun x => !g x).length) * 3) 0 ++ sp))), (1000, .ints t0 L0), (1001, .ints t1 L1), (1002, .vals 120 [.func f [] [.ptr 1000 0, .ptr 1001 0]])]) (.inr rfl) [] 1 (.cons (.tmp rfl rfl) .nil) ?_ rfl rfl ?_ rfl rfl ⟨_, by simp, rfl, rfl⟩
     · simp [resV, ren, ap]
     · refine vHc (congrArg (fun z => some (Blk.ints _ z)) ?_) (vHc rfl (vHc rfl (vHc rfl vHn)))
       exact delM_end h3 hju)
theorem pointsThat1_2 (f : Nat) (t0 : TypeId) (L0 : List Int) (t1 : TypeId) (L1 : List Int) (g : List Int → Bool) (m0 : List Int) (hm : m0.length = 3) (hf : ∀ m, m = m0 → ConQ Try.prog [] f [.arr m, .ptr 1000 0, .ptr 1001 0] [(1000, .ints t0 L0), (1001, .ints t1 L1)] (.bool (g m))) : ConQ Try.prog [] 133 [.arr m0, .ptr 1002 0] [(1000, .ints t0 L0), (1001, .ints t1 L1), (1002, .vals 120 [.func f [] [.ptr 1000 0, .ptr 1001 0]])] (.bool (!(g m0))) := by
  refine conW tab_ok [(0, .arr m0), (1, .ptr 1002 0)] 0 [1000, 1001, 1002] [1000, 1001, 1002] Try.func133 rfl rfl rfl rfl rfl rfl rfl rfl rfl ?_
  refine cR ?_
  refine oBox rfl rfl rfl rfl rfl rfl ?_
  refine oA rfl rfl ?_
  refine oN ?_
  refine cR ?_
  refine oQ (Q_ldv rfl rfl rfl rfl rfl rfl) rfl rfl ?_
  refine oQ (Q_ldw rfl rfl rfl rfl hm) rfl rfl ?_
  refine oQ (Q_callf (hf m0 rfl) [] rfl rfl rfl (Fits.mk' (vHc rfl (vHc rfl vHn)) rfl rfl (by first | (simp; done) | exact glOk rfl rfl rfl)) rfl rfl) rfl rfl ?_
  refine oQ (Q_not rfl) rfl rfl ?_
  refine oA rfl rfl ?_
  refine oN ?_
  refine CW_ret ?_
  all_goals (
   ((refine exitQ (.inr rfl) 0 (.cons (.tmp rfl rfl) .nil) ?_ rfl (vHc rfl (vHc rfl (vHc rfl vHn))) rfl rfl); rfl))
theorem pointsThat_2 (f : Nat) (t0 : TypeId) (L0 : List Int) (t1 : TypeId) (L1 : List Int) (g : List Int → Bool) (p : Int) (hp : primeB p = true) (hf : ∀ m, m ∈ allPts p → ConQ Try.prog [] f [.arr m, .ptr 1000 0, .ptr 1001 0] [(1000, .ints t0 L0), (1001, .ints t1 L1)] (.bool (g m))) : Con Try.prog [] 100 [.int p, .func f [] [.ptr 1000 0, .ptr 1001 0]] [(1000, .ints t0 L0), (1001, .ints t1 L1)] (ownR 3 32 [(1000, .ints t0 L0), (1001, .ints t1 L1)] 0 ((allPts p).filter g)) := by
  have hb := prime_bd hp
  have hal := allPts_len hp
  refine conW tab_ok [(0, .int p), (1, .func f [] [.ptr 1000 0, .ptr 1001 0])] 0 [1000, 1001] [1000, 1001] Try.func100 rfl rfl rfl rfl rfl rfl rfl rfl rfl ?_
  refine cR ?_
  refine oBox rfl rfl rfl rfl rfl rfl ?_
  refine oA rfl rfl ?_
  refine oN ?_
  refine cR ?_
  refine oM rfl rfl ?_
  refine oCall (allPoints_con p hp) [] 1 rfl rfl (Fits.mk' vHn rfl rfl (by first | (simp; done) | exact glOk rfl rfl rfl)) rfl rfl ?_
  rintro r H1 ⟨k, sp, hk, hsp, rfl, rfl⟩
  refine ⟨.slice 1 0 (allPts p).length k, [(1, .ints 32 ((allPts p).flatten ++ sp))], rfl, rfl, rfl, ?_⟩
  refine oQ (Q_makeFunc rfl rfl) rfl rfl ?_
  refine oCall (delPointD2 f t0 L0 t1 L1 (fun x => !g x) 32 (allPts p) sp k (fun x hx => allPts_three hx) (by omega) hk (fun m hm => pointsThat1_2 f t0 L0 t1 L1 g m (allPts_three hm) (fun _ e => e ▸ hf m hm))) [(0, 1), (1002, 0)] 0 rfl rfl (Fits.mk' (vHc rfl (vHc rfl (vHc rfl (vHc rfl vHn)))) rfl rfl (by first | (simp; done) | exact glOk rfl rfl rfl)) rfl rfl ?_
  rintro r H1 ⟨z, hz, rfl, rfl⟩
  rw [notnot] at hz ⊢
  refine ⟨.slice 1 0 ((allPts p).filter g).length k, [(1, .ints 32 (((allPts p).filter g).flatten ++ (z ++ sp))), (1000, .ints t0 L0), (1001, .ints t1 L1), (0, .vals 120 [.func f [] [.ptr 1000 0, .ptr 1001 0]])], rfl, rfl, rfl, ?_⟩
  refine oA rfl rfl ?_
  refine oN ?_
  refine CW_ret ?_
  all_goals (
   have hfl := List.length_filter_le g (allPts p)
   exact exitH (r0 := .slice 0 0 ((allPts p).filter g).length k) (.inr rfl) [(0, 1)] 1 (.cons (.tmp rfl rfl) .nil) rfl rfl rfl (vHc rfl (vHc rfl (vHc rfl vHn))) rfl rfl ⟨k, z ++ sp, by omega, by rw [List.length_append, hz]; omega, rfl, rfl⟩)
end Go.Proofs.Ytoiolpgmilobnaa
namespace Go.Proofs.Ytoiolpgmilobnaa
attribute [local irreducible] CW OW QW QOp Con thenP inBlockP
set_option maxRecDepth 10000
set_option linter.unusedSimpArgs false
set_option linter.unusedVariables false
/-- small numbers -/
def sm (B : Int) (l : List Int) : Prop := ∀ x ∈ l, -B ≤ x ∧ x ≤ B
theorem sm_get {B : Int} {l : List Int} (h : sm B l) (hB : 0 ≤ B) (i : Nat) : -B ≤ l.getD i 0 ∧ l.getD i 0 ≤ B := by
  by_cases hi : i < l.length
  · have : l.getD i 0 = l[i] := by simp [List.getD, hi]
    rw [this]; exact h _ (List.getElem_mem hi)
  · have : l.getD i 0 = 0 := by simp [List.getD, hi]
    rw [this]; omega
theorem sm_mod {p : Int} {l : List Int} (hp : primeB p = true) (h : modB p l = true) : sm 13 l := fun x hx => by
  have := prime_bd hp
  have := mod_list h x hx; omega
theorem sm_point {p : Int} {l : List Int} (h : pointB p l = true) : sm 13 l := by
  simp only [pointB, normB, Bool.and_eq_true] at h
  exact sm_mod h.1 h.2.1
theorem allPts_mod {p : Int} (hp : primeB p = true) {x : List Int} (h : x ∈ allPts p) : ∀ z ∈ x, 0 ≤ z ∧ z < p := by
  have hb := prime_bd hp
  simp only [allPts, row1, rows2, row2, List.mem_append, List.mem_map, List.mem_flatMap, List.mem_singleton, List.mem_range] at h
  rcases h with (rfl | ⟨a, ha, rfl⟩) | ⟨a, ha, b, hb, rfl⟩ <;> intro z hz <;> simp only [List.mem_cons, List.not_mem_nil, or_false] at hz <;> omega
theorem allPts_sm {p : Int} (hp : primeB p = true) {x : List Int} (h : x ∈ allPts p) : sm 13 x := fun z hz => by
  have := allPts_mod hp h z hz
  have := prime_bd hp
  omega
/-- the sum of the products of the first i numbers -/
def dotT (c w : List Int) : Nat → Int
  | 0 => 0
  | i + 1 => dotT c w i + c.getD i 0 * w.getD i 0
theorem dotT_bd {A B : Int} {c w : List Int} (hc : sm A c) (hw : sm B w) (hA : 0 ≤ A) (hB : 0 ≤ B) (i : Nat) : -(i * (A * B)) ≤ dotT c w i ∧ dotT c w i ≤ i * (A * B) := by
  induction i with
  | zero => simp [dotT]
  | succ i ih =>
    have h1 := sm_get hc hA i
    have h2 := sm_get hw hB i
    have h3 := mul_bds h1.1 h1.2 h2.1 h2.2
    simp only [dotT, Int.natCast_add, Int.natCast_one, Int.add_mul, Int.one_mul]
    omega
def dotV (a b : List Int) : Int := dotT a b 3
def pw : List Int → List Int
  | [x, y, z] => [x * x, y * y, z * z, x * y, x * z, y * z]
  | _ => []
def conV (p : Int) (c a : List Int) : Int := dotT c (pw a) 6 % p
theorem sm3 {B a b c : Int} : sm B [a, b, c] ↔ (-B ≤ a ∧ a ≤ B) ∧ (-B ≤ b ∧ b ≤ B) ∧ (-B ≤ c ∧ c ≤ B) := by simp [sm]
theorem pw_sm {a : List Int} (h : sm 13 a) (hl : a.length = 3) : sm 169 (pw a) := by
  match a, hl with
  | [x, y, z], _ =>
    obtain ⟨hx, hy, hz⟩ := sm3.1 h
    intro u hu
    simp only [pw, List.mem_cons, List.not_mem_nil, or_false] at hu
    rcases hu with rfl | rfl | rfl | rfl | rfl | rfl
    · exact mul_bds hx.1 hx.2 hx.1 hx.2
    · exact mul_bds hy.1 hy.2 hy.1 hy.2
    · exact mul_bds hz.1 hz.2 hz.1 hz.2
    · exact mul_bds hx.1 hx.2 hy.1 hy.2
    · exact mul_bds hx.1 hx.2 hz.1 hz.2
    · exact mul_bds hy.1 hy.2 hz.1 hz.2
theorem pw_length {a : List Int} (hl : a.length = 3) : (pw a).length = 6 := by
  match a, hl with
  | [x, y, z], _ => rfl
theorem powers_con (x y z : Int) (h : sm 13 [x, y, z]) : ConQ Try.prog [] 98 [.arr [x, y, z]] [] (.arr (pw [x, y, z])) := by
  obtain ⟨hx, hy, hz⟩ := sm3.1 h
  refine conW tab_ok [(0, .arr [x, y, z])] 0 [] [] Try.func98 rfl rfl rfl rfl rfl rfl rfl rfl rfl ?_
  refine cR ?_
  refine oBox rfl rfl rfl rfl rfl rfl ?_
  refine oAlloc rfl rfl rfl rfl rfl rfl rfl ?_
  refine oN ?_
  refine cR ?_
  first | refine oQ (Ia0 rfl rfl rfl rfl rfl rfl) rfl rfl ?_ | refine oQ (Ia1 rfl rfl rfl rfl rfl rfl) rfl rfl ?_
  first | refine oQ (Q_ldc rfl rfl rfl rfl rfl) rfl rfl ?_ | refine oQ (Ld rfl rfl rfl rfl) rfl rfl ?_
  first | refine oQ (Ia0 rfl rfl rfl rfl rfl rfl) rfl rfl ?_ | refine oQ (Ia1 rfl rfl rfl rfl rfl rfl) rfl rfl ?_
  first | refine oQ (Q_ldc rfl rfl rfl rfl rfl) rfl rfl ?_ | refine oQ (Ld rfl rfl rfl rfl) rfl rfl ?_
  refine oMul 13 13 rfl rfl (by omega) (by omega) (by decide) rfl (fun z7 hz7 hl7 hu7 => ?_)
  first | refine oQ (Ia0 rfl rfl rfl rfl rfl rfl) rfl rfl ?_ | refine oQ (Ia1 rfl rfl rfl rfl rfl rfl) rfl rfl ?_
  first | refine oQ (Q_ldc rfl rfl rfl rfl rfl) rfl rfl ?_ | refine oQ (Ld rfl rfl rfl rfl) rfl rfl ?_
  first | refine oQ (Ia0 rfl rfl rfl rfl rfl rfl) rfl rfl ?_ | refine oQ (Ia1 rfl rfl rfl rfl rfl rfl) rfl rfl ?_
  first | refine oQ (Q_ldc rfl rfl rfl rfl rfl) rfl rfl ?_ | refine oQ (Ld rfl rfl rfl rfl) rfl rfl ?_
  refine oMul 13 13 rfl rfl (by omega) (by omega) (by decide) rfl (fun z12 hz12 hl12 hu12 => ?_)
  first | refine oQ (Ia0 rfl rfl rfl rfl rfl rfl) rfl rfl ?_ | refine oQ (Ia1 rfl rfl rfl rfl rfl rfl) rfl rfl ?_
  first | refine oQ (Q_ldc rfl rfl rfl rfl rfl) rfl rfl ?_ | refine oQ (Ld rfl rfl rfl rfl) rfl rfl ?_
  first | refine oQ (Ia0 rfl rfl rfl rfl rfl rfl) rfl rfl ?_ | refine oQ (Ia1 rfl rfl rfl rfl rfl rfl) rfl rfl ?_
  first | refine oQ (Q_ldc rfl rfl rfl rfl rfl) rfl rfl ?_ | refine oQ (Ld rfl rfl rfl rfl) rfl rfl ?_
  refine oMul 13 13 rfl rfl (by omega) (by omega) (by decide) rfl (fun z17 hz17 hl17 hu17 => ?_)
  first | refine oQ (Ia0 rfl rfl rfl rfl rfl rfl) rfl rfl ?_ | refine oQ (Ia1 rfl rfl rfl rfl rfl rfl) rfl rfl ?_
  first | refine oQ (Q_ldc rfl rfl rfl rfl rfl) rfl rfl ?_ | refine oQ (Ld rfl rfl rfl rfl) rfl rfl ?_
  first | refine oQ (Ia0 rfl rfl rfl rfl rfl rfl) rfl rfl ?_ | refine oQ (Ia1 rfl rfl rfl rfl rfl rfl) rfl rfl ?_
  first | refine oQ (Q_ldc rfl rfl rfl rfl rfl) rfl rfl ?_ | refine oQ (Ld rfl rfl rfl rfl) rfl rfl ?_
  refine oMul 13 13 rfl rfl (by omega) (by omega) (by decide) rfl (fun z22 hz22 hl22 hu22 => ?_)
  first | refine oQ (Ia0 rfl rfl rfl rfl rfl rfl) rfl rfl ?_ | refine oQ (Ia1 rfl rfl rfl rfl rfl rfl) rfl rfl ?_
  first | refine oQ (Q_ldc rfl rfl rfl rfl rfl) rfl rfl ?_ | refine oQ (Ld rfl rfl rfl rfl) rfl rfl ?_
  first | refine oQ (Ia0 rfl rfl rfl rfl rfl rfl) rfl rfl ?_ | refine oQ (Ia1 rfl rfl rfl rfl rfl rfl) rfl rfl ?_
  first | refine oQ (Q_ldc rfl rfl rfl rfl rfl) rfl rfl ?_ | refine oQ (Ld rfl rfl rfl rfl) rfl rfl ?_
  refine oMul 13 13 rfl rfl (by omega) (by omega) (by decide) rfl (fun z27 hz27 hl27 hu27 => ?_)
  first | refine oQ (Ia0 rfl rfl rfl rfl rfl rfl) rfl rfl ?_ | refine oQ (Ia1 rfl rfl rfl rfl rfl rfl) rfl rfl ?_
  first | refine oQ (Q_ldc rfl rfl rfl rfl rfl) rfl rfl ?_ | refine oQ (Ld rfl rfl rfl rfl) rfl rfl ?_
  first | refine oQ (Ia0 rfl rfl rfl rfl rfl rfl) rfl rfl ?_ | refine oQ (Ia1 rfl rfl rfl rfl rfl rfl) rfl rfl ?_
  first | refine oQ (Q_ldc rfl rfl rfl rfl rfl) rfl rfl ?_ | refine oQ (Ld rfl rfl rfl rfl) rfl rfl ?_
  refine oMul 13 13 rfl rfl (by omega) (by omega) (by decide) rfl (fun z32 hz32 hl32 hu32 => ?_)
  refine oQ (Q_build rfl rfl rfl rfl rfl rfl rfl rfl) rfl rfl ?_
  first | refine oSw rfl rfl rfl rfl ?_ | refine oSa rfl rfl rfl rfl ?_
  refine oN ?_
  refine CW_ret ?_
  all_goals (
   subst hz7 hz12 hz17 hz22 hz27 hz32
   (refine exitQ (.inr rfl) 0 (.cons (.arr rfl rfl rfl rfl (by first | omega | (dsimp only; omega) | (simp; omega) | (simp; done))) .nil) ?_ rfl vHn rfl rfl); rfl)
theorem powers_con3 (a : List Int) (hl : a.length = 3) (h : sm 13 a) : ConQ Try.prog [] 98 [.arr a] [] (.arr (pw a)) := by
  match a, hl, h with
  | [x, y, z], _, h => exact powers_con x y z h
theorem dot_con3 (p a b c x y z : Int) (hp : primeB p = true) (h1 : sm 13 [a, b, c]) (h2 : sm 13 [x, y, z]) : ConQ Try.prog [] 99 [.int p, .arr [a, b, c], .arr [x, y, z]] [] (.int (dotV [a, b, c] [x, y, z] % p)) := by
  obtain ⟨ha, hb, hc⟩ := sm3.1 h1
  obtain ⟨hx, hy, hz⟩ := sm3.1 h2
  have hpb := prime_bd hp
  refine conW tab_ok [(0, .int p), (1, .arr [a, b, c]), (2, .arr [x, y, z])] 0 [] [] Try.func99 rfl rfl rfl rfl rfl rfl rfl rfl rfl ?_
  refine cR ?_
  iterate 2 refine oBox rfl rfl rfl rfl rfl rfl ?_
  refine oA rfl rfl ?_
  refine oN ?_
  refine cR ?_
  first | refine oQ (Ia0 rfl rfl rfl rfl rfl rfl) rfl rfl ?_ | refine oQ (Ia1 rfl rfl rfl rfl rfl rfl) rfl rfl ?_
  first | refine oQ (Q_ldc rfl rfl rfl rfl rfl) rfl rfl ?_ | refine oQ (Ld rfl rfl rfl rfl) rfl rfl ?_
  first | refine oQ (Ia0 rfl rfl rfl rfl rfl rfl) rfl rfl ?_ | refine oQ (Ia1 rfl rfl rfl rfl rfl rfl) rfl rfl ?_
  first | refine oQ (Q_ldc rfl rfl rfl rfl rfl) rfl rfl ?_ | refine oQ (Ld rfl rfl rfl rfl) rfl rfl ?_
  refine oMul 13 13 rfl rfl (by omega) (by omega) (by decide) rfl (fun z11 hz11 hl11 hu11 => ?_)
  first | refine oQ (Ia0 rfl rfl rfl rfl rfl rfl) rfl rfl ?_ | refine oQ (Ia1 rfl rfl rfl rfl rfl rfl) rfl rfl ?_
  first | refine oQ (Q_ldc rfl rfl rfl rfl rfl) rfl rfl ?_ | refine oQ (Ld rfl rfl rfl rfl) rfl rfl ?_
  first | refine oQ (Ia0 rfl rfl rfl rfl rfl rfl) rfl rfl ?_ | refine oQ (Ia1 rfl rfl rfl rfl rfl rfl) rfl rfl ?_
  first | refine oQ (Q_ldc rfl rfl rfl rfl rfl) rfl rfl ?_ | refine oQ (Ld rfl rfl rfl rfl) rfl rfl ?_
  refine oMul 13 13 rfl rfl (by omega) (by omega) (by decide) rfl (fun z16 hz16 hl16 hu16 => ?_)
  first | refine oQ (Q_binu rfl rfl rfl (by omega)) rfl rfl ?_ | refine oQ (Q_bin rfl rfl rfl) rfl rfl ?_
  first | refine oQ (Ia0 rfl rfl rfl rfl rfl rfl) rfl rfl ?_ | refine oQ (Ia1 rfl rfl rfl rfl rfl rfl) rfl rfl ?_
  first | refine oQ (Q_ldc rfl rfl rfl rfl rfl) rfl rfl ?_ | refine oQ (Ld rfl rfl rfl rfl) rfl rfl ?_
  first | refine oQ (Ia0 rfl rfl rfl rfl rfl rfl) rfl rfl ?_ | refine oQ (Ia1 rfl rfl rfl rfl rfl rfl) rfl rfl ?_
  first | refine oQ (Q_ldc rfl rfl rfl rfl rfl) rfl rfl ?_ | refine oQ (Ld rfl rfl rfl rfl) rfl rfl ?_
  refine oMul 13 13 rfl rfl (by omega) (by omega) (by decide) rfl (fun z22 hz22 hl22 hu22 => ?_)
  first | refine oQ (Q_binu rfl rfl rfl (by omega)) rfl rfl ?_ | refine oQ (Q_bin rfl rfl rfl) rfl rfl ?_
  refine oM rfl rfl ?_
  refine oQ (Q_call0 (mod_con _ _ (by omega) (by omega)) rfl rfl rfl) rfl rfl ?_
  refine oA rfl rfl ?_
  refine oN ?_
  refine CW_ret ?_
  all_goals (
   subst hz11 hz16 hz22
   refine exitQ (.inr rfl) 0 (.cons (.tmp rfl rfl) .nil) ?_ rfl vHn rfl rfl
   simp [resV, dotV, dotT])
theorem dot_con (p : Int) (a b : List Int) (hp : primeB p = true) (ha : a.length = 3) (hb : b.length = 3) (h1 : sm 13 a) (h2 : sm 13 b) : ConQ Try.prog [] 99 [.int p, .arr a, .arr b] [] (.int (dotV a b % p)) := by
  match a, ha, b, hb with
  | [a, b, c], _, [x, y, z], _ => exact dot_con3 p a b c x y z hp h1 h2
theorem conAt_con (c : List Int) (p : Int) (a : List Int) (hp : primeB p = true) (hcl : c.length = 6) (hal : a.length = 3) (h1 : sm 13 c) (h2 : sm 13 a) : ConQ Try.prog [] 56 [.arr c, .int p, .arr a] [] (.int (conV p c a)) := by
  have hpb := prime_bd hp
  have hpl := pw_length hal
  have hps := pw_sm h2 hal
  have hd := dotT_bd h1 hps (by decide) (by decide)
  refine conW tab_ok [(0, .arr c), (1, .int p), (2, .arr a)] 0 [] [] Try.func56 rfl rfl rfl rfl rfl rfl rfl rfl rfl ?_
  refine cR ?_
  iterate 2 refine oBox rfl rfl rfl rfl rfl rfl ?_
  refine oA rfl rfl ?_
  refine oN ?_
  refine cR ?_
  refine oA rfl rfl ?_
  refine oN ?_
  refine CW_seq ?_
  refine cR ?_
  refine oQ (Q_ldw rfl rfl rfl rfl hal) rfl rfl ?_
  refine oQ (Q_call0 (powers_con3 a hal h2) rfl rfl rfl) rfl rfl ?_
  refine oM rfl rfl ?_
  refine oN ?_
  refine CW_block ?_
  refine CW_loop (ι := Nat) (fun i => i ≤ 6) (fun i => ⟨[(1, .int p), (3, .ptr 0 0), (7, .int (dotT c (pw a) i)), (11, .arr (pw a)), (12, .int i)], [(0, .ints 25 c)], 2⟩) (fun i => 6 - i) 0 ?_ ?_ ?_
  · first | trivial | omega | (simp; done) | (simp; omega)
  · refine View.mk' [] rfl rfl rfl ?_ ?_
    repeat' first | exact vFn | refine vFc rfl ?_ | exact vHn | refine vHc rfl ?_ | refine vFc (congrArg (fun z => some (V.int z)) ?_) ?_ | refine vHc (congrArg (fun z => some (Blk.ints _ z)) ?_) ?_ | refine vFc (congrArg (fun z => some (V.bool z)) ?_) ?_ | refine vFs rfl rfl ?_ ?_
  intro i hi
  have hdi := hd i
  have hg1 := sm_get h1 (by decide) i
  have hg2 := sm_get hps (by decide) i
  have hi6 : (i : Int) * (13 * 169) ≤ 6 * (13 * 169) := by omega
  refine cR ?_
  refine oQ (Q_bin rfl rfl rfl) rfl rfl ?_
  refine oN ?_
  refine CW_seq ?_
  first | refine cT rfl ?_ | refine cF rfl ?_ | refine CW_cond rfl (fun hc => ?_) (fun hc => ?_)
  all_goals try simp only [s1, s2, s3, s4, s5, s6, s7, s8, s9, s10, s11, s12] at hc
  all_goals first
    | (
     refine CW_skip ?_)
    | (
     refine CW_exit ?_)
  all_goals first
    | with_reducible refine tR ?_
    | with_reducible refine tE ?_
    | (
     with_reducible refine tN ?_
     refine CW_seq ?_
     refine CW_block ?_
     refine cR ?_
     refine oM rfl rfl ?_
     refine oQ (Q_index1 rfl rfl rfl rfl rfl rfl rfl (by first | omega | (dsimp only; omega) | (simp; omega) | (simp; done)) (by first | omega | (dsimp only; omega) | (simp; omega) | (simp; done))) rfl rfl ?_
     iterate 2 refine oA rfl rfl ?_
     refine oN ?_
     refine CW_region ?_
     iterate 2 refine oM rfl rfl ?_
     first | refine oQ (Ia0 rfl rfl rfl rfl rfl rfl) rfl rfl ?_ | refine oQ (Ia1 rfl rfl rfl rfl rfl rfl) rfl rfl ?_
     refine oQ (Ld rfl rfl rfl rfl) rfl rfl ?_
     refine oM rfl rfl ?_
     refine oMul 13 169 rfl rfl (by omega) (by omega) (by decide) rfl (fun z21 hz21 hl21 hu21 => ?_)
     first | refine oQ (Q_binu rfl rfl rfl (by omega)) rfl rfl ?_ | refine oQ (Q_bin rfl rfl rfl) rfl rfl ?_
     refine oA rfl rfl ?_
     refine OW_nil ?_
     all_goals first | with_reducible refine bN ?_ | with_reducible refine bE ?_ | with_reducible refine bR ?_ | refine bX rfl ?_
     all_goals with_reducible refine tN ?_
     all_goals (
      refine CW_region ?_
      first | refine oQ (Q_binu rfl rfl rfl (by omega)) rfl rfl ?_ | refine oQ (Q_bin rfl rfl rfl) rfl rfl ?_
      refine oM rfl rfl ?_
      refine OW_nil ?_))
  all_goals first
    | with_reducible refine tR ?_
    | with_reducible refine tE ?_
    | (
     with_reducible refine tN ?_
     refine ⟨i + 1, ?_, ?_, View.mk' [] rfl rfl rfl ?_ ?_⟩
     · omega
     · omega
     all_goals (repeat' first | exact vFn | refine vFc rfl ?_ | exact vHn | refine vHc rfl ?_ | refine vFc (congrArg (fun z => some (V.int z)) ?_) ?_ | refine vHc (congrArg (fun z => some (Blk.ints _ z)) ?_) ?_ | refine vFc (congrArg (fun z => some (V.bool z)) ?_) ?_ | refine vFs rfl rfl ?_ ?_)
     all_goals (simp only [dotT, ← hz21]))
  all_goals first | with_reducible refine bN ?_ | with_reducible refine bE ?_ | with_reducible refine bR ?_ | refine bX rfl ?_
  all_goals with_reducible refine tN ?_
  all_goals (
   refine cR ?_
   iterate 2 refine oM rfl rfl ?_
   refine oQ (Q_call0 (mod_con _ _ (by omega) (by omega)) rfl rfl rfl) rfl rfl ?_
   refine oA rfl rfl ?_
   refine oN ?_
   refine CW_ret ?_)
  all_goals (
   have e : i = 6 := by omega
   subst e
   (refine exitQ (.inr rfl) 0 (.cons (.tmp rfl rfl) .nil) ?_ rfl vHn rfl rfl); rfl)
theorem l03At_con3 (p a b c d e f x y z : Int) (hp : primeB p = true) (h1 : modB p [a, b, c, d, e, f] = true) (h2 : ∀ u ∈ [x, y, z], 0 ≤ u ∧ u < p) : ConQ Try.prog [] 51 [.int p, .arr [a, b, c, d, e, f], .arr [x, y, z]] [] (.int (conV p [a, b, c, d, e, f] [x, y, z])) := by
  have hpb := prime_bd hp
  simp only [modB, List.all_cons, List.all_nil, Bool.and_true, Bool.and_eq_true, decide_eq_true_eq] at h1
  obtain ⟨hA, hB, hC, hD, hE, hF⟩ := h1
  simp only [List.mem_cons, List.not_mem_nil, or_false, forall_eq_or_imp, forall_eq] at h2
  obtain ⟨hx, hy, hz⟩ := h2
  refine conW tab_ok [(0, .int p), (1, .arr [a, b, c, d, e, f]), (2, .arr [x, y, z])] 0 [] [] Try.func51 rfl rfl rfl rfl rfl rfl rfl rfl rfl ?_
  refine cR ?_
  iterate 2 refine oBox rfl rfl rfl rfl rfl rfl ?_
  refine oA rfl rfl ?_
  refine oN ?_
  refine CW_seq ?_
  refine CW_draw lateOk (by decide +kernel) ?_
  first | refine qQ (Ia0 rfl rfl rfl rfl rfl rfl) rfl rfl ?_ | refine qQ (Ia1 rfl rfl rfl rfl rfl rfl) rfl rfl ?_
  first | refine qQ (Q_ldc rfl rfl rfl rfl rfl) rfl rfl ?_ | refine qQ (Ld rfl rfl rfl rfl) rfl rfl ?_
  first | refine qQ (Ia0 rfl rfl rfl rfl rfl rfl) rfl rfl ?_ | refine qQ (Ia1 rfl rfl rfl rfl rfl rfl) rfl rfl ?_
  first | refine qQ (Q_ldc rfl rfl rfl rfl rfl) rfl rfl ?_ | refine qQ (Ld rfl rfl rfl rfl) rfl rfl ?_
  first | refine qQ (Ia0 rfl rfl rfl rfl rfl rfl) rfl rfl ?_ | refine qQ (Ia1 rfl rfl rfl rfl rfl rfl) rfl rfl ?_
  first | refine qQ (Q_ldc rfl rfl rfl rfl rfl) rfl rfl ?_ | refine qQ (Ld rfl rfl rfl rfl) rfl rfl ?_
  iterate 3 refine qA rfl rfl ?_
  refine QW_nil ?_
  all_goals with_reducible refine tN ?_
  all_goals (
   refine cR ?_
   first | refine oQ (Ia0 rfl rfl rfl rfl rfl rfl) rfl rfl ?_ | refine oQ (Ia1 rfl rfl rfl rfl rfl rfl) rfl rfl ?_
   first | refine oQ (Q_ldc rfl rfl rfl rfl rfl) rfl rfl ?_ | refine oQ (Ld rfl rfl rfl rfl) rfl rfl ?_
   refine oM rfl rfl ?_
   refine oMul 13 13 rfl rfl (by omega) (by omega) (by decide) rfl (fun z19 hz19 hl19 hu19 => ?_)
   refine oM rfl rfl ?_
   refine oMul 169 13 rfl rfl (by omega) (by omega) (by decide) rfl (fun z21 hz21 hl21 hu21 => ?_)
   first | refine oQ (Ia0 rfl rfl rfl rfl rfl rfl) rfl rfl ?_ | refine oQ (Ia1 rfl rfl rfl rfl rfl rfl) rfl rfl ?_
   first | refine oQ (Q_ldc rfl rfl rfl rfl rfl) rfl rfl ?_ | refine oQ (Ld rfl rfl rfl rfl) rfl rfl ?_
   refine oM rfl rfl ?_
   refine oMul 13 13 rfl rfl (by omega) (by omega) (by decide) rfl (fun z25 hz25 hl25 hu25 => ?_)
   refine oM rfl rfl ?_
   refine oMul 169 13 rfl rfl (by omega) (by omega) (by decide) rfl (fun z27 hz27 hl27 hu27 => ?_)
   first | refine oQ (Q_binu rfl rfl rfl (by omega)) rfl rfl ?_ | refine oQ (Q_bin rfl rfl rfl) rfl rfl ?_
   first | refine oQ (Ia0 rfl rfl rfl rfl rfl rfl) rfl rfl ?_ | refine oQ (Ia1 rfl rfl rfl rfl rfl rfl) rfl rfl ?_
   first | refine oQ (Q_ldc rfl rfl rfl rfl rfl) rfl rfl ?_ | refine oQ (Ld rfl rfl rfl rfl) rfl rfl ?_
   refine oM rfl rfl ?_
   refine oMul 13 13 rfl rfl (by omega) (by omega) (by decide) rfl (fun z32 hz32 hl32 hu32 => ?_)
   refine oM rfl rfl ?_
   refine oMul 169 13 rfl rfl (by omega) (by omega) (by decide) rfl (fun z34 hz34 hl34 hu34 => ?_)
   first | refine oQ (Q_binu rfl rfl rfl (by omega)) rfl rfl ?_ | refine oQ (Q_bin rfl rfl rfl) rfl rfl ?_
   first | refine oQ (Ia0 rfl rfl rfl rfl rfl rfl) rfl rfl ?_ | refine oQ (Ia1 rfl rfl rfl rfl rfl rfl) rfl rfl ?_
   first | refine oQ (Q_ldc rfl rfl rfl rfl rfl) rfl rfl ?_ | refine oQ (Ld rfl rfl rfl rfl) rfl rfl ?_
   refine oM rfl rfl ?_
   refine oMul 13 13 rfl rfl (by omega) (by omega) (by decide) rfl (fun z39 hz39 hl39 hu39 => ?_)
   refine oM rfl rfl ?_
   refine oMul 169 13 rfl rfl (by omega) (by omega) (by decide) rfl (fun z41 hz41 hl41 hu41 => ?_)
   first | refine oQ (Q_binu rfl rfl rfl (by omega)) rfl rfl ?_ | refine oQ (Q_bin rfl rfl rfl) rfl rfl ?_
   first | refine oQ (Ia0 rfl rfl rfl rfl rfl rfl) rfl rfl ?_ | refine oQ (Ia1 rfl rfl rfl rfl rfl rfl) rfl rfl ?_
   first | refine oQ (Q_ldc rfl rfl rfl rfl rfl) rfl rfl ?_ | refine oQ (Ld rfl rfl rfl rfl) rfl rfl ?_
   refine oM rfl rfl ?_
   refine oMul 13 13 rfl rfl (by omega) (by omega) (by decide) rfl (fun z46 hz46 hl46 hu46 => ?_)
   refine oM rfl rfl ?_
   refine oMul 169 13 rfl rfl (by omega) (by omega) (by decide) rfl (fun z48 hz48 hl48 hu48 => ?_)
   first | refine oQ (Q_binu rfl rfl rfl (by omega)) rfl rfl ?_ | refine oQ (Q_bin rfl rfl rfl) rfl rfl ?_
   first | refine oQ (Ia0 rfl rfl rfl rfl rfl rfl) rfl rfl ?_ | refine oQ (Ia1 rfl rfl rfl rfl rfl rfl) rfl rfl ?_
   first | refine oQ (Q_ldc rfl rfl rfl rfl rfl) rfl rfl ?_ | refine oQ (Ld rfl rfl rfl rfl) rfl rfl ?_
   refine oM rfl rfl ?_
   refine oMul 13 13 rfl rfl (by omega) (by omega) (by decide) rfl (fun z53 hz53 hl53 hu53 => ?_)
   refine oM rfl rfl ?_
   refine oMul 169 13 rfl rfl (by omega) (by omega) (by decide) rfl (fun z55 hz55 hl55 hu55 => ?_)
   first | refine oQ (Q_binu rfl rfl rfl (by omega)) rfl rfl ?_ | refine oQ (Q_bin rfl rfl rfl) rfl rfl ?_
   refine oM rfl rfl ?_
   refine oQ (Q_rem rfl rfl (by omega)) rfl rfl ?_
   refine oA rfl rfl ?_
   refine oN ?_
   refine CW_ret ?_)
  all_goals (
   have n21 : 0 ≤ z21 := by subst hz21 hz19; exact Int.mul_nonneg (Int.mul_nonneg (by omega) (by omega)) (by omega)
   have n27 : 0 ≤ z27 := by subst hz27 hz25; exact Int.mul_nonneg (Int.mul_nonneg (by omega) (by omega)) (by omega)
   have n34 : 0 ≤ z34 := by subst hz34 hz32; exact Int.mul_nonneg (Int.mul_nonneg (by omega) (by omega)) (by omega)
   have n41 : 0 ≤ z41 := by subst hz41 hz39; exact Int.mul_nonneg (Int.mul_nonneg (by omega) (by omega)) (by omega)
   have n48 : 0 ≤ z48 := by subst hz48 hz46; exact Int.mul_nonneg (Int.mul_nonneg (by omega) (by omega)) (by omega)
   have n55 : 0 ≤ z55 := by subst hz55 hz53; exact Int.mul_nonneg (Int.mul_nonneg (by omega) (by omega)) (by omega)
   refine exitQ (.inr rfl) 0 (.cons (.tmp rfl rfl) .nil) ?_ rfl vHn rfl rfl
   simp only [resV, conV, dotT, pw, V.int.injEq]
   rw [Int.tmod_eq_emod_of_nonneg (by omega)]
   subst hz21 hz19 hz27 hz25 hz34 hz32 hz41 hz39 hz48 hz46 hz55 hz53
   congr 1
   simp [Int.mul_assoc])
theorem l03At_con (p : Int) (c a : List Int) (hp : primeB p = true) (hcl : c.length = 6) (hal : a.length = 3) (h1 : modB p c = true) (h2 : ∀ u ∈ a, 0 ≤ u ∧ u < p) : ConQ Try.prog [] 51 [.int p, .arr c, .arr a] [] (.int (conV p c a)) := by
  match c, hcl, a, hal with
  | [a, b, c, d, e, f], _, [x, y, z], _ => exact l03At_con3 p a b c d e f x y z hp h1 h2
theorem cpoints1_con (c : List Int) (p : Int) (hp : primeB p = true) (hcl : c.length = 6) (h1 : sm 13 c) (m : List Int) (hm : m ∈ allPts p) : ConQ Try.prog [] 127 [.arr m, .ptr 1000 0, .ptr 1001 0] [(1000, .ints 25 c), (1001, .ints 2 [p])] (.bool (conV p c m == 0)) := by
  have h3 := allPts_three hm
  have hs := allPts_sm hp hm
  have hpb := prime_bd hp
  refine conW tab_ok [(0, .arr m), (1, .ptr 1000 0), (2, .ptr 1001 0)] 0 [1000, 1001] [1000, 1001] Try.func127 rfl rfl rfl rfl rfl rfl rfl rfl rfl ?_
  refine cR ?_
  refine oBox rfl rfl rfl rfl rfl rfl ?_
  refine oA rfl rfl ?_
  refine oN ?_
  refine cR ?_
  refine oQ (Q_ldw rfl rfl rfl rfl hcl) rfl rfl ?_
  first | refine oQ (Q_ldc rfl rfl rfl rfl rfl) rfl rfl ?_ | refine oQ (Ld rfl rfl rfl rfl) rfl rfl ?_
  refine oQ (Q_ldw rfl rfl rfl rfl h3) rfl rfl ?_
  refine oQ (Q_call0 (conAt_con c p m hp hcl h3 h1 hs) rfl rfl rfl) rfl rfl ?_
  refine oQ (Q_bin rfl rfl rfl) rfl rfl ?_
  refine oA rfl rfl ?_
  refine oN ?_
  refine CW_ret ?_
  all_goals (
   ((refine exitQ (.inr rfl) 0 (.cons (.tmp rfl rfl) .nil) ?_ rfl (vHc rfl (vHc rfl vHn)) rfl rfl); rfl))
theorem cpoints_con (c : List Int) (p : Int) (hp : primeB p = true) (hcl : c.length = 6) (h1 : sm 13 c) : Con Try.prog [] 86 [.arr c, .int p] [] (ownR 3 32 [] 0 ((allPts p).filter fun m => conV p c m == 0)) := by
  refine conW tab_ok [(0, .arr c), (1, .int p)] 0 [] [] Try.func86 rfl rfl rfl rfl rfl rfl rfl rfl rfl ?_
  refine cR ?_
  iterate 2 refine oBox rfl rfl rfl rfl rfl rfl ?_
  refine oA rfl rfl ?_
  refine oN ?_
  refine cR ?_
  first | refine oQ (Q_ldc rfl rfl rfl rfl rfl) rfl rfl ?_ | refine oQ (Ld rfl rfl rfl rfl) rfl rfl ?_
  refine oQ (Q_makeFunc rfl rfl) rfl rfl ?_
  refine oCall (pointsThat_2 127 25 c 2 [p] (fun m => conV p c m == 0) p hp (fun m hm => cpoints1_con c p hp hcl h1 m hm)) [(1000, 0), (1001, 1)] 1 rfl rfl (Fits.mk' (vHc rfl (vHc rfl vHn)) rfl rfl (by first | (simp; done) | exact glOk rfl rfl rfl)) rfl rfl ?_
  rintro r H1 ⟨k, sp, hk, hsp, rfl, rfl⟩
  refine ⟨.slice 2 0 ((allPts p).filter fun m => conV p c m == 0).length k, [(0, .ints 25 c), (1, .ints 2 [p]), (2, .ints 32 (((allPts p).filter fun m => conV p c m == 0).flatten ++ sp))], rfl, rfl, rfl, ?_⟩
  refine oA rfl rfl ?_
  refine oN ?_
  refine CW_ret ?_
  all_goals (
   exact exitH (.inr rfl) [(0, 2)] 1 (.cons (.tmp rfl rfl) .nil) rfl rfl rfl (vHc rfl vHn) rfl rfl ⟨k, sp, hk, hsp, rfl, rfl⟩)
theorem l03Points_con (p : Int) (c : List Int) (hp : primeB p = true) (hcl : c.length = 6) (h1 : modB p c = true) : Con Try.prog [] 79 [.int p, .arr c] [] (ownR 3 32 [] 0 ((allPts p).filter fun m => conV p c m == 0)) := by
  have hb := prime_bd hp
  have hal := allPts_len hp
  have h3 : ∀ x ∈ (allPts p), x.length = 3 := fun x hx => allPts_three hx
  have hf3 := flat3 h3

  refine conW tab_ok [(0, .int p), (1, .arr c)] 0 [] [] Try.func79 rfl rfl rfl rfl rfl rfl rfl rfl rfl ?_
  refine cR ?_
  refine oBox rfl rfl rfl rfl rfl rfl ?_
  refine oA rfl rfl ?_
  refine oN ?_
  refine cR ?_
  refine oM rfl rfl ?_
  refine oCall (l01Points_con p hp) [] 1 rfl rfl (Fits.mk' vHn rfl rfl (by first | (simp; done) | exact glOk rfl rfl rfl)) rfl rfl ?_
  rintro r H1 ⟨k0, sp0, hk0, hsp0, rfl, rfl⟩
  refine ⟨.slice 1 0 (allPts p).length k0, [(1, .ints 32 ((allPts p).flatten ++ sp0))], rfl, rfl, rfl, ?_⟩
  refine oBsl rfl rfl rfl rfl (.inr ⟨rfl, rfl, by decide⟩) rfl rfl rfl rfl rfl rfl ?_
  iterate 2 refine oA rfl rfl ?_
  refine oN ?_
  refine CW_seq ?_
  refine cR ?_
  refine oA rfl rfl ?_
  refine oN ?_
  refine CW_block ?_
  refine CW_loop (ι := Nat × Nat × List Int) (fun x => x.1 ≤ (allPts p).length ∧ (((allPts p).take x.1).filter fun m => conV p c m == 0).length ≤ x.2.1 ∧ x.2.1 * 3 ≤ (((allPts p).take x.1).filter fun m => conV p c m == 0).length * 3 + x.2.2.length) (fun x => ⟨[(0, .int p), (3, .ptr 0 0), (5, .slice 1 0 (allPts p).length k0), (6, .slice 2 0 (((allPts p).take x.1).filter fun m => conV p c m == 0).length x.2.1), (7, .int x.1)], [(0, .ints 25 c), (1, .ints 32 ((allPts p).flatten ++ sp0)), (2, .ints 32 ((((allPts p).take x.1).filter fun m => conV p c m == 0).flatten ++ x.2.2))], 3⟩) (fun x => (allPts p).length - x.1) (0, 0, []) ?_ ?_ ?_
  · exact ⟨Nat.zero_le _, Nat.le_refl _, Nat.le_refl _⟩
  · refine View.mk' [] rfl rfl rfl ?_ ?_
    repeat' first | exact vFn | refine vFc rfl ?_ | exact vHn | refine vHc rfl ?_ | refine vFc (congrArg (fun z => some (V.int z)) ?_) ?_ | refine vHc (congrArg (fun z => some (Blk.ints _ z)) ?_) ?_ | refine vFc (congrArg (fun z => some (V.bool z)) ?_) ?_ | refine vFs rfl rfl ?_ ?_
  rintro ⟨i, k, sp⟩ ⟨hi, hk, hsp⟩
  dsimp only at hi hk hsp ⊢
  have hfn := filter_len (g := fun m => conV p c m == 0) i hi
  have hlen := flat3 (filter_three (g := fun m => conV p c m == 0) h3 i)
  have hmem := fun h : i < (allPts p).length => getD_mem h
  have h3i := fun h : i < (allPts p).length => h3 _ (getD_mem h)
  refine CW_seq ?_
  refine cR ?_
  iterate 2 refine oM rfl rfl ?_
  first | refine oQ (Q_len rfl rfl rfl rfl) rfl rfl ?_ | refine oQ (Q_len0 rfl rfl rfl rfl) rfl rfl ?_
  refine oQ (Q_bin rfl rfl rfl) rfl rfl ?_
  refine oN ?_
  first | refine cT rfl ?_ | refine cF rfl ?_ | refine CW_cond rfl (fun hc => ?_) (fun hc => ?_)
  all_goals try simp only [s1, s2, s3, s4, s5, s6, s7, s8, s9, s10, s11, s12] at hc
  all_goals first
    | (
     refine CW_skip ?_)
    | (
     refine CW_exit ?_)
  all_goals first
    | with_reducible refine tR ?_
    | with_reducible refine tE ?_
    | (
     with_reducible refine tN ?_
     refine CW_seq ?_
     refine CW_block ?_
     refine CW_seq ?_
     refine CW_draw lateOk (by decide +kernel) ?_
     refine qM rfl rfl ?_
     refine qQ (Q_ldw rfl rfl rfl rfl hcl) rfl rfl ?_
     iterate 2 refine qM rfl rfl ?_
     (have h3i := h3i (by omega)); (have hmem := hmem (by omega)); refine qQ (Q_ixs0z 3 rfl rfl rfl rfl rfl rfl (by omega)) rfl rfl ?_
     refine qQ (Q_lda (n := 3) rfl rfl rfl rfl rfl (by rw [List.length_append, hf3]; omega)) rfl rfl ?_; rw [flat_get h3 (show i < (allPts p).length by omega)]
     refine qQ (Q_call0 (l03At_con p c _ hp hcl h3i h1 (allPts_mod hp hmem)) rfl rfl rfl) rfl rfl ?_
     refine qQ (Q_bin rfl rfl rfl) rfl rfl ?_
     refine QW_nil ?_
     all_goals with_reducible refine tN ?_
     all_goals (
      first | refine cT rfl ?_ | refine cF rfl ?_ | refine CW_cond rfl (fun hc => ?_) (fun hc => ?_)
      all_goals try simp only [s1, s2, s3, s4, s5, s6, s7, s8, s9, s10, s11, s12] at hc
      all_goals first
        | (
         refine CW_skip ?_)
        | (
         refine CW_region ?_
         iterate 3 refine oM rfl rfl ?_
         first | refine oQ (Q_ixs0z 3 rfl rfl rfl rfl rfl rfl (by first | omega | (dsimp only; omega) | (simp; omega) | (simp; done))) rfl rfl ?_ | refine oQ (Q_ixsz 3 rfl rfl rfl rfl rfl rfl (by first | omega | (dsimp only; omega) | (simp; omega) | (simp; done))) rfl rfl ?_
         refine oQ (Q_lda (n := 3) rfl rfl rfl rfl rfl (by rw [List.length_append, hf3]; omega)) rfl rfl ?_; rw [flat_get h3 (show i < (allPts p).length by omega)]
         refine oBsl1 h3i rfl rfl rfl rfl rfl rfl rfl rfl rfl rfl ?_
         refine oApp (sz := 3) (by_ := 24) (xl := (allPts p).getD i []) rfl rfl rfl rfl rfl rfl ⟨by decide, rfl, .inr rfl⟩ rfl rfl rfl rfl rfl rfl hlen (by rw [h3i]) (by omega) (by omega) (by omega) (by omega) rfl rfl (fun k2 sp2 h1 h2 => ?_)
         refine oA rfl rfl ?_
         refine OW_nil ?_))
     all_goals first | with_reducible refine bN ?_ | with_reducible refine bE ?_ | with_reducible refine bR ?_ | refine bX rfl ?_
     all_goals with_reducible refine tN ?_
     all_goals (
      refine CW_region ?_
      refine oM rfl rfl ?_
      first | refine oQ (Q_binu rfl rfl rfl (by omega)) rfl rfl ?_ | refine oQ (Q_bin rfl rfl rfl) rfl rfl ?_
      refine oA rfl rfl ?_
      refine OW_nil ?_))
  all_goals first
    | with_reducible refine tR ?_
    | with_reducible refine tE ?_
    | (
     with_reducible refine tN ?_
     first
       | (
        refine ⟨(i + 1, k2, sp2), ?_, ?_, View.mk' [(2, 4)] rfl rfl rfl ?_ ?_⟩
        · dsimp only
          first
            | (rw [filter_snoc (by omega) (by first | exact hc | exact beq_iff_eq.2 hc), List.length_append, List.length_singleton]; exact ⟨by omega, h1, h2⟩)
            | (rw [filter_skip (by omega) (by first | exact hc | exact beq_eq_false_iff_ne.2 hc)]; exact ⟨by omega, hk, hsp⟩)
        · omega
        all_goals (repeat' first | exact vFn | refine vFc rfl ?_ | exact vHn | refine vHc rfl ?_ | refine vFc (congrArg (fun z => some (V.int z)) ?_) ?_ | refine vHc (congrArg (fun z => some (Blk.ints _ z)) ?_) ?_ | refine vFc (congrArg (fun z => some (V.bool z)) ?_) ?_ | refine vFs rfl rfl ?_ ?_)
        all_goals dsimp only
        all_goals first
          | (rw [filter_snoc (by omega) (by first | exact hc | exact beq_iff_eq.2 hc)]; simp; done)
          | (rw [filter_skip (by omega) (by first | exact hc | exact beq_eq_false_iff_ne.2 hc)]; done))
       | (
        refine ⟨(i + 1, k, sp), ?_, ?_, View.mk' [] rfl rfl rfl ?_ ?_⟩
        · dsimp only
          first
            | (rw [filter_snoc (by omega) (by first | exact hc | exact beq_iff_eq.2 hc), List.length_append, List.length_singleton]; exact ⟨by omega, h1, h2⟩)
            | (rw [filter_skip (by omega) (by first | exact hc | exact beq_eq_false_iff_ne.2 hc)]; exact ⟨by omega, hk, hsp⟩)
        · omega
        all_goals (repeat' first | exact vFn | refine vFc rfl ?_ | exact vHn | refine vHc rfl ?_ | refine vFc (congrArg (fun z => some (V.int z)) ?_) ?_ | refine vHc (congrArg (fun z => some (Blk.ints _ z)) ?_) ?_ | refine vFc (congrArg (fun z => some (V.bool z)) ?_) ?_ | refine vFs rfl rfl ?_ ?_)
        all_goals dsimp only
        all_goals first
          | (rw [filter_snoc (by omega) (by first | exact hc | exact beq_iff_eq.2 hc)]; simp; done)
          | (rw [filter_skip (by omega) (by first | exact hc | exact beq_eq_false_iff_ne.2 hc)]; done)))
  all_goals first | with_reducible refine bN ?_ | with_reducible refine bE ?_ | with_reducible refine bR ?_ | refine bX rfl ?_
  all_goals with_reducible refine tN ?_
  all_goals (
   refine cR ?_
   refine oM rfl rfl ?_
   refine oA rfl rfl ?_
   refine oN ?_
   refine CW_ret ?_)
  all_goals (
   have e : i = (allPts p).length := by omega
   subst e
   rw [List.take_length] at hk hsp
   exact exitH (r0 := .slice 0 0 ((allPts p).filter fun m => conV p c m == 0).length k) (H0 := [(0, .ints 32 (((allPts p).filter fun m => conV p c m == 0).flatten ++ sp))]) (.inr rfl) [(0, 2)] 1 (.cons (.tmp rfl rfl) .nil) (by simp only [List.take_length]; rfl) rfl rfl (vHc (by simp only [List.take_length]; rfl) vHn) rfl rfl ⟨k, sp, hk, hsp, rfl, rfl⟩)
end Go.Proofs.Ytoiolpgmilobnaa
