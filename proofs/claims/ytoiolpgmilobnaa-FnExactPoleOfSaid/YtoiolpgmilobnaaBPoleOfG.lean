/- What the last text of PoleOf needs, part 7: contracts of functions and plain mathematics. No conditions beyond those each theorem states. -/
import Derived.Test.YtoiolpgmilobnaaBPoleOfF
namespace Go.Proofs.Ytoiolpgmilobnaa
set_option maxRecDepth 10000
set_option linter.unusedSimpArgs false
set_option linter.unusedVariables false
set_option maxHeartbeats 4000000
/-- the reference's list of rows -/
structure ES where
  i : Nat
  r : Nat
  kO : Nat
  E : Nat → List Int
  K : Nat → Nat
  S : Nat → List Int
  P : Nat → Nat
attribute [local irreducible] CW OW QW QOp Con thenP inBlockP AW QX RW AX
theorem echelon33_con (p : Int) (M : Nat → List Int) (k c0 c1 c2 : Nat) (hp : primeB p = true) (hM : ∀ i, i < 3 → rwB p 3 (M i)) : Con Try.prog [] 77 [.int p, .slice 0 0 3 k] [(0, .vals 103 [.slice 1 0 3 c0, .slice 2 0 3 c1, .slice 3 0 3 c2]), (1, .ints 2 (M 0)), (2, .ints 2 (M 1)), (3, .ints 2 (M 2))] (fun v H' => ∃ kO : Nat, v = .slice 4 0 (rkI p M 3 3) kO ∧ H' = [(0, .vals 103 [.slice 1 0 3 c0, .slice 2 0 3 c1, .slice 3 0 3 c2]), (1, .ints 2 (M 0)), (2, .ints 2 (M 1)), (3, .ints 2 (M 2))]) := by
  have hpb := prime_bd hp
  have hp0 : 0 < p := by omega
  have ho : ∀ i c, i < 3 → Con Try.prog [] 119 [.slice 0 0 3 c] [(0, .ints 2 (M i))] (fun v H' => ∃ k2 sp, 3 ≤ k2 ∧ k2 ≤ 3 + sp.length ∧ v = .slice 1 0 3 k2 ∧ H' = [(0, .ints 2 (M i)), (1, .ints 2 (M i ++ sp))]) := fun i c hi => by
    have := own64_con 2 (M i) 0 3 c (by rw [(hM i hi).1]; omega) (by decide)
    rwa [List.drop_zero, List.take_of_length_le (by rw [(hM i hi).1]; omega)] at this
  refine conW tab_ok [(0, .int p), (1, .slice 0 0 3 k)] 4 [0, 1, 2, 3] [0, 1, 2, 3] Try.func77 rfl rfl rfl rfl rfl rfl rfl rfl rfl ?_
  refine cR ?_
  refine oA rfl rfl ?_
  refine oN ?_
  refine cR ?_
  refine oBslv (r := []) rfl rfl rfl rfl rfl rfl rfl rfl rfl rfl rfl rfl rfl ?_
  refine oA rfl rfl ?_
  refine oN ?_
  refine CW_seq ?_
  refine cR ?_
  refine oA rfl rfl ?_
  refine oN ?_
  refine CW_block ?_
  refine CW_loop (ι := ES) (fun x => x.i ≤ 3 ∧ x.r ≤ x.i ∧ (∀ k, k < x.r → rwB p 3 (x.E k)) ∧ EcI p M x.i 3 x.E x.r x.P) (fun x => match x.r with | 0 => ⟨[(0, .int p), (1, .slice 0 0 3 k), (5, .slice 4 0 0 x.kO), (6, .int x.i)], [(0, .vals 103 [.slice 1 0 3 c0, .slice 2 0 3 c1, .slice 3 0 3 c2]), (1, .ints 2 (M 0)), (2, .ints 2 (M 1)), (3, .ints 2 (M 2)), (4, .vals 103 ([] ++ List.replicate (x.kO - 0) .bot))], 5⟩ | 1 => ⟨[(0, .int p), (1, .slice 0 0 3 k), (5, .slice 4 0 1 x.kO), (6, .int x.i)], [(0, .vals 103 [.slice 1 0 3 c0, .slice 2 0 3 c1, .slice 3 0 3 c2]), (1, .ints 2 (M 0)), (2, .ints 2 (M 1)), (3, .ints 2 (M 2)), (5, .ints 2 (x.E 0 ++ x.S 0)), (4, .vals 103 ([.slice 5 0 3 (x.K 0)] ++ List.replicate (x.kO - 1) .bot))], 6⟩ | 2 => ⟨[(0, .int p), (1, .slice 0 0 3 k), (5, .slice 4 0 2 x.kO), (6, .int x.i)], [(0, .vals 103 [.slice 1 0 3 c0, .slice 2 0 3 c1, .slice 3 0 3 c2]), (1, .ints 2 (M 0)), (2, .ints 2 (M 1)), (3, .ints 2 (M 2)), (5, .ints 2 (x.E 0 ++ x.S 0)), (6, .ints 2 (x.E 1 ++ x.S 1)), (4, .vals 103 ([.slice 5 0 3 (x.K 0), .slice 6 0 3 (x.K 1)] ++ List.replicate (x.kO - 2) .bot))], 7⟩ | _ => ⟨[(0, .int p), (1, .slice 0 0 3 k), (5, .slice 4 0 3 x.kO), (6, .int x.i)], [(0, .vals 103 [.slice 1 0 3 c0, .slice 2 0 3 c1, .slice 3 0 3 c2]), (1, .ints 2 (M 0)), (2, .ints 2 (M 1)), (3, .ints 2 (M 2)), (5, .ints 2 (x.E 0 ++ x.S 0)), (6, .ints 2 (x.E 1 ++ x.S 1)), (7, .ints 2 (x.E 2 ++ x.S 2)), (4, .vals 103 ([.slice 5 0 3 (x.K 0), .slice 6 0 3 (x.K 1), .slice 7 0 3 (x.K 2)] ++ List.replicate (x.kO - 3) .bot))], 8⟩) (fun x => 3 - x.i) ⟨0, 0, 0, fun _ => [], fun _ => 0, fun _ => [], fun _ => 0⟩ ?_ ?_ ?_
  · exact ⟨Nat.zero_le _, Nat.le_refl _, fun k hk => absurd hk (Nat.not_lt_zero _), EcI_start p M _ _ _⟩
  · refine View.mk' [] rfl (by simp only [wfB, List.all_cons, List.all_nil, ids_bots]; rfl) rfl ?_ ?_
    repeat' first | exact vFn | refine vFc rfl ?_ | exact vHn | refine vHc rfl ?_ | refine vFc (congrArg (fun z => some (V.int z)) ?_) ?_ | refine vHc (congrArg (fun z => some (Blk.ints _ z)) ?_) ?_ | refine vFc (congrArg (fun z => some (V.bool z)) ?_) ?_ | refine vFs rfl rfl ?_ ?_ | refine vHc (by rw [ren_bots]; rfl) ?_
  rintro ⟨i, r, kO, E, K, S, P⟩ ⟨h1, h2, hE, hEc⟩
  dsimp only at h1 h2 hE hEc ⊢
  have hP : ∀ k, k < r → P k < 3 := fun k hk => EcI_lt hp hEc hk
  have hld : ∀ k, k < r → ConQ Try.prog [] 121 [.slice 0 0 3 (K k)] [(0, .ints 2 (E k ++ S k))] (.int (P k)) := fun k hk => leadw_con 2 3 (E k) (S k) (K k) (by decide) (hE k hk).1 _ (EcI_ld hp hEc hk (hE k hk))
  have hel : ∀ k, k < r → (E k).length = 3 := fun k hk => (hE k hk).1
  have hrr : r = 0 ∨ r = 1 ∨ r = 2 ∨ r = 3 := by omega
  obtain ⟨r2, hr2⟩ : ∃ z, z = r := ⟨r, rfl⟩
  obtain ⟨r3, hr3⟩ : ∃ z, z = r := ⟨r, rfl⟩
  obtain ⟨r4, hr4⟩ : ∃ z, z = r := ⟨r, rfl⟩
  obtain ⟨r5, hr5⟩ : ∃ z, z = r := ⟨r, rfl⟩
  rcases hrr with rfl | rfl | rfl | rfl
  all_goals (
   refine CW_seq ?_
   refine cR ?_
   iterate 2 refine oM rfl rfl ?_
   first | refine oQ (Q_len rfl rfl rfl rfl) rfl rfl ?_ | refine oQ (Q_len0 rfl rfl rfl rfl) rfl rfl ?_
   refine oQ (Q_bin rfl rfl rfl) rfl rfl ?_
   refine oN ?_
   first | refine cT rfl ?_ | refine cF rfl ?_ | refine CW_cond rfl (fun hc => ?_) (fun hc => ?_)
   all_goals try simp only [s1, s2, s3, s4, s5, s6, s7, s8, s9, s10, s11, s12] at hc
   all_goals try (exfalso; first | omega | (simp at hc; done); done)
   all_goals first
     | (
      refine CW_skip ?_)
     | (
      refine CW_exit ?_)
   all_goals first
     | with_reducible refine tR ?_
     | with_reducible refine tE ?_
     | (
      with_reducible refine tN ?_
      refine CW_seq ?_
      refine CW_block ?_
      refine CW_cut (ι := Nat × List Int) (fun x => i < 3 ∧ 3 ≤ x.1 ∧ x.1 ≤ 3 + x.2.length) (fun x => match r2 with | 0 => ⟨[(0, .int p), (1, .slice 0 0 3 k), (5, .slice 4 0 0 kO), (6, .int i), (7, .slice 5 0 3 x.1)], [(0, .vals 103 [.slice 1 0 3 c0, .slice 2 0 3 c1, .slice 3 0 3 c2]), (1, .ints 2 (M 0)), (2, .ints 2 (M 1)), (3, .ints 2 (M 2)), (4, .vals 103 ([] ++ List.replicate (kO - 0) .bot)), (5, .ints 2 (rdc p E P 3 (M i) 0 ++ x.2))], 6⟩ | 1 => ⟨[(0, .int p), (1, .slice 0 0 3 k), (5, .slice 4 0 1 kO), (6, .int i), (7, .slice 6 0 3 x.1)], [(0, .vals 103 [.slice 1 0 3 c0, .slice 2 0 3 c1, .slice 3 0 3 c2]), (1, .ints 2 (M 0)), (2, .ints 2 (M 1)), (3, .ints 2 (M 2)), (5, .ints 2 (E 0 ++ S 0)), (4, .vals 103 ([.slice 5 0 3 (K 0)] ++ List.replicate (kO - 1) .bot)), (6, .ints 2 (rdc p E P 3 (M i) 0 ++ x.2))], 7⟩ | _ => ⟨[(0, .int p), (1, .slice 0 0 3 k), (5, .slice 4 0 2 kO), (6, .int i), (7, .slice 7 0 3 x.1)], [(0, .vals 103 [.slice 1 0 3 c0, .slice 2 0 3 c1, .slice 3 0 3 c2]), (1, .ints 2 (M 0)), (2, .ints 2 (M 1)), (3, .ints 2 (M 2)), (5, .ints 2 (E 0 ++ S 0)), (6, .ints 2 (E 1 ++ S 1)), (4, .vals 103 ([.slice 5 0 3 (K 0), .slice 6 0 3 (K 1)] ++ List.replicate (kO - 2) .bot)), (7, .ints 2 (rdc p E P 3 (M i) 0 ++ x.2))], 8⟩) ?_ ?_
      · (
       subst hr2
       have him : i < 3 := by omega
       have hii : i = 0 ∨ i = 1 ∨ i = 2 := by omega
       rcases hii with rfl | rfl | rfl
       all_goals (
        refine CW_region ?_
        iterate 2 refine oM rfl rfl ?_
        first | refine oQ (Is0 rfl rfl rfl rfl rfl rfl) rfl rfl ?_ | refine oQ (Is1 rfl rfl rfl rfl rfl rfl) rfl rfl ?_
        refine oQ (Q_ldv rfl rfl rfl rfl rfl rfl) rfl rfl ?_
        first
          | (refine oCall (ho 0 c0 (by omega)) [(0, 1)] 2 rfl rfl (Fits.mk' (vHc rfl vHn) rfl rfl (by simp)) rfl rfl ?_; rintro v1 H1 ⟨ko, so, hko1, hko2, rfl, rfl⟩; first | refine ⟨.slice 6 0 3 ko, [(1, .ints 2 (M 0)), (6, .ints 2 (M 0 ++ so))], rfl, rfl, rfl, ?_⟩ | refine ⟨.slice 7 0 3 ko, [(1, .ints 2 (M 0)), (7, .ints 2 (M 0 ++ so))], rfl, rfl, rfl, ?_⟩ | refine ⟨.slice 8 0 3 ko, [(1, .ints 2 (M 0)), (8, .ints 2 (M 0 ++ so))], rfl, rfl, rfl, ?_⟩)
          | (refine oCall (ho 1 c1 (by omega)) [(0, 2)] 2 rfl rfl (Fits.mk' (vHc rfl vHn) rfl rfl (by simp)) rfl rfl ?_; rintro v1 H1 ⟨ko, so, hko1, hko2, rfl, rfl⟩; first | refine ⟨.slice 6 0 3 ko, [(2, .ints 2 (M 1)), (6, .ints 2 (M 1 ++ so))], rfl, rfl, rfl, ?_⟩ | refine ⟨.slice 7 0 3 ko, [(2, .ints 2 (M 1)), (7, .ints 2 (M 1 ++ so))], rfl, rfl, rfl, ?_⟩ | refine ⟨.slice 8 0 3 ko, [(2, .ints 2 (M 1)), (8, .ints 2 (M 1 ++ so))], rfl, rfl, rfl, ?_⟩)
          | (refine oCall (ho 2 c2 (by omega)) [(0, 3)] 2 rfl rfl (Fits.mk' (vHc rfl vHn) rfl rfl (by simp)) rfl rfl ?_; rintro v1 H1 ⟨ko, so, hko1, hko2, rfl, rfl⟩; first | refine ⟨.slice 6 0 3 ko, [(3, .ints 2 (M 2)), (6, .ints 2 (M 2 ++ so))], rfl, rfl, rfl, ?_⟩ | refine ⟨.slice 7 0 3 ko, [(3, .ints 2 (M 2)), (7, .ints 2 (M 2 ++ so))], rfl, rfl, rfl, ?_⟩ | refine ⟨.slice 8 0 3 ko, [(3, .ints 2 (M 2)), (8, .ints 2 (M 2 ++ so))], rfl, rfl, rfl, ?_⟩)
        refine oA rfl rfl ?_
        refine OW_nil ?_
        all_goals with_reducible refine tN ?_
        all_goals (
         first
           | (
            refine ⟨(ko, so), ?_, View.mk' [(5, 6)] rfl (by simp only [wfB, List.all_cons, List.all_nil, ids_bots]; rfl) rfl ?_ ?_⟩
            · exact ⟨him, hko1, hko2⟩
            all_goals (repeat' first | exact vFn | refine vFc rfl ?_ | exact vHn | refine vHc rfl ?_ | refine vFc (congrArg (fun z => some (V.int z)) ?_) ?_ | refine vHc (congrArg (fun z => some (Blk.ints _ z)) ?_) ?_ | refine vFc (congrArg (fun z => some (V.bool z)) ?_) ?_ | refine vFs rfl rfl ?_ ?_ | refine vHc (by rw [ren_bots]; rfl) ?_)
            done)
           | (
            refine ⟨(ko, so), ?_, View.mk' [(6, 7)] rfl (by simp only [wfB, List.all_cons, List.all_nil, ids_bots]; rfl) rfl ?_ ?_⟩
            · exact ⟨him, hko1, hko2⟩
            all_goals (repeat' first | exact vFn | refine vFc rfl ?_ | exact vHn | refine vHc rfl ?_ | refine vFc (congrArg (fun z => some (V.int z)) ?_) ?_ | refine vHc (congrArg (fun z => some (Blk.ints _ z)) ?_) ?_ | refine vFc (congrArg (fun z => some (V.bool z)) ?_) ?_ | refine vFs rfl rfl ?_ ?_ | refine vHc (by rw [ren_bots]; rfl) ?_)
            done)
           | (
            refine ⟨(ko, so), ?_, View.mk' [(7, 8)] rfl (by simp only [wfB, List.all_cons, List.all_nil, ids_bots]; rfl) rfl ?_ ?_⟩
            · exact ⟨him, hko1, hko2⟩
            all_goals (repeat' first | exact vFn | refine vFc rfl ?_ | exact vHn | refine vHc rfl ?_ | refine vFc (congrArg (fun z => some (V.int z)) ?_) ?_ | refine vHc (congrArg (fun z => some (Blk.ints _ z)) ?_) ?_ | refine vFc (congrArg (fun z => some (V.bool z)) ?_) ?_ | refine vFs rfl rfl ?_ ?_ | refine vHc (by rw [ren_bots]; rfl) ?_)
            done))))
      rintro ⟨ko, so⟩ ⟨him, hko1, hko2⟩
      subst hr2
      dsimp only at hko1 hko2 ⊢
      have hMi := hM i him
      have hrd := fun k => rdc_B (E := E) (P := P) hp0 hMi k
      have d0 := (hrd 0).1
      have d1 := (hrd 1).1
      have d2 := (hrd 2).1
      have hls : ∀ k (a : List Int) (ka : Nat), k < 3 → rwB p 3 (E k) → Con Try.prog [] 120 [.int p, .slice 0 0 3 ka, .slice 1 0 3 (K k), .int ((rdc p E P 3 (M i) k).getD (P k) 0)] [(0, .ints 2 (rdc p E P 3 (M i) k ++ a)), (1, .ints 2 (E k ++ S k))] (fun v H' => ∃ k2 sp, 3 ≤ k2 ∧ k2 ≤ 3 + sp.length ∧ v = .slice 2 0 3 k2 ∧ H' = [(0, .ints 2 (rdc p E P 3 (M i) k ++ a)), (1, .ints 2 (E k ++ S k)), (2, .ints 2 (rdc p E P 3 (M i) (k + 1) ++ sp))]) := fun k a ka hk hek => lessw_con hp 2 2 3 _ _ a (S k) ka (K k) _ (by decide) (hrd k) hek ((hrd k).2 _)
      refine CW_cut (ι := Nat × List Int) (fun x => 3 ≤ x.1 ∧ x.1 ≤ 3 + x.2.length) (fun x => match r3 with | 0 => ⟨[(0, .int p), (1, .slice 0 0 3 k), (5, .slice 4 0 0 kO), (6, .int i), (7, .slice 5 0 3 x.1)], [(0, .vals 103 [.slice 1 0 3 c0, .slice 2 0 3 c1, .slice 3 0 3 c2]), (1, .ints 2 (M 0)), (2, .ints 2 (M 1)), (3, .ints 2 (M 2)), (4, .vals 103 ([] ++ List.replicate (kO - 0) .bot)), (5, .ints 2 (rdc p E P 3 (M i) r3 ++ x.2))], 6⟩ | 1 => ⟨[(0, .int p), (1, .slice 0 0 3 k), (5, .slice 4 0 1 kO), (6, .int i), (7, .slice 6 0 3 x.1)], [(0, .vals 103 [.slice 1 0 3 c0, .slice 2 0 3 c1, .slice 3 0 3 c2]), (1, .ints 2 (M 0)), (2, .ints 2 (M 1)), (3, .ints 2 (M 2)), (5, .ints 2 (E 0 ++ S 0)), (4, .vals 103 ([.slice 5 0 3 (K 0)] ++ List.replicate (kO - 1) .bot)), (6, .ints 2 (rdc p E P 3 (M i) r3 ++ x.2))], 7⟩ | _ => ⟨[(0, .int p), (1, .slice 0 0 3 k), (5, .slice 4 0 2 kO), (6, .int i), (7, .slice 7 0 3 x.1)], [(0, .vals 103 [.slice 1 0 3 c0, .slice 2 0 3 c1, .slice 3 0 3 c2]), (1, .ints 2 (M 0)), (2, .ints 2 (M 1)), (3, .ints 2 (M 2)), (5, .ints 2 (E 0 ++ S 0)), (6, .ints 2 (E 1 ++ S 1)), (4, .vals 103 ([.slice 5 0 3 (K 0), .slice 6 0 3 (K 1)] ++ List.replicate (kO - 2) .bot)), (7, .ints 2 (rdc p E P 3 (M i) r3 ++ x.2))], 8⟩) ?_ ?_
      · (
       subst hr3
       all_goals (
        refine cR ?_
        refine oA rfl rfl ?_
        refine oN ?_
        refine CW_block ?_
        refine CW_rounds 4 ?_
        refine RW_succ ?_
        refine CW_seq ?_
        refine cR ?_
        iterate 2 refine oM rfl rfl ?_
        first | refine oQ (Q_len rfl rfl rfl rfl) rfl rfl ?_ | refine oQ (Q_len0 rfl rfl rfl rfl) rfl rfl ?_
        refine oQ (Q_bin rfl rfl rfl) rfl rfl ?_
        refine oN ?_
        first | refine cT rfl ?_ | refine cF rfl ?_ | refine CW_cond rfl (fun hc => ?_) (fun hc => ?_)
        all_goals try simp only [s1, s2, s3, s4, s5, s6, s7, s8, s9, s10, s11, s12] at hc
        all_goals try (exfalso; first | omega | (simp at hc; done); done)
        all_goals first
          | (
           refine CW_skip ?_)
          | (
           refine CW_exit ?_)
        all_goals first
          | with_reducible refine tR ?_
          | with_reducible refine tE ?_
          | (
           with_reducible refine tN ?_
           refine CW_seq ?_
           refine CW_block ?_
           refine CW_any (fun _ => false) 16 rfl lateOk (by decide +kernel) (fun hst => ?_)
           refine aP 0 hst rfl rfl (by decide +kernel) (PX_move rfl rfl) rfl rfl ?_
           refine aP 1 hst rfl rfl (by decide +kernel) (PX_move rfl rfl) rfl rfl ?_
           refine aP 2 hst rfl rfl (by decide +kernel) (PX_move rfl rfl) rfl rfl ?_
           refine aP 3 hst rfl rfl (by decide +kernel) (PX_move rfl rfl) rfl rfl ?_
           first | refine aQ 4 hst rfl rfl (by decide +kernel) (QX_of (Is0 rfl rfl rfl rfl rfl rfl) NE_ix) rfl rfl ?_ | refine aQ 4 hst rfl rfl (by decide +kernel) (QX_of (Is1 rfl rfl rfl rfl rfl rfl) NE_ix) rfl rfl ?_
           refine aQ 5 hst rfl rfl (by decide +kernel) (QX_of (Q_ldv rfl rfl rfl rfl rfl rfl) NE_load) rfl rfl ?_
           refine aP 6 hst rfl rfl (by decide +kernel) (PX_move rfl rfl) rfl rfl ?_
           refine aP 7 hst rfl rfl (by decide +kernel) (PX_move rfl rfl) rfl rfl ?_
           refine aP 8 hst rfl rfl (by decide +kernel) (PX_move rfl rfl) rfl rfl ?_
           first | refine aQ 9 hst rfl rfl (by decide +kernel) (QX_of (Is0 rfl rfl rfl rfl rfl rfl) NE_ix) rfl rfl ?_ | refine aQ 9 hst rfl rfl (by decide +kernel) (QX_of (Is1 rfl rfl rfl rfl rfl rfl) NE_ix) rfl rfl ?_
           refine aQ 10 hst rfl rfl (by decide +kernel) (QX_of (Q_ldv rfl rfl rfl rfl rfl rfl) NE_load) rfl rfl ?_
           first
             | refine aQ 11 hst rfl rfl (by decide +kernel) (QX_call (hld 0 (by omega)) [(0, 5)] rfl rfl (Fits.mk' (vHc rfl vHn) rfl rfl (by simp)) rfl rfl rfl) rfl rfl ?_
             | refine aQ 11 hst rfl rfl (by decide +kernel) (QX_call (hld 1 (by omega)) [(0, 6)] rfl rfl (Fits.mk' (vHc rfl vHn) rfl rfl (by simp)) rfl rfl rfl) rfl rfl ?_
           ((try have pp0 := hP 0 (by omega)); (try have pp1 := hP 1 (by omega)))
           first
             | refine aQ 12 hst rfl rfl (by decide +kernel) (QX_of (Is0 rfl rfl rfl rfl rfl rfl) NE_ix) rfl rfl ?_
             | refine aQ 12 hst rfl rfl (by decide +kernel) (QX_of (Is1 rfl rfl rfl rfl rfl rfl) NE_ix) rfl rfl ?_
           ((try have pp0 := hP 0 (by omega)); (try have pp1 := hP 1 (by omega)))
           refine aQ 13 hst rfl rfl (by decide +kernel) (QX_of (Ld rfl rfl rfl rfl) NE_load) rfl rfl ?_
           rw [getD_app (by omega)]
           refine AW_one (i := 14) (by decide +kernel) ?_
           first
             | (refine gCall rfl rfl (hls 0 so ko (by omega) (hE 0 (by omega))) [(0, 6), (1, 5)] 3 rfl rfl (Fits.mk' (vHc rfl (vHc rfl vHn)) rfl rfl (by simp)) rfl rfl rfl ?_; rintro v1 H1 ⟨kl0, sl0, hkl0, hkm0, rfl, rfl⟩; refine ⟨.slice 9 0 3 kl0, [(6, .ints 2 (rdc p E P 3 (M i) 0 ++ so)), (5, .ints 2 (E 0 ++ S 0)), (9, .ints 2 (rdc p E P 3 (M i) 1 ++ sl0))], rfl, keep_pre _ _, rfl, rfl, ?_⟩)
             | (refine gCall rfl rfl (hls 0 so ko (by omega) (hE 0 (by omega))) [(0, 7), (1, 5)] 3 rfl rfl (Fits.mk' (vHc rfl (vHc rfl vHn)) rfl rfl (by simp)) rfl rfl rfl ?_; rintro v1 H1 ⟨kl0, sl0, hkl0, hkm0, rfl, rfl⟩; refine ⟨.slice 10 0 3 kl0, [(7, .ints 2 (rdc p E P 3 (M i) 0 ++ so)), (5, .ints 2 (E 0 ++ S 0)), (10, .ints 2 (rdc p E P 3 (M i) 1 ++ sl0))], rfl, keep_pre _ _, rfl, rfl, ?_⟩)
             | (refine gCall rfl rfl (hls 1 sl0 kl0 (by omega) (hE 1 (by omega))) [(0, 10), (1, 6)] 3 rfl rfl (Fits.mk' (vHc rfl (vHc rfl vHn)) rfl rfl (by simp)) rfl rfl rfl ?_; rintro v1 H1 ⟨kl1, sl1, hkl1, hkm1, rfl, rfl⟩; refine ⟨.slice 13 0 3 kl1, [(10, .ints 2 (rdc p E P 3 (M i) 1 ++ sl0)), (6, .ints 2 (E 1 ++ S 1)), (13, .ints 2 (rdc p E P 3 (M i) 2 ++ sl1))], rfl, keep_pre _ _, rfl, rfl, ?_⟩)
           refine aQ 15 hst rfl rfl (by decide +kernel) (QX_of (Q_assign rfl rfl) NE_assign) rfl rfl ?_
           refine AW_done (by decide +kernel) ?_
           all_goals first | with_reducible refine bN ?_ | with_reducible refine bE ?_ | with_reducible refine bR ?_ | refine bX rfl ?_
           all_goals with_reducible refine tN ?_
           all_goals (
            refine CW_region ?_
            refine oM rfl rfl ?_
            first | refine oQ (Q_binu rfl rfl rfl (by omega)) rfl rfl ?_ | refine oQ (Q_bin rfl rfl rfl) rfl rfl ?_
            refine oA rfl rfl ?_
            refine OW_nil ?_))
        all_goals first
          | with_reducible refine tR ?_
          | with_reducible refine tE ?_
          | (
           with_reducible refine tN ?_
           refine RW_succ ?_
           refine CW_seq ?_
           refine cR ?_
           iterate 2 refine oM rfl rfl ?_
           first | refine oQ (Q_len rfl rfl rfl rfl) rfl rfl ?_ | refine oQ (Q_len0 rfl rfl rfl rfl) rfl rfl ?_
           refine oQ (Q_bin rfl rfl rfl) rfl rfl ?_
           refine oN ?_
           first | refine cT rfl ?_ | refine cF rfl ?_ | refine CW_cond rfl (fun hc => ?_) (fun hc => ?_)
           all_goals try simp only [s1, s2, s3, s4, s5, s6, s7, s8, s9, s10, s11, s12] at hc
           all_goals try (exfalso; first | omega | (simp at hc; done); done)
           all_goals first
             | (
              refine CW_skip ?_)
             | (
              refine CW_exit ?_)
           all_goals first
             | with_reducible refine tR ?_
             | with_reducible refine tE ?_
             | (
              with_reducible refine tN ?_
              refine CW_seq ?_
              refine CW_block ?_
              refine CW_any (fun _ => false) 16 rfl lateOk (by decide +kernel) (fun hst => ?_)
              refine aP 0 hst rfl rfl (by decide +kernel) (PX_move rfl rfl) rfl rfl ?_
              refine aP 1 hst rfl rfl (by decide +kernel) (PX_move rfl rfl) rfl rfl ?_
              refine aP 2 hst rfl rfl (by decide +kernel) (PX_move rfl rfl) rfl rfl ?_
              refine aP 3 hst rfl rfl (by decide +kernel) (PX_move rfl rfl) rfl rfl ?_
              first | refine aQ 4 hst rfl rfl (by decide +kernel) (QX_of (Is0 rfl rfl rfl rfl rfl rfl) NE_ix) rfl rfl ?_ | refine aQ 4 hst rfl rfl (by decide +kernel) (QX_of (Is1 rfl rfl rfl rfl rfl rfl) NE_ix) rfl rfl ?_
              refine aQ 5 hst rfl rfl (by decide +kernel) (QX_of (Q_ldv rfl rfl rfl rfl rfl rfl) NE_load) rfl rfl ?_
              refine aP 6 hst rfl rfl (by decide +kernel) (PX_move rfl rfl) rfl rfl ?_
              refine aP 7 hst rfl rfl (by decide +kernel) (PX_move rfl rfl) rfl rfl ?_
              refine aP 8 hst rfl rfl (by decide +kernel) (PX_move rfl rfl) rfl rfl ?_
              first | refine aQ 9 hst rfl rfl (by decide +kernel) (QX_of (Is0 rfl rfl rfl rfl rfl rfl) NE_ix) rfl rfl ?_ | refine aQ 9 hst rfl rfl (by decide +kernel) (QX_of (Is1 rfl rfl rfl rfl rfl rfl) NE_ix) rfl rfl ?_
              refine aQ 10 hst rfl rfl (by decide +kernel) (QX_of (Q_ldv rfl rfl rfl rfl rfl rfl) NE_load) rfl rfl ?_
              first
                | refine aQ 11 hst rfl rfl (by decide +kernel) (QX_call (hld 0 (by omega)) [(0, 5)] rfl rfl (Fits.mk' (vHc rfl vHn) rfl rfl (by simp)) rfl rfl rfl) rfl rfl ?_
                | refine aQ 11 hst rfl rfl (by decide +kernel) (QX_call (hld 1 (by omega)) [(0, 6)] rfl rfl (Fits.mk' (vHc rfl vHn) rfl rfl (by simp)) rfl rfl rfl) rfl rfl ?_
              ((try have pp0 := hP 0 (by omega)); (try have pp1 := hP 1 (by omega)))
              first
                | refine aQ 12 hst rfl rfl (by decide +kernel) (QX_of (Is0 rfl rfl rfl rfl rfl rfl) NE_ix) rfl rfl ?_
                | refine aQ 12 hst rfl rfl (by decide +kernel) (QX_of (Is1 rfl rfl rfl rfl rfl rfl) NE_ix) rfl rfl ?_
              ((try have pp0 := hP 0 (by omega)); (try have pp1 := hP 1 (by omega)))
              refine aQ 13 hst rfl rfl (by decide +kernel) (QX_of (Ld rfl rfl rfl rfl) NE_load) rfl rfl ?_
              rw [getD_app (by omega)]
              refine AW_one (i := 14) (by decide +kernel) ?_
              first
                | (refine gCall rfl rfl (hls 0 so ko (by omega) (hE 0 (by omega))) [(0, 6), (1, 5)] 3 rfl rfl (Fits.mk' (vHc rfl (vHc rfl vHn)) rfl rfl (by simp)) rfl rfl rfl ?_; rintro v1 H1 ⟨kl0, sl0, hkl0, hkm0, rfl, rfl⟩; refine ⟨.slice 9 0 3 kl0, [(6, .ints 2 (rdc p E P 3 (M i) 0 ++ so)), (5, .ints 2 (E 0 ++ S 0)), (9, .ints 2 (rdc p E P 3 (M i) 1 ++ sl0))], rfl, keep_pre _ _, rfl, rfl, ?_⟩)
                | (refine gCall rfl rfl (hls 0 so ko (by omega) (hE 0 (by omega))) [(0, 7), (1, 5)] 3 rfl rfl (Fits.mk' (vHc rfl (vHc rfl vHn)) rfl rfl (by simp)) rfl rfl rfl ?_; rintro v1 H1 ⟨kl0, sl0, hkl0, hkm0, rfl, rfl⟩; refine ⟨.slice 10 0 3 kl0, [(7, .ints 2 (rdc p E P 3 (M i) 0 ++ so)), (5, .ints 2 (E 0 ++ S 0)), (10, .ints 2 (rdc p E P 3 (M i) 1 ++ sl0))], rfl, keep_pre _ _, rfl, rfl, ?_⟩)
                | (refine gCall rfl rfl (hls 1 sl0 kl0 (by omega) (hE 1 (by omega))) [(0, 10), (1, 6)] 3 rfl rfl (Fits.mk' (vHc rfl (vHc rfl vHn)) rfl rfl (by simp)) rfl rfl rfl ?_; rintro v1 H1 ⟨kl1, sl1, hkl1, hkm1, rfl, rfl⟩; refine ⟨.slice 13 0 3 kl1, [(10, .ints 2 (rdc p E P 3 (M i) 1 ++ sl0)), (6, .ints 2 (E 1 ++ S 1)), (13, .ints 2 (rdc p E P 3 (M i) 2 ++ sl1))], rfl, keep_pre _ _, rfl, rfl, ?_⟩)
              refine aQ 15 hst rfl rfl (by decide +kernel) (QX_of (Q_assign rfl rfl) NE_assign) rfl rfl ?_
              refine AW_done (by decide +kernel) ?_
              all_goals first | with_reducible refine bN ?_ | with_reducible refine bE ?_ | with_reducible refine bR ?_ | refine bX rfl ?_
              all_goals with_reducible refine tN ?_
              all_goals (
               refine CW_region ?_
               refine oM rfl rfl ?_
               first | refine oQ (Q_binu rfl rfl rfl (by omega)) rfl rfl ?_ | refine oQ (Q_bin rfl rfl rfl) rfl rfl ?_
               refine oA rfl rfl ?_
               refine OW_nil ?_))
           all_goals first
             | with_reducible refine tR ?_
             | with_reducible refine tE ?_
             | (
              with_reducible refine tN ?_
              refine RW_succ ?_
              refine CW_seq ?_
              refine cR ?_
              iterate 2 refine oM rfl rfl ?_
              first | refine oQ (Q_len rfl rfl rfl rfl) rfl rfl ?_ | refine oQ (Q_len0 rfl rfl rfl rfl) rfl rfl ?_
              refine oQ (Q_bin rfl rfl rfl) rfl rfl ?_
              refine oN ?_
              first | refine cT rfl ?_ | refine cF rfl ?_ | refine CW_cond rfl (fun hc => ?_) (fun hc => ?_)
              all_goals try simp only [s1, s2, s3, s4, s5, s6, s7, s8, s9, s10, s11, s12] at hc
              all_goals try (exfalso; first | omega | (simp at hc; done); done)
              all_goals first
                | (
                 refine CW_skip ?_)
                | (
                 refine CW_exit ?_)
              all_goals first
                | with_reducible refine tR ?_
                | with_reducible refine tE ?_
                | (
                 with_reducible refine tN ?_
                 refine CW_seq ?_
                 refine CW_block ?_
                 refine CW_any (fun _ => false) 16 rfl lateOk (by decide +kernel) (fun hst => ?_)
                 refine aP 0 hst rfl rfl (by decide +kernel) (PX_move rfl rfl) rfl rfl ?_
                 refine aP 1 hst rfl rfl (by decide +kernel) (PX_move rfl rfl) rfl rfl ?_
                 refine aP 2 hst rfl rfl (by decide +kernel) (PX_move rfl rfl) rfl rfl ?_
                 refine aP 3 hst rfl rfl (by decide +kernel) (PX_move rfl rfl) rfl rfl ?_
                 first | refine aQ 4 hst rfl rfl (by decide +kernel) (QX_of (Is0 rfl rfl rfl rfl rfl rfl) NE_ix) rfl rfl ?_ | refine aQ 4 hst rfl rfl (by decide +kernel) (QX_of (Is1 rfl rfl rfl rfl rfl rfl) NE_ix) rfl rfl ?_
                 refine aQ 5 hst rfl rfl (by decide +kernel) (QX_of (Q_ldv rfl rfl rfl rfl rfl rfl) NE_load) rfl rfl ?_
                 refine aP 6 hst rfl rfl (by decide +kernel) (PX_move rfl rfl) rfl rfl ?_
                 refine aP 7 hst rfl rfl (by decide +kernel) (PX_move rfl rfl) rfl rfl ?_
                 refine aP 8 hst rfl rfl (by decide +kernel) (PX_move rfl rfl) rfl rfl ?_
                 first | refine aQ 9 hst rfl rfl (by decide +kernel) (QX_of (Is0 rfl rfl rfl rfl rfl rfl) NE_ix) rfl rfl ?_ | refine aQ 9 hst rfl rfl (by decide +kernel) (QX_of (Is1 rfl rfl rfl rfl rfl rfl) NE_ix) rfl rfl ?_
                 refine aQ 10 hst rfl rfl (by decide +kernel) (QX_of (Q_ldv rfl rfl rfl rfl rfl rfl) NE_load) rfl rfl ?_
                 first
                   | refine aQ 11 hst rfl rfl (by decide +kernel) (QX_call (hld 0 (by omega)) [(0, 5)] rfl rfl (Fits.mk' (vHc rfl vHn) rfl rfl (by simp)) rfl rfl rfl) rfl rfl ?_
                   | refine aQ 11 hst rfl rfl (by decide +kernel) (QX_call (hld 1 (by omega)) [(0, 6)] rfl rfl (Fits.mk' (vHc rfl vHn) rfl rfl (by simp)) rfl rfl rfl) rfl rfl ?_
                 ((try have pp0 := hP 0 (by omega)); (try have pp1 := hP 1 (by omega)))
                 first
                   | refine aQ 12 hst rfl rfl (by decide +kernel) (QX_of (Is0 rfl rfl rfl rfl rfl rfl) NE_ix) rfl rfl ?_
                   | refine aQ 12 hst rfl rfl (by decide +kernel) (QX_of (Is1 rfl rfl rfl rfl rfl rfl) NE_ix) rfl rfl ?_
                 ((try have pp0 := hP 0 (by omega)); (try have pp1 := hP 1 (by omega)))
                 refine aQ 13 hst rfl rfl (by decide +kernel) (QX_of (Ld rfl rfl rfl rfl) NE_load) rfl rfl ?_
                 rw [getD_app (by omega)]
                 refine AW_one (i := 14) (by decide +kernel) ?_
                 first
                   | (refine gCall rfl rfl (hls 0 so ko (by omega) (hE 0 (by omega))) [(0, 6), (1, 5)] 3 rfl rfl (Fits.mk' (vHc rfl (vHc rfl vHn)) rfl rfl (by simp)) rfl rfl rfl ?_; rintro v1 H1 ⟨kl0, sl0, hkl0, hkm0, rfl, rfl⟩; refine ⟨.slice 9 0 3 kl0, [(6, .ints 2 (rdc p E P 3 (M i) 0 ++ so)), (5, .ints 2 (E 0 ++ S 0)), (9, .ints 2 (rdc p E P 3 (M i) 1 ++ sl0))], rfl, keep_pre _ _, rfl, rfl, ?_⟩)
                   | (refine gCall rfl rfl (hls 0 so ko (by omega) (hE 0 (by omega))) [(0, 7), (1, 5)] 3 rfl rfl (Fits.mk' (vHc rfl (vHc rfl vHn)) rfl rfl (by simp)) rfl rfl rfl ?_; rintro v1 H1 ⟨kl0, sl0, hkl0, hkm0, rfl, rfl⟩; refine ⟨.slice 10 0 3 kl0, [(7, .ints 2 (rdc p E P 3 (M i) 0 ++ so)), (5, .ints 2 (E 0 ++ S 0)), (10, .ints 2 (rdc p E P 3 (M i) 1 ++ sl0))], rfl, keep_pre _ _, rfl, rfl, ?_⟩)
                   | (refine gCall rfl rfl (hls 1 sl0 kl0 (by omega) (hE 1 (by omega))) [(0, 10), (1, 6)] 3 rfl rfl (Fits.mk' (vHc rfl (vHc rfl vHn)) rfl rfl (by simp)) rfl rfl rfl ?_; rintro v1 H1 ⟨kl1, sl1, hkl1, hkm1, rfl, rfl⟩; refine ⟨.slice 13 0 3 kl1, [(10, .ints 2 (rdc p E P 3 (M i) 1 ++ sl0)), (6, .ints 2 (E 1 ++ S 1)), (13, .ints 2 (rdc p E P 3 (M i) 2 ++ sl1))], rfl, keep_pre _ _, rfl, rfl, ?_⟩)
                 refine aQ 15 hst rfl rfl (by decide +kernel) (QX_of (Q_assign rfl rfl) NE_assign) rfl rfl ?_
                 refine AW_done (by decide +kernel) ?_
                 all_goals first | with_reducible refine bN ?_ | with_reducible refine bE ?_ | with_reducible refine bR ?_ | refine bX rfl ?_
                 all_goals with_reducible refine tN ?_
                 all_goals (
                  refine CW_region ?_
                  refine oM rfl rfl ?_
                  first | refine oQ (Q_binu rfl rfl rfl (by omega)) rfl rfl ?_ | refine oQ (Q_bin rfl rfl rfl) rfl rfl ?_
                  refine oA rfl rfl ?_
                  refine OW_nil ?_))
              all_goals first
                | with_reducible refine tR ?_
                | with_reducible refine tE ?_
                | (
                 with_reducible refine tN ?_
                 refine RW_succ ?_
                 refine CW_seq ?_
                 refine cR ?_
                 iterate 2 refine oM rfl rfl ?_
                 first | refine oQ (Q_len rfl rfl rfl rfl) rfl rfl ?_ | refine oQ (Q_len0 rfl rfl rfl rfl) rfl rfl ?_
                 refine oQ (Q_bin rfl rfl rfl) rfl rfl ?_
                 refine oN ?_
                 first | refine cT rfl ?_ | refine cF rfl ?_ | refine CW_cond rfl (fun hc => ?_) (fun hc => ?_)
                 all_goals try simp only [s1, s2, s3, s4, s5, s6, s7, s8, s9, s10, s11, s12] at hc
                 all_goals try (exfalso; first | omega | (simp at hc; done); done)
                 all_goals first
                   | (
                    refine CW_skip ?_)
                   | (
                    refine CW_exit ?_)
                 all_goals first
                   | with_reducible refine tR ?_
                   | with_reducible refine tE ?_
                   | (
                    with_reducible refine tN ?_
                    refine CW_seq ?_
                    refine CW_block ?_
                    refine CW_any (fun _ => false) 16 rfl lateOk (by decide +kernel) (fun hst => ?_)
                    refine aP 0 hst rfl rfl (by decide +kernel) (PX_move rfl rfl) rfl rfl ?_
                    refine aP 1 hst rfl rfl (by decide +kernel) (PX_move rfl rfl) rfl rfl ?_
                    refine aP 2 hst rfl rfl (by decide +kernel) (PX_move rfl rfl) rfl rfl ?_
                    refine aP 3 hst rfl rfl (by decide +kernel) (PX_move rfl rfl) rfl rfl ?_
                    first | refine aQ 4 hst rfl rfl (by decide +kernel) (QX_of (Is0 rfl rfl rfl rfl rfl rfl) NE_ix) rfl rfl ?_ | refine aQ 4 hst rfl rfl (by decide +kernel) (QX_of (Is1 rfl rfl rfl rfl rfl rfl) NE_ix) rfl rfl ?_
                    refine aQ 5 hst rfl rfl (by decide +kernel) (QX_of (Q_ldv rfl rfl rfl rfl rfl rfl) NE_load) rfl rfl ?_
                    refine aP 6 hst rfl rfl (by decide +kernel) (PX_move rfl rfl) rfl rfl ?_
                    refine aP 7 hst rfl rfl (by decide +kernel) (PX_move rfl rfl) rfl rfl ?_
                    refine aP 8 hst rfl rfl (by decide +kernel) (PX_move rfl rfl) rfl rfl ?_
                    first | refine aQ 9 hst rfl rfl (by decide +kernel) (QX_of (Is0 rfl rfl rfl rfl rfl rfl) NE_ix) rfl rfl ?_ | refine aQ 9 hst rfl rfl (by decide +kernel) (QX_of (Is1 rfl rfl rfl rfl rfl rfl) NE_ix) rfl rfl ?_
                    refine aQ 10 hst rfl rfl (by decide +kernel) (QX_of (Q_ldv rfl rfl rfl rfl rfl rfl) NE_load) rfl rfl ?_
                    first
                      | refine aQ 11 hst rfl rfl (by decide +kernel) (QX_call (hld 0 (by omega)) [(0, 5)] rfl rfl (Fits.mk' (vHc rfl vHn) rfl rfl (by simp)) rfl rfl rfl) rfl rfl ?_
                      | refine aQ 11 hst rfl rfl (by decide +kernel) (QX_call (hld 1 (by omega)) [(0, 6)] rfl rfl (Fits.mk' (vHc rfl vHn) rfl rfl (by simp)) rfl rfl rfl) rfl rfl ?_
                    ((try have pp0 := hP 0 (by omega)); (try have pp1 := hP 1 (by omega)))
                    first
                      | refine aQ 12 hst rfl rfl (by decide +kernel) (QX_of (Is0 rfl rfl rfl rfl rfl rfl) NE_ix) rfl rfl ?_
                      | refine aQ 12 hst rfl rfl (by decide +kernel) (QX_of (Is1 rfl rfl rfl rfl rfl rfl) NE_ix) rfl rfl ?_
                    ((try have pp0 := hP 0 (by omega)); (try have pp1 := hP 1 (by omega)))
                    refine aQ 13 hst rfl rfl (by decide +kernel) (QX_of (Ld rfl rfl rfl rfl) NE_load) rfl rfl ?_
                    rw [getD_app (by omega)]
                    refine AW_one (i := 14) (by decide +kernel) ?_
                    first
                      | (refine gCall rfl rfl (hls 0 so ko (by omega) (hE 0 (by omega))) [(0, 6), (1, 5)] 3 rfl rfl (Fits.mk' (vHc rfl (vHc rfl vHn)) rfl rfl (by simp)) rfl rfl rfl ?_; rintro v1 H1 ⟨kl0, sl0, hkl0, hkm0, rfl, rfl⟩; refine ⟨.slice 9 0 3 kl0, [(6, .ints 2 (rdc p E P 3 (M i) 0 ++ so)), (5, .ints 2 (E 0 ++ S 0)), (9, .ints 2 (rdc p E P 3 (M i) 1 ++ sl0))], rfl, keep_pre _ _, rfl, rfl, ?_⟩)
                      | (refine gCall rfl rfl (hls 0 so ko (by omega) (hE 0 (by omega))) [(0, 7), (1, 5)] 3 rfl rfl (Fits.mk' (vHc rfl (vHc rfl vHn)) rfl rfl (by simp)) rfl rfl rfl ?_; rintro v1 H1 ⟨kl0, sl0, hkl0, hkm0, rfl, rfl⟩; refine ⟨.slice 10 0 3 kl0, [(7, .ints 2 (rdc p E P 3 (M i) 0 ++ so)), (5, .ints 2 (E 0 ++ S 0)), (10, .ints 2 (rdc p E P 3 (M i) 1 ++ sl0))], rfl, keep_pre _ _, rfl, rfl, ?_⟩)
                      | (refine gCall rfl rfl (hls 1 sl0 kl0 (by omega) (hE 1 (by omega))) [(0, 10), (1, 6)] 3 rfl rfl (Fits.mk' (vHc rfl (vHc rfl vHn)) rfl rfl (by simp)) rfl rfl rfl ?_; rintro v1 H1 ⟨kl1, sl1, hkl1, hkm1, rfl, rfl⟩; refine ⟨.slice 13 0 3 kl1, [(10, .ints 2 (rdc p E P 3 (M i) 1 ++ sl0)), (6, .ints 2 (E 1 ++ S 1)), (13, .ints 2 (rdc p E P 3 (M i) 2 ++ sl1))], rfl, keep_pre _ _, rfl, rfl, ?_⟩)
                    refine aQ 15 hst rfl rfl (by decide +kernel) (QX_of (Q_assign rfl rfl) NE_assign) rfl rfl ?_
                    refine AW_done (by decide +kernel) ?_
                    all_goals first | with_reducible refine bN ?_ | with_reducible refine bE ?_ | with_reducible refine bR ?_ | refine bX rfl ?_
                    all_goals with_reducible refine tN ?_
                    all_goals (
                     refine CW_region ?_
                     refine oM rfl rfl ?_
                     first | refine oQ (Q_binu rfl rfl rfl (by omega)) rfl rfl ?_ | refine oQ (Q_bin rfl rfl rfl) rfl rfl ?_
                     refine oA rfl rfl ?_
                     refine OW_nil ?_))
                 all_goals first
                   | with_reducible refine tR ?_
                   | with_reducible refine tE ?_
                   | (
                    with_reducible refine tN ?_
                    exfalso; first | omega | (simp at hc; done) | (simp_all; done)))))
        all_goals first | with_reducible refine bN ?_ | with_reducible refine bE ?_ | with_reducible refine bR ?_ | refine bX rfl ?_
        all_goals with_reducible refine tN ?_
        all_goals (
         first
           | (
            refine ⟨(ko, so), ?_, View.mk' [] rfl (by simp only [wfB, List.all_cons, List.all_nil, ids_bots]; rfl) rfl ?_ ?_⟩
            · first | exact ⟨hko1, hko2⟩ | exact ⟨hkl0, hkm0⟩ | exact ⟨hkl1, hkm1⟩
            all_goals (repeat' first | exact vFn | refine vFc rfl ?_ | exact vHn | refine vHc rfl ?_ | refine vFc (congrArg (fun z => some (V.int z)) ?_) ?_ | refine vHc (congrArg (fun z => some (Blk.ints _ z)) ?_) ?_ | refine vFc (congrArg (fun z => some (V.bool z)) ?_) ?_ | refine vFs rfl rfl ?_ ?_ | refine vHc (by rw [ren_bots]; rfl) ?_)
            done)
           | (
            refine ⟨(kl0, sl0), ?_, View.mk' [] rfl (by simp only [wfB, List.all_cons, List.all_nil, ids_bots]; rfl) rfl ?_ ?_⟩
            · first | exact ⟨hko1, hko2⟩ | exact ⟨hkl0, hkm0⟩ | exact ⟨hkl1, hkm1⟩
            all_goals (repeat' first | exact vFn | refine vFc rfl ?_ | exact vHn | refine vHc rfl ?_ | refine vFc (congrArg (fun z => some (V.int z)) ?_) ?_ | refine vHc (congrArg (fun z => some (Blk.ints _ z)) ?_) ?_ | refine vFc (congrArg (fun z => some (V.bool z)) ?_) ?_ | refine vFs rfl rfl ?_ ?_ | refine vHc (by rw [ren_bots]; rfl) ?_)
            done)
           | (
            refine ⟨(kl1, sl1), ?_, View.mk' [] rfl (by simp only [wfB, List.all_cons, List.all_nil, ids_bots]; rfl) rfl ?_ ?_⟩
            · first | exact ⟨hko1, hko2⟩ | exact ⟨hkl0, hkm0⟩ | exact ⟨hkl1, hkm1⟩
            all_goals (repeat' first | exact vFn | refine vFc rfl ?_ | exact vHn | refine vHc rfl ?_ | refine vFc (congrArg (fun z => some (V.int z)) ?_) ?_ | refine vHc (congrArg (fun z => some (Blk.ints _ z)) ?_) ?_ | refine vFc (congrArg (fun z => some (V.bool z)) ?_) ?_ | refine vFs rfl rfl ?_ ?_ | refine vHc (by rw [ren_bots]; rfl) ?_)
            done)
           | (
            refine ⟨(ko, so), ?_, View.mk' [(6, 9)] rfl (by simp only [wfB, List.all_cons, List.all_nil, ids_bots]; rfl) rfl ?_ ?_⟩
            · first | exact ⟨hko1, hko2⟩ | exact ⟨hkl0, hkm0⟩ | exact ⟨hkl1, hkm1⟩
            all_goals (repeat' first | exact vFn | refine vFc rfl ?_ | exact vHn | refine vHc rfl ?_ | refine vFc (congrArg (fun z => some (V.int z)) ?_) ?_ | refine vHc (congrArg (fun z => some (Blk.ints _ z)) ?_) ?_ | refine vFc (congrArg (fun z => some (V.bool z)) ?_) ?_ | refine vFs rfl rfl ?_ ?_ | refine vHc (by rw [ren_bots]; rfl) ?_)
            done)
           | (
            refine ⟨(kl0, sl0), ?_, View.mk' [(6, 9)] rfl (by simp only [wfB, List.all_cons, List.all_nil, ids_bots]; rfl) rfl ?_ ?_⟩
            · first | exact ⟨hko1, hko2⟩ | exact ⟨hkl0, hkm0⟩ | exact ⟨hkl1, hkm1⟩
            all_goals (repeat' first | exact vFn | refine vFc rfl ?_ | exact vHn | refine vHc rfl ?_ | refine vFc (congrArg (fun z => some (V.int z)) ?_) ?_ | refine vHc (congrArg (fun z => some (Blk.ints _ z)) ?_) ?_ | refine vFc (congrArg (fun z => some (V.bool z)) ?_) ?_ | refine vFs rfl rfl ?_ ?_ | refine vHc (by rw [ren_bots]; rfl) ?_)
            done)
           | (
            refine ⟨(kl1, sl1), ?_, View.mk' [(6, 9)] rfl (by simp only [wfB, List.all_cons, List.all_nil, ids_bots]; rfl) rfl ?_ ?_⟩
            · first | exact ⟨hko1, hko2⟩ | exact ⟨hkl0, hkm0⟩ | exact ⟨hkl1, hkm1⟩
            all_goals (repeat' first | exact vFn | refine vFc rfl ?_ | exact vHn | refine vHc rfl ?_ | refine vFc (congrArg (fun z => some (V.int z)) ?_) ?_ | refine vHc (congrArg (fun z => some (Blk.ints _ z)) ?_) ?_ | refine vFc (congrArg (fun z => some (V.bool z)) ?_) ?_ | refine vFs rfl rfl ?_ ?_ | refine vHc (by rw [ren_bots]; rfl) ?_)
            done)
           | (
            refine ⟨(ko, so), ?_, View.mk' [(7, 13)] rfl (by simp only [wfB, List.all_cons, List.all_nil, ids_bots]; rfl) rfl ?_ ?_⟩
            · first | exact ⟨hko1, hko2⟩ | exact ⟨hkl0, hkm0⟩ | exact ⟨hkl1, hkm1⟩
            all_goals (repeat' first | exact vFn | refine vFc rfl ?_ | exact vHn | refine vHc rfl ?_ | refine vFc (congrArg (fun z => some (V.int z)) ?_) ?_ | refine vHc (congrArg (fun z => some (Blk.ints _ z)) ?_) ?_ | refine vFc (congrArg (fun z => some (V.bool z)) ?_) ?_ | refine vFs rfl rfl ?_ ?_ | refine vHc (by rw [ren_bots]; rfl) ?_)
            done)
           | (
            refine ⟨(kl0, sl0), ?_, View.mk' [(7, 13)] rfl (by simp only [wfB, List.all_cons, List.all_nil, ids_bots]; rfl) rfl ?_ ?_⟩
            · first | exact ⟨hko1, hko2⟩ | exact ⟨hkl0, hkm0⟩ | exact ⟨hkl1, hkm1⟩
            all_goals (repeat' first | exact vFn | refine vFc rfl ?_ | exact vHn | refine vHc rfl ?_ | refine vFc (congrArg (fun z => some (V.int z)) ?_) ?_ | refine vHc (congrArg (fun z => some (Blk.ints _ z)) ?_) ?_ | refine vFc (congrArg (fun z => some (V.bool z)) ?_) ?_ | refine vFs rfl rfl ?_ ?_ | refine vHc (by rw [ren_bots]; rfl) ?_)
            done)
           | (
            refine ⟨(kl1, sl1), ?_, View.mk' [(7, 13)] rfl (by simp only [wfB, List.all_cons, List.all_nil, ids_bots]; rfl) rfl ?_ ?_⟩
            · first | exact ⟨hko1, hko2⟩ | exact ⟨hkl0, hkm0⟩ | exact ⟨hkl1, hkm1⟩
            all_goals (repeat' first | exact vFn | refine vFc rfl ?_ | exact vHn | refine vHc rfl ?_ | refine vFc (congrArg (fun z => some (V.int z)) ?_) ?_ | refine vHc (congrArg (fun z => some (Blk.ints _ z)) ?_) ?_ | refine vFc (congrArg (fun z => some (V.bool z)) ?_) ?_ | refine vFs rfl rfl ?_ ?_ | refine vHc (by rw [ren_bots]; rfl) ?_)
            done))))
      rintro ⟨ka, sa⟩ ⟨hka1, hka2⟩
      obtain ⟨R', hR'⟩ : ∃ z, z = rdc p E P 3 (M i) r3 := ⟨_, rfl⟩
      rw [← hR']
      have hRB : rwB p 3 R' := by rw [hR']; exact hrd _
      subst hr3
      dsimp only at hka1 hka2 ⊢
      refine cR ?_
      refine oM rfl rfl ?_
      first
        | refine oQ (Q_call (leadw_con 2 3 R' sa ka (by decide) hRB.1 _ rfl) [(0, 5)] rfl rfl (Fits.mk' (vHc rfl vHn) rfl rfl (by simp)) rfl rfl) rfl rfl ?_
        | refine oQ (Q_call (leadw_con 2 3 R' sa ka (by decide) hRB.1 _ rfl) [(0, 6)] rfl rfl (Fits.mk' (vHc rfl vHn) rfl rfl (by simp)) rfl rfl) rfl rfl ?_
        | refine oQ (Q_call (leadw_con 2 3 R' sa ka (by decide) hRB.1 _ rfl) [(0, 7)] rfl rfl (Fits.mk' (vHc rfl vHn) rfl rfl (by simp)) rfl rfl) rfl rfl ?_
      refine oA rfl rfl ?_
      refine oN ?_
      refine CW_seq ?_
      refine cR ?_
      refine oM rfl rfl ?_
      refine oQ (Q_bin rfl rfl rfl) rfl rfl ?_
      refine oN ?_
      first | refine cT rfl ?_ | refine cF rfl ?_ | refine CW_cond rfl (fun hc => ?_) (fun hc => ?_)
      all_goals try simp only [s1, s2, s3, s4, s5, s6, s7, s8, s9, s10, s11, s12] at hc
      all_goals try (exfalso; first | omega | (simp at hc; done); done)
      all_goals first
        | (
         refine CW_exit ?_)
        | (
         refine CW_skip ?_)
      all_goals first
        | with_reducible refine tR ?_
        | with_reducible refine tE ?_
        | (
         with_reducible refine tN ?_
         refine CW_cut (ι := Nat × Nat × List Int) (fun x => x.1 < 3 ∧ (∀ j, j < x.1 → R'.getD j 0 = 0) ∧ R'.getD x.1 0 ≠ 0) (fun x => match r4 with | 0 => ⟨[(0, .int p), (1, .slice 0 0 3 k), (5, .slice 4 0 0 kO), (6, .int i), (7, .slice 5 0 3 x.2.1), (9, .int (x.1 : Int))], [(0, .vals 103 [.slice 1 0 3 c0, .slice 2 0 3 c1, .slice 3 0 3 c2]), (1, .ints 2 (M 0)), (2, .ints 2 (M 1)), (3, .ints 2 (M 2)), (4, .vals 103 ([] ++ List.replicate (kO - 0) .bot)), (5, .ints 2 (normL p R' ++ x.2.2))], 6⟩ | 1 => ⟨[(0, .int p), (1, .slice 0 0 3 k), (5, .slice 4 0 1 kO), (6, .int i), (7, .slice 6 0 3 x.2.1), (9, .int (x.1 : Int))], [(0, .vals 103 [.slice 1 0 3 c0, .slice 2 0 3 c1, .slice 3 0 3 c2]), (1, .ints 2 (M 0)), (2, .ints 2 (M 1)), (3, .ints 2 (M 2)), (5, .ints 2 (E 0 ++ S 0)), (4, .vals 103 ([.slice 5 0 3 (K 0)] ++ List.replicate (kO - 1) .bot)), (6, .ints 2 (normL p R' ++ x.2.2))], 7⟩ | _ => ⟨[(0, .int p), (1, .slice 0 0 3 k), (5, .slice 4 0 2 kO), (6, .int i), (7, .slice 7 0 3 x.2.1), (9, .int (x.1 : Int))], [(0, .vals 103 [.slice 1 0 3 c0, .slice 2 0 3 c1, .slice 3 0 3 c2]), (1, .ints 2 (M 0)), (2, .ints 2 (M 1)), (3, .ints 2 (M 2)), (5, .ints 2 (E 0 ++ S 0)), (6, .ints 2 (E 1 ++ S 1)), (4, .vals 103 ([.slice 5 0 3 (K 0), .slice 6 0 3 (K 1)] ++ List.replicate (kO - 2) .bot)), (7, .ints 2 (normL p R' ++ x.2.2))], 8⟩) ?_ ?_
         · (
          subst hr4
          all_goals (
           refine CW_region ?_
           iterate 2 refine oM rfl rfl ?_
           first
             | (refine oCall (normw_con hp 2 3 R' sa ka (by decide) hRB.1) [(0, 5)] 2 rfl rfl (Fits.mk' (vHc rfl vHn) rfl rfl (by simp)) rfl rfl ?_; rintro v1 H1 ⟨kn, sn, hkn1, hkn2, rfl, rfl⟩; refine ⟨.tuple [.slice 7 0 3 kn, .bool (facP p R' != 0)], [(5, .ints 2 (R' ++ sa)), (7, .ints 2 (normL p R' ++ sn))], rfl, rfl, rfl, ?_⟩)
             | (refine oCall (normw_con hp 2 3 R' sa ka (by decide) hRB.1) [(0, 6)] 2 rfl rfl (Fits.mk' (vHc rfl vHn) rfl rfl (by simp)) rfl rfl ?_; rintro v1 H1 ⟨kn, sn, hkn1, hkn2, rfl, rfl⟩; refine ⟨.tuple [.slice 8 0 3 kn, .bool (facP p R' != 0)], [(6, .ints 2 (R' ++ sa)), (8, .ints 2 (normL p R' ++ sn))], rfl, rfl, rfl, ?_⟩)
             | (refine oCall (normw_con hp 2 3 R' sa ka (by decide) hRB.1) [(0, 7)] 2 rfl rfl (Fits.mk' (vHc rfl vHn) rfl rfl (by simp)) rfl rfl ?_; rintro v1 H1 ⟨kn, sn, hkn1, hkn2, rfl, rfl⟩; refine ⟨.tuple [.slice 9 0 3 kn, .bool (facP p R' != 0)], [(7, .ints 2 (R' ++ sa)), (9, .ints 2 (normL p R' ++ sn))], rfl, rfl, rfl, ?_⟩)
           refine oM rfl rfl ?_
           iterate 2 refine oQ (Q_extract rfl rfl) rfl rfl ?_
           refine oA rfl rfl ?_
           refine OW_nil ?_
           all_goals with_reducible refine tN ?_
           all_goals (
            first
              | (
               refine ⟨((ldI R').toNat, kn, sn), ?_, View.mk' [(5, 7)] rfl (by simp only [wfB, List.all_cons, List.all_nil, ids_bots]; rfl) rfl ?_ ?_⟩
               · have hla := ldI_at (l := R') (by omega)
                 exact ⟨by rw [← hRB.1]; exact hla.1, hla.2⟩
               all_goals (repeat' first | exact vFn | refine vFc rfl ?_ | exact vHn | refine vHc rfl ?_ | refine vFc (congrArg (fun z => some (V.int z)) ?_) ?_ | refine vHc (congrArg (fun z => some (Blk.ints _ z)) ?_) ?_ | refine vFc (congrArg (fun z => some (V.bool z)) ?_) ?_ | refine vFs rfl rfl ?_ ?_ | refine vHc (by rw [ren_bots]; rfl) ?_)
               all_goals first | rfl | (dsimp only; omega)
               done)
              | (
               refine ⟨((ldI R').toNat, kn, sn), ?_, View.mk' [(6, 8)] rfl (by simp only [wfB, List.all_cons, List.all_nil, ids_bots]; rfl) rfl ?_ ?_⟩
               · have hla := ldI_at (l := R') (by omega)
                 exact ⟨by rw [← hRB.1]; exact hla.1, hla.2⟩
               all_goals (repeat' first | exact vFn | refine vFc rfl ?_ | exact vHn | refine vHc rfl ?_ | refine vFc (congrArg (fun z => some (V.int z)) ?_) ?_ | refine vHc (congrArg (fun z => some (Blk.ints _ z)) ?_) ?_ | refine vFc (congrArg (fun z => some (V.bool z)) ?_) ?_ | refine vFs rfl rfl ?_ ?_ | refine vHc (by rw [ren_bots]; rfl) ?_)
               all_goals first | rfl | (dsimp only; omega)
               done)
              | (
               refine ⟨((ldI R').toNat, kn, sn), ?_, View.mk' [(7, 9)] rfl (by simp only [wfB, List.all_cons, List.all_nil, ids_bots]; rfl) rfl ?_ ?_⟩
               · have hla := ldI_at (l := R') (by omega)
                 exact ⟨by rw [← hRB.1]; exact hla.1, hla.2⟩
               all_goals (repeat' first | exact vFn | refine vFc rfl ?_ | exact vHn | refine vHc rfl ?_ | refine vFc (congrArg (fun z => some (V.int z)) ?_) ?_ | refine vHc (congrArg (fun z => some (Blk.ints _ z)) ?_) ?_ | refine vFc (congrArg (fun z => some (V.bool z)) ?_) ?_ | refine vFs rfl rfl ?_ ?_ | refine vHc (by rw [ren_bots]; rfl) ?_)
               all_goals first | rfl | (dsimp only; omega)
               done))))
         rintro ⟨a, kn, sn⟩ ⟨ha, ha0, ha1⟩
         subst hr4
         dsimp only at ha ha0 ha1 ⊢
         have hN := rwB_no hp0 hRB
         have hl2 : ∀ k, rwB p 3 (E k) → Con Try.prog [] 120 [.int p, .slice 0 0 3 (K k), .slice 1 0 3 kn, .int ((E k).getD a 0)] [(0, .ints 2 (E k ++ S k)), (1, .ints 2 (normL p R' ++ sn))] (fun v H' => ∃ k2 sp, 3 ≤ k2 ∧ k2 ≤ 3 + sp.length ∧ v = .slice 2 0 3 k2 ∧ H' = [(0, .ints 2 (E k ++ S k)), (1, .ints 2 (normL p R' ++ sn)), (2, .ints 2 (lsL p (E k) (normL p R') ((E k).getD a 0) 3 ++ sp))]) := fun k hek => lessw_con hp 2 2 3 _ _ (S k) sn (K k) kn _ (by decide) hek hN (hek.2 _)
         (try have f0 := hel 0 (by omega))
         (try have f1 := hel 1 (by omega))
         refine cR ?_
         refine oBslv (r := []) rfl rfl rfl rfl rfl rfl rfl rfl rfl rfl rfl rfl rfl ?_
         iterate 2 refine oA rfl rfl ?_
         refine oN ?_
         refine CW_seq ?_
         refine cR ?_
         refine oA rfl rfl ?_
         refine oN ?_
         refine CW_block ?_
         refine CW_rounds 4 ?_
         refine RW_succ ?_
         refine CW_seq ?_
         refine cR ?_
         iterate 2 refine oM rfl rfl ?_
         first | refine oQ (Q_len rfl rfl rfl rfl) rfl rfl ?_ | refine oQ (Q_len0 rfl rfl rfl rfl) rfl rfl ?_
         refine oQ (Q_bin rfl rfl rfl) rfl rfl ?_
         refine oN ?_
         first | refine cT rfl ?_ | refine cF rfl ?_ | refine CW_cond rfl (fun hc => ?_) (fun hc => ?_)
         all_goals try simp only [s1, s2, s3, s4, s5, s6, s7, s8, s9, s10, s11, s12] at hc
         all_goals try (exfalso; first | omega | (simp at hc; done); done)
         all_goals first
           | (
            refine CW_skip ?_)
           | (
            refine CW_exit ?_)
         all_goals first
           | with_reducible refine tR ?_
           | with_reducible refine tE ?_
           | (
            with_reducible refine tN ?_
            refine CW_seq ?_
            refine CW_block ?_
            refine CW_seq ?_
            refine cR ?_
            refine oM rfl rfl ?_
            refine oQ (Q_not rfl) rfl rfl ?_
            refine oM rfl rfl ?_
            all_goals first | refine oT rfl rfl ?_ | refine o1 rfl rfl rfl ?_ | refine o0 rfl rfl rfl ?_ | refine ogP1 rfl rfl rfl (fun hg => ?_) (fun hg => ?_) | refine ogP0 rfl rfl rfl (fun hg => ?_) (fun hg => ?_)
            all_goals try simp only [s1, s2, s3, s4, s5, s6, s7, s8, s9, s10, s11, s12] at hg
            all_goals try (exfalso; first | omega | exact absurd trivial hg | (simp at hg; done); done)
            all_goals first | (refine oM rfl rfl ?_) | skip
            all_goals first | refine oT rfl rfl ?_ | refine o1 rfl rfl rfl ?_ | refine o0 rfl rfl rfl ?_ | refine ogP1 rfl rfl rfl (fun hg => ?_) (fun hg => ?_) | refine ogP0 rfl rfl rfl (fun hg => ?_) (fun hg => ?_)
            all_goals try simp only [s1, s2, s3, s4, s5, s6, s7, s8, s9, s10, s11, s12] at hg
            all_goals try (exfalso; first | omega | exact absurd trivial hg | (simp at hg; done); done)
            all_goals first | (refine oM rfl rfl ?_) | skip
            all_goals first | refine oT rfl rfl ?_ | refine o1 rfl rfl rfl ?_ | refine o0 rfl rfl rfl ?_ | refine ogP1 rfl rfl rfl (fun hg => ?_) (fun hg => ?_) | refine ogP0 rfl rfl rfl (fun hg => ?_) (fun hg => ?_)
            all_goals try simp only [s1, s2, s3, s4, s5, s6, s7, s8, s9, s10, s11, s12] at hg
            all_goals try (exfalso; first | omega | exact absurd trivial hg | (simp at hg; done); done)
            all_goals first | refine oQ (Is0 rfl rfl rfl rfl rfl rfl) rfl rfl ?_ | refine oQ (Is1 rfl rfl rfl rfl rfl rfl) rfl rfl ?_ | skip
            all_goals first | refine oT rfl rfl ?_ | refine o1 rfl rfl rfl ?_ | refine o0 rfl rfl rfl ?_ | refine ogP1 rfl rfl rfl (fun hg => ?_) (fun hg => ?_) | refine ogP0 rfl rfl rfl (fun hg => ?_) (fun hg => ?_)
            all_goals try simp only [s1, s2, s3, s4, s5, s6, s7, s8, s9, s10, s11, s12] at hg
            all_goals try (exfalso; first | omega | exact absurd trivial hg | (simp at hg; done); done)
            all_goals first | (refine oQ (Q_ldv rfl rfl rfl rfl rfl rfl) rfl rfl ?_) | skip
            all_goals first | refine oT rfl rfl ?_ | refine o1 rfl rfl rfl ?_ | refine o0 rfl rfl rfl ?_ | refine ogP1 rfl rfl rfl (fun hg => ?_) (fun hg => ?_) | refine ogP0 rfl rfl rfl (fun hg => ?_) (fun hg => ?_)
            all_goals try simp only [s1, s2, s3, s4, s5, s6, s7, s8, s9, s10, s11, s12] at hg
            all_goals try (exfalso; first | omega | exact absurd trivial hg | (simp at hg; done); done)
            all_goals first | refine oQ (Q_call (hld 0 (by omega)) [(0, 5)] rfl rfl (Fits.mk' (vHc rfl vHn) rfl rfl (by simp)) rfl rfl) rfl rfl ?_ | refine oQ (Q_call (hld 1 (by omega)) [(0, 6)] rfl rfl (Fits.mk' (vHc rfl vHn) rfl rfl (by simp)) rfl rfl) rfl rfl ?_ | skip
            all_goals first | refine oT rfl rfl ?_ | refine o1 rfl rfl rfl ?_ | refine o0 rfl rfl rfl ?_ | refine ogP1 rfl rfl rfl (fun hg => ?_) (fun hg => ?_) | refine ogP0 rfl rfl rfl (fun hg => ?_) (fun hg => ?_)
            all_goals try simp only [s1, s2, s3, s4, s5, s6, s7, s8, s9, s10, s11, s12] at hg
            all_goals try (exfalso; first | omega | exact absurd trivial hg | (simp at hg; done); done)
            all_goals first | (refine oM rfl rfl ?_) | skip
            all_goals first | refine oT rfl rfl ?_ | refine o1 rfl rfl rfl ?_ | refine o0 rfl rfl rfl ?_ | refine ogP1 rfl rfl rfl (fun hg => ?_) (fun hg => ?_) | refine ogP0 rfl rfl rfl (fun hg => ?_) (fun hg => ?_)
            all_goals try simp only [s1, s2, s3, s4, s5, s6, s7, s8, s9, s10, s11, s12] at hg
            all_goals try (exfalso; first | omega | exact absurd trivial hg | (simp at hg; done); done)
            all_goals first | (refine oQ (Q_bin rfl rfl rfl) rfl rfl ?_) | skip
            all_goals first | refine oQ (Q_pick_t rfl (by with_reducible rfl) rfl rfl) rfl rfl ?_ | refine oQ (Q_pick_f rfl (by with_reducible rfl) rfl rfl) rfl rfl ?_
            all_goals refine oN ?_
            all_goals (
             first | refine cT rfl ?_ | refine cF rfl ?_ | refine CW_cond rfl (fun hc => ?_) (fun hc => ?_)
             all_goals try simp only [s1, s2, s3, s4, s5, s6, s7, s8, s9, s10, s11, s12] at hc
             all_goals try (exfalso; first | omega | (simp at hc; done); done)
             all_goals first
               | (
                refine CW_skip ?_)
               | (
                refine cR ?_
                iterate 2 refine oM rfl rfl ?_
                refine oBslv rfl rfl rfl rfl rfl rfl rfl rfl rfl rfl rfl rfl rfl ?_
                first | refine oAppV (by_ := 24) (A := []) (sp := []) rfl rfl rfl rfl rfl rfl rfl rfl rfl rfl rfl rfl rfl rfl rfl rfl rfl rfl (by first | rfl | omega | (simp; omega)) (by omega) (by omega) rfl rfl (fun kO hkO => ?_) | refine oAppV (by_ := 24) rfl rfl rfl rfl rfl rfl rfl rfl rfl rfl rfl rfl rfl rfl rfl rfl rfl rfl (by first | rfl | omega | (simp; omega)) (by omega) (by omega) rfl rfl (fun kO hkO => ?_)
                refine oA rfl rfl ?_
                refine oN ?_
                refine CW_region ?_
                refine oA rfl rfl ?_
                refine OW_nil ?_))
            all_goals with_reducible refine tN ?_
            all_goals (
             refine CW_any (fun i => List.elem i [16, 17]) 18 rfl lateOk (by decide +kernel) (fun hst => ?_)
             refine aP 0 hst rfl rfl (by decide +kernel) (PX_move rfl rfl) rfl rfl ?_
             refine aP 1 hst rfl rfl (by decide +kernel) (PX_move rfl rfl) rfl rfl ?_
             refine aP 2 hst rfl rfl (by decide +kernel) (PX_move rfl rfl) rfl rfl ?_
             refine aP 3 hst rfl rfl (by decide +kernel) (PX_move rfl rfl) rfl rfl ?_
             first | refine aQ 4 hst rfl rfl (by decide +kernel) (QX_of (Is0 rfl rfl rfl rfl rfl rfl) NE_ix) rfl rfl ?_ | refine aQ 4 hst rfl rfl (by decide +kernel) (QX_of (Is1 rfl rfl rfl rfl rfl rfl) NE_ix) rfl rfl ?_
             refine aQ 5 hst rfl rfl (by decide +kernel) (QX_of (Q_ldv rfl rfl rfl rfl rfl rfl) NE_load) rfl rfl ?_
             refine aP 6 hst rfl rfl (by decide +kernel) (PX_move rfl rfl) rfl rfl ?_
             refine aP 7 hst rfl rfl (by decide +kernel) (PX_move rfl rfl) rfl rfl ?_
             refine aP 8 hst rfl rfl (by decide +kernel) (PX_move rfl rfl) rfl rfl ?_
             first | refine aQ 9 hst rfl rfl (by decide +kernel) (QX_of (Is0 rfl rfl rfl rfl rfl rfl) NE_ix) rfl rfl ?_ | refine aQ 9 hst rfl rfl (by decide +kernel) (QX_of (Is1 rfl rfl rfl rfl rfl rfl) NE_ix) rfl rfl ?_
             refine aQ 10 hst rfl rfl (by decide +kernel) (QX_of (Q_ldv rfl rfl rfl rfl rfl rfl) NE_load) rfl rfl ?_
             refine aP 11 hst rfl rfl (by decide +kernel) (PX_move rfl rfl) rfl rfl ?_
             first | refine aQ 12 hst rfl rfl (by decide +kernel) (QX_of (Is0 rfl rfl rfl rfl rfl rfl) NE_ix) rfl rfl ?_ | refine aQ 12 hst rfl rfl (by decide +kernel) (QX_of (Is1 rfl rfl rfl rfl rfl rfl) NE_ix) rfl rfl ?_
             refine aQ 13 hst rfl rfl (by decide +kernel) (QX_of (Ld rfl rfl rfl rfl) NE_load) rfl rfl ?_
             rw [getD_app (by omega)]
             refine AW_one (i := 14) (by decide +kernel) ?_
             first
               | (refine gCall rfl rfl (hl2 0 (hE 0 (by omega))) [(0, 5), (1, 6)] 3 rfl rfl (Fits.mk' (vHc rfl (vHc rfl vHn)) rfl rfl (by simp)) rfl rfl rfl ?_; rintro v1 H1 ⟨km0, sm0, hm0, hn0, rfl, rfl⟩; refine ⟨.slice 12 0 3 km0, [(5, .ints 2 (E 0 ++ S 0)), (6, .ints 2 (normL p R' ++ sn)), (12, .ints 2 (lsL p (E 0) (normL p R') ((E 0).getD a 0) 3 ++ sm0))], rfl, keep_pre _ _, rfl, rfl, ?_⟩)
               | (refine gCall rfl rfl (hl2 0 (hE 0 (by omega))) [(0, 5), (1, 6)] 3 rfl rfl (Fits.mk' (vHc rfl (vHc rfl vHn)) rfl rfl (by simp)) rfl rfl rfl ?_; rintro v1 H1 ⟨km0, sm0, hm0, hn0, rfl, rfl⟩; refine ⟨.slice 10 0 3 km0, [(5, .ints 2 (E 0 ++ S 0)), (6, .ints 2 (normL p R' ++ sn)), (10, .ints 2 (lsL p (E 0) (normL p R') ((E 0).getD a 0) 3 ++ sm0))], rfl, keep_pre _ _, rfl, rfl, ?_⟩)
               | (refine gCall rfl rfl (hl2 0 (hE 0 (by omega))) [(0, 5), (1, 7)] 3 rfl rfl (Fits.mk' (vHc rfl (vHc rfl vHn)) rfl rfl (by simp)) rfl rfl rfl ?_; rintro v1 H1 ⟨km0, sm0, hm0, hn0, rfl, rfl⟩; refine ⟨.slice 13 0 3 km0, [(5, .ints 2 (E 0 ++ S 0)), (7, .ints 2 (normL p R' ++ sn)), (13, .ints 2 (lsL p (E 0) (normL p R') ((E 0).getD a 0) 3 ++ sm0))], rfl, keep_pre _ _, rfl, rfl, ?_⟩)
               | (refine gCall rfl rfl (hl2 1 (hE 1 (by omega))) [(0, 6), (1, 7)] 3 rfl rfl (Fits.mk' (vHc rfl (vHc rfl vHn)) rfl rfl (by simp)) rfl rfl rfl ?_; rintro v1 H1 ⟨km1, sm1, hm1, hn1, rfl, rfl⟩; refine ⟨.slice 18 0 3 km1, [(6, .ints 2 (E 1 ++ S 1)), (7, .ints 2 (normL p R' ++ sn)), (18, .ints 2 (lsL p (E 1) (normL p R') ((E 1).getD a 0) 3 ++ sm1))], rfl, keep_pre _ _, rfl, rfl, ?_⟩)
               | (refine gCall rfl rfl (hl2 0 (hE 0 (by omega))) [(0, 5), (1, 7)] 3 rfl rfl (Fits.mk' (vHc rfl (vHc rfl vHn)) rfl rfl (by simp)) rfl rfl rfl ?_; rintro v1 H1 ⟨km0, sm0, hm0, hn0, rfl, rfl⟩; refine ⟨.slice 11 0 3 km0, [(5, .ints 2 (E 0 ++ S 0)), (7, .ints 2 (normL p R' ++ sn)), (11, .ints 2 (lsL p (E 0) (normL p R') ((E 0).getD a 0) 3 ++ sm0))], rfl, keep_pre _ _, rfl, rfl, ?_⟩)
               | (refine gCall rfl rfl (hl2 1 (hE 1 (by omega))) [(0, 6), (1, 7)] 3 rfl rfl (Fits.mk' (vHc rfl (vHc rfl vHn)) rfl rfl (by simp)) rfl rfl rfl ?_; rintro v1 H1 ⟨km1, sm1, hm1, hn1, rfl, rfl⟩; refine ⟨.slice 18 0 3 km1, [(6, .ints 2 (E 1 ++ S 1)), (7, .ints 2 (normL p R' ++ sn)), (18, .ints 2 (lsL p (E 1) (normL p R') ((E 1).getD a 0) 3 ++ sm1))], rfl, keep_pre _ _, rfl, rfl, ?_⟩)
               | (refine gCall rfl rfl (hl2 0 (hE 0 (by omega))) [(0, 5), (1, 7)] 3 rfl rfl (Fits.mk' (vHc rfl (vHc rfl vHn)) rfl rfl (by simp)) rfl rfl rfl ?_; rintro v1 H1 ⟨km0, sm0, hm0, hn0, rfl, rfl⟩; refine ⟨.slice 11 0 3 km0, [(5, .ints 2 (E 0 ++ S 0)), (7, .ints 2 (normL p R' ++ sn)), (11, .ints 2 (lsL p (E 0) (normL p R') ((E 0).getD a 0) 3 ++ sm0))], rfl, keep_pre _ _, rfl, rfl, ?_⟩)
               | (refine gCall rfl rfl (hl2 1 (hE 1 (by omega))) [(0, 6), (1, 7)] 3 rfl rfl (Fits.mk' (vHc rfl (vHc rfl vHn)) rfl rfl (by simp)) rfl rfl rfl ?_; rintro v1 H1 ⟨km1, sm1, hm1, hn1, rfl, rfl⟩; refine ⟨.slice 16 0 3 km1, [(6, .ints 2 (E 1 ++ S 1)), (7, .ints 2 (normL p R' ++ sn)), (16, .ints 2 (lsL p (E 1) (normL p R') ((E 1).getD a 0) 3 ++ sm1))], rfl, keep_pre _ _, rfl, rfl, ?_⟩)
             refine AW_one (i := 15) (by decide +kernel) ?_
             refine gBslv rfl rfl rfl rfl rfl rfl rfl rfl rfl rfl rfl rfl rfl rfl rfl ?_
             refine AW_last [16, 17] rfl (by decide +kernel) rfl ?_
             first | refine oAppV (by_ := 24) (A := []) (sp := []) rfl rfl rfl rfl rfl rfl rfl rfl rfl rfl rfl rfl rfl rfl rfl rfl rfl rfl (by first | rfl | omega | (simp; omega)) (by omega) (by omega) rfl rfl (fun kO hkO => ?_) | refine oAppV (by_ := 24) rfl rfl rfl rfl rfl rfl rfl rfl rfl rfl rfl rfl rfl rfl rfl rfl rfl rfl (by first | rfl | omega | (simp; omega)) (by omega) (by omega) rfl rfl (fun kO hkO => ?_)
             refine oA rfl rfl ?_
             refine OW_nil (npN ?_))
            all_goals first | with_reducible refine bN ?_ | with_reducible refine bE ?_ | with_reducible refine bR ?_ | refine bX rfl ?_
            all_goals with_reducible refine tN ?_
            all_goals (
             refine CW_region ?_
             refine oM rfl rfl ?_
             first | refine oQ (Q_binu rfl rfl rfl (by omega)) rfl rfl ?_ | refine oQ (Q_bin rfl rfl rfl) rfl rfl ?_
             refine oA rfl rfl ?_
             refine OW_nil ?_))
         all_goals first
           | with_reducible refine tR ?_
           | with_reducible refine tE ?_
           | (
            with_reducible refine tN ?_
            refine RW_succ ?_
            refine CW_seq ?_
            refine cR ?_
            iterate 2 refine oM rfl rfl ?_
            first | refine oQ (Q_len rfl rfl rfl rfl) rfl rfl ?_ | refine oQ (Q_len0 rfl rfl rfl rfl) rfl rfl ?_
            refine oQ (Q_bin rfl rfl rfl) rfl rfl ?_
            refine oN ?_
            first | refine cT rfl ?_ | refine cF rfl ?_ | refine CW_cond rfl (fun hc => ?_) (fun hc => ?_)
            all_goals try simp only [s1, s2, s3, s4, s5, s6, s7, s8, s9, s10, s11, s12] at hc
            all_goals try (exfalso; first | omega | (simp at hc; done); done)
            all_goals first
              | (
               refine CW_skip ?_)
              | (
               refine CW_exit ?_)
            all_goals first
              | with_reducible refine tR ?_
              | with_reducible refine tE ?_
              | (
               with_reducible refine tN ?_
               refine CW_seq ?_
               refine CW_block ?_
               refine CW_seq ?_
               refine cR ?_
               refine oM rfl rfl ?_
               refine oQ (Q_not rfl) rfl rfl ?_
               refine oM rfl rfl ?_
               all_goals first | refine oT rfl rfl ?_ | refine o1 rfl rfl rfl ?_ | refine o0 rfl rfl rfl ?_ | refine ogP1 rfl rfl rfl (fun hg => ?_) (fun hg => ?_) | refine ogP0 rfl rfl rfl (fun hg => ?_) (fun hg => ?_)
               all_goals try simp only [s1, s2, s3, s4, s5, s6, s7, s8, s9, s10, s11, s12] at hg
               all_goals try (exfalso; first | omega | exact absurd trivial hg | (simp at hg; done); done)
               all_goals first | (refine oM rfl rfl ?_) | skip
               all_goals first | refine oT rfl rfl ?_ | refine o1 rfl rfl rfl ?_ | refine o0 rfl rfl rfl ?_ | refine ogP1 rfl rfl rfl (fun hg => ?_) (fun hg => ?_) | refine ogP0 rfl rfl rfl (fun hg => ?_) (fun hg => ?_)
               all_goals try simp only [s1, s2, s3, s4, s5, s6, s7, s8, s9, s10, s11, s12] at hg
               all_goals try (exfalso; first | omega | exact absurd trivial hg | (simp at hg; done); done)
               all_goals first | (refine oM rfl rfl ?_) | skip
               all_goals first | refine oT rfl rfl ?_ | refine o1 rfl rfl rfl ?_ | refine o0 rfl rfl rfl ?_ | refine ogP1 rfl rfl rfl (fun hg => ?_) (fun hg => ?_) | refine ogP0 rfl rfl rfl (fun hg => ?_) (fun hg => ?_)
               all_goals try simp only [s1, s2, s3, s4, s5, s6, s7, s8, s9, s10, s11, s12] at hg
               all_goals try (exfalso; first | omega | exact absurd trivial hg | (simp at hg; done); done)
               all_goals first | refine oQ (Is0 rfl rfl rfl rfl rfl rfl) rfl rfl ?_ | refine oQ (Is1 rfl rfl rfl rfl rfl rfl) rfl rfl ?_ | skip
               all_goals first | refine oT rfl rfl ?_ | refine o1 rfl rfl rfl ?_ | refine o0 rfl rfl rfl ?_ | refine ogP1 rfl rfl rfl (fun hg => ?_) (fun hg => ?_) | refine ogP0 rfl rfl rfl (fun hg => ?_) (fun hg => ?_)
               all_goals try simp only [s1, s2, s3, s4, s5, s6, s7, s8, s9, s10, s11, s12] at hg
               all_goals try (exfalso; first | omega | exact absurd trivial hg | (simp at hg; done); done)
               all_goals first | (refine oQ (Q_ldv rfl rfl rfl rfl rfl rfl) rfl rfl ?_) | skip
               all_goals first | refine oT rfl rfl ?_ | refine o1 rfl rfl rfl ?_ | refine o0 rfl rfl rfl ?_ | refine ogP1 rfl rfl rfl (fun hg => ?_) (fun hg => ?_) | refine ogP0 rfl rfl rfl (fun hg => ?_) (fun hg => ?_)
               all_goals try simp only [s1, s2, s3, s4, s5, s6, s7, s8, s9, s10, s11, s12] at hg
               all_goals try (exfalso; first | omega | exact absurd trivial hg | (simp at hg; done); done)
               all_goals first | refine oQ (Q_call (hld 0 (by omega)) [(0, 5)] rfl rfl (Fits.mk' (vHc rfl vHn) rfl rfl (by simp)) rfl rfl) rfl rfl ?_ | refine oQ (Q_call (hld 1 (by omega)) [(0, 6)] rfl rfl (Fits.mk' (vHc rfl vHn) rfl rfl (by simp)) rfl rfl) rfl rfl ?_ | skip
               all_goals first | refine oT rfl rfl ?_ | refine o1 rfl rfl rfl ?_ | refine o0 rfl rfl rfl ?_ | refine ogP1 rfl rfl rfl (fun hg => ?_) (fun hg => ?_) | refine ogP0 rfl rfl rfl (fun hg => ?_) (fun hg => ?_)
               all_goals try simp only [s1, s2, s3, s4, s5, s6, s7, s8, s9, s10, s11, s12] at hg
               all_goals try (exfalso; first | omega | exact absurd trivial hg | (simp at hg; done); done)
               all_goals first | (refine oM rfl rfl ?_) | skip
               all_goals first | refine oT rfl rfl ?_ | refine o1 rfl rfl rfl ?_ | refine o0 rfl rfl rfl ?_ | refine ogP1 rfl rfl rfl (fun hg => ?_) (fun hg => ?_) | refine ogP0 rfl rfl rfl (fun hg => ?_) (fun hg => ?_)
               all_goals try simp only [s1, s2, s3, s4, s5, s6, s7, s8, s9, s10, s11, s12] at hg
               all_goals try (exfalso; first | omega | exact absurd trivial hg | (simp at hg; done); done)
               all_goals first | (refine oQ (Q_bin rfl rfl rfl) rfl rfl ?_) | skip
               all_goals first | refine oQ (Q_pick_t rfl (by with_reducible rfl) rfl rfl) rfl rfl ?_ | refine oQ (Q_pick_f rfl (by with_reducible rfl) rfl rfl) rfl rfl ?_
               all_goals refine oN ?_
               all_goals (
                first | refine cT rfl ?_ | refine cF rfl ?_ | refine CW_cond rfl (fun hc => ?_) (fun hc => ?_)
                all_goals try simp only [s1, s2, s3, s4, s5, s6, s7, s8, s9, s10, s11, s12] at hc
                all_goals try (exfalso; first | omega | (simp at hc; done); done)
                all_goals first
                  | (
                   refine CW_skip ?_)
                  | (
                   refine cR ?_
                   iterate 2 refine oM rfl rfl ?_
                   refine oBslv rfl rfl rfl rfl rfl rfl rfl rfl rfl rfl rfl rfl rfl ?_
                   first | refine oAppV (by_ := 24) (A := []) (sp := []) rfl rfl rfl rfl rfl rfl rfl rfl rfl rfl rfl rfl rfl rfl rfl rfl rfl rfl (by first | rfl | omega | (simp; omega)) (by omega) (by omega) rfl rfl (fun kO hkO => ?_) | refine oAppV (by_ := 24) rfl rfl rfl rfl rfl rfl rfl rfl rfl rfl rfl rfl rfl rfl rfl rfl rfl rfl (by first | rfl | omega | (simp; omega)) (by omega) (by omega) rfl rfl (fun kO hkO => ?_)
                   refine oA rfl rfl ?_
                   refine oN ?_
                   refine CW_region ?_
                   refine oA rfl rfl ?_
                   refine OW_nil ?_))
               all_goals with_reducible refine tN ?_
               all_goals (
                refine CW_any (fun i => List.elem i [16, 17]) 18 rfl lateOk (by decide +kernel) (fun hst => ?_)
                refine aP 0 hst rfl rfl (by decide +kernel) (PX_move rfl rfl) rfl rfl ?_
                refine aP 1 hst rfl rfl (by decide +kernel) (PX_move rfl rfl) rfl rfl ?_
                refine aP 2 hst rfl rfl (by decide +kernel) (PX_move rfl rfl) rfl rfl ?_
                refine aP 3 hst rfl rfl (by decide +kernel) (PX_move rfl rfl) rfl rfl ?_
                first | refine aQ 4 hst rfl rfl (by decide +kernel) (QX_of (Is0 rfl rfl rfl rfl rfl rfl) NE_ix) rfl rfl ?_ | refine aQ 4 hst rfl rfl (by decide +kernel) (QX_of (Is1 rfl rfl rfl rfl rfl rfl) NE_ix) rfl rfl ?_
                refine aQ 5 hst rfl rfl (by decide +kernel) (QX_of (Q_ldv rfl rfl rfl rfl rfl rfl) NE_load) rfl rfl ?_
                refine aP 6 hst rfl rfl (by decide +kernel) (PX_move rfl rfl) rfl rfl ?_
                refine aP 7 hst rfl rfl (by decide +kernel) (PX_move rfl rfl) rfl rfl ?_
                refine aP 8 hst rfl rfl (by decide +kernel) (PX_move rfl rfl) rfl rfl ?_
                first | refine aQ 9 hst rfl rfl (by decide +kernel) (QX_of (Is0 rfl rfl rfl rfl rfl rfl) NE_ix) rfl rfl ?_ | refine aQ 9 hst rfl rfl (by decide +kernel) (QX_of (Is1 rfl rfl rfl rfl rfl rfl) NE_ix) rfl rfl ?_
                refine aQ 10 hst rfl rfl (by decide +kernel) (QX_of (Q_ldv rfl rfl rfl rfl rfl rfl) NE_load) rfl rfl ?_
                refine aP 11 hst rfl rfl (by decide +kernel) (PX_move rfl rfl) rfl rfl ?_
                first | refine aQ 12 hst rfl rfl (by decide +kernel) (QX_of (Is0 rfl rfl rfl rfl rfl rfl) NE_ix) rfl rfl ?_ | refine aQ 12 hst rfl rfl (by decide +kernel) (QX_of (Is1 rfl rfl rfl rfl rfl rfl) NE_ix) rfl rfl ?_
                refine aQ 13 hst rfl rfl (by decide +kernel) (QX_of (Ld rfl rfl rfl rfl) NE_load) rfl rfl ?_
                rw [getD_app (by omega)]
                refine AW_one (i := 14) (by decide +kernel) ?_
                first
                  | (refine gCall rfl rfl (hl2 0 (hE 0 (by omega))) [(0, 5), (1, 6)] 3 rfl rfl (Fits.mk' (vHc rfl (vHc rfl vHn)) rfl rfl (by simp)) rfl rfl rfl ?_; rintro v1 H1 ⟨km0, sm0, hm0, hn0, rfl, rfl⟩; refine ⟨.slice 12 0 3 km0, [(5, .ints 2 (E 0 ++ S 0)), (6, .ints 2 (normL p R' ++ sn)), (12, .ints 2 (lsL p (E 0) (normL p R') ((E 0).getD a 0) 3 ++ sm0))], rfl, keep_pre _ _, rfl, rfl, ?_⟩)
                  | (refine gCall rfl rfl (hl2 0 (hE 0 (by omega))) [(0, 5), (1, 6)] 3 rfl rfl (Fits.mk' (vHc rfl (vHc rfl vHn)) rfl rfl (by simp)) rfl rfl rfl ?_; rintro v1 H1 ⟨km0, sm0, hm0, hn0, rfl, rfl⟩; refine ⟨.slice 10 0 3 km0, [(5, .ints 2 (E 0 ++ S 0)), (6, .ints 2 (normL p R' ++ sn)), (10, .ints 2 (lsL p (E 0) (normL p R') ((E 0).getD a 0) 3 ++ sm0))], rfl, keep_pre _ _, rfl, rfl, ?_⟩)
                  | (refine gCall rfl rfl (hl2 0 (hE 0 (by omega))) [(0, 5), (1, 7)] 3 rfl rfl (Fits.mk' (vHc rfl (vHc rfl vHn)) rfl rfl (by simp)) rfl rfl rfl ?_; rintro v1 H1 ⟨km0, sm0, hm0, hn0, rfl, rfl⟩; refine ⟨.slice 13 0 3 km0, [(5, .ints 2 (E 0 ++ S 0)), (7, .ints 2 (normL p R' ++ sn)), (13, .ints 2 (lsL p (E 0) (normL p R') ((E 0).getD a 0) 3 ++ sm0))], rfl, keep_pre _ _, rfl, rfl, ?_⟩)
                  | (refine gCall rfl rfl (hl2 1 (hE 1 (by omega))) [(0, 6), (1, 7)] 3 rfl rfl (Fits.mk' (vHc rfl (vHc rfl vHn)) rfl rfl (by simp)) rfl rfl rfl ?_; rintro v1 H1 ⟨km1, sm1, hm1, hn1, rfl, rfl⟩; refine ⟨.slice 18 0 3 km1, [(6, .ints 2 (E 1 ++ S 1)), (7, .ints 2 (normL p R' ++ sn)), (18, .ints 2 (lsL p (E 1) (normL p R') ((E 1).getD a 0) 3 ++ sm1))], rfl, keep_pre _ _, rfl, rfl, ?_⟩)
                  | (refine gCall rfl rfl (hl2 0 (hE 0 (by omega))) [(0, 5), (1, 7)] 3 rfl rfl (Fits.mk' (vHc rfl (vHc rfl vHn)) rfl rfl (by simp)) rfl rfl rfl ?_; rintro v1 H1 ⟨km0, sm0, hm0, hn0, rfl, rfl⟩; refine ⟨.slice 11 0 3 km0, [(5, .ints 2 (E 0 ++ S 0)), (7, .ints 2 (normL p R' ++ sn)), (11, .ints 2 (lsL p (E 0) (normL p R') ((E 0).getD a 0) 3 ++ sm0))], rfl, keep_pre _ _, rfl, rfl, ?_⟩)
                  | (refine gCall rfl rfl (hl2 1 (hE 1 (by omega))) [(0, 6), (1, 7)] 3 rfl rfl (Fits.mk' (vHc rfl (vHc rfl vHn)) rfl rfl (by simp)) rfl rfl rfl ?_; rintro v1 H1 ⟨km1, sm1, hm1, hn1, rfl, rfl⟩; refine ⟨.slice 18 0 3 km1, [(6, .ints 2 (E 1 ++ S 1)), (7, .ints 2 (normL p R' ++ sn)), (18, .ints 2 (lsL p (E 1) (normL p R') ((E 1).getD a 0) 3 ++ sm1))], rfl, keep_pre _ _, rfl, rfl, ?_⟩)
                  | (refine gCall rfl rfl (hl2 0 (hE 0 (by omega))) [(0, 5), (1, 7)] 3 rfl rfl (Fits.mk' (vHc rfl (vHc rfl vHn)) rfl rfl (by simp)) rfl rfl rfl ?_; rintro v1 H1 ⟨km0, sm0, hm0, hn0, rfl, rfl⟩; refine ⟨.slice 11 0 3 km0, [(5, .ints 2 (E 0 ++ S 0)), (7, .ints 2 (normL p R' ++ sn)), (11, .ints 2 (lsL p (E 0) (normL p R') ((E 0).getD a 0) 3 ++ sm0))], rfl, keep_pre _ _, rfl, rfl, ?_⟩)
                  | (refine gCall rfl rfl (hl2 1 (hE 1 (by omega))) [(0, 6), (1, 7)] 3 rfl rfl (Fits.mk' (vHc rfl (vHc rfl vHn)) rfl rfl (by simp)) rfl rfl rfl ?_; rintro v1 H1 ⟨km1, sm1, hm1, hn1, rfl, rfl⟩; refine ⟨.slice 16 0 3 km1, [(6, .ints 2 (E 1 ++ S 1)), (7, .ints 2 (normL p R' ++ sn)), (16, .ints 2 (lsL p (E 1) (normL p R') ((E 1).getD a 0) 3 ++ sm1))], rfl, keep_pre _ _, rfl, rfl, ?_⟩)
                refine AW_one (i := 15) (by decide +kernel) ?_
                refine gBslv rfl rfl rfl rfl rfl rfl rfl rfl rfl rfl rfl rfl rfl rfl rfl ?_
                refine AW_last [16, 17] rfl (by decide +kernel) rfl ?_
                first | refine oAppV (by_ := 24) (A := []) (sp := []) rfl rfl rfl rfl rfl rfl rfl rfl rfl rfl rfl rfl rfl rfl rfl rfl rfl rfl (by first | rfl | omega | (simp; omega)) (by omega) (by omega) rfl rfl (fun kO hkO => ?_) | refine oAppV (by_ := 24) rfl rfl rfl rfl rfl rfl rfl rfl rfl rfl rfl rfl rfl rfl rfl rfl rfl rfl (by first | rfl | omega | (simp; omega)) (by omega) (by omega) rfl rfl (fun kO hkO => ?_)
                refine oA rfl rfl ?_
                refine OW_nil (npN ?_))
               all_goals first | with_reducible refine bN ?_ | with_reducible refine bE ?_ | with_reducible refine bR ?_ | refine bX rfl ?_
               all_goals with_reducible refine tN ?_
               all_goals (
                refine CW_region ?_
                refine oM rfl rfl ?_
                first | refine oQ (Q_binu rfl rfl rfl (by omega)) rfl rfl ?_ | refine oQ (Q_bin rfl rfl rfl) rfl rfl ?_
                refine oA rfl rfl ?_
                refine OW_nil ?_))
            all_goals first
              | with_reducible refine tR ?_
              | with_reducible refine tE ?_
              | (
               with_reducible refine tN ?_
               refine RW_succ ?_
               refine CW_seq ?_
               refine cR ?_
               iterate 2 refine oM rfl rfl ?_
               first | refine oQ (Q_len rfl rfl rfl rfl) rfl rfl ?_ | refine oQ (Q_len0 rfl rfl rfl rfl) rfl rfl ?_
               refine oQ (Q_bin rfl rfl rfl) rfl rfl ?_
               refine oN ?_
               first | refine cT rfl ?_ | refine cF rfl ?_ | refine CW_cond rfl (fun hc => ?_) (fun hc => ?_)
               all_goals try simp only [s1, s2, s3, s4, s5, s6, s7, s8, s9, s10, s11, s12] at hc
               all_goals try (exfalso; first | omega | (simp at hc; done); done)
               all_goals first
                 | (
                  refine CW_skip ?_)
                 | (
                  refine CW_exit ?_)
               all_goals first
                 | with_reducible refine tR ?_
                 | with_reducible refine tE ?_
                 | (
                  with_reducible refine tN ?_
                  refine CW_seq ?_
                  refine CW_block ?_
                  refine CW_seq ?_
                  refine cR ?_
                  refine oM rfl rfl ?_
                  refine oQ (Q_not rfl) rfl rfl ?_
                  refine oM rfl rfl ?_
                  all_goals first | refine oT rfl rfl ?_ | refine o1 rfl rfl rfl ?_ | refine o0 rfl rfl rfl ?_ | refine ogP1 rfl rfl rfl (fun hg => ?_) (fun hg => ?_) | refine ogP0 rfl rfl rfl (fun hg => ?_) (fun hg => ?_)
                  all_goals try simp only [s1, s2, s3, s4, s5, s6, s7, s8, s9, s10, s11, s12] at hg
                  all_goals try (exfalso; first | omega | exact absurd trivial hg | (simp at hg; done); done)
                  all_goals first | (refine oM rfl rfl ?_) | skip
                  all_goals first | refine oT rfl rfl ?_ | refine o1 rfl rfl rfl ?_ | refine o0 rfl rfl rfl ?_ | refine ogP1 rfl rfl rfl (fun hg => ?_) (fun hg => ?_) | refine ogP0 rfl rfl rfl (fun hg => ?_) (fun hg => ?_)
                  all_goals try simp only [s1, s2, s3, s4, s5, s6, s7, s8, s9, s10, s11, s12] at hg
                  all_goals try (exfalso; first | omega | exact absurd trivial hg | (simp at hg; done); done)
                  all_goals first | (refine oM rfl rfl ?_) | skip
                  all_goals first | refine oT rfl rfl ?_ | refine o1 rfl rfl rfl ?_ | refine o0 rfl rfl rfl ?_ | refine ogP1 rfl rfl rfl (fun hg => ?_) (fun hg => ?_) | refine ogP0 rfl rfl rfl (fun hg => ?_) (fun hg => ?_)
                  all_goals try simp only [s1, s2, s3, s4, s5, s6, s7, s8, s9, s10, s11, s12] at hg
                  all_goals try (exfalso; first | omega | exact absurd trivial hg | (simp at hg; done); done)
                  all_goals first | refine oQ (Is0 rfl rfl rfl rfl rfl rfl) rfl rfl ?_ | refine oQ (Is1 rfl rfl rfl rfl rfl rfl) rfl rfl ?_ | skip
                  all_goals first | refine oT rfl rfl ?_ | refine o1 rfl rfl rfl ?_ | refine o0 rfl rfl rfl ?_ | refine ogP1 rfl rfl rfl (fun hg => ?_) (fun hg => ?_) | refine ogP0 rfl rfl rfl (fun hg => ?_) (fun hg => ?_)
                  all_goals try simp only [s1, s2, s3, s4, s5, s6, s7, s8, s9, s10, s11, s12] at hg
                  all_goals try (exfalso; first | omega | exact absurd trivial hg | (simp at hg; done); done)
                  all_goals first | (refine oQ (Q_ldv rfl rfl rfl rfl rfl rfl) rfl rfl ?_) | skip
                  all_goals first | refine oT rfl rfl ?_ | refine o1 rfl rfl rfl ?_ | refine o0 rfl rfl rfl ?_ | refine ogP1 rfl rfl rfl (fun hg => ?_) (fun hg => ?_) | refine ogP0 rfl rfl rfl (fun hg => ?_) (fun hg => ?_)
                  all_goals try simp only [s1, s2, s3, s4, s5, s6, s7, s8, s9, s10, s11, s12] at hg
                  all_goals try (exfalso; first | omega | exact absurd trivial hg | (simp at hg; done); done)
                  all_goals first | refine oQ (Q_call (hld 0 (by omega)) [(0, 5)] rfl rfl (Fits.mk' (vHc rfl vHn) rfl rfl (by simp)) rfl rfl) rfl rfl ?_ | refine oQ (Q_call (hld 1 (by omega)) [(0, 6)] rfl rfl (Fits.mk' (vHc rfl vHn) rfl rfl (by simp)) rfl rfl) rfl rfl ?_ | skip
                  all_goals first | refine oT rfl rfl ?_ | refine o1 rfl rfl rfl ?_ | refine o0 rfl rfl rfl ?_ | refine ogP1 rfl rfl rfl (fun hg => ?_) (fun hg => ?_) | refine ogP0 rfl rfl rfl (fun hg => ?_) (fun hg => ?_)
                  all_goals try simp only [s1, s2, s3, s4, s5, s6, s7, s8, s9, s10, s11, s12] at hg
                  all_goals try (exfalso; first | omega | exact absurd trivial hg | (simp at hg; done); done)
                  all_goals first | (refine oM rfl rfl ?_) | skip
                  all_goals first | refine oT rfl rfl ?_ | refine o1 rfl rfl rfl ?_ | refine o0 rfl rfl rfl ?_ | refine ogP1 rfl rfl rfl (fun hg => ?_) (fun hg => ?_) | refine ogP0 rfl rfl rfl (fun hg => ?_) (fun hg => ?_)
                  all_goals try simp only [s1, s2, s3, s4, s5, s6, s7, s8, s9, s10, s11, s12] at hg
                  all_goals try (exfalso; first | omega | exact absurd trivial hg | (simp at hg; done); done)
                  all_goals first | (refine oQ (Q_bin rfl rfl rfl) rfl rfl ?_) | skip
                  all_goals first | refine oQ (Q_pick_t rfl (by with_reducible rfl) rfl rfl) rfl rfl ?_ | refine oQ (Q_pick_f rfl (by with_reducible rfl) rfl rfl) rfl rfl ?_
                  all_goals refine oN ?_
                  all_goals (
                   first | refine cT rfl ?_ | refine cF rfl ?_ | refine CW_cond rfl (fun hc => ?_) (fun hc => ?_)
                   all_goals try simp only [s1, s2, s3, s4, s5, s6, s7, s8, s9, s10, s11, s12] at hc
                   all_goals try (exfalso; first | omega | (simp at hc; done); done)
                   all_goals first
                     | (
                      refine CW_skip ?_)
                     | (
                      refine cR ?_
                      iterate 2 refine oM rfl rfl ?_
                      refine oBslv rfl rfl rfl rfl rfl rfl rfl rfl rfl rfl rfl rfl rfl ?_
                      first | refine oAppV (by_ := 24) (A := []) (sp := []) rfl rfl rfl rfl rfl rfl rfl rfl rfl rfl rfl rfl rfl rfl rfl rfl rfl rfl (by first | rfl | omega | (simp; omega)) (by omega) (by omega) rfl rfl (fun kO hkO => ?_) | refine oAppV (by_ := 24) rfl rfl rfl rfl rfl rfl rfl rfl rfl rfl rfl rfl rfl rfl rfl rfl rfl rfl (by first | rfl | omega | (simp; omega)) (by omega) (by omega) rfl rfl (fun kO hkO => ?_)
                      refine oA rfl rfl ?_
                      refine oN ?_
                      refine CW_region ?_
                      refine oA rfl rfl ?_
                      refine OW_nil ?_))
                  all_goals with_reducible refine tN ?_
                  all_goals (
                   refine CW_any (fun i => List.elem i [16, 17]) 18 rfl lateOk (by decide +kernel) (fun hst => ?_)
                   refine aP 0 hst rfl rfl (by decide +kernel) (PX_move rfl rfl) rfl rfl ?_
                   refine aP 1 hst rfl rfl (by decide +kernel) (PX_move rfl rfl) rfl rfl ?_
                   refine aP 2 hst rfl rfl (by decide +kernel) (PX_move rfl rfl) rfl rfl ?_
                   refine aP 3 hst rfl rfl (by decide +kernel) (PX_move rfl rfl) rfl rfl ?_
                   first | refine aQ 4 hst rfl rfl (by decide +kernel) (QX_of (Is0 rfl rfl rfl rfl rfl rfl) NE_ix) rfl rfl ?_ | refine aQ 4 hst rfl rfl (by decide +kernel) (QX_of (Is1 rfl rfl rfl rfl rfl rfl) NE_ix) rfl rfl ?_
                   refine aQ 5 hst rfl rfl (by decide +kernel) (QX_of (Q_ldv rfl rfl rfl rfl rfl rfl) NE_load) rfl rfl ?_
                   refine aP 6 hst rfl rfl (by decide +kernel) (PX_move rfl rfl) rfl rfl ?_
                   refine aP 7 hst rfl rfl (by decide +kernel) (PX_move rfl rfl) rfl rfl ?_
                   refine aP 8 hst rfl rfl (by decide +kernel) (PX_move rfl rfl) rfl rfl ?_
                   first | refine aQ 9 hst rfl rfl (by decide +kernel) (QX_of (Is0 rfl rfl rfl rfl rfl rfl) NE_ix) rfl rfl ?_ | refine aQ 9 hst rfl rfl (by decide +kernel) (QX_of (Is1 rfl rfl rfl rfl rfl rfl) NE_ix) rfl rfl ?_
                   refine aQ 10 hst rfl rfl (by decide +kernel) (QX_of (Q_ldv rfl rfl rfl rfl rfl rfl) NE_load) rfl rfl ?_
                   refine aP 11 hst rfl rfl (by decide +kernel) (PX_move rfl rfl) rfl rfl ?_
                   first | refine aQ 12 hst rfl rfl (by decide +kernel) (QX_of (Is0 rfl rfl rfl rfl rfl rfl) NE_ix) rfl rfl ?_ | refine aQ 12 hst rfl rfl (by decide +kernel) (QX_of (Is1 rfl rfl rfl rfl rfl rfl) NE_ix) rfl rfl ?_
                   refine aQ 13 hst rfl rfl (by decide +kernel) (QX_of (Ld rfl rfl rfl rfl) NE_load) rfl rfl ?_
                   rw [getD_app (by omega)]
                   refine AW_one (i := 14) (by decide +kernel) ?_
                   first
                     | (refine gCall rfl rfl (hl2 0 (hE 0 (by omega))) [(0, 5), (1, 6)] 3 rfl rfl (Fits.mk' (vHc rfl (vHc rfl vHn)) rfl rfl (by simp)) rfl rfl rfl ?_; rintro v1 H1 ⟨km0, sm0, hm0, hn0, rfl, rfl⟩; refine ⟨.slice 12 0 3 km0, [(5, .ints 2 (E 0 ++ S 0)), (6, .ints 2 (normL p R' ++ sn)), (12, .ints 2 (lsL p (E 0) (normL p R') ((E 0).getD a 0) 3 ++ sm0))], rfl, keep_pre _ _, rfl, rfl, ?_⟩)
                     | (refine gCall rfl rfl (hl2 0 (hE 0 (by omega))) [(0, 5), (1, 6)] 3 rfl rfl (Fits.mk' (vHc rfl (vHc rfl vHn)) rfl rfl (by simp)) rfl rfl rfl ?_; rintro v1 H1 ⟨km0, sm0, hm0, hn0, rfl, rfl⟩; refine ⟨.slice 10 0 3 km0, [(5, .ints 2 (E 0 ++ S 0)), (6, .ints 2 (normL p R' ++ sn)), (10, .ints 2 (lsL p (E 0) (normL p R') ((E 0).getD a 0) 3 ++ sm0))], rfl, keep_pre _ _, rfl, rfl, ?_⟩)
                     | (refine gCall rfl rfl (hl2 0 (hE 0 (by omega))) [(0, 5), (1, 7)] 3 rfl rfl (Fits.mk' (vHc rfl (vHc rfl vHn)) rfl rfl (by simp)) rfl rfl rfl ?_; rintro v1 H1 ⟨km0, sm0, hm0, hn0, rfl, rfl⟩; refine ⟨.slice 13 0 3 km0, [(5, .ints 2 (E 0 ++ S 0)), (7, .ints 2 (normL p R' ++ sn)), (13, .ints 2 (lsL p (E 0) (normL p R') ((E 0).getD a 0) 3 ++ sm0))], rfl, keep_pre _ _, rfl, rfl, ?_⟩)
                     | (refine gCall rfl rfl (hl2 1 (hE 1 (by omega))) [(0, 6), (1, 7)] 3 rfl rfl (Fits.mk' (vHc rfl (vHc rfl vHn)) rfl rfl (by simp)) rfl rfl rfl ?_; rintro v1 H1 ⟨km1, sm1, hm1, hn1, rfl, rfl⟩; refine ⟨.slice 18 0 3 km1, [(6, .ints 2 (E 1 ++ S 1)), (7, .ints 2 (normL p R' ++ sn)), (18, .ints 2 (lsL p (E 1) (normL p R') ((E 1).getD a 0) 3 ++ sm1))], rfl, keep_pre _ _, rfl, rfl, ?_⟩)
                     | (refine gCall rfl rfl (hl2 0 (hE 0 (by omega))) [(0, 5), (1, 7)] 3 rfl rfl (Fits.mk' (vHc rfl (vHc rfl vHn)) rfl rfl (by simp)) rfl rfl rfl ?_; rintro v1 H1 ⟨km0, sm0, hm0, hn0, rfl, rfl⟩; refine ⟨.slice 11 0 3 km0, [(5, .ints 2 (E 0 ++ S 0)), (7, .ints 2 (normL p R' ++ sn)), (11, .ints 2 (lsL p (E 0) (normL p R') ((E 0).getD a 0) 3 ++ sm0))], rfl, keep_pre _ _, rfl, rfl, ?_⟩)
                     | (refine gCall rfl rfl (hl2 1 (hE 1 (by omega))) [(0, 6), (1, 7)] 3 rfl rfl (Fits.mk' (vHc rfl (vHc rfl vHn)) rfl rfl (by simp)) rfl rfl rfl ?_; rintro v1 H1 ⟨km1, sm1, hm1, hn1, rfl, rfl⟩; refine ⟨.slice 18 0 3 km1, [(6, .ints 2 (E 1 ++ S 1)), (7, .ints 2 (normL p R' ++ sn)), (18, .ints 2 (lsL p (E 1) (normL p R') ((E 1).getD a 0) 3 ++ sm1))], rfl, keep_pre _ _, rfl, rfl, ?_⟩)
                     | (refine gCall rfl rfl (hl2 0 (hE 0 (by omega))) [(0, 5), (1, 7)] 3 rfl rfl (Fits.mk' (vHc rfl (vHc rfl vHn)) rfl rfl (by simp)) rfl rfl rfl ?_; rintro v1 H1 ⟨km0, sm0, hm0, hn0, rfl, rfl⟩; refine ⟨.slice 11 0 3 km0, [(5, .ints 2 (E 0 ++ S 0)), (7, .ints 2 (normL p R' ++ sn)), (11, .ints 2 (lsL p (E 0) (normL p R') ((E 0).getD a 0) 3 ++ sm0))], rfl, keep_pre _ _, rfl, rfl, ?_⟩)
                     | (refine gCall rfl rfl (hl2 1 (hE 1 (by omega))) [(0, 6), (1, 7)] 3 rfl rfl (Fits.mk' (vHc rfl (vHc rfl vHn)) rfl rfl (by simp)) rfl rfl rfl ?_; rintro v1 H1 ⟨km1, sm1, hm1, hn1, rfl, rfl⟩; refine ⟨.slice 16 0 3 km1, [(6, .ints 2 (E 1 ++ S 1)), (7, .ints 2 (normL p R' ++ sn)), (16, .ints 2 (lsL p (E 1) (normL p R') ((E 1).getD a 0) 3 ++ sm1))], rfl, keep_pre _ _, rfl, rfl, ?_⟩)
                   refine AW_one (i := 15) (by decide +kernel) ?_
                   refine gBslv rfl rfl rfl rfl rfl rfl rfl rfl rfl rfl rfl rfl rfl rfl rfl ?_
                   refine AW_last [16, 17] rfl (by decide +kernel) rfl ?_
                   first | refine oAppV (by_ := 24) (A := []) (sp := []) rfl rfl rfl rfl rfl rfl rfl rfl rfl rfl rfl rfl rfl rfl rfl rfl rfl rfl (by first | rfl | omega | (simp; omega)) (by omega) (by omega) rfl rfl (fun kO hkO => ?_) | refine oAppV (by_ := 24) rfl rfl rfl rfl rfl rfl rfl rfl rfl rfl rfl rfl rfl rfl rfl rfl rfl rfl (by first | rfl | omega | (simp; omega)) (by omega) (by omega) rfl rfl (fun kO hkO => ?_)
                   refine oA rfl rfl ?_
                   refine OW_nil (npN ?_))
                  all_goals first | with_reducible refine bN ?_ | with_reducible refine bE ?_ | with_reducible refine bR ?_ | refine bX rfl ?_
                  all_goals with_reducible refine tN ?_
                  all_goals (
                   refine CW_region ?_
                   refine oM rfl rfl ?_
                   first | refine oQ (Q_binu rfl rfl rfl (by omega)) rfl rfl ?_ | refine oQ (Q_bin rfl rfl rfl) rfl rfl ?_
                   refine oA rfl rfl ?_
                   refine OW_nil ?_))
               all_goals first
                 | with_reducible refine tR ?_
                 | with_reducible refine tE ?_
                 | (
                  with_reducible refine tN ?_
                  refine RW_succ ?_
                  refine CW_seq ?_
                  refine cR ?_
                  iterate 2 refine oM rfl rfl ?_
                  first | refine oQ (Q_len rfl rfl rfl rfl) rfl rfl ?_ | refine oQ (Q_len0 rfl rfl rfl rfl) rfl rfl ?_
                  refine oQ (Q_bin rfl rfl rfl) rfl rfl ?_
                  refine oN ?_
                  first | refine cT rfl ?_ | refine cF rfl ?_ | refine CW_cond rfl (fun hc => ?_) (fun hc => ?_)
                  all_goals try simp only [s1, s2, s3, s4, s5, s6, s7, s8, s9, s10, s11, s12] at hc
                  all_goals try (exfalso; first | omega | (simp at hc; done); done)
                  all_goals first
                    | (
                     refine CW_skip ?_)
                    | (
                     refine CW_exit ?_)
                  all_goals first
                    | with_reducible refine tR ?_
                    | with_reducible refine tE ?_
                    | (
                     with_reducible refine tN ?_
                     refine CW_seq ?_
                     refine CW_block ?_
                     refine CW_seq ?_
                     refine cR ?_
                     refine oM rfl rfl ?_
                     refine oQ (Q_not rfl) rfl rfl ?_
                     refine oM rfl rfl ?_
                     all_goals first | refine oT rfl rfl ?_ | refine o1 rfl rfl rfl ?_ | refine o0 rfl rfl rfl ?_ | refine ogP1 rfl rfl rfl (fun hg => ?_) (fun hg => ?_) | refine ogP0 rfl rfl rfl (fun hg => ?_) (fun hg => ?_)
                     all_goals try simp only [s1, s2, s3, s4, s5, s6, s7, s8, s9, s10, s11, s12] at hg
                     all_goals try (exfalso; first | omega | exact absurd trivial hg | (simp at hg; done); done)
                     all_goals first | (refine oM rfl rfl ?_) | skip
                     all_goals first | refine oT rfl rfl ?_ | refine o1 rfl rfl rfl ?_ | refine o0 rfl rfl rfl ?_ | refine ogP1 rfl rfl rfl (fun hg => ?_) (fun hg => ?_) | refine ogP0 rfl rfl rfl (fun hg => ?_) (fun hg => ?_)
                     all_goals try simp only [s1, s2, s3, s4, s5, s6, s7, s8, s9, s10, s11, s12] at hg
                     all_goals try (exfalso; first | omega | exact absurd trivial hg | (simp at hg; done); done)
                     all_goals first | (refine oM rfl rfl ?_) | skip
                     all_goals first | refine oT rfl rfl ?_ | refine o1 rfl rfl rfl ?_ | refine o0 rfl rfl rfl ?_ | refine ogP1 rfl rfl rfl (fun hg => ?_) (fun hg => ?_) | refine ogP0 rfl rfl rfl (fun hg => ?_) (fun hg => ?_)
                     all_goals try simp only [s1, s2, s3, s4, s5, s6, s7, s8, s9, s10, s11, s12] at hg
                     all_goals try (exfalso; first | omega | exact absurd trivial hg | (simp at hg; done); done)
                     all_goals first | refine oQ (Is0 rfl rfl rfl rfl rfl rfl) rfl rfl ?_ | refine oQ (Is1 rfl rfl rfl rfl rfl rfl) rfl rfl ?_ | skip
                     all_goals first | refine oT rfl rfl ?_ | refine o1 rfl rfl rfl ?_ | refine o0 rfl rfl rfl ?_ | refine ogP1 rfl rfl rfl (fun hg => ?_) (fun hg => ?_) | refine ogP0 rfl rfl rfl (fun hg => ?_) (fun hg => ?_)
                     all_goals try simp only [s1, s2, s3, s4, s5, s6, s7, s8, s9, s10, s11, s12] at hg
                     all_goals try (exfalso; first | omega | exact absurd trivial hg | (simp at hg; done); done)
                     all_goals first | (refine oQ (Q_ldv rfl rfl rfl rfl rfl rfl) rfl rfl ?_) | skip
                     all_goals first | refine oT rfl rfl ?_ | refine o1 rfl rfl rfl ?_ | refine o0 rfl rfl rfl ?_ | refine ogP1 rfl rfl rfl (fun hg => ?_) (fun hg => ?_) | refine ogP0 rfl rfl rfl (fun hg => ?_) (fun hg => ?_)
                     all_goals try simp only [s1, s2, s3, s4, s5, s6, s7, s8, s9, s10, s11, s12] at hg
                     all_goals try (exfalso; first | omega | exact absurd trivial hg | (simp at hg; done); done)
                     all_goals first | refine oQ (Q_call (hld 0 (by omega)) [(0, 5)] rfl rfl (Fits.mk' (vHc rfl vHn) rfl rfl (by simp)) rfl rfl) rfl rfl ?_ | refine oQ (Q_call (hld 1 (by omega)) [(0, 6)] rfl rfl (Fits.mk' (vHc rfl vHn) rfl rfl (by simp)) rfl rfl) rfl rfl ?_ | skip
                     all_goals first | refine oT rfl rfl ?_ | refine o1 rfl rfl rfl ?_ | refine o0 rfl rfl rfl ?_ | refine ogP1 rfl rfl rfl (fun hg => ?_) (fun hg => ?_) | refine ogP0 rfl rfl rfl (fun hg => ?_) (fun hg => ?_)
                     all_goals try simp only [s1, s2, s3, s4, s5, s6, s7, s8, s9, s10, s11, s12] at hg
                     all_goals try (exfalso; first | omega | exact absurd trivial hg | (simp at hg; done); done)
                     all_goals first | (refine oM rfl rfl ?_) | skip
                     all_goals first | refine oT rfl rfl ?_ | refine o1 rfl rfl rfl ?_ | refine o0 rfl rfl rfl ?_ | refine ogP1 rfl rfl rfl (fun hg => ?_) (fun hg => ?_) | refine ogP0 rfl rfl rfl (fun hg => ?_) (fun hg => ?_)
                     all_goals try simp only [s1, s2, s3, s4, s5, s6, s7, s8, s9, s10, s11, s12] at hg
                     all_goals try (exfalso; first | omega | exact absurd trivial hg | (simp at hg; done); done)
                     all_goals first | (refine oQ (Q_bin rfl rfl rfl) rfl rfl ?_) | skip
                     all_goals first | refine oQ (Q_pick_t rfl (by with_reducible rfl) rfl rfl) rfl rfl ?_ | refine oQ (Q_pick_f rfl (by with_reducible rfl) rfl rfl) rfl rfl ?_
                     all_goals refine oN ?_
                     all_goals (
                      first | refine cT rfl ?_ | refine cF rfl ?_ | refine CW_cond rfl (fun hc => ?_) (fun hc => ?_)
                      all_goals try simp only [s1, s2, s3, s4, s5, s6, s7, s8, s9, s10, s11, s12] at hc
                      all_goals try (exfalso; first | omega | (simp at hc; done); done)
                      all_goals first
                        | (
                         refine CW_skip ?_)
                        | (
                         refine cR ?_
                         iterate 2 refine oM rfl rfl ?_
                         refine oBslv rfl rfl rfl rfl rfl rfl rfl rfl rfl rfl rfl rfl rfl ?_
                         first | refine oAppV (by_ := 24) (A := []) (sp := []) rfl rfl rfl rfl rfl rfl rfl rfl rfl rfl rfl rfl rfl rfl rfl rfl rfl rfl (by first | rfl | omega | (simp; omega)) (by omega) (by omega) rfl rfl (fun kO hkO => ?_) | refine oAppV (by_ := 24) rfl rfl rfl rfl rfl rfl rfl rfl rfl rfl rfl rfl rfl rfl rfl rfl rfl rfl (by first | rfl | omega | (simp; omega)) (by omega) (by omega) rfl rfl (fun kO hkO => ?_)
                         refine oA rfl rfl ?_
                         refine oN ?_
                         refine CW_region ?_
                         refine oA rfl rfl ?_
                         refine OW_nil ?_))
                     all_goals with_reducible refine tN ?_
                     all_goals (
                      refine CW_any (fun i => List.elem i [16, 17]) 18 rfl lateOk (by decide +kernel) (fun hst => ?_)
                      refine aP 0 hst rfl rfl (by decide +kernel) (PX_move rfl rfl) rfl rfl ?_
                      refine aP 1 hst rfl rfl (by decide +kernel) (PX_move rfl rfl) rfl rfl ?_
                      refine aP 2 hst rfl rfl (by decide +kernel) (PX_move rfl rfl) rfl rfl ?_
                      refine aP 3 hst rfl rfl (by decide +kernel) (PX_move rfl rfl) rfl rfl ?_
                      first | refine aQ 4 hst rfl rfl (by decide +kernel) (QX_of (Is0 rfl rfl rfl rfl rfl rfl) NE_ix) rfl rfl ?_ | refine aQ 4 hst rfl rfl (by decide +kernel) (QX_of (Is1 rfl rfl rfl rfl rfl rfl) NE_ix) rfl rfl ?_
                      refine aQ 5 hst rfl rfl (by decide +kernel) (QX_of (Q_ldv rfl rfl rfl rfl rfl rfl) NE_load) rfl rfl ?_
                      refine aP 6 hst rfl rfl (by decide +kernel) (PX_move rfl rfl) rfl rfl ?_
                      refine aP 7 hst rfl rfl (by decide +kernel) (PX_move rfl rfl) rfl rfl ?_
                      refine aP 8 hst rfl rfl (by decide +kernel) (PX_move rfl rfl) rfl rfl ?_
                      first | refine aQ 9 hst rfl rfl (by decide +kernel) (QX_of (Is0 rfl rfl rfl rfl rfl rfl) NE_ix) rfl rfl ?_ | refine aQ 9 hst rfl rfl (by decide +kernel) (QX_of (Is1 rfl rfl rfl rfl rfl rfl) NE_ix) rfl rfl ?_
                      refine aQ 10 hst rfl rfl (by decide +kernel) (QX_of (Q_ldv rfl rfl rfl rfl rfl rfl) NE_load) rfl rfl ?_
                      refine aP 11 hst rfl rfl (by decide +kernel) (PX_move rfl rfl) rfl rfl ?_
                      first | refine aQ 12 hst rfl rfl (by decide +kernel) (QX_of (Is0 rfl rfl rfl rfl rfl rfl) NE_ix) rfl rfl ?_ | refine aQ 12 hst rfl rfl (by decide +kernel) (QX_of (Is1 rfl rfl rfl rfl rfl rfl) NE_ix) rfl rfl ?_
                      refine aQ 13 hst rfl rfl (by decide +kernel) (QX_of (Ld rfl rfl rfl rfl) NE_load) rfl rfl ?_
                      rw [getD_app (by omega)]
                      refine AW_one (i := 14) (by decide +kernel) ?_
                      first
                        | (refine gCall rfl rfl (hl2 0 (hE 0 (by omega))) [(0, 5), (1, 6)] 3 rfl rfl (Fits.mk' (vHc rfl (vHc rfl vHn)) rfl rfl (by simp)) rfl rfl rfl ?_; rintro v1 H1 ⟨km0, sm0, hm0, hn0, rfl, rfl⟩; refine ⟨.slice 12 0 3 km0, [(5, .ints 2 (E 0 ++ S 0)), (6, .ints 2 (normL p R' ++ sn)), (12, .ints 2 (lsL p (E 0) (normL p R') ((E 0).getD a 0) 3 ++ sm0))], rfl, keep_pre _ _, rfl, rfl, ?_⟩)
                        | (refine gCall rfl rfl (hl2 0 (hE 0 (by omega))) [(0, 5), (1, 6)] 3 rfl rfl (Fits.mk' (vHc rfl (vHc rfl vHn)) rfl rfl (by simp)) rfl rfl rfl ?_; rintro v1 H1 ⟨km0, sm0, hm0, hn0, rfl, rfl⟩; refine ⟨.slice 10 0 3 km0, [(5, .ints 2 (E 0 ++ S 0)), (6, .ints 2 (normL p R' ++ sn)), (10, .ints 2 (lsL p (E 0) (normL p R') ((E 0).getD a 0) 3 ++ sm0))], rfl, keep_pre _ _, rfl, rfl, ?_⟩)
                        | (refine gCall rfl rfl (hl2 0 (hE 0 (by omega))) [(0, 5), (1, 7)] 3 rfl rfl (Fits.mk' (vHc rfl (vHc rfl vHn)) rfl rfl (by simp)) rfl rfl rfl ?_; rintro v1 H1 ⟨km0, sm0, hm0, hn0, rfl, rfl⟩; refine ⟨.slice 13 0 3 km0, [(5, .ints 2 (E 0 ++ S 0)), (7, .ints 2 (normL p R' ++ sn)), (13, .ints 2 (lsL p (E 0) (normL p R') ((E 0).getD a 0) 3 ++ sm0))], rfl, keep_pre _ _, rfl, rfl, ?_⟩)
                        | (refine gCall rfl rfl (hl2 1 (hE 1 (by omega))) [(0, 6), (1, 7)] 3 rfl rfl (Fits.mk' (vHc rfl (vHc rfl vHn)) rfl rfl (by simp)) rfl rfl rfl ?_; rintro v1 H1 ⟨km1, sm1, hm1, hn1, rfl, rfl⟩; refine ⟨.slice 18 0 3 km1, [(6, .ints 2 (E 1 ++ S 1)), (7, .ints 2 (normL p R' ++ sn)), (18, .ints 2 (lsL p (E 1) (normL p R') ((E 1).getD a 0) 3 ++ sm1))], rfl, keep_pre _ _, rfl, rfl, ?_⟩)
                        | (refine gCall rfl rfl (hl2 0 (hE 0 (by omega))) [(0, 5), (1, 7)] 3 rfl rfl (Fits.mk' (vHc rfl (vHc rfl vHn)) rfl rfl (by simp)) rfl rfl rfl ?_; rintro v1 H1 ⟨km0, sm0, hm0, hn0, rfl, rfl⟩; refine ⟨.slice 11 0 3 km0, [(5, .ints 2 (E 0 ++ S 0)), (7, .ints 2 (normL p R' ++ sn)), (11, .ints 2 (lsL p (E 0) (normL p R') ((E 0).getD a 0) 3 ++ sm0))], rfl, keep_pre _ _, rfl, rfl, ?_⟩)
                        | (refine gCall rfl rfl (hl2 1 (hE 1 (by omega))) [(0, 6), (1, 7)] 3 rfl rfl (Fits.mk' (vHc rfl (vHc rfl vHn)) rfl rfl (by simp)) rfl rfl rfl ?_; rintro v1 H1 ⟨km1, sm1, hm1, hn1, rfl, rfl⟩; refine ⟨.slice 18 0 3 km1, [(6, .ints 2 (E 1 ++ S 1)), (7, .ints 2 (normL p R' ++ sn)), (18, .ints 2 (lsL p (E 1) (normL p R') ((E 1).getD a 0) 3 ++ sm1))], rfl, keep_pre _ _, rfl, rfl, ?_⟩)
                        | (refine gCall rfl rfl (hl2 0 (hE 0 (by omega))) [(0, 5), (1, 7)] 3 rfl rfl (Fits.mk' (vHc rfl (vHc rfl vHn)) rfl rfl (by simp)) rfl rfl rfl ?_; rintro v1 H1 ⟨km0, sm0, hm0, hn0, rfl, rfl⟩; refine ⟨.slice 11 0 3 km0, [(5, .ints 2 (E 0 ++ S 0)), (7, .ints 2 (normL p R' ++ sn)), (11, .ints 2 (lsL p (E 0) (normL p R') ((E 0).getD a 0) 3 ++ sm0))], rfl, keep_pre _ _, rfl, rfl, ?_⟩)
                        | (refine gCall rfl rfl (hl2 1 (hE 1 (by omega))) [(0, 6), (1, 7)] 3 rfl rfl (Fits.mk' (vHc rfl (vHc rfl vHn)) rfl rfl (by simp)) rfl rfl rfl ?_; rintro v1 H1 ⟨km1, sm1, hm1, hn1, rfl, rfl⟩; refine ⟨.slice 16 0 3 km1, [(6, .ints 2 (E 1 ++ S 1)), (7, .ints 2 (normL p R' ++ sn)), (16, .ints 2 (lsL p (E 1) (normL p R') ((E 1).getD a 0) 3 ++ sm1))], rfl, keep_pre _ _, rfl, rfl, ?_⟩)
                      refine AW_one (i := 15) (by decide +kernel) ?_
                      refine gBslv rfl rfl rfl rfl rfl rfl rfl rfl rfl rfl rfl rfl rfl rfl rfl ?_
                      refine AW_last [16, 17] rfl (by decide +kernel) rfl ?_
                      first | refine oAppV (by_ := 24) (A := []) (sp := []) rfl rfl rfl rfl rfl rfl rfl rfl rfl rfl rfl rfl rfl rfl rfl rfl rfl rfl (by first | rfl | omega | (simp; omega)) (by omega) (by omega) rfl rfl (fun kO hkO => ?_) | refine oAppV (by_ := 24) rfl rfl rfl rfl rfl rfl rfl rfl rfl rfl rfl rfl rfl rfl rfl rfl rfl rfl (by first | rfl | omega | (simp; omega)) (by omega) (by omega) rfl rfl (fun kO hkO => ?_)
                      refine oA rfl rfl ?_
                      refine OW_nil (npN ?_))
                     all_goals first | with_reducible refine bN ?_ | with_reducible refine bE ?_ | with_reducible refine bR ?_ | refine bX rfl ?_
                     all_goals with_reducible refine tN ?_
                     all_goals (
                      refine CW_region ?_
                      refine oM rfl rfl ?_
                      first | refine oQ (Q_binu rfl rfl rfl (by omega)) rfl rfl ?_ | refine oQ (Q_bin rfl rfl rfl) rfl rfl ?_
                      refine oA rfl rfl ?_
                      refine OW_nil ?_))
                  all_goals first
                    | with_reducible refine tR ?_
                    | with_reducible refine tE ?_
                    | (
                     with_reducible refine tN ?_
                     exfalso; first | omega | (simp at hc; done) | (simp_all; done)))))
         all_goals first | with_reducible refine bN ?_ | with_reducible refine bE ?_ | with_reducible refine bR ?_ | refine bX rfl ?_
         all_goals with_reducible refine tN ?_
         all_goals (
          refine CW_seq ?_
          refine cR ?_
          refine oM rfl rfl ?_
          refine oQ (Q_not rfl) rfl rfl ?_
          refine oN ?_
          first | refine cT rfl ?_ | refine cF rfl ?_ | refine CW_cond rfl (fun hc => ?_) (fun hc => ?_)
          all_goals try simp only [s1, s2, s3, s4, s5, s6, s7, s8, s9, s10, s11, s12] at hc
          all_goals try (exfalso; first | omega | (simp at hc; done); done)
          all_goals first
            | (
             refine CW_skip ?_)
            | (
             refine CW_region ?_
             iterate 2 refine oM rfl rfl ?_
             refine oBslv rfl rfl rfl rfl rfl rfl rfl rfl rfl rfl rfl rfl rfl ?_
             first | refine oAppV (by_ := 24) (A := []) (sp := []) rfl rfl rfl rfl rfl rfl rfl rfl rfl rfl rfl rfl rfl rfl rfl rfl rfl rfl (by first | rfl | omega | (simp; omega)) (by omega) (by omega) rfl rfl (fun kO hkO => ?_) | refine oAppV (by_ := 24) rfl rfl rfl rfl rfl rfl rfl rfl rfl rfl rfl rfl rfl rfl rfl rfl rfl rfl (by first | rfl | omega | (simp; omega)) (by omega) (by omega) rfl rfl (fun kO hkO => ?_)
             refine oA rfl rfl ?_
             refine OW_nil ?_)
          all_goals with_reducible refine tN ?_
          all_goals (
           refine CW_region ?_
           refine oM rfl rfl ?_
           refine oA rfl rfl ?_
           refine OW_nil ?_)))
      all_goals first | with_reducible refine bN ?_ | with_reducible refine bE ?_ | with_reducible refine bR ?_ | refine bX rfl ?_
      all_goals with_reducible refine tN ?_
      all_goals (
       refine CW_region ?_
       refine oM rfl rfl ?_
       first | refine oQ (Q_binu rfl rfl rfl (by omega)) rfl rfl ?_ | refine oQ (Q_bin rfl rfl rfl) rfl rfl ?_
       refine oA rfl rfl ?_
       refine OW_nil ?_))
   all_goals first
     | with_reducible refine tR ?_
     | with_reducible refine tE ?_
     | (
      with_reducible refine tN ?_
      first
        | (
         refine ⟨⟨i + 1, 0, kO, E, K, S, P⟩, ?_, ?_, View.mk' [] rfl (by simp only [wfB, List.all_cons, List.all_nil, ids_bots]; rfl) rfl ?_ ?_⟩
         · try dsimp only
           refine ⟨by omega, by omega, ?_, ?_⟩
           · first | exact hE | (intro z hz; (have e : z = 0 ∨ z = 1 ∨ z = 2 := by omega); rcases e with rfl | rfl | rfl <;> first | exact rwB_ls hp0 _ _ _ _ | exact hN | (exfalso; omega))
           · first
               | exact EcI_skip hp hEc hMi hE (by rw [← hR']; omega)
               | (refine EcI_put hp hEc hMi hE (by decide) ha (by rw [← hR']; exact ha0) (by rw [← hR']; exact ha1) ?_ ?_ ?_
                  · rw [← hR']; intro z hz; (have e : z = 0 ∨ z = 1 ∨ z = 2 := by omega); (rcases e with rfl | rfl | rfl <;> first | rfl | (exfalso; omega))
                  · first | (rw [← hR']; done) | (rw [← hR']; rfl)
                  · rw [← hR']; intro z hz hz2; (have e : z = 0 ∨ z = 1 ∨ z = 2 := by omega); (rcases e with rfl | rfl | rfl <;> first | rfl | (exfalso; omega)))
         · (try dsimp only); omega
         all_goals (repeat' first | exact vFn | refine vFc rfl ?_ | exact vHn | refine vHc rfl ?_ | refine vFc (congrArg (fun z => some (V.int z)) ?_) ?_ | refine vHc (congrArg (fun z => some (Blk.ints _ z)) ?_) ?_ | refine vFc (congrArg (fun z => some (V.bool z)) ?_) ?_ | refine vFs rfl rfl ?_ ?_ | refine vHc (by rw [ren_bots]; rfl) ?_)
         all_goals first | rfl | omega
         done)
        | (
         refine ⟨⟨i + 1, 1, kO, E, K, S, P⟩, ?_, ?_, View.mk' [] rfl (by simp only [wfB, List.all_cons, List.all_nil, ids_bots]; rfl) rfl ?_ ?_⟩
         · try dsimp only
           refine ⟨by omega, by omega, ?_, ?_⟩
           · first | exact hE | (intro z hz; (have e : z = 0 ∨ z = 1 ∨ z = 2 := by omega); rcases e with rfl | rfl | rfl <;> first | exact rwB_ls hp0 _ _ _ _ | exact hN | (exfalso; omega))
           · first
               | exact EcI_skip hp hEc hMi hE (by rw [← hR']; omega)
               | (refine EcI_put hp hEc hMi hE (by decide) ha (by rw [← hR']; exact ha0) (by rw [← hR']; exact ha1) ?_ ?_ ?_
                  · rw [← hR']; intro z hz; (have e : z = 0 ∨ z = 1 ∨ z = 2 := by omega); (rcases e with rfl | rfl | rfl <;> first | rfl | (exfalso; omega))
                  · first | (rw [← hR']; done) | (rw [← hR']; rfl)
                  · rw [← hR']; intro z hz hz2; (have e : z = 0 ∨ z = 1 ∨ z = 2 := by omega); (rcases e with rfl | rfl | rfl <;> first | rfl | (exfalso; omega)))
         · (try dsimp only); omega
         all_goals (repeat' first | exact vFn | refine vFc rfl ?_ | exact vHn | refine vHc rfl ?_ | refine vFc (congrArg (fun z => some (V.int z)) ?_) ?_ | refine vHc (congrArg (fun z => some (Blk.ints _ z)) ?_) ?_ | refine vFc (congrArg (fun z => some (V.bool z)) ?_) ?_ | refine vFs rfl rfl ?_ ?_ | refine vHc (by rw [ren_bots]; rfl) ?_)
         all_goals first | rfl | omega
         done)
        | (
         refine ⟨⟨i + 1, 2, kO, E, K, S, P⟩, ?_, ?_, View.mk' [] rfl (by simp only [wfB, List.all_cons, List.all_nil, ids_bots]; rfl) rfl ?_ ?_⟩
         · try dsimp only
           refine ⟨by omega, by omega, ?_, ?_⟩
           · first | exact hE | (intro z hz; (have e : z = 0 ∨ z = 1 ∨ z = 2 := by omega); rcases e with rfl | rfl | rfl <;> first | exact rwB_ls hp0 _ _ _ _ | exact hN | (exfalso; omega))
           · first
               | exact EcI_skip hp hEc hMi hE (by rw [← hR']; omega)
               | (refine EcI_put hp hEc hMi hE (by decide) ha (by rw [← hR']; exact ha0) (by rw [← hR']; exact ha1) ?_ ?_ ?_
                  · rw [← hR']; intro z hz; (have e : z = 0 ∨ z = 1 ∨ z = 2 := by omega); (rcases e with rfl | rfl | rfl <;> first | rfl | (exfalso; omega))
                  · first | (rw [← hR']; done) | (rw [← hR']; rfl)
                  · rw [← hR']; intro z hz hz2; (have e : z = 0 ∨ z = 1 ∨ z = 2 := by omega); (rcases e with rfl | rfl | rfl <;> first | rfl | (exfalso; omega)))
         · (try dsimp only); omega
         all_goals (repeat' first | exact vFn | refine vFc rfl ?_ | exact vHn | refine vHc rfl ?_ | refine vFc (congrArg (fun z => some (V.int z)) ?_) ?_ | refine vHc (congrArg (fun z => some (Blk.ints _ z)) ?_) ?_ | refine vFc (congrArg (fun z => some (V.bool z)) ?_) ?_ | refine vFs rfl rfl ?_ ?_ | refine vHc (by rw [ren_bots]; rfl) ?_)
         all_goals first | rfl | omega
         done)
        | (
         refine ⟨⟨i + 1, 0 + 1, kO, fun j => match j with | _ => normL p R', fun j => match j with | _ => kn, fun j => match j with | _ => sn, inP P 0 a⟩, ?_, ?_, View.mk' [(4, 8), (5, 5)] rfl (by simp only [wfB, List.all_cons, List.all_nil, ids_bots]; rfl) rfl ?_ ?_⟩
         · try dsimp only
           refine ⟨by omega, by omega, ?_, ?_⟩
           · first | exact hE | (intro z hz; (have e : z = 0 ∨ z = 1 ∨ z = 2 := by omega); rcases e with rfl | rfl | rfl <;> first | exact rwB_ls hp0 _ _ _ _ | exact hN | (exfalso; omega))
           · first
               | exact EcI_skip hp hEc hMi hE (by rw [← hR']; omega)
               | (refine EcI_put hp hEc hMi hE (by decide) ha (by rw [← hR']; exact ha0) (by rw [← hR']; exact ha1) ?_ ?_ ?_
                  · rw [← hR']; intro z hz; (have e : z = 0 ∨ z = 1 ∨ z = 2 := by omega); (rcases e with rfl | rfl | rfl <;> first | rfl | (exfalso; omega))
                  · first | (rw [← hR']; done) | (rw [← hR']; rfl)
                  · rw [← hR']; intro z hz hz2; (have e : z = 0 ∨ z = 1 ∨ z = 2 := by omega); (rcases e with rfl | rfl | rfl <;> first | rfl | (exfalso; omega)))
         · (try dsimp only); omega
         all_goals (repeat' first | exact vFn | refine vFc rfl ?_ | exact vHn | refine vHc rfl ?_ | refine vFc (congrArg (fun z => some (V.int z)) ?_) ?_ | refine vHc (congrArg (fun z => some (Blk.ints _ z)) ?_) ?_ | refine vFc (congrArg (fun z => some (V.bool z)) ?_) ?_ | refine vFs rfl rfl ?_ ?_ | refine vHc (by rw [ren_bots]; rfl) ?_)
         all_goals first | rfl | omega
         done)
        | (
         refine ⟨⟨i + 1, 1 + 1, kO, fun j => match j with | 0 => normL p R' | _ => lsL p (E 0) (normL p R') ((E 0).getD a 0) 3, fun j => match j with | 0 => kn | _ => km0, fun j => match j with | 0 => sn | _ => sm0, inP P 0 a⟩, ?_, ?_, View.mk' [(4, 14), (5, 6), (6, 12)] rfl (by simp only [wfB, List.all_cons, List.all_nil, ids_bots]; rfl) rfl ?_ ?_⟩
         · try dsimp only
           refine ⟨by omega, by omega, ?_, ?_⟩
           · first | exact hE | (intro z hz; (have e : z = 0 ∨ z = 1 ∨ z = 2 := by omega); rcases e with rfl | rfl | rfl <;> first | exact rwB_ls hp0 _ _ _ _ | exact hN | (exfalso; omega))
           · first
               | exact EcI_skip hp hEc hMi hE (by rw [← hR']; omega)
               | (refine EcI_put hp hEc hMi hE (by decide) ha (by rw [← hR']; exact ha0) (by rw [← hR']; exact ha1) ?_ ?_ ?_
                  · rw [← hR']; intro z hz; (have e : z = 0 ∨ z = 1 ∨ z = 2 := by omega); (rcases e with rfl | rfl | rfl <;> first | rfl | (exfalso; omega))
                  · first | (rw [← hR']; done) | (rw [← hR']; rfl)
                  · rw [← hR']; intro z hz hz2; (have e : z = 0 ∨ z = 1 ∨ z = 2 := by omega); (rcases e with rfl | rfl | rfl <;> first | rfl | (exfalso; omega)))
         · (try dsimp only); omega
         all_goals (repeat' first | exact vFn | refine vFc rfl ?_ | exact vHn | refine vHc rfl ?_ | refine vFc (congrArg (fun z => some (V.int z)) ?_) ?_ | refine vHc (congrArg (fun z => some (Blk.ints _ z)) ?_) ?_ | refine vFc (congrArg (fun z => some (V.bool z)) ?_) ?_ | refine vFs rfl rfl ?_ ?_ | refine vHc (by rw [ren_bots]; rfl) ?_)
         all_goals first | rfl | omega
         done)
        | (
         refine ⟨⟨i + 1, 1 + 1, kO, fun j => match j with | 0 => lsL p (E 0) (normL p R') ((E 0).getD a 0) 3 | _ => normL p R', fun j => match j with | 0 => km0 | _ => kn, fun j => match j with | 0 => sm0 | _ => sn, inP P 1 a⟩, ?_, ?_, View.mk' [(4, 14), (5, 10), (6, 6)] rfl (by simp only [wfB, List.all_cons, List.all_nil, ids_bots]; rfl) rfl ?_ ?_⟩
         · try dsimp only
           refine ⟨by omega, by omega, ?_, ?_⟩
           · first | exact hE | (intro z hz; (have e : z = 0 ∨ z = 1 ∨ z = 2 := by omega); rcases e with rfl | rfl | rfl <;> first | exact rwB_ls hp0 _ _ _ _ | exact hN | (exfalso; omega))
           · first
               | exact EcI_skip hp hEc hMi hE (by rw [← hR']; omega)
               | (refine EcI_put hp hEc hMi hE (by decide) ha (by rw [← hR']; exact ha0) (by rw [← hR']; exact ha1) ?_ ?_ ?_
                  · rw [← hR']; intro z hz; (have e : z = 0 ∨ z = 1 ∨ z = 2 := by omega); (rcases e with rfl | rfl | rfl <;> first | rfl | (exfalso; omega))
                  · first | (rw [← hR']; done) | (rw [← hR']; rfl)
                  · rw [← hR']; intro z hz hz2; (have e : z = 0 ∨ z = 1 ∨ z = 2 := by omega); (rcases e with rfl | rfl | rfl <;> first | rfl | (exfalso; omega)))
         · (try dsimp only); omega
         all_goals (repeat' first | exact vFn | refine vFc rfl ?_ | exact vHn | refine vHc rfl ?_ | refine vFc (congrArg (fun z => some (V.int z)) ?_) ?_ | refine vHc (congrArg (fun z => some (Blk.ints _ z)) ?_) ?_ | refine vFc (congrArg (fun z => some (V.bool z)) ?_) ?_ | refine vFs rfl rfl ?_ ?_ | refine vHc (by rw [ren_bots]; rfl) ?_)
         all_goals first | rfl | omega
         done)
        | (
         refine ⟨⟨i + 1, 2 + 1, kO, fun j => match j with | 0 => normL p R' | 1 => lsL p (E 0) (normL p R') ((E 0).getD a 0) 3 | _ => lsL p (E 1) (normL p R') ((E 1).getD a 0) 3, fun j => match j with | 0 => kn | 1 => km0 | _ => km1, fun j => match j with | 0 => sn | 1 => sm0 | _ => sm1, inP P 0 a⟩, ?_, ?_, View.mk' [(4, 20), (5, 7), (6, 13), (7, 18)] rfl (by simp only [wfB, List.all_cons, List.all_nil, ids_bots]; rfl) rfl ?_ ?_⟩
         · try dsimp only
           refine ⟨by omega, by omega, ?_, ?_⟩
           · first | exact hE | (intro z hz; (have e : z = 0 ∨ z = 1 ∨ z = 2 := by omega); rcases e with rfl | rfl | rfl <;> first | exact rwB_ls hp0 _ _ _ _ | exact hN | (exfalso; omega))
           · first
               | exact EcI_skip hp hEc hMi hE (by rw [← hR']; omega)
               | (refine EcI_put hp hEc hMi hE (by decide) ha (by rw [← hR']; exact ha0) (by rw [← hR']; exact ha1) ?_ ?_ ?_
                  · rw [← hR']; intro z hz; (have e : z = 0 ∨ z = 1 ∨ z = 2 := by omega); (rcases e with rfl | rfl | rfl <;> first | rfl | (exfalso; omega))
                  · first | (rw [← hR']; done) | (rw [← hR']; rfl)
                  · rw [← hR']; intro z hz hz2; (have e : z = 0 ∨ z = 1 ∨ z = 2 := by omega); (rcases e with rfl | rfl | rfl <;> first | rfl | (exfalso; omega)))
         · (try dsimp only); omega
         all_goals (repeat' first | exact vFn | refine vFc rfl ?_ | exact vHn | refine vHc rfl ?_ | refine vFc (congrArg (fun z => some (V.int z)) ?_) ?_ | refine vHc (congrArg (fun z => some (Blk.ints _ z)) ?_) ?_ | refine vFc (congrArg (fun z => some (V.bool z)) ?_) ?_ | refine vFs rfl rfl ?_ ?_ | refine vHc (by rw [ren_bots]; rfl) ?_)
         all_goals first | rfl | omega
         done)
        | (
         refine ⟨⟨i + 1, 2 + 1, kO, fun j => match j with | 0 => lsL p (E 0) (normL p R') ((E 0).getD a 0) 3 | 1 => normL p R' | _ => lsL p (E 1) (normL p R') ((E 1).getD a 0) 3, fun j => match j with | 0 => km0 | 1 => kn | _ => km1, fun j => match j with | 0 => sm0 | 1 => sn | _ => sm1, inP P 1 a⟩, ?_, ?_, View.mk' [(4, 20), (5, 11), (6, 7), (7, 18)] rfl (by simp only [wfB, List.all_cons, List.all_nil, ids_bots]; rfl) rfl ?_ ?_⟩
         · try dsimp only
           refine ⟨by omega, by omega, ?_, ?_⟩
           · first | exact hE | (intro z hz; (have e : z = 0 ∨ z = 1 ∨ z = 2 := by omega); rcases e with rfl | rfl | rfl <;> first | exact rwB_ls hp0 _ _ _ _ | exact hN | (exfalso; omega))
           · first
               | exact EcI_skip hp hEc hMi hE (by rw [← hR']; omega)
               | (refine EcI_put hp hEc hMi hE (by decide) ha (by rw [← hR']; exact ha0) (by rw [← hR']; exact ha1) ?_ ?_ ?_
                  · rw [← hR']; intro z hz; (have e : z = 0 ∨ z = 1 ∨ z = 2 := by omega); (rcases e with rfl | rfl | rfl <;> first | rfl | (exfalso; omega))
                  · first | (rw [← hR']; done) | (rw [← hR']; rfl)
                  · rw [← hR']; intro z hz hz2; (have e : z = 0 ∨ z = 1 ∨ z = 2 := by omega); (rcases e with rfl | rfl | rfl <;> first | rfl | (exfalso; omega)))
         · (try dsimp only); omega
         all_goals (repeat' first | exact vFn | refine vFc rfl ?_ | exact vHn | refine vHc rfl ?_ | refine vFc (congrArg (fun z => some (V.int z)) ?_) ?_ | refine vHc (congrArg (fun z => some (Blk.ints _ z)) ?_) ?_ | refine vFc (congrArg (fun z => some (V.bool z)) ?_) ?_ | refine vFs rfl rfl ?_ ?_ | refine vHc (by rw [ren_bots]; rfl) ?_)
         all_goals first | rfl | omega
         done)
        | (
         refine ⟨⟨i + 1, 2 + 1, kO, fun j => match j with | 0 => lsL p (E 0) (normL p R') ((E 0).getD a 0) 3 | 1 => lsL p (E 1) (normL p R') ((E 1).getD a 0) 3 | _ => normL p R', fun j => match j with | 0 => km0 | 1 => km1 | _ => kn, fun j => match j with | 0 => sm0 | 1 => sm1 | _ => sn, inP P 2 a⟩, ?_, ?_, View.mk' [(4, 20), (5, 11), (6, 16), (7, 7)] rfl (by simp only [wfB, List.all_cons, List.all_nil, ids_bots]; rfl) rfl ?_ ?_⟩
         · try dsimp only
           refine ⟨by omega, by omega, ?_, ?_⟩
           · first | exact hE | (intro z hz; (have e : z = 0 ∨ z = 1 ∨ z = 2 := by omega); rcases e with rfl | rfl | rfl <;> first | exact rwB_ls hp0 _ _ _ _ | exact hN | (exfalso; omega))
           · first
               | exact EcI_skip hp hEc hMi hE (by rw [← hR']; omega)
               | (refine EcI_put hp hEc hMi hE (by decide) ha (by rw [← hR']; exact ha0) (by rw [← hR']; exact ha1) ?_ ?_ ?_
                  · rw [← hR']; intro z hz; (have e : z = 0 ∨ z = 1 ∨ z = 2 := by omega); (rcases e with rfl | rfl | rfl <;> first | rfl | (exfalso; omega))
                  · first | (rw [← hR']; done) | (rw [← hR']; rfl)
                  · rw [← hR']; intro z hz hz2; (have e : z = 0 ∨ z = 1 ∨ z = 2 := by omega); (rcases e with rfl | rfl | rfl <;> first | rfl | (exfalso; omega)))
         · (try dsimp only); omega
         all_goals (repeat' first | exact vFn | refine vFc rfl ?_ | exact vHn | refine vHc rfl ?_ | refine vFc (congrArg (fun z => some (V.int z)) ?_) ?_ | refine vHc (congrArg (fun z => some (Blk.ints _ z)) ?_) ?_ | refine vFc (congrArg (fun z => some (V.bool z)) ?_) ?_ | refine vFs rfl rfl ?_ ?_ | refine vHc (by rw [ren_bots]; rfl) ?_)
         all_goals first | rfl | omega
         done)))
  all_goals first | with_reducible refine bN ?_ | with_reducible refine bE ?_ | with_reducible refine bR ?_ | refine bX rfl ?_
  all_goals with_reducible refine tN ?_
  all_goals (
   refine cR ?_
   refine oM rfl rfl ?_
   refine oA rfl rfl ?_
   refine oN ?_
   refine CW_ret ?_)
  all_goals (
   have ei : i = 3 := by omega
   subst ei
   have e := EcI_end hp hEc
   first | exact exitH (r0 := .slice 4 0 0 kO) (H0 := [(0, .vals 103 [.slice 1 0 3 c0, .slice 2 0 3 c1, .slice 3 0 3 c2]), (1, .ints 2 (M 0)), (2, .ints 2 (M 1)), (3, .ints 2 (M 2))]) (.inr rfl) [] 5 (.cons (.tmp rfl rfl) .nil) rfl rfl rfl (vHc rfl (vHc rfl (vHc rfl (vHc rfl vHn)))) rfl rfl ⟨kO, by rw [e], rfl⟩ | exact exitH (r0 := .slice 4 0 1 kO) (H0 := [(0, .vals 103 [.slice 1 0 3 c0, .slice 2 0 3 c1, .slice 3 0 3 c2]), (1, .ints 2 (M 0)), (2, .ints 2 (M 1)), (3, .ints 2 (M 2))]) (.inr rfl) [] 5 (.cons (.tmp rfl rfl) .nil) rfl rfl rfl (vHc rfl (vHc rfl (vHc rfl (vHc rfl vHn)))) rfl rfl ⟨kO, by rw [e], rfl⟩ | exact exitH (r0 := .slice 4 0 2 kO) (H0 := [(0, .vals 103 [.slice 1 0 3 c0, .slice 2 0 3 c1, .slice 3 0 3 c2]), (1, .ints 2 (M 0)), (2, .ints 2 (M 1)), (3, .ints 2 (M 2))]) (.inr rfl) [] 5 (.cons (.tmp rfl rfl) .nil) rfl rfl rfl (vHc rfl (vHc rfl (vHc rfl (vHc rfl vHn)))) rfl rfl ⟨kO, by rw [e], rfl⟩ | exact exitH (r0 := .slice 4 0 3 kO) (H0 := [(0, .vals 103 [.slice 1 0 3 c0, .slice 2 0 3 c1, .slice 3 0 3 c2]), (1, .ints 2 (M 0)), (2, .ints 2 (M 1)), (3, .ints 2 (M 2))]) (.inr rfl) [] 5 (.cons (.tmp rfl rfl) .nil) rfl rfl rfl (vHc rfl (vHc rfl (vHc rfl (vHc rfl vHn)))) rfl rfl ⟨kO, by rw [e], rfl⟩)
end Go.Proofs.Ytoiolpgmilobnaa
namespace Go.Proofs.Ytoiolpgmilobnaa
set_option maxRecDepth 10000
set_option linter.unusedSimpArgs false
set_option linter.unusedVariables false
theorem matV_B {p : Int} (hp : primeB p = true) {c : List Int} (hc6 : c.length = 6) : ∀ j, 0 ≤ (matV p c).getD j 0 ∧ (matV p c).getD j 0 < p := by
  have hb := prime_bd hp
  have hl := matV_length (p := p) hc6
  intro j
  by_cases hj : j < 9
  · have h := (mR_B hp hc6 (j / 3) (by omega)).2 (j % 3)
    have e : (mR p c (j / 3)).getD (j % 3) 0 = (matV p c).getD j 0 := by
      unfold mR
      have : j / 3 * 3 + j % 3 = j := by omega
      have h3 : j % 3 < 3 := by omega
      simp only [List.getD, List.getElem?_take, List.getElem?_drop, h3, if_true, this]
    rw [e] at h; exact h
  · have : (matV p c).getD j 0 = 0 := by simp [List.getD, show (matV p c).length ≤ j by omega]
    rw [this]; omega
attribute [local irreducible] CW OW QW QOp Con thenP inBlockP AW QX RW AX
theorem kind_con (p : Int) (c : List Int) (hp : primeB p = true) (hc6 : c.length = 6) (h1 : sm 13 c) : ConQ Try.prog [] 42 [.arr c, .int p] [] (.int (kdV p c)) := by
  have hml := matV_length (p := p) hc6
  refine conW tab_ok [(0, .arr c), (1, .int p)] 0 [] [] Try.func42 rfl rfl rfl rfl rfl rfl rfl rfl rfl ?_
  refine cR ?_
  refine oBox rfl rfl rfl rfl rfl rfl ?_
  refine oA rfl rfl ?_
  refine oN ?_
  refine cR ?_
  refine oQ (Q_ldw rfl rfl rfl rfl hc6) rfl rfl ?_
  refine oM rfl rfl ?_
  refine oQ (Q_call0 (matrix_con p c hp hc6 h1) rfl rfl rfl) rfl rfl ?_
  refine oAlloc rfl rfl rfl rfl rfl rfl rfl ?_
  first | refine oSw rfl rfl rfl rfl ?_ | refine oSa rfl rfl rfl rfl ?_
  refine oN ?_
  iterate 2 refine CW_seq ?_
  refine CW_any (fun _ => false) 10 rfl lateOk (by decide +kernel) (fun hst => ?_)
  refine aP 0 hst rfl rfl (by decide +kernel) (PX_move rfl rfl) rfl rfl ?_
  first | refine aQ 1 hst rfl rfl (by decide +kernel) (QX_of (Q_ixa0z 3 rfl rfl rfl rfl rfl rfl (by first | omega | (dsimp only; omega) | (simp; omega) | (simp; done))) NE_ix) rfl rfl ?_ | refine aQ 1 hst rfl rfl (by decide +kernel) (QX_of (Q_ixaz 3 rfl rfl rfl rfl rfl rfl (by first | omega | (dsimp only; omega) | (simp; omega) | (simp; done))) NE_ix) rfl rfl ?_
  refine aQ 2 hst rfl rfl (by decide +kernel) (QX_of (Q_slaF rfl rfl rfl rfl) NE_slice) rfl rfl ?_
  first | refine aQ 3 hst rfl rfl (by decide +kernel) (QX_of (Q_ixa0z 3 rfl rfl rfl rfl rfl rfl (by first | omega | (dsimp only; omega) | (simp; omega) | (simp; done))) NE_ix) rfl rfl ?_ | refine aQ 3 hst rfl rfl (by decide +kernel) (QX_of (Q_ixaz 3 rfl rfl rfl rfl rfl rfl (by first | omega | (dsimp only; omega) | (simp; omega) | (simp; done))) NE_ix) rfl rfl ?_
  refine aQ 4 hst rfl rfl (by decide +kernel) (QX_of (Q_slaF rfl rfl rfl rfl) NE_slice) rfl rfl ?_
  first | refine aQ 5 hst rfl rfl (by decide +kernel) (QX_of (Q_ixa0z 3 rfl rfl rfl rfl rfl rfl (by first | omega | (dsimp only; omega) | (simp; omega) | (simp; done))) NE_ix) rfl rfl ?_ | refine aQ 5 hst rfl rfl (by decide +kernel) (QX_of (Q_ixaz 3 rfl rfl rfl rfl rfl rfl (by first | omega | (dsimp only; omega) | (simp; omega) | (simp; done))) NE_ix) rfl rfl ?_
  refine aQ 6 hst rfl rfl (by decide +kernel) (QX_of (Q_slaF rfl rfl rfl rfl) NE_slice) rfl rfl ?_
  refine AW_one (i := 7) (by decide +kernel) ?_
  refine gBslv rfl rfl rfl rfl rfl rfl rfl rfl rfl rfl rfl rfl rfl rfl rfl ?_
  refine AW_one (i := 8) (by decide +kernel) ?_
  refine gCall rfl rfl (reduced33_con p 64 (matV p c) 3 3 3 3 hml hp (matV_B hp hc6)) [(0, 2), (1, 1)] 6 rfl rfl (Fits.mk' (vHc rfl (vHc rfl vHn)) rfl rfl (by simp)) rfl rfl rfl ?_
  rintro r H1 ⟨kO, A, K, S, rfl, hA, _, rfl⟩
  refine ⟨.slice 8 0 (rkI p (mR p c) 3 3) kO, [(2, .vals 103 [.slice 1 0 3 3, .slice 1 3 3 3, .slice 1 6 3 3]), (1, .ints 64 (matV p c)), (5, .ints 2 (A 0 ++ S 0)), (6, .ints 2 (A 1 ++ S 1)), (7, .ints 2 (A 2 ++ S 2)), (8, .vals 103 ([.slice 5 0 3 (K 0), .slice 6 0 3 (K 1), .slice 7 0 3 (K 2)] ++ List.replicate (kO - 3) .bot))], (by simp only [scM, List.all_cons, List.all_nil, ids_bots]; rfl), keep_pre _ _, rfl, (by simp only [List.map_cons, List.map_nil, ren_bots]; rfl), ?_⟩
  first | refine aQ 9 hst rfl rfl (by decide +kernel) (QX_of (Q_len rfl rfl rfl rfl) NE_len) rfl rfl ?_ | refine aQ 9 hst rfl rfl (by decide +kernel) (QX_of (Q_len0 rfl rfl rfl rfl) NE_len) rfl rfl ?_
  refine AW_done (by decide +kernel) ?_
  all_goals with_reducible refine tN ?_
  all_goals (
   refine CW_block ?_
   refine cR ?_
   refine oQ (Q_bin rfl rfl rfl) rfl rfl ?_
   refine oA rfl rfl ?_
   refine oN ?_
   first | refine cT rfl ?_ | refine cF rfl ?_ | refine CW_cond rfl (fun hc => ?_) (fun hc => ?_)
   all_goals try simp only [s1, s2, s3, s4, s5, s6, s7, s8, s9, s10, s11, s12] at hc
   all_goals first
     | (
      refine cR ?_
      refine oA rfl rfl ?_
      refine oN ?_
      refine CW_ret ?_)
     | (
      refine cR ?_
      refine oQ (Q_bin rfl rfl rfl) rfl rfl ?_
      refine oA rfl rfl ?_
      refine oN ?_
      first | refine cT rfl ?_ | refine cF rfl ?_ | refine CW_cond rfl (fun hc => ?_) (fun hc => ?_)
      all_goals try simp only [s1, s2, s3, s4, s5, s6, s7, s8, s9, s10, s11, s12] at hc
      all_goals first
        | (
         refine CW_skip ?_)
        | (
         refine CW_seq ?_
         refine cR ?_
         refine oQ (Q_ldw rfl rfl rfl rfl hc6) rfl rfl ?_
         refine oM rfl rfl ?_
         refine oCall (cpoints_con c p hp hc6 h1) [] 1 rfl rfl (Fits.mk' vHn rfl rfl (by first | (simp; done) | exact glOk rfl rfl rfl)) rfl rfl ?_
         rintro r H1 ⟨k, sp, hk, hsp, rfl, rfl⟩
         refine ⟨.slice 9 0 (ptsQ p c).length k, [(9, .ints 32 ((ptsQ p c).flatten ++ sp))], rfl, rfl, rfl, ?_⟩
         first | refine oQ (Q_len rfl rfl rfl rfl) rfl rfl ?_ | refine oQ (Q_len0 rfl rfl rfl rfl) rfl rfl ?_
         refine oQ (Q_bin rfl rfl rfl) rfl rfl ?_
         refine oN ?_
         first | refine cT rfl ?_ | refine cF rfl ?_ | refine CW_cond rfl (fun hc => ?_) (fun hc => ?_)
         all_goals try simp only [s1, s2, s3, s4, s5, s6, s7, s8, s9, s10, s11, s12] at hc
         all_goals first
           | (
            refine CW_skip ?_)
           | (
            refine cR ?_
            refine oA rfl rfl ?_
            refine oN ?_
            refine CW_ret ?_)
         all_goals first
           | with_reducible refine tR ?_
           | with_reducible refine tE ?_
           | (
            with_reducible refine tN ?_
            refine cR ?_
            refine oA rfl rfl ?_
            refine oN ?_
            refine CW_ret ?_)))
   all_goals first | with_reducible refine bN ?_ | with_reducible refine bE ?_ | with_reducible refine bR ?_ | refine bX rfl ?_)
  all_goals first
    | with_reducible refine tR ?_
    | with_reducible refine tE ?_
    | (
     with_reducible refine tN ?_
     refine cR ?_
     refine oA rfl rfl ?_
     refine oN ?_
     refine CW_ret ?_)
  all_goals (
   refine exitQ (.inr rfl) 0 (.cons (.tmp rfl rfl) .nil) ?_ rfl vHn rfl rfl
   refine congrArg V.int ?_
   unfold kdV
   first
     | (rw [if_pos (by omega)]; done)
     | (rw [if_neg (by omega), if_pos (by omega), if_pos (by omega)]; done)
     | (rw [if_neg (by omega), if_pos (by omega), if_neg (by omega)]; done)
     | (rw [if_neg (by omega), if_neg (by omega)]; done))
theorem l03Kind_con (p : Int) (c : List Int) (hp : primeB p = true) (hc6 : c.length = 6) (hpt : pointB p c = true) : ConQ Try.prog [] 40 [.int p, .arr c] [] (.int (kdV p c)) := by
  have h1 := pointB_mod hpt
  have hec := echelon33_con p (mR p c) 3 3 3 3 hp (mR_B hp hc6)
  rw [kd_ref hp hc6 hpt]
  refine conW tab_ok [(0, .int p), (1, .arr c)] 0 [] [] Try.func40 rfl rfl rfl rfl rfl rfl rfl rfl rfl ?_
  refine cR ?_
  refine oBox rfl rfl rfl rfl rfl rfl ?_
  refine oA rfl rfl ?_
  refine oN ?_
  refine CW_seq ?_
  refine cR ?_
  iterate 2 refine oM rfl rfl ?_
  refine oQ (Q_ldw rfl rfl rfl rfl hc6) rfl rfl ?_
  refine oCall (l03Rows_con p c hp hc6 h1) [] 4 rfl rfl (Fits.mk' vHn rfl rfl (by simp)) rfl rfl ?_
  rintro r H1 ⟨rfl, rfl⟩
  refine ⟨.slice 4 0 3 3, [(1, .ints 2 (mR p c 0)), (2, .ints 2 (mR p c 1)), (3, .ints 2 (mR p c 2)), (4, .vals 103 [.slice 1 0 3 3, .slice 2 0 3 3, .slice 3 0 3 3])], rfl, rfl, rfl, ?_⟩
  refine oCall hec [(0, 4), (1, 1), (2, 2), (3, 3)] 5 rfl rfl (Fits.mk' (vHc rfl (vHc rfl (vHc rfl (vHc rfl vHn)))) rfl rfl (by simp)) rfl rfl ?_
  rintro r H1 ⟨kO, rfl, rfl⟩
  refine ⟨.slice 9 0 (rkI p (mR p c) 3 3) kO, [(4, .vals 103 [.slice 1 0 3 3, .slice 2 0 3 3, .slice 3 0 3 3]), (1, .ints 2 (mR p c 0)), (2, .ints 2 (mR p c 1)), (3, .ints 2 (mR p c 2))], rfl, rfl, rfl, ?_⟩
  first | refine oQ (Q_len rfl rfl rfl rfl) rfl rfl ?_ | refine oQ (Q_len0 rfl rfl rfl rfl) rfl rfl ?_
  refine oA rfl rfl ?_
  refine oN ?_
  refine CW_block ?_
  refine cR ?_
  refine oM rfl rfl ?_
  refine oQ (Q_bin rfl rfl rfl) rfl rfl ?_
  refine oA rfl rfl ?_
  refine oN ?_
  first | refine cT rfl ?_ | refine cF rfl ?_ | refine CW_cond rfl (fun hc => ?_) (fun hc => ?_)
  all_goals try simp only [s1, s2, s3, s4, s5, s6, s7, s8, s9, s10, s11, s12] at hc
  all_goals first
    | (
     refine cR ?_
     refine oA rfl rfl ?_
     refine oN ?_
     refine CW_ret ?_)
    | (
     refine cR ?_
     refine oM rfl rfl ?_
     refine oQ (Q_bin rfl rfl rfl) rfl rfl ?_
     refine oA rfl rfl ?_
     refine oN ?_
     first | refine cT rfl ?_ | refine cF rfl ?_ | refine CW_cond rfl (fun hc => ?_) (fun hc => ?_)
     all_goals try simp only [s1, s2, s3, s4, s5, s6, s7, s8, s9, s10, s11, s12] at hc
     all_goals first
       | (
        refine cR ?_
        refine oA rfl rfl ?_
        refine oN ?_
        refine CW_ret ?_)
       | (
        refine cR ?_
        refine oM rfl rfl ?_
        refine oQ (Q_ldw rfl rfl rfl rfl hc6) rfl rfl ?_
        refine oCall (l03Points_con p c hp hc6 h1) [] 1 rfl rfl (Fits.mk' vHn rfl rfl (by first | (simp; done) | exact glOk rfl rfl rfl)) rfl rfl ?_
        rintro r H1 ⟨k, sp, hk, hsp, rfl, rfl⟩
        refine ⟨.slice 10 0 (ptsQ p c).length k, [(10, .ints 32 ((ptsQ p c).flatten ++ sp))], rfl, rfl, rfl, ?_⟩
        first | refine oQ (Q_len rfl rfl rfl rfl) rfl rfl ?_ | refine oQ (Q_len0 rfl rfl rfl rfl) rfl rfl ?_
        refine oQ (Q_bin rfl rfl rfl) rfl rfl ?_
        refine oA rfl rfl ?_
        refine oN ?_
        first | refine cT rfl ?_ | refine cF rfl ?_ | refine CW_cond rfl (fun hc => ?_) (fun hc => ?_)
        all_goals try simp only [s1, s2, s3, s4, s5, s6, s7, s8, s9, s10, s11, s12] at hc
        all_goals first
          | (
           refine CW_skip ?_)
          | (
           refine cR ?_
           refine oA rfl rfl ?_
           refine oN ?_
           refine CW_ret ?_)))
  all_goals first | with_reducible refine bN ?_ | with_reducible refine bE ?_ | with_reducible refine bR ?_ | refine bX rfl ?_
  all_goals first
    | with_reducible refine tR ?_
    | with_reducible refine tE ?_
    | (
     with_reducible refine tN ?_
     refine cR ?_
     refine oA rfl rfl ?_
     refine oN ?_
     refine CW_ret ?_)
  all_goals (
   refine exitQ (.inr rfl) 0 (.cons (.tmp rfl rfl) .nil) ?_ rfl vHn rfl rfl
   refine congrArg V.int ?_
   first
     | (rw [if_pos (by omega)]; done)
     | (rw [if_neg (by omega), if_pos (by omega)]; done)
     | (rw [if_neg (by omega), if_neg (by omega), if_pos (by omega)]; done)
     | (rw [if_neg (by omega), if_neg (by omega), if_neg (by omega)]; done))
end Go.Proofs.Ytoiolpgmilobnaa
namespace Go.Proofs.Ytoiolpgmilobnaa
set_option maxRecDepth 10000
set_option linter.unusedSimpArgs false
set_option linter.unusedVariables false
noncomputable def gdV (p : Int) (c : List Int) (b : Bool) : Int := if codeB p (b && pointB p c) = 0 then (if kdV p c = 0 then 0 else 5) else codeB p (b && pointB p c)
theorem gdV_code {p : Int} {c : List Int} {b : Bool} (h : ¬ codeB p (b && pointB p c) = 0) : gdV p c b = codeB p (b && pointB p c) := by unfold gdV; rw [if_neg h]
theorem gdV_five {p : Int} {c : List Int} {b : Bool} (h : codeB p (b && pointB p c) = 0) (hk : ¬ kdV p c = 0) : gdV p c b = 5 := by unfold gdV; rw [if_pos h, if_neg hk]
theorem gdV_zero {p : Int} {c : List Int} {b : Bool} (h : codeB p (b && pointB p c) = 0) (hk : kdV p c = 0) : gdV p c b = 0 := by unfold gdV; rw [if_pos h, if_pos hk]
theorem gdV_ok {p : Int} {c : List Int} {b : Bool} (h : gdV p c b = 0) : codeB p (b && pointB p c) = 0 ∧ kdV p c = 0 := by
  by_cases h0 : codeB p (b && pointB p c) = 0
  · by_cases h1 : kdV p c = 0
    · exact ⟨h0, h1⟩
    · rw [gdV_five h0 h1] at h; exact absurd h (by decide)
  · rw [gdV_code h0] at h; exact absurd h h0
theorem matV_12 {p : Int} (hp : primeB p = true) {c : List Int} (hc6 : c.length = 6) : ∀ x ∈ matV p c, 0 ≤ x ∧ x ≤ 12 := fun x hx => by
  obtain ⟨j, hj, e⟩ := List.mem_iff_getElem.1 hx
  have := matV_B hp hc6 j
  have hb := prime_bd hp
  simp only [List.getD, List.getElem?_eq_getElem hj, Option.getD_some, e] at this
  omega
theorem adjV_12 {p : Int} (hp : primeB p = true) {M : List Int} (hM : M.length = 9) : ∀ x ∈ adjV p M, 0 ≤ x ∧ x ≤ 12 := by
  match M, hM with
  | [a0, a1, a2, a3, a4, a5, a6, a7, a8], _ =>
    have hb := prime_bd hp
    have h : ∀ y : Int, 0 ≤ y % p ∧ y % p ≤ 12 := fun y => by
      have h1 := Int.emod_nonneg y (show p ≠ 0 by omega)
      have h2 := Int.emod_lt_of_pos y (show 0 < p by omega)
      omega
    intro x hx
    simp only [adjV, List.mem_cons, List.not_mem_nil, or_false] at hx
    rcases hx with rfl | rfl | rfl | rfl | rfl | rfl | rfl | rfl | rfl <;> exact h _
attribute [local simp] minT_len
attribute [local irreducible] CW OW QW QOp Con thenP inBlockP AW QX RW AX
end Go.Proofs.Ytoiolpgmilobnaa
namespace Go.Proofs.Ytoiolpgmilobnaa
set_option maxRecDepth 10000
set_option linter.unusedSimpArgs false
set_option linter.unusedVariables false
theorem sm_12 {l : List Int} (h : ∀ x ∈ l, 0 ≤ x ∧ x ≤ 12) : sm 13 l := fun x hx => by have := h x hx; omega
theorem poleX3 (p : Int) (c l : List Int) : (poleX p c l).length = 3 := by unfold poleX; rw [normL_length]; rfl
theorem point_pts {p : Int} {l : List Int} (h3 : l.length = 3) (h : pointB p l = true) : l ∈ allPts p := point_mem h3 h
noncomputable def pooV (p : Int) (c l : List Int) : List Int := if gdV p c (pointB p l) = 0 then poleX p c l else zero3
theorem pooV3 (p : Int) (c l : List Int) : (pooV p c l).length = 3 := by unfold pooV; split; exact poleX3 ..; rfl
attribute [local simp] normL_length poleX3
attribute [local irreducible] CW OW QW QOp Con thenP inBlockP AW QX RW AX
theorem image_con (p : Int) (M a : List Int) (hp : primeB p = true) (hM : M.length = 9) (ha3 : a.length = 3) (hms : sm 13 M) (h2 : sm 13 a) : ConQ Try.prog [] 93 [.int p, .arr M, .arr a] [] (.arr (normL p [dotV (M.take 3) a % p, dotV ((M.drop 3).take 3) a % p, dotV ((M.drop 6).take 3) a % p])) := by
  refine conW tab_ok [(0, .int p), (1, .arr M), (2, .arr a)] 0 [] [] Try.func93 rfl rfl rfl rfl rfl rfl rfl rfl rfl ?_
  refine cR ?_
  iterate 2 refine oBox rfl rfl rfl rfl rfl rfl ?_
  refine oAlloc rfl rfl rfl rfl rfl rfl rfl ?_
  refine oN ?_
  refine CW_seq ?_
  refine CW_any (fun i => List.elem i [17]) 18 rfl lateOk (by decide +kernel) (fun hst => ?_)
  refine aP 0 hst rfl rfl (by decide +kernel) (PX_move rfl rfl) rfl rfl ?_
  refine aP 1 hst rfl rfl (by decide +kernel) (PX_move rfl rfl) rfl rfl ?_
  first | refine aQ 2 hst rfl rfl (by decide +kernel) (QX_of (Q_ixa0z 3 rfl rfl rfl rfl rfl rfl (by first | omega | (dsimp only; omega) | (simp; omega) | (simp; done))) NE_ix) rfl rfl ?_ | refine aQ 2 hst rfl rfl (by decide +kernel) (QX_of (Q_ixaz 3 rfl rfl rfl rfl rfl rfl (by first | omega | (dsimp only; omega) | (simp; omega) | (simp; done))) NE_ix) rfl rfl ?_
  refine aQ 3 hst rfl rfl (by decide +kernel) (QX_of (Q_lda (n := 3) rfl rfl rfl rfl rfl (by first | omega | (dsimp only; omega) | (simp; omega) | (simp; done))) NE_load) rfl rfl ?_
  refine aQ 4 hst rfl rfl (by decide +kernel) (QX_of (Q_ldw rfl rfl rfl rfl ha3) NE_load) rfl rfl ?_
  refine aQ 5 hst rfl rfl (by decide +kernel) (QX_call0 (dot_con p (M.take 3) a hp (by rw [List.length_take]; omega) ha3 (sm_take hms 3) h2) rfl rfl rfl) rfl rfl ?_
  refine aP 6 hst rfl rfl (by decide +kernel) (PX_move rfl rfl) rfl rfl ?_
  first | refine aQ 7 hst rfl rfl (by decide +kernel) (QX_of (Q_ixa0z 3 rfl rfl rfl rfl rfl rfl (by first | omega | (dsimp only; omega) | (simp; omega) | (simp; done))) NE_ix) rfl rfl ?_ | refine aQ 7 hst rfl rfl (by decide +kernel) (QX_of (Q_ixaz 3 rfl rfl rfl rfl rfl rfl (by first | omega | (dsimp only; omega) | (simp; omega) | (simp; done))) NE_ix) rfl rfl ?_
  refine aQ 8 hst rfl rfl (by decide +kernel) (QX_of (Q_lda (n := 3) rfl rfl rfl rfl rfl (by first | omega | (dsimp only; omega) | (simp; omega) | (simp; done))) NE_load) rfl rfl ?_
  refine aQ 9 hst rfl rfl (by decide +kernel) (QX_of (Q_ldw rfl rfl rfl rfl ha3) NE_load) rfl rfl ?_
  refine aQ 10 hst rfl rfl (by decide +kernel) (QX_call0 (dot_con p ((M.drop 3).take 3) a hp (by rw [List.length_take, List.length_drop]; omega) ha3 (sm_take (sm_drop hms 3) 3) h2) rfl rfl rfl) rfl rfl ?_
  refine aP 11 hst rfl rfl (by decide +kernel) (PX_move rfl rfl) rfl rfl ?_
  first | refine aQ 12 hst rfl rfl (by decide +kernel) (QX_of (Q_ixa0z 3 rfl rfl rfl rfl rfl rfl (by first | omega | (dsimp only; omega) | (simp; omega) | (simp; done))) NE_ix) rfl rfl ?_ | refine aQ 12 hst rfl rfl (by decide +kernel) (QX_of (Q_ixaz 3 rfl rfl rfl rfl rfl rfl (by first | omega | (dsimp only; omega) | (simp; omega) | (simp; done))) NE_ix) rfl rfl ?_
  refine aQ 13 hst rfl rfl (by decide +kernel) (QX_of (Q_lda (n := 3) rfl rfl rfl rfl rfl (by first | omega | (dsimp only; omega) | (simp; omega) | (simp; done))) NE_load) rfl rfl ?_
  refine aQ 14 hst rfl rfl (by decide +kernel) (QX_of (Q_ldw rfl rfl rfl rfl ha3) NE_load) rfl rfl ?_
  refine aQ 15 hst rfl rfl (by decide +kernel) (QX_call0 (dot_con p ((M.drop 6).take 3) a hp (by rw [List.length_take, List.length_drop]; omega) ha3 (sm_take (sm_drop hms 6) 3) h2) rfl rfl rfl) rfl rfl ?_
  refine aQ 16 hst rfl rfl (by decide +kernel) (QX_call0 (pointOf_con p _ _ _ hp) rfl rfl rfl) rfl rfl ?_
  refine AW_last [17] rfl (by decide +kernel) rfl ?_
  first | refine oSw rfl rfl rfl rfl ?_ | refine oSa rfl rfl rfl rfl ?_
  refine OW_nil (npN ?_)
  all_goals with_reducible refine tN ?_
  all_goals (
   refine CW_ret ?_)
  all_goals (
   ((refine exitQ (.inr rfl) 0 (.cons (.arr rfl rfl rfl rfl (by first | omega | (dsimp only; omega) | (simp; omega) | (simp; done))) .nil) ?_ rfl vHn rfl rfl); rfl))
theorem pole_con (p : Int) (c l : List Int) (hp : primeB p = true) (hc6 : c.length = 6) (hl3 : l.length = 3) (h1 : sm 13 c) (h2 : sm 13 l) : ConQ Try.prog [] 50 [.arr c, .int p, .arr l] [] (.arr (poleX p c l)) := by
  have hml := matV_length (p := p) hc6
  refine conW tab_ok [(0, .arr c), (1, .int p), (2, .arr l)] 0 [] [] Try.func50 rfl rfl rfl rfl rfl rfl rfl rfl rfl ?_
  refine cR ?_
  iterate 2 refine oBox rfl rfl rfl rfl rfl rfl ?_
  refine oAlloc rfl rfl rfl rfl rfl rfl rfl ?_
  refine oN ?_
  refine CW_seq ?_
  refine CW_any (fun i => List.elem i [8]) 9 rfl lateOk (by decide +kernel) (fun hst => ?_)
  refine aP 0 hst rfl rfl (by decide +kernel) (PX_move rfl rfl) rfl rfl ?_
  refine aQ 1 hst rfl rfl (by decide +kernel) (QX_of (Q_ldw rfl rfl rfl rfl hc6) NE_load) rfl rfl ?_
  refine aP 2 hst rfl rfl (by decide +kernel) (PX_move rfl rfl) rfl rfl ?_
  refine aQ 3 hst rfl rfl (by decide +kernel) (QX_call0 (matrix_con p c hp hc6 h1) rfl rfl rfl) rfl rfl ?_
  refine aP 4 hst rfl rfl (by decide +kernel) (PX_move rfl rfl) rfl rfl ?_
  refine aQ 5 hst rfl rfl (by decide +kernel) (QX_call0 (adjoint_con p (matV p c) hp hml (matV_12 hp hc6)) rfl rfl rfl) rfl rfl ?_
  refine aQ 6 hst rfl rfl (by decide +kernel) (QX_of (Q_ldw rfl rfl rfl rfl hl3) NE_load) rfl rfl ?_
  refine aQ 7 hst rfl rfl (by decide +kernel) (QX_call0 (image_con p (adjV p (matV p c)) l hp (adjV_len p hml) hl3 (sm_12 (adjV_12 hp hml)) h2) rfl rfl rfl) rfl rfl ?_
  refine AW_last [8] rfl (by decide +kernel) rfl ?_
  first | refine oSw rfl rfl rfl rfl ?_ | refine oSa rfl rfl rfl rfl ?_
  refine OW_nil (npN ?_)
  all_goals with_reducible refine tN ?_
  all_goals (
   refine CW_ret ?_)
  all_goals (
   ((refine exitQ (.inr rfl) 0 (.cons (.arr rfl rfl rfl rfl (by first | omega | (dsimp only; omega) | (simp; omega) | (simp; done))) .nil) ?_ rfl vHn rfl rfl); rfl))
theorem impl_PoleOf_con (p : Int) (c l : List Int) (hc6 : c.length = 6) (hl3 : l.length = 3) : ConQ Try.prog [] 19 [.int p, .arr c, .arr l] [] (.tuple [.arr (pooV p c l), .int (gdV p c (pointB p l))]) := by
  refine conW tab_ok [(0, .int p), (1, .arr c), (2, .arr l)] 0 [] [] Try.func19 rfl rfl rfl rfl rfl rfl rfl rfl rfl ?_
  refine cR ?_
  iterate 2 refine oBox rfl rfl rfl rfl rfl rfl ?_
  refine oAlloc rfl rfl rfl rfl rfl rfl rfl ?_
  refine oA rfl rfl ?_
  refine oN ?_
  iterate 2 refine CW_seq ?_
  refine CW_any (fun _ => false) 9 rfl lateOk (by decide +kernel) (fun hst => ?_)
  refine aP 0 hst rfl rfl (by decide +kernel) (PX_move rfl rfl) rfl rfl ?_
  refine aP 1 hst rfl rfl (by decide +kernel) (PX_move rfl rfl) rfl rfl ?_
  refine aQ 2 hst rfl rfl (by decide +kernel) (QX_of (Q_ldw rfl rfl rfl rfl hl3) NE_load) rfl rfl ?_
  refine aQ 5 hst rfl rfl (by decide +kernel) (QX_of (Q_ldw rfl rfl rfl rfl hc6) NE_load) rfl rfl ?_
  refine AW_two (i := 3) (j := 6) (by decide +kernel) ?_ ?_
  all_goals first
    | (
     refine gBsl1 hl3 rfl rfl rfl rfl rfl rfl rfl rfl rfl rfl rfl rfl ?_
     refine aQ 4 hst rfl rfl (by decide +kernel) (QX_call (areLines_one p l hl3) [(0, 3)] rfl rfl (Fits.mk' (vHc rfl vHn) rfl rfl (by first | (simp; done) | exact glOk rfl rfl rfl)) rfl rfl rfl) rfl rfl ?_
     refine AW_one (i := 6) (by decide +kernel) ?_
     refine gBsl1 hc6 rfl rfl rfl rfl rfl rfl rfl rfl rfl rfl rfl rfl ?_
     refine aQ 7 hst rfl rfl (by decide +kernel) (QX_call (conicsCode_one p (pointB p l) c hc6) [(0, 4)] rfl rfl (Fits.mk' (vHc rfl vHn) rfl rfl (by first | (simp; done) | exact glOk rfl rfl rfl)) rfl rfl rfl) rfl rfl ?_
     refine aQ 8 hst rfl rfl (by decide +kernel) (QX_of (Q_assign rfl rfl) NE_assign) rfl rfl ?_
     refine AW_done (by decide +kernel) ?_)
    | (
     refine gBsl1 hc6 rfl rfl rfl rfl rfl rfl rfl rfl rfl rfl rfl rfl ?_
     refine AW_one (i := 3) (by decide +kernel) ?_
     refine gBsl1 hl3 rfl rfl rfl rfl rfl rfl rfl rfl rfl rfl rfl rfl ?_
     refine aQ 4 hst rfl rfl (by decide +kernel) (QX_call (areLines_one p l hl3) [(0, 4)] rfl rfl (Fits.mk' (vHc rfl vHn) rfl rfl (by first | (simp; done) | exact glOk rfl rfl rfl)) rfl rfl rfl) rfl rfl ?_
     refine aQ 7 hst rfl rfl (by decide +kernel) (QX_call (conicsCode_one p (pointB p l) c hc6) [(0, 3)] rfl rfl (Fits.mk' (vHc rfl vHn) rfl rfl (by first | (simp; done) | exact glOk rfl rfl rfl)) rfl rfl rfl) rfl rfl ?_
     refine aQ 8 hst rfl rfl (by decide +kernel) (QX_of (Q_assign rfl rfl) NE_assign) rfl rfl ?_
     refine AW_done (by decide +kernel) ?_)
  all_goals with_reducible refine tN ?_
  all_goals (
   refine cR ?_
   refine oM rfl rfl ?_
   refine oQ (Q_bin rfl rfl rfl) rfl rfl ?_
   refine oN ?_
   first | refine cT rfl ?_ | refine cF rfl ?_ | refine CW_cond rfl (fun hc => ?_) (fun hc => ?_)
   all_goals try simp only [s1, s2, s3, s4, s5, s6, s7, s8, s9, s10, s11, s12] at hc
   all_goals first
     | (
      refine CW_skip ?_)
     | (
      refine cR ?_
      refine oQ (Q_build rfl rfl rfl rfl rfl rfl rfl rfl) rfl rfl ?_
      refine oM rfl rfl ?_
      first | refine oSw rfl rfl rfl rfl ?_ | refine oSa rfl rfl rfl rfl ?_
      refine oA rfl rfl ?_
      refine oN ?_
      refine CW_ret ?_))
  all_goals first
    | with_reducible refine tR ?_
    | with_reducible refine tE ?_
    | (
     with_reducible refine tN ?_
     refine CW_seq ?_
     refine cR ?_
     refine oQ (Q_ldw rfl rfl rfl rfl hc6) rfl rfl ?_
     refine oM rfl rfl ?_
     (have hc0 : codeB p (pointB p l && pointB p c) = 0 := by assumption)
     (have hcc := codeB_zero.1 hc0)
     (have hcb := Bool.and_eq_true_iff.1 hcc.2)
     refine oQ (Q_call0 (kind_con p c hcc.1 hc6 (sm_point hcb.2)) rfl rfl rfl) rfl rfl ?_
     refine oQ (Q_bin rfl rfl rfl) rfl rfl ?_
     refine oN ?_
     first | refine cT rfl ?_ | refine cF rfl ?_ | refine CW_cond rfl (fun hc => ?_) (fun hc => ?_)
     all_goals try simp only [s1, s2, s3, s4, s5, s6, s7, s8, s9, s10, s11, s12] at hc
     all_goals first
       | (
        refine CW_skip ?_)
       | (
        refine cR ?_
        refine oQ (Q_build rfl rfl rfl rfl rfl rfl rfl rfl) rfl rfl ?_
        first | refine oSw rfl rfl rfl rfl ?_ | refine oSa rfl rfl rfl rfl ?_
        refine oA rfl rfl ?_
        refine oN ?_
        refine CW_ret ?_)
     all_goals first
       | with_reducible refine tR ?_
       | with_reducible refine tE ?_
       | (
        with_reducible refine tN ?_
        refine cR ?_
        refine oQ (Q_ldw rfl rfl rfl rfl hc6) rfl rfl ?_
        refine oM rfl rfl ?_
        refine oQ (Q_ldw rfl rfl rfl rfl hl3) rfl rfl ?_
        refine oQ (Q_call0 (pole_con p c l hcc.1 hc6 hl3 (sm_point hcb.2) (sm_point hcb.1)) rfl rfl rfl) rfl rfl ?_
        first | refine oSw rfl rfl rfl rfl ?_ | refine oSa rfl rfl rfl rfl ?_
        refine oA rfl rfl ?_
        refine oN ?_
        refine CW_ret ?_))
  all_goals (
   refine exitQ (.inr rfl) 0 (.cons (.arr rfl rfl rfl rfl (by first | omega | (dsimp only; omega) | (simp; omega) | (simp; done))) (.cons (.tmp rfl rfl) .nil)) ?_ rfl vHn rfl rfl
   first
     | (have h1 : ¬ codeB p (pointB p l && pointB p c) = 0 := by assumption
        have h2 := gdV_code h1
        unfold pooV; rw [if_neg (by rw [h2]; exact h1), h2]; rfl)
     | (have h1 : ¬ kdV p c = 0 := by assumption
        have h2 := gdV_five hc0 h1
        unfold pooV; rw [if_neg (by rw [h2]; decide), h2]; rfl)
     | (have h2 := gdV_zero hc0 (by assumption)
        unfold pooV; rw [if_pos h2, h2]; rfl))
theorem good_one (p : Int) (c l : List Int) (hc6 : c.length = 6) (hl3 : l.length = 3) : ConQ Try.prog [] 43 [.int p, .arr c, .slice 0 0 1 1] [(0, .ints 32 l)] (.int (gdV p c (pointB p l))) := by
  refine conW tab_ok [(0, .int p), (1, .arr c), (2, .slice 0 0 1 1)] 1 [0] [0] Try.func43 rfl rfl rfl rfl rfl rfl rfl rfl rfl ?_
  refine cR ?_
  refine oBox rfl rfl rfl rfl rfl rfl ?_
  refine oA rfl rfl ?_
  refine oN ?_
  refine cR ?_
  refine oM rfl rfl ?_
  refine oQ (Q_ldw rfl rfl rfl rfl hc6) rfl rfl ?_
  refine oM rfl rfl ?_
  refine oQ (Q_call (l03Code_one p c l hc6 hl3) [] rfl rfl (Fits.mk' (vHc rfl vHn) rfl rfl (by first | (simp; done) | exact glOk rfl rfl rfl)) rfl rfl) rfl rfl ?_
  refine oA rfl rfl ?_
  refine oN ?_
  refine CW_seq ?_
  refine cR ?_
  refine oM rfl rfl ?_
  refine oQ (Q_bin rfl rfl rfl) rfl rfl ?_
  refine oM rfl rfl ?_
  all_goals first | refine oT rfl rfl ?_ | refine o1 rfl rfl rfl ?_ | refine o0 rfl rfl rfl ?_ | refine ogP1 rfl rfl rfl (fun hg => ?_) (fun hg => ?_) | refine ogP0 rfl rfl rfl (fun hg => ?_) (fun hg => ?_)
  all_goals try simp only [s1, s2, s3, s4, s5, s6, s7, s8, s9, s10, s11, s12] at hg
  all_goals first | (refine oM rfl rfl ?_) | skip
  all_goals first | refine oT rfl rfl ?_ | refine o1 rfl rfl rfl ?_ | refine o0 rfl rfl rfl ?_ | refine ogP1 rfl rfl rfl (fun hg => ?_) (fun hg => ?_) | refine ogP0 rfl rfl rfl (fun hg => ?_) (fun hg => ?_)
  all_goals try simp only [s1, s2, s3, s4, s5, s6, s7, s8, s9, s10, s11, s12] at hg
  all_goals first | (refine oQ (Q_ldw rfl rfl rfl rfl hc6) rfl rfl ?_) | skip
  all_goals first | refine oT rfl rfl ?_ | refine o1 rfl rfl rfl ?_ | refine o0 rfl rfl rfl ?_ | refine ogP1 rfl rfl rfl (fun hg => ?_) (fun hg => ?_) | refine ogP0 rfl rfl rfl (fun hg => ?_) (fun hg => ?_)
  all_goals try simp only [s1, s2, s3, s4, s5, s6, s7, s8, s9, s10, s11, s12] at hg
  all_goals first | ((have hc0 : codeB p (pointB p l && pointB p c) = 0 := hg); (have hcc := codeB_zero.1 hc0); (have hcb := Bool.and_eq_true_iff.1 hcc.2); refine oQ (Q_call0 (l03Kind_con p c hcc.1 hc6 hcb.2) rfl rfl rfl) rfl rfl ?_) | skip
  all_goals first | refine oT rfl rfl ?_ | refine o1 rfl rfl rfl ?_ | refine o0 rfl rfl rfl ?_ | refine ogP1 rfl rfl rfl (fun hg => ?_) (fun hg => ?_) | refine ogP0 rfl rfl rfl (fun hg => ?_) (fun hg => ?_)
  all_goals try simp only [s1, s2, s3, s4, s5, s6, s7, s8, s9, s10, s11, s12] at hg
  all_goals first | (refine oQ (Q_bin rfl rfl rfl) rfl rfl ?_) | skip
  all_goals first | refine oQ (Q_pick_t rfl (by with_reducible rfl) rfl rfl) rfl rfl ?_ | refine oQ (Q_pick_f rfl (by with_reducible rfl) rfl rfl) rfl rfl ?_
  all_goals refine oN ?_
  all_goals (
   first | refine cT rfl ?_ | refine cF rfl ?_ | refine CW_cond rfl (fun hc => ?_) (fun hc => ?_)
   all_goals try simp only [s1, s2, s3, s4, s5, s6, s7, s8, s9, s10, s11, s12] at hc
   all_goals first
     | (
      refine CW_skip ?_)
     | (
      refine CW_region ?_
      refine oA rfl rfl ?_
      refine OW_nil ?_))
  all_goals with_reducible refine tN ?_
  all_goals (
   refine cR ?_
   refine oM rfl rfl ?_
   refine oA rfl rfl ?_
   refine oN ?_
   refine CW_ret ?_)
  all_goals (
   refine exitQ (.inr rfl) 1 (.cons (.tmp rfl rfl) .nil) ?_ rfl (vHc rfl vHn) rfl rfl
   refine congrArg V.int ?_
   first
     | exact hc0.trans (gdV_zero hc0 (by assumption)).symm
     | exact (gdV_zero (by assumption) (by assumption)).symm
     | exact (gdV_five (by assumption) (by assumption)).symm
     | exact (gdV_code (by assumption)).symm)
theorem l03Pole_con (p : Int) (c l : List Int) (hp : primeB p = true) (hc6 : c.length = 6) (hl3 : l.length = 3) (hcp : pointB p c = true) (hlp : l ∈ allPts p) (hk : kdV p c = 0) : ConQ Try.prog [] 48 [.int p, .arr c, .arr l] [] (.arr (poleX p c l)) := by
  have hal := allPts_len hp
  have h3 : ∀ x ∈ (allPts p), x.length = 3 := fun x hx => allPts_three hx
  have hf3 := flat3 h3
  have hpn : ∀ x, (normL p (polX p c x)).length = 3 := fun x => by rw [normL_length]; rfl
  refine conW tab_ok [(0, .int p), (1, .arr c), (2, .arr l)] 0 [] [] Try.func48 rfl rfl rfl rfl rfl rfl rfl rfl rfl ?_
  refine cR ?_
  iterate 2 refine oBox rfl rfl rfl rfl rfl rfl ?_
  refine oAlloc rfl rfl rfl rfl rfl rfl rfl ?_
  refine oN ?_
  refine cR ?_
  refine oM rfl rfl ?_
  refine oCall (l01Points_con p hp) [] 1 rfl rfl (Fits.mk' vHn rfl rfl (by first | (simp; done) | exact glOk rfl rfl rfl)) rfl rfl ?_
  rintro r H1 ⟨k0, sp0, hk0, hsp0, rfl, rfl⟩
  refine ⟨.slice 3 0 (allPts p).length k0, [(3, .ints 32 ((allPts p).flatten ++ sp0))], rfl, rfl, rfl, ?_⟩
  refine oA rfl rfl ?_
  refine oN ?_
  refine CW_seq ?_
  refine cR ?_
  refine oA rfl rfl ?_
  refine oN ?_
  refine CW_block ?_
  refine CW_loop (ι := Nat) (fun i => i ≤ (allPts p).length ∧ ∀ j, j < i → ¬ (facP p (polX p c ((allPts p).getD j [])) ≠ 0 ∧ normL p (polX p c ((allPts p).getD j [])) = l)) (fun i => ⟨[(0, .int p), (4, .ptr 0 0), (5, .ptr 1 0), (6, .ptr 2 0), (7, .slice 3 0 (allPts p).length k0), (8, .int i)], [(0, .ints 25 c), (1, .ints 35 l), (2, .ints 32 [0, 0, 0]), (3, .ints 32 ((allPts p).flatten ++ sp0))], 4⟩) (fun i => (allPts p).length - i) 0 ?_ ?_ ?_
  · exact ⟨Nat.zero_le _, fun j h => absurd h (Nat.not_lt_zero _)⟩
  · refine View.mk' [] rfl rfl rfl ?_ ?_
    repeat' first | exact vFn | refine vFc rfl ?_ | exact vHn | refine vHc rfl ?_ | refine vFc (congrArg (fun z => some (V.int z)) ?_) ?_ | refine vHc (congrArg (fun z => some (Blk.ints _ z)) ?_) ?_ | refine vFc (congrArg (fun z => some (V.bool z)) ?_) ?_ | refine vFs rfl rfl ?_ ?_
  rintro i ⟨hi, hi2⟩
  have hmem := fun h : i < (allPts p).length => getD_mem h
  have h3i := fun h : i < (allPts p).length => h3 _ (getD_mem h)
  have hpi := hpn ((allPts p).getD i [])
  refine CW_seq ?_
  refine cR ?_
  iterate 2 refine oM rfl rfl ?_
  first | refine oQ (Q_len rfl rfl rfl rfl) rfl rfl ?_ | refine oQ (Q_len0 rfl rfl rfl rfl) rfl rfl ?_
  refine oQ (Q_bin rfl rfl rfl) rfl rfl ?_
  refine oN ?_
  first | refine cT rfl ?_ | refine cF rfl ?_ | refine CW_cond rfl (fun hc => ?_) (fun hc => ?_)
  all_goals try simp only [s1, s2, s3, s4, s5, s6, s7, s8, s9, s10, s11, s12] at hc
  all_goals try (exfalso; first | omega | (simp at hc; done); done)
  all_goals first
    | (
     refine CW_skip ?_)
    | (
     refine CW_exit ?_)
  all_goals first
    | with_reducible refine tR ?_
    | with_reducible refine tE ?_
    | (
     with_reducible refine tN ?_
     refine CW_seq ?_
     refine CW_block ?_
     refine CW_seq ?_
     refine CW_any (fun i => List.elem i [11, 12]) 13 rfl lateOk (by decide +kernel) (fun hst => ?_)
     refine aP 0 hst rfl rfl (by decide +kernel) (PX_move rfl rfl) rfl rfl ?_
     refine aQ 1 hst rfl rfl (by decide +kernel) (QX_of (Q_ldw rfl rfl rfl rfl hc6) NE_load) rfl rfl ?_
     refine aP 2 hst rfl rfl (by decide +kernel) (PX_move rfl rfl) rfl rfl ?_
     refine aP 3 hst rfl rfl (by decide +kernel) (PX_move rfl rfl) rfl rfl ?_
     (have h3i := h3i (by omega)); (have hmem := hmem (by omega)); refine aQ 4 hst rfl rfl (by decide +kernel) (QX_of (Q_ixs0z 3 rfl rfl rfl rfl rfl rfl (by omega)) NE_ix) rfl rfl ?_
     refine aQ 5 hst rfl rfl (by decide +kernel) (QX_of (Q_lda (n := 3) rfl rfl rfl rfl rfl (by rw [List.length_append, hf3]; omega)) NE_load) rfl rfl ?_; rw [flat_get h3 (show i < (allPts p).length by omega)]
     refine aQ 6 hst rfl rfl (by decide +kernel) (QX_call0 (l03Polar_con p c ((allPts p).getD i []) hp hc6 h3i (pointB_mod hcp) (allPts_sm hp hmem)) rfl rfl rfl) rfl rfl ?_
     refine aP 7 hst rfl rfl (by decide +kernel) (PX_move rfl rfl) rfl rfl ?_
     refine aExt 8 hst rfl rfl (by decide +kernel) rfl rfl rfl rfl ?_
     refine aExt 9 hst rfl rfl (by decide +kernel) rfl rfl rfl rfl ?_
     refine AW_one (i := 10) (by decide +kernel) ?_
     refine gAlloc rfl rfl rfl rfl rfl rfl rfl rfl rfl ?_
     refine AW_last [11, 12] rfl (by decide +kernel) rfl ?_
     first | refine oSw rfl rfl rfl rfl ?_ | refine oSa rfl rfl rfl rfl ?_
     refine oA rfl rfl ?_
     refine OW_nil (npN ?_)
     all_goals with_reducible refine tN ?_
     all_goals (
      refine cR ?_
      iterate 2 refine oM rfl rfl ?_
      all_goals first | refine oT rfl rfl ?_ | refine o1 rfl rfl rfl ?_ | refine o0 rfl rfl rfl ?_ | refine ogP1 rfl rfl rfl (fun hg => ?_) (fun hg => ?_) | refine ogP0 rfl rfl rfl (fun hg => ?_) (fun hg => ?_)
      all_goals try simp only [s1, s2, s3, s4, s5, s6, s7, s8, s9, s10, s11, s12] at hg
      all_goals first | (refine oQ (Q_ldw rfl rfl rfl rfl hpi) rfl rfl ?_) | skip
      all_goals first | refine oT rfl rfl ?_ | refine o1 rfl rfl rfl ?_ | refine o0 rfl rfl rfl ?_ | refine ogP1 rfl rfl rfl (fun hg => ?_) (fun hg => ?_) | refine ogP0 rfl rfl rfl (fun hg => ?_) (fun hg => ?_)
      all_goals try simp only [s1, s2, s3, s4, s5, s6, s7, s8, s9, s10, s11, s12] at hg
      all_goals first | (refine oQ (Q_ldw rfl rfl rfl rfl hl3) rfl rfl ?_) | skip
      all_goals first | refine oT rfl rfl ?_ | refine o1 rfl rfl rfl ?_ | refine o0 rfl rfl rfl ?_ | refine ogP1 rfl rfl rfl (fun hg => ?_) (fun hg => ?_) | refine ogP0 rfl rfl rfl (fun hg => ?_) (fun hg => ?_)
      all_goals try simp only [s1, s2, s3, s4, s5, s6, s7, s8, s9, s10, s11, s12] at hg
      all_goals first | (refine oQ (Q_arrb rfl rfl rfl rfl rfl rfl rfl rfl rfl hpi hl3) rfl rfl ?_) | skip
      all_goals first | refine oQ (Q_pick_t rfl (by with_reducible rfl) rfl rfl) rfl rfl ?_ | refine oQ (Q_pick_f rfl (by with_reducible rfl) rfl rfl) rfl rfl ?_
      all_goals refine oN ?_
      all_goals (
       first | refine cT rfl ?_ | refine cF rfl ?_ | refine CW_cond rfl (fun hc => ?_) (fun hc => ?_)
       all_goals try simp only [s1, s2, s3, s4, s5, s6, s7, s8, s9, s10, s11, s12] at hc
       all_goals try (exfalso; first | omega | (simp at hc; done); done)
       all_goals first
         | (
          refine CW_skip ?_)
         | (
          refine cR ?_
          iterate 2 refine oM rfl rfl ?_
          refine oQ (Q_ixs0z 3 rfl rfl rfl rfl rfl rfl (by omega)) rfl rfl ?_
          refine oQ (Q_lda (n := 3) rfl rfl rfl rfl rfl (by rw [List.length_append, hf3]; omega)) rfl rfl ?_; rw [flat_get h3 (show i < (allPts p).length by omega)]
          first | refine oSw rfl rfl rfl rfl ?_ | refine oSa rfl rfl rfl rfl ?_
          refine oN ?_
          refine CW_ret ?_)))
     all_goals first | with_reducible refine bN ?_ | with_reducible refine bE ?_ | with_reducible refine bR ?_ | refine bX rfl ?_
     all_goals first
       | with_reducible refine tR ?_
       | with_reducible refine tE ?_
       | (
        with_reducible refine tN ?_
        refine CW_region ?_
        refine oM rfl rfl ?_
        first | refine oQ (Q_binu rfl rfl rfl (by omega)) rfl rfl ?_ | refine oQ (Q_bin rfl rfl rfl) rfl rfl ?_
        refine oA rfl rfl ?_
        refine OW_nil ?_))
  all_goals first
    | with_reducible refine tR ?_
    | with_reducible refine tE ?_
    | (
     with_reducible refine tN ?_
     refine ⟨i + 1, ?_, ?_, View.mk' [] rfl rfl rfl ?_ ?_⟩
     · refine ⟨by omega, fun j hj => ?_⟩
       by_cases e : j = i
       · subst e
         rintro ⟨e1, e2⟩
         first
           | exact hc e2
           | (have hg' := (bne_fac hg).2 rfl; exact e1 hg')
           | simp_all
       · exact hi2 j (by omega)
     · omega
     all_goals (repeat' first | exact vFn | refine vFc rfl ?_ | exact vHn | refine vHc rfl ?_ | refine vFc (congrArg (fun z => some (V.int z)) ?_) ?_ | refine vHc (congrArg (fun z => some (Blk.ints _ z)) ?_) ?_ | refine vFc (congrArg (fun z => some (V.bool z)) ?_) ?_ | refine vFs rfl rfl ?_ ?_))
  all_goals first | with_reducible refine bN ?_ | with_reducible refine bE ?_ | with_reducible refine bR ?_ | refine bX rfl ?_
  all_goals first
    | with_reducible refine tR ?_
    | with_reducible refine tE ?_
    | (
     with_reducible refine tN ?_
     refine cR ?_
     refine oQ (Q_build rfl rfl rfl rfl rfl rfl rfl rfl) rfl rfl ?_
     first | refine oSw rfl rfl rfl rfl ?_ | refine oSa rfl rfl rfl rfl ?_
     refine oN ?_
     refine CW_ret ?_)
  all_goals (
   refine exitQ (.inr rfl) 0 (.cons (.arr rfl rfl rfl rfl (by first | omega | (dsimp only; omega) | (simp; omega) | (simp; done))) .nil) ?_ rfl vHn rfl rfl
   refine congrArg V.arr ?_
   first
     | exact (pole_uniq hp hc6 hk hmem hg hc).symm
     | exact (pole_uniq hp hc6 hk hmem ((bne_fac hg).1 rfl) hc).symm
     | (exfalso
        obtain ⟨e1, e2, e3⟩ := pole_ok hp hc6 hk hlp
        obtain ⟨j, hj, ej⟩ := List.mem_iff_getElem.1 e1
        have eg : (allPts p).getD j [] = poleX p c l := by simp [List.getD, List.getElem?_eq_getElem hj, ej]
        exact hi2 j (by omega) (by rw [eg]; exact ⟨e2, e3⟩)))
theorem spec_PoleOf_con (p : Int) (c l : List Int) (hc6 : c.length = 6) (hl3 : l.length = 3) : ConQ Try.prog [] 17 [.int p, .arr c, .arr l] [] (.tuple [.arr (pooV p c l), .int (gdV p c (pointB p l))]) := by
  refine conW tab_ok [(0, .int p), (1, .arr c), (2, .arr l)] 0 [] [] Try.func17 rfl rfl rfl rfl rfl rfl rfl rfl rfl ?_
  refine cR ?_
  iterate 2 refine oBox rfl rfl rfl rfl rfl rfl ?_
  refine oAlloc rfl rfl rfl rfl rfl rfl rfl ?_
  refine oA rfl rfl ?_
  refine oN ?_
  refine CW_seq ?_
  refine cR ?_
  refine oM rfl rfl ?_
  refine oQ (Q_ldw rfl rfl rfl rfl hc6) rfl rfl ?_
  refine oQ (Q_ldw rfl rfl rfl rfl hl3) rfl rfl ?_
  refine oBsl1 hl3 rfl rfl rfl rfl rfl rfl rfl rfl rfl rfl ?_
  refine oQ (Q_call (good_one p c l hc6 hl3) [(0, 3)] rfl rfl (Fits.mk' (vHc rfl vHn) rfl rfl (by first | (simp; done) | exact glOk rfl rfl rfl)) rfl rfl) rfl rfl ?_
  refine oA rfl rfl ?_
  refine oN ?_
  refine cR ?_
  refine oM rfl rfl ?_
  refine oQ (Q_bin rfl rfl rfl) rfl rfl ?_
  refine oN ?_
  first | refine cT rfl ?_ | refine cF rfl ?_ | refine CW_cond rfl (fun hc => ?_) (fun hc => ?_)
  all_goals try simp only [s1, s2, s3, s4, s5, s6, s7, s8, s9, s10, s11, s12] at hc
  all_goals first
    | (
     refine CW_skip ?_)
    | (
     refine cR ?_
     refine oQ (Q_build rfl rfl rfl rfl rfl rfl rfl rfl) rfl rfl ?_
     refine oM rfl rfl ?_
     first | refine oSw rfl rfl rfl rfl ?_ | refine oSa rfl rfl rfl rfl ?_
     refine oA rfl rfl ?_
     refine oN ?_
     refine CW_ret ?_)
  all_goals first
    | with_reducible refine tR ?_
    | with_reducible refine tE ?_
    | (
     with_reducible refine tN ?_
     refine cR ?_
     refine oM rfl rfl ?_
     refine oQ (Q_ldw rfl rfl rfl rfl hc6) rfl rfl ?_
     refine oQ (Q_ldw rfl rfl rfl rfl hl3) rfl rfl ?_
     (have h0 : gdV p c (pointB p l) = 0 := by assumption)
     (obtain ⟨hg0, hk⟩ := gdV_ok h0)
     (have hcc := codeB_zero.1 hg0)
     (have hcb := Bool.and_eq_true_iff.1 hcc.2)
     refine oQ (Q_call0 (l03Pole_con p c l hcc.1 hc6 hl3 hcb.2 (point_pts hl3 hcb.1) hk) rfl rfl rfl) rfl rfl ?_
     first | refine oSw rfl rfl rfl rfl ?_ | refine oSa rfl rfl rfl rfl ?_
     refine oA rfl rfl ?_
     refine oN ?_
     refine CW_ret ?_)
  all_goals (
   refine exitQ (.inr rfl) 0 (.cons (.arr rfl rfl rfl rfl (by first | omega | (dsimp only; omega) | (simp; omega) | (simp; done))) (.cons (.tmp rfl rfl) .nil)) ?_ rfl vHn rfl rfl
   first
     | (have h1 : ¬ gdV p c (pointB p l) = 0 := by assumption
        unfold pooV; rw [if_neg h1]; rfl)
     | (unfold pooV; rw [if_pos h0, h0]; rfl))
end Go.Proofs.Ytoiolpgmilobnaa
namespace Go.Proofs.Ytoiolpgmilobnaa
attribute [local irreducible] CW OW QW QOp Con thenP inBlockP AW QX RW
set_option maxRecDepth 10000
set_option linter.unusedSimpArgs false
set_option linter.unusedVariables false
theorem eqPoint_same (a : List Int) (ha : a.length = 3) : ConQ Try.prog [] 20 [.arr a, .arr a] [] (.bool true) := by
  have := eqPoint_con a a ha ha
  simpa using this
theorem law_FnExactPoleOf (p : Int) (c : List Int) (l : List Int) (qlc : c.length = 6) (qll : l.length = 3) : ConQ Try.prog [] 5 [.int p, .arr c, .arr l] [] (.bool true) := by
  have hvl : (pooV p c l).length = 3 := pooV3 p c l
  have hsp := spec_PoleOf_con p c l qlc qll
  have him := impl_PoleOf_con p c l qlc qll
  generalize pooV p c l = vv at *
  generalize gdV p c (pointB p l) = cc at *
  refine conW tab_ok [(0, .int p), (1, .arr c), (2, .arr l)] 0 [] [] Try.func5 rfl rfl rfl rfl rfl rfl rfl rfl rfl ?_
  refine cR ?_
  iterate 2 refine oBox rfl rfl rfl rfl rfl rfl ?_
  refine oA rfl rfl ?_
  refine oN ?_
  refine CW_seq ?_
  refine CW_any (fun i => List.elem i [10, 11]) 12 rfl lateOk (by decide +kernel) (fun hst => ?_)
  refine aP 0 hst rfl rfl (by decide +kernel) (PX_move rfl rfl) rfl rfl ?_
  first | refine aQ 1 hst rfl rfl (by decide +kernel) (QX_of (Lw rfl rfl rfl rfl) NE_load) rfl rfl ?_ | refine aQ 1 hst rfl rfl (by decide +kernel) (QX_of (La rfl rfl rfl rfl rfl) NE_load) rfl rfl ?_
  refine aQ 2 hst rfl rfl (by decide +kernel) (QX_call0 (toConic_con _ qlc) rfl rfl rfl) rfl rfl ?_
  first | refine aQ 3 hst rfl rfl (by decide +kernel) (QX_of (Lw rfl rfl rfl rfl) NE_load) rfl rfl ?_ | refine aQ 3 hst rfl rfl (by decide +kernel) (QX_of (La rfl rfl rfl rfl rfl) NE_load) rfl rfl ?_
  refine aQ 4 hst rfl rfl (by decide +kernel) (QX_call0 (toLine_con _ qll) rfl rfl rfl) rfl rfl ?_
  refine aQ 5 hst rfl rfl (by decide +kernel) (QX_call0 (hsp) rfl rfl rfl) rfl rfl ?_
  refine aP 6 hst rfl rfl (by decide +kernel) (PX_move rfl rfl) rfl rfl ?_
  refine aExt 7 hst rfl rfl (by decide +kernel) rfl rfl rfl rfl ?_
  refine aExt 8 hst rfl rfl (by decide +kernel) rfl rfl rfl rfl ?_
  refine AW_one (i := 9) (by decide +kernel) ?_
  refine gAlloc rfl rfl rfl rfl rfl rfl rfl rfl rfl ?_
  refine AW_last [10, 11] rfl (by decide +kernel) rfl ?_
  first | refine oSw rfl rfl rfl rfl ?_ | refine oSa rfl rfl rfl rfl ?_
  refine oA rfl rfl ?_
  refine OW_nil (npN ?_)
  all_goals with_reducible refine tN ?_
  all_goals (
   refine CW_seq ?_
   refine CW_any (fun i => List.elem i [10, 11]) 12 rfl lateOk (by decide +kernel) (fun hst => ?_)
   refine aP 0 hst rfl rfl (by decide +kernel) (PX_move rfl rfl) rfl rfl ?_
   first | refine aQ 1 hst rfl rfl (by decide +kernel) (QX_of (Lw rfl rfl rfl rfl) NE_load) rfl rfl ?_ | refine aQ 1 hst rfl rfl (by decide +kernel) (QX_of (La rfl rfl rfl rfl rfl) NE_load) rfl rfl ?_
   refine aQ 2 hst rfl rfl (by decide +kernel) (QX_call0 (toConic_con _ qlc) rfl rfl rfl) rfl rfl ?_
   first | refine aQ 3 hst rfl rfl (by decide +kernel) (QX_of (Lw rfl rfl rfl rfl) NE_load) rfl rfl ?_ | refine aQ 3 hst rfl rfl (by decide +kernel) (QX_of (La rfl rfl rfl rfl rfl) NE_load) rfl rfl ?_
   refine aQ 4 hst rfl rfl (by decide +kernel) (QX_call0 (toLine_con _ qll) rfl rfl rfl) rfl rfl ?_
   refine aQ 5 hst rfl rfl (by decide +kernel) (QX_call0 (him) rfl rfl rfl) rfl rfl ?_
   refine aP 6 hst rfl rfl (by decide +kernel) (PX_move rfl rfl) rfl rfl ?_
   refine aExt 7 hst rfl rfl (by decide +kernel) rfl rfl rfl rfl ?_
   refine aExt 8 hst rfl rfl (by decide +kernel) rfl rfl rfl rfl ?_
   refine AW_one (i := 9) (by decide +kernel) ?_
   refine gAlloc rfl rfl rfl rfl rfl rfl rfl rfl rfl ?_
   refine AW_last [10, 11] rfl (by decide +kernel) rfl ?_
   first | refine oSw rfl rfl rfl rfl ?_ | refine oSa rfl rfl rfl rfl ?_
   refine oA rfl rfl ?_
   refine OW_nil (npN ?_)
   all_goals with_reducible refine tN ?_
   all_goals (
    refine CW_seq ?_
    refine cR ?_
    first | refine oQ (Lw rfl rfl rfl rfl) rfl rfl ?_ | refine oQ (La rfl rfl rfl rfl rfl) rfl rfl ?_
    first | refine oQ (Lw rfl rfl rfl rfl) rfl rfl ?_ | refine oQ (La rfl rfl rfl rfl rfl) rfl rfl ?_
    refine oQ (Q_call0 (eqPoint_same vv hvl) rfl rfl rfl) rfl rfl ?_
    refine oQ (Q_not rfl) rfl rfl ?_
    refine oM rfl rfl ?_
    all_goals first | refine oT rfl rfl ?_ | refine o1 rfl rfl rfl ?_ | refine o0 rfl rfl rfl ?_ | refine ogP1 rfl rfl rfl (fun hg => ?_) (fun hg => ?_) | refine ogP0 rfl rfl rfl (fun hg => ?_) (fun hg => ?_)
    all_goals try simp only [s1, s2, s3, s4, s5, s6, s7, s8, s9, s10, s11, s12] at hg
    all_goals first | (refine oM rfl rfl ?_) | skip
    all_goals first | refine oT rfl rfl ?_ | refine o1 rfl rfl rfl ?_ | refine o0 rfl rfl rfl ?_ | refine ogP1 rfl rfl rfl (fun hg => ?_) (fun hg => ?_) | refine ogP0 rfl rfl rfl (fun hg => ?_) (fun hg => ?_)
    all_goals try simp only [s1, s2, s3, s4, s5, s6, s7, s8, s9, s10, s11, s12] at hg
    all_goals first | (refine oM rfl rfl ?_) | skip
    all_goals first | refine oT rfl rfl ?_ | refine o1 rfl rfl rfl ?_ | refine o0 rfl rfl rfl ?_ | refine ogP1 rfl rfl rfl (fun hg => ?_) (fun hg => ?_) | refine ogP0 rfl rfl rfl (fun hg => ?_) (fun hg => ?_)
    all_goals try simp only [s1, s2, s3, s4, s5, s6, s7, s8, s9, s10, s11, s12] at hg
    all_goals first | (refine oQ (Q_bin rfl rfl rfl) rfl rfl ?_) | skip
    all_goals first | refine oQ (Q_pick_t rfl (by with_reducible rfl) rfl rfl) rfl rfl ?_ | refine oQ (Q_pick_f rfl (by with_reducible rfl) rfl rfl) rfl rfl ?_
    all_goals refine oN ?_
    all_goals (
     first | refine cT rfl ?_ | refine cF rfl ?_ | refine CW_cond rfl (fun hc => ?_) (fun hc => ?_)
     all_goals try simp only [s1, s2, s3, s4, s5, s6, s7, s8, s9, s10, s11, s12] at hc
     all_goals try (exfalso; first | omega | (simp at hc; done); done)
     all_goals first
       | (
        refine CW_skip ?_)
       | (
        refine cR ?_
        refine oA rfl rfl ?_
        refine oN ?_
        refine CW_ret ?_))
    all_goals first
      | with_reducible refine tR ?_
      | with_reducible refine tE ?_
      | (
       with_reducible refine tN ?_
       refine cR ?_
       refine oA rfl rfl ?_
       refine oN ?_
       refine CW_ret ?_)))
  all_goals (
   first | ((refine exitQ (.inr rfl) 0 (.cons (.tmp rfl rfl) .nil) ?_ rfl vHn rfl rfl); rfl) | (exfalso; simp at hg; done) | (exfalso; simp_all; done))
end Go.Proofs.Ytoiolpgmilobnaa
