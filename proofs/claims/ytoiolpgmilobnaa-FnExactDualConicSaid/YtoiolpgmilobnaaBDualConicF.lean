/- What the last text of DualConic needs, part 6: contracts of functions and plain mathematics. No conditions beyond those each theorem states. -/
import Derived.Test.YtoiolpgmilobnaaBDualConicE
namespace Go.Proofs.Ytoiolpgmilobnaa
set_option maxRecDepth 10000
set_option linter.unusedSimpArgs false
set_option linter.unusedVariables false
set_option maxHeartbeats 4000000
def minT (p : Int) (M : List Int) (n : Nat) : List Int := (List.range n).map fun t => mn p M (t / 3) (t % 3)
theorem minT_len (p : Int) (M : List Int) (n : Nat) : (minT p M n).length = n := by simp [minT]
attribute [local simp] minT_len
attribute [local irreducible] CW OW QW QOp Con thenP inBlockP AW QX RW AX
theorem minors_con9 (p a0 a1 a2 a3 a4 a5 a6 a7 a8 : Int) (hp : primeB p = true) (hb : ∀ x ∈ [a0, a1, a2, a3, a4, a5, a6, a7, a8], 0 ≤ x ∧ x ≤ 12) : Con Try.prog [] 87 [.int p, .slice 0 0 3 3] [(0, .vals 103 [.slice 1 0 3 3, .slice 2 0 3 3, .slice 3 0 3 3]), (1, .ints 2 [a0, a1, a2]), (2, .ints 2 [a3, a4, a5]), (3, .ints 2 [a6, a7, a8])] (fun v H' => ∃ (k : Nat) (sp : List Int), 9 ≤ k ∧ k ≤ 9 + sp.length ∧ v = .slice 4 0 9 k ∧ H' = [(0, .vals 103 [.slice 1 0 3 3, .slice 2 0 3 3, .slice 3 0 3 3]), (1, .ints 2 [a0, a1, a2]), (2, .ints 2 [a3, a4, a5]), (3, .ints 2 [a6, a7, a8]), (4, .ints 2 (minT p [a0, a1, a2, a3, a4, a5, a6, a7, a8] 9 ++ sp))]) := by
  have hpb := prime_bd hp
  simp only [List.mem_cons, List.not_mem_nil, or_false, forall_eq_or_imp, forall_eq] at hb
  obtain ⟨h0, h1, h2, h3, h4, h5, h6, h7, h8⟩ := hb
  refine conW tab_ok [(0, .int p), (1, .slice 0 0 3 3)] 4 [0, 1, 2, 3] [0, 1, 2, 3] Try.func87 rfl rfl rfl rfl rfl rfl rfl rfl rfl ?_
  refine cR ?_
  refine oA rfl rfl ?_
  refine oN ?_
  refine cR ?_
  refine oBsl (zl := []) (r := []) rfl rfl rfl rfl (.inl ⟨rfl, rfl⟩) rfl rfl rfl rfl rfl rfl ?_
  refine oA rfl rfl ?_
  refine oN ?_
  refine CW_seq ?_
  refine cR ?_
  refine oA rfl rfl ?_
  refine oN ?_
  refine CW_block ?_
  refine CW_loop (ι := Nat × Nat × List Int) (fun x => x.1 ≤ 3 ∧ x.1 * 3 ≤ x.2.1 ∧ x.2.1 ≤ x.1 * 3 + x.2.2.length) (fun x => ⟨[(0, .int p), (1, .slice 0 0 3 3), (5, .slice 4 0 (x.1 * 3) x.2.1), (6, .int x.1)], [(0, .vals 103 [.slice 1 0 3 3, .slice 2 0 3 3, .slice 3 0 3 3]), (1, .ints 2 [a0, a1, a2]), (2, .ints 2 [a3, a4, a5]), (3, .ints 2 [a6, a7, a8]), (4, .ints 2 (minT p [a0, a1, a2, a3, a4, a5, a6, a7, a8] (x.1 * 3) ++ x.2.2))], 5⟩) (fun x => 3 - x.1) (0, 0, []) ?_ ?_ ?_
  · exact ⟨Nat.zero_le _, Nat.le_refl _, Nat.le_refl _⟩
  · refine View.mk' [] rfl rfl rfl ?_ ?_
    repeat' first | exact vFn | refine vFc rfl ?_ | exact vHn | refine vHc rfl ?_ | refine vFc (congrArg (fun z => some (V.int z)) ?_) ?_ | refine vHc (congrArg (fun z => some (Blk.ints _ z)) ?_) ?_ | refine vFc (congrArg (fun z => some (V.bool z)) ?_) ?_ | refine vFs rfl rfl ?_ ?_
  rintro ⟨i, kk, sp⟩ ⟨hi, hi1, hi2⟩
  dsimp only at hi hi1 hi2 ⊢
  have hii : i = 0 ∨ i = 1 ∨ i = 2 ∨ i = 3 := by omega
  obtain ⟨i2, hi3⟩ : ∃ z, z = i := ⟨i, rfl⟩
  rcases hii with rfl | rfl | rfl | rfl
  all_goals (
   refine CW_seq ?_
   refine cR ?_
   refine oM rfl rfl ?_
   refine oQ (Q_bin rfl rfl rfl) rfl rfl ?_
   refine oN ?_
   first | refine cT rfl ?_ | refine cF rfl ?_ | refine CW_cond rfl (fun hc => ?_) (fun hc => ?_)
   all_goals try simp only [s1, s2, s3, s4, s5, s6, s7, s8, s9, s10, s11, s12] at hc
   all_goals try (exfalso; first | omega | (simp at hc; done); done)
   all_goals first
     | (
      refine CW_skip ?_)
     | (
      refine CW_exit ?_)
   all_goals first
     | with_reducible refine tR ?_
     | with_reducible refine tE ?_
     | (
      with_reducible refine tN ?_
      refine CW_seq ?_
      refine CW_block ?_
      refine cR ?_
      refine oA rfl rfl ?_
      refine oN ?_
      refine CW_block ?_
      refine CW_loop (ι := Nat × Nat × List Int) (fun x => x.1 ≤ 3 ∧ i2 * 3 + x.1 ≤ x.2.1 ∧ x.2.1 ≤ i2 * 3 + x.1 + x.2.2.length) (fun x => ⟨[(0, .int p), (1, .slice 0 0 3 3), (5, .slice 4 0 (i2 * 3 + x.1) x.2.1), (6, .int (i2 : Int)), (7, .int x.1)], [(0, .vals 103 [.slice 1 0 3 3, .slice 2 0 3 3, .slice 3 0 3 3]), (1, .ints 2 [a0, a1, a2]), (2, .ints 2 [a3, a4, a5]), (3, .ints 2 [a6, a7, a8]), (4, .ints 2 (minT p [a0, a1, a2, a3, a4, a5, a6, a7, a8] (i2 * 3 + x.1) ++ x.2.2))], 5⟩) (fun x => 3 - x.1) (0, kk, sp) ?_ ?_ ?_
      all_goals subst hi3
      · exact ⟨Nat.zero_le _, by omega, by dsimp only; omega⟩
      · refine View.mk' [] rfl rfl rfl ?_ ?_
        repeat' first | exact vFn | refine vFc rfl ?_ | exact vHn | refine vHc rfl ?_ | refine vFc (congrArg (fun z => some (V.int z)) ?_) ?_ | refine vHc (congrArg (fun z => some (Blk.ints _ z)) ?_) ?_ | refine vFc (congrArg (fun z => some (V.bool z)) ?_) ?_ | refine vFs rfl rfl ?_ ?_
      rintro ⟨k, kc, sc⟩ ⟨hk, hk1, hk2⟩
      dsimp only at hk hk1 hk2 ⊢
      have hkk : k = 0 ∨ k = 1 ∨ k = 2 ∨ k = 3 := by omega
      rcases hkk with rfl | rfl | rfl | rfl
      all_goals (
       refine CW_seq ?_
       refine cR ?_
       refine oM rfl rfl ?_
       refine oQ (Q_bin rfl rfl rfl) rfl rfl ?_
       refine oN ?_
       first | refine cT rfl ?_ | refine cF rfl ?_ | refine CW_cond rfl (fun hc => ?_) (fun hc => ?_)
       all_goals try simp only [s1, s2, s3, s4, s5, s6, s7, s8, s9, s10, s11, s12] at hc
       all_goals try (exfalso; first | omega | (simp at hc; done); done)
       all_goals first
         | (
          refine CW_skip ?_)
         | (
          refine CW_exit ?_)
       all_goals first
         | with_reducible refine tR ?_
         | with_reducible refine tE ?_
         | (
          with_reducible refine tN ?_
          refine CW_seq ?_
          refine CW_block ?_
          refine cR ?_
          refine oM rfl rfl ?_
          first | refine oQ (Q_binu rfl rfl rfl (by omega)) rfl rfl ?_ | refine oQ (Q_bin rfl rfl rfl) rfl rfl ?_
          refine oQ (Q_nrem (b := 3) rfl rfl (by decide)) rfl rfl ?_
          refine oM rfl rfl ?_
          first | refine oQ (Q_binu rfl rfl rfl (by omega)) rfl rfl ?_ | refine oQ (Q_bin rfl rfl rfl) rfl rfl ?_
          refine oQ (Q_nrem (b := 3) rfl rfl (by decide)) rfl rfl ?_
          refine oM rfl rfl ?_
          first | refine oQ (Q_binu rfl rfl rfl (by omega)) rfl rfl ?_ | refine oQ (Q_bin rfl rfl rfl) rfl rfl ?_
          refine oQ (Q_nrem (b := 3) rfl rfl (by decide)) rfl rfl ?_
          refine oM rfl rfl ?_
          first | refine oQ (Q_binu rfl rfl rfl (by omega)) rfl rfl ?_ | refine oQ (Q_bin rfl rfl rfl) rfl rfl ?_
          refine oQ (Q_nrem (b := 3) rfl rfl (by decide)) rfl rfl ?_
          iterate 4 refine oA rfl rfl ?_
          refine oN ?_
          refine CW_any (fun i => List.elem i [35, 36]) 37 rfl lateOk (by decide +kernel) (fun hst => ?_)
          refine aP 0 hst rfl rfl (by decide +kernel) (PX_move rfl rfl) rfl rfl ?_
          refine aP 1 hst rfl rfl (by decide +kernel) (PX_move rfl rfl) rfl rfl ?_
          refine aP 2 hst rfl rfl (by decide +kernel) (PX_move rfl rfl) rfl rfl ?_
          refine aP 3 hst rfl rfl (by decide +kernel) (PX_move rfl rfl) rfl rfl ?_
          refine aQ 4 hst rfl rfl (by decide +kernel) (QX_of (Is0 rfl rfl rfl rfl rfl rfl (by decide)) NE_ix) rfl rfl ?_
          refine aQ 5 hst rfl rfl (by decide +kernel) (QX_of (Q_ldv rfl rfl rfl rfl rfl rfl) NE_load) rfl rfl ?_
          refine aP 6 hst rfl rfl (by decide +kernel) (PX_move rfl rfl) rfl rfl ?_
          refine aQ 7 hst rfl rfl (by decide +kernel) (QX_of (Is0 rfl rfl rfl rfl rfl rfl (by decide)) NE_ix) rfl rfl ?_
          first | refine aQ 8 hst rfl rfl (by decide +kernel) (QX_of (Q_ldc rfl rfl rfl rfl rfl) NE_load) rfl rfl ?_ | refine aQ 8 hst rfl rfl (by decide +kernel) (QX_of (Ld rfl rfl rfl rfl) NE_load) rfl rfl ?_
          refine aP 9 hst rfl rfl (by decide +kernel) (PX_move rfl rfl) rfl rfl ?_
          refine aP 10 hst rfl rfl (by decide +kernel) (PX_move rfl rfl) rfl rfl ?_
          refine aQ 11 hst rfl rfl (by decide +kernel) (QX_of (Is0 rfl rfl rfl rfl rfl rfl (by decide)) NE_ix) rfl rfl ?_
          refine aQ 12 hst rfl rfl (by decide +kernel) (QX_of (Q_ldv rfl rfl rfl rfl rfl rfl) NE_load) rfl rfl ?_
          refine aP 13 hst rfl rfl (by decide +kernel) (PX_move rfl rfl) rfl rfl ?_
          refine aQ 14 hst rfl rfl (by decide +kernel) (QX_of (Is0 rfl rfl rfl rfl rfl rfl (by decide)) NE_ix) rfl rfl ?_
          first | refine aQ 15 hst rfl rfl (by decide +kernel) (QX_of (Q_ldc rfl rfl rfl rfl rfl) NE_load) rfl rfl ?_ | refine aQ 15 hst rfl rfl (by decide +kernel) (QX_of (Ld rfl rfl rfl rfl) NE_load) rfl rfl ?_
          refine aMulN 16 hst rfl rfl (by decide +kernel) 12 12 rfl rfl (by omega) (by omega) (by decide) rfl (fun z49 hz49 hl49 hu49 => ?_)
          refine aP 17 hst rfl rfl (by decide +kernel) (PX_move rfl rfl) rfl rfl ?_
          refine aP 18 hst rfl rfl (by decide +kernel) (PX_move rfl rfl) rfl rfl ?_
          refine aQ 19 hst rfl rfl (by decide +kernel) (QX_of (Is0 rfl rfl rfl rfl rfl rfl (by decide)) NE_ix) rfl rfl ?_
          refine aQ 20 hst rfl rfl (by decide +kernel) (QX_of (Q_ldv rfl rfl rfl rfl rfl rfl) NE_load) rfl rfl ?_
          refine aP 21 hst rfl rfl (by decide +kernel) (PX_move rfl rfl) rfl rfl ?_
          refine aQ 22 hst rfl rfl (by decide +kernel) (QX_of (Is0 rfl rfl rfl rfl rfl rfl (by decide)) NE_ix) rfl rfl ?_
          first | refine aQ 23 hst rfl rfl (by decide +kernel) (QX_of (Q_ldc rfl rfl rfl rfl rfl) NE_load) rfl rfl ?_ | refine aQ 23 hst rfl rfl (by decide +kernel) (QX_of (Ld rfl rfl rfl rfl) NE_load) rfl rfl ?_
          refine aP 24 hst rfl rfl (by decide +kernel) (PX_move rfl rfl) rfl rfl ?_
          refine aP 25 hst rfl rfl (by decide +kernel) (PX_move rfl rfl) rfl rfl ?_
          refine aQ 26 hst rfl rfl (by decide +kernel) (QX_of (Is0 rfl rfl rfl rfl rfl rfl (by decide)) NE_ix) rfl rfl ?_
          refine aQ 27 hst rfl rfl (by decide +kernel) (QX_of (Q_ldv rfl rfl rfl rfl rfl rfl) NE_load) rfl rfl ?_
          refine aP 28 hst rfl rfl (by decide +kernel) (PX_move rfl rfl) rfl rfl ?_
          refine aQ 29 hst rfl rfl (by decide +kernel) (QX_of (Is0 rfl rfl rfl rfl rfl rfl (by decide)) NE_ix) rfl rfl ?_
          first | refine aQ 30 hst rfl rfl (by decide +kernel) (QX_of (Q_ldc rfl rfl rfl rfl rfl) NE_load) rfl rfl ?_ | refine aQ 30 hst rfl rfl (by decide +kernel) (QX_of (Ld rfl rfl rfl rfl) NE_load) rfl rfl ?_
          refine aMulN 31 hst rfl rfl (by decide +kernel) 12 12 rfl rfl (by omega) (by omega) (by decide) rfl (fun z64 hz64 hl64 hu64 => ?_)
          refine aQ 32 hst rfl rfl (by decide +kernel) (QX_of (Q_binu rfl rfl rfl (by omega)) NE_bin) rfl rfl ?_
          subst hz49 hz64
          refine aQ 33 hst rfl rfl (by decide +kernel) (QX_call0 (l01Mod_con _ p (by omega) (by omega)) rfl rfl rfl) rfl rfl ?_
          refine AW_one (i := 34) (by decide +kernel) ?_
          refine gBsl (zl := []) (r := [_]) rfl rfl rfl rfl rfl rfl (.inl ⟨rfl, rfl⟩) rfl rfl rfl rfl rfl rfl ?_
          refine AW_last [35, 36] rfl (by decide +kernel) rfl ?_
          refine oApp (sz := 1) (by_ := 8) rfl rfl rfl rfl rfl rfl ⟨by decide, rfl, .inl ⟨rfl, rfl⟩⟩ rfl rfl rfl rfl rfl rfl (by rw [minT_len, Nat.mul_one]) rfl (by omega) (by omega) (by omega) (by omega) rfl rfl (fun k2 sp2 g1 g2 => ?_)
          refine oA rfl rfl ?_
          refine OW_nil (npN ?_)
          all_goals first | with_reducible refine bN ?_ | with_reducible refine bE ?_ | with_reducible refine bR ?_ | refine bX rfl ?_
          all_goals with_reducible refine tN ?_
          all_goals (
           refine CW_region ?_
           refine oM rfl rfl ?_
           first | refine oQ (Q_binu rfl rfl rfl (by omega)) rfl rfl ?_ | refine oQ (Q_bin rfl rfl rfl) rfl rfl ?_
           refine oA rfl rfl ?_
           refine OW_nil ?_))
       all_goals first
         | with_reducible refine tR ?_
         | with_reducible refine tE ?_
         | (
          with_reducible refine tN ?_
          first
            | (
             refine ⟨(0 + 1, k2, sp2), ?_, ?_, View.mk' [(4, 6)] rfl rfl rfl ?_ ?_⟩
             · dsimp only
               exact ⟨by omega, by omega, by omega⟩
             · (dsimp only; omega)
             all_goals (repeat' first | exact vFn | refine vFc rfl ?_ | exact vHn | refine vHc rfl ?_ | refine vFc (congrArg (fun z => some (V.int z)) ?_) ?_ | refine vHc (congrArg (fun z => some (Blk.ints _ z)) ?_) ?_ | refine vFc (congrArg (fun z => some (V.bool z)) ?_) ?_ | refine vFs rfl rfl ?_ ?_)
             all_goals first | rfl | omega
             done)
            | (
             refine ⟨(1 + 1, k2, sp2), ?_, ?_, View.mk' [(4, 6)] rfl rfl rfl ?_ ?_⟩
             · dsimp only
               exact ⟨by omega, by omega, by omega⟩
             · (dsimp only; omega)
             all_goals (repeat' first | exact vFn | refine vFc rfl ?_ | exact vHn | refine vHc rfl ?_ | refine vFc (congrArg (fun z => some (V.int z)) ?_) ?_ | refine vHc (congrArg (fun z => some (Blk.ints _ z)) ?_) ?_ | refine vFc (congrArg (fun z => some (V.bool z)) ?_) ?_ | refine vFs rfl rfl ?_ ?_)
             all_goals first | rfl | omega
             done)
            | (
             refine ⟨(2 + 1, k2, sp2), ?_, ?_, View.mk' [(4, 6)] rfl rfl rfl ?_ ?_⟩
             · dsimp only
               exact ⟨by omega, by omega, by omega⟩
             · (dsimp only; omega)
             all_goals (repeat' first | exact vFn | refine vFc rfl ?_ | exact vHn | refine vHc rfl ?_ | refine vFc (congrArg (fun z => some (V.int z)) ?_) ?_ | refine vHc (congrArg (fun z => some (Blk.ints _ z)) ?_) ?_ | refine vFc (congrArg (fun z => some (V.bool z)) ?_) ?_ | refine vFs rfl rfl ?_ ?_)
             all_goals first | rfl | omega
             done)))
      all_goals first | with_reducible refine bN ?_ | with_reducible refine bE ?_ | with_reducible refine bR ?_ | refine bX rfl ?_
      all_goals first | with_reducible refine bN ?_ | with_reducible refine bE ?_ | with_reducible refine bR ?_ | refine bX rfl ?_
      all_goals with_reducible refine tN ?_
      all_goals (
       refine CW_region ?_
       refine oM rfl rfl ?_
       first | refine oQ (Q_binu rfl rfl rfl (by omega)) rfl rfl ?_ | refine oQ (Q_bin rfl rfl rfl) rfl rfl ?_
       refine oA rfl rfl ?_
       refine OW_nil ?_))
   all_goals first
     | with_reducible refine tR ?_
     | with_reducible refine tE ?_
     | (
      with_reducible refine tN ?_
      first
        | (
         refine ⟨(0 + 1, kc, sc), ?_, ?_, View.mk' [] rfl rfl rfl ?_ ?_⟩
         · dsimp only
           exact ⟨by omega, by omega, by omega⟩
         · (dsimp only; omega)
         all_goals (repeat' first | exact vFn | refine vFc rfl ?_ | exact vHn | refine vHc rfl ?_ | refine vFc (congrArg (fun z => some (V.int z)) ?_) ?_ | refine vHc (congrArg (fun z => some (Blk.ints _ z)) ?_) ?_ | refine vFc (congrArg (fun z => some (V.bool z)) ?_) ?_ | refine vFs rfl rfl ?_ ?_)
         all_goals first | rfl | omega
         done)
        | (
         refine ⟨(1 + 1, kc, sc), ?_, ?_, View.mk' [] rfl rfl rfl ?_ ?_⟩
         · dsimp only
           exact ⟨by omega, by omega, by omega⟩
         · (dsimp only; omega)
         all_goals (repeat' first | exact vFn | refine vFc rfl ?_ | exact vHn | refine vHc rfl ?_ | refine vFc (congrArg (fun z => some (V.int z)) ?_) ?_ | refine vHc (congrArg (fun z => some (Blk.ints _ z)) ?_) ?_ | refine vFc (congrArg (fun z => some (V.bool z)) ?_) ?_ | refine vFs rfl rfl ?_ ?_)
         all_goals first | rfl | omega
         done)
        | (
         refine ⟨(2 + 1, kc, sc), ?_, ?_, View.mk' [] rfl rfl rfl ?_ ?_⟩
         · dsimp only
           exact ⟨by omega, by omega, by omega⟩
         · (dsimp only; omega)
         all_goals (repeat' first | exact vFn | refine vFc rfl ?_ | exact vHn | refine vHc rfl ?_ | refine vFc (congrArg (fun z => some (V.int z)) ?_) ?_ | refine vHc (congrArg (fun z => some (Blk.ints _ z)) ?_) ?_ | refine vFc (congrArg (fun z => some (V.bool z)) ?_) ?_ | refine vFs rfl rfl ?_ ?_)
         all_goals first | rfl | omega
         done)))
  all_goals first | with_reducible refine bN ?_ | with_reducible refine bE ?_ | with_reducible refine bR ?_ | refine bX rfl ?_
  all_goals with_reducible refine tN ?_
  all_goals (
   refine cR ?_
   refine oM rfl rfl ?_
   refine oA rfl rfl ?_
   refine oN ?_
   refine CW_ret ?_)
  all_goals (
   first
     | (exfalso; omega)
     | exact exitH (r0 := .slice 4 0 9 kk) (H0 := [(0, .vals 103 [.slice 1 0 3 3, .slice 2 0 3 3, .slice 3 0 3 3]), (1, .ints 2 [a0, a1, a2]), (2, .ints 2 [a3, a4, a5]), (3, .ints 2 [a6, a7, a8]), (4, .ints 2 (minT p [a0, a1, a2, a3, a4, a5, a6, a7, a8] 9 ++ sp))]) (.inr rfl) [] 5 (.cons (.tmp rfl rfl) .nil) rfl rfl rfl (vHc rfl (vHc rfl (vHc rfl (vHc rfl (vHc rfl vHn))))) rfl rfl ⟨kk, sp, by omega, by omega, rfl, rfl⟩)
end Go.Proofs.Ytoiolpgmilobnaa
namespace Go.Proofs.Ytoiolpgmilobnaa
set_option maxRecDepth 10000
set_option linter.unusedSimpArgs false
set_option linter.unusedVariables false
set_option maxHeartbeats 4000000
attribute [local irreducible] CW OW QW QOp Con thenP inBlockP AW QX RW AX
theorem reduced33_con (p : Int) (t : TypeId) (M : List Int) (k c0 c1 c2 : Nat) (hM : M.length = 9) (hp : primeB p = true) (hb : ∀ j, 0 ≤ M.getD j 0 ∧ M.getD j 0 < p) : Con Try.prog [] 85 [.int p, .slice 0 0 3 k] [(0, .vals 103 [.slice 1 0 3 c0, .slice 1 3 3 c1, .slice 1 6 3 c2]), (1, .ints t M)] (fun v H' => ∃ (kO : Nat) (A : Nat → List Int) (K : Nat → Nat) (S : Nat → List Int), v = .slice 5 0 (rkI p (fun i => (M.drop (i * 3)).take 3) 3 3) kO ∧ rdB p A 3 3 ∧ (∃ c, c ≤ 3 ∧ (rkI p (fun i => (M.drop (i * 3)).take 3) 3 3 = 3 ∨ c = 3) ∧ RedI p (fun i => (M.drop (i * 3)).take 3) 3 3 A (rkI p (fun i => (M.drop (i * 3)).take 3) 3 3) c) ∧ H' = [(0, .vals 103 [.slice 1 0 3 c0, .slice 1 3 3 c1, .slice 1 6 3 c2]), (1, .ints t M), (2, .ints 2 ((A 0) ++ (S 0))), (3, .ints 2 ((A 1) ++ (S 1))), (4, .ints 2 ((A 2) ++ (S 2))), (5, .vals 103 ([.slice 2 0 3 (K 0), .slice 3 0 3 (K 1), .slice 4 0 3 (K 2)] ++ List.replicate (kO - 3) .bot))]) := by
  have hpb := prime_bd hp
  have cl := fun (o kk : Nat) (h : o + 3 ≤ M.length) => clone64_con t M o 3 kk h (by decide)
  have hM0 : rdB p (fun i => (M.drop (i * 3)).take 3) 3 3 := fun i hi => ⟨by simp; omega, fun j => by
    by_cases hj : j < 3
    · have := hb (i * 3 + j)
      simpa [List.getD, List.getElem?_take, hj] using this
    · have e : ((M.drop (i * 3)).take 3).getD j 0 = 0 := by simp [List.getD, List.getElem?_take, hj]
      rw [e]; omega⟩
  refine conW tab_ok [(0, .int p), (1, .slice 0 0 3 k)] 2 [0, 1] [0, 1] Try.func85 rfl rfl rfl rfl rfl rfl rfl rfl rfl ?_
  refine cR ?_
  refine oA rfl rfl ?_
  refine oN ?_
  refine cR ?_
  refine oBslv (r := []) rfl rfl rfl rfl rfl rfl rfl rfl rfl rfl rfl rfl rfl ?_
  refine oA rfl rfl ?_
  refine oN ?_
  refine CW_seq ?_
  refine cR ?_
  refine oM rfl rfl ?_
  first | refine oQ (Q_len rfl rfl rfl rfl) rfl rfl ?_ | refine oQ (Q_len0 rfl rfl rfl rfl) rfl rfl ?_
  refine oM rfl rfl ?_
  refine oN ?_
  refine CW_block ?_
  refine CW_rounds 4 ?_
  refine RW_succ ?_
  refine cR ?_
  refine oQ (Q_bin rfl rfl rfl) rfl rfl ?_
  refine oN ?_
  refine CW_seq ?_
  first | refine cT rfl ?_ | refine cF rfl ?_ | refine CW_cond rfl (fun hc => ?_) (fun hc => ?_)
  all_goals try simp only [s1, s2, s3, s4, s5, s6, s7, s8, s9, s10, s11, s12] at hc
  all_goals try (exfalso; first | omega | (simp at hc; done); done)
  all_goals first
    | (
     refine CW_skip ?_)
    | (
     refine CW_exit ?_)
  all_goals first
    | with_reducible refine tR ?_
    | with_reducible refine tE ?_
    | (
     with_reducible refine tN ?_
     refine CW_seq ?_
     refine CW_block ?_
     refine cR ?_
     first | refine oQ (Is0 rfl rfl rfl rfl rfl rfl) rfl rfl ?_ | refine oQ (Is1 rfl rfl rfl rfl rfl rfl) rfl rfl ?_
     refine oQ (Q_ldv rfl rfl rfl rfl rfl rfl) rfl rfl ?_
     refine oA rfl rfl ?_
     refine oN ?_
     refine CW_region ?_
     iterate 2 refine oM rfl rfl ?_
     first
       | (refine oCall (cl 0 c0 (by omega)) [(0, 1)] 2 rfl rfl (Fits.mk' (vHc rfl vHn) rfl rfl (by simp)) rfl rfl ?_; rintro r H1 ⟨k0, u0, ha0, hb0, rfl, rfl⟩; refine ⟨.slice 4 0 3 k0, [(1, .ints t M), (4, .ints 2 ((M.drop 0).take 3 ++ u0))], rfl, rfl, rfl, ?_⟩)
       | (refine oCall (cl 3 c1 (by omega)) [(0, 1)] 2 rfl rfl (Fits.mk' (vHc rfl vHn) rfl rfl (by simp)) rfl rfl ?_; rintro r H1 ⟨k1, u1, ha1, hb1, rfl, rfl⟩; refine ⟨.slice 8 0 3 k1, [(1, .ints t M), (8, .ints 2 ((M.drop 3).take 3 ++ u1))], rfl, rfl, rfl, ?_⟩)
       | (refine oCall (cl 6 c2 (by omega)) [(0, 1)] 2 rfl rfl (Fits.mk' (vHc rfl vHn) rfl rfl (by simp)) rfl rfl ?_; rintro r H1 ⟨k2, u2, ha2, hb2, rfl, rfl⟩; refine ⟨.slice 12 0 3 k2, [(1, .ints t M), (12, .ints 2 ((M.drop 6).take 3 ++ u2))], rfl, rfl, rfl, ?_⟩)
     refine oBslv rfl rfl rfl rfl rfl rfl rfl rfl rfl rfl rfl rfl rfl ?_
     first | refine oAppV (by_ := 24) (A := []) (sp := []) rfl rfl rfl rfl rfl rfl rfl rfl rfl rfl rfl rfl rfl rfl rfl rfl rfl rfl (by first | rfl | omega | (simp; omega)) (by omega) (by omega) rfl rfl (fun kO hkO => ?_) | refine oAppV (by_ := 24) rfl rfl rfl rfl rfl rfl rfl rfl rfl rfl rfl rfl rfl rfl rfl rfl rfl rfl (by first | rfl | omega | (simp; omega)) (by omega) (by omega) rfl rfl (fun kO hkO => ?_)
     refine oA rfl rfl ?_
     refine OW_nil ?_
     all_goals first | with_reducible refine bN ?_ | with_reducible refine bE ?_ | with_reducible refine bR ?_ | refine bX rfl ?_
     all_goals with_reducible refine tN ?_
     all_goals (
      refine CW_region ?_
      first | refine oQ (Q_binu rfl rfl rfl (by omega)) rfl rfl ?_ | refine oQ (Q_bin rfl rfl rfl) rfl rfl ?_
      refine oM rfl rfl ?_
      refine OW_nil ?_))
  all_goals first
    | with_reducible refine tR ?_
    | with_reducible refine tE ?_
    | (
     with_reducible refine tN ?_
     refine RW_succ ?_
     refine cR ?_
     refine oQ (Q_bin rfl rfl rfl) rfl rfl ?_
     refine oN ?_
     refine CW_seq ?_
     first | refine cT rfl ?_ | refine cF rfl ?_ | refine CW_cond rfl (fun hc => ?_) (fun hc => ?_)
     all_goals try simp only [s1, s2, s3, s4, s5, s6, s7, s8, s9, s10, s11, s12] at hc
     all_goals try (exfalso; first | omega | (simp at hc; done); done)
     all_goals first
       | (
        refine CW_skip ?_)
       | (
        refine CW_exit ?_)
     all_goals first
       | with_reducible refine tR ?_
       | with_reducible refine tE ?_
       | (
        with_reducible refine tN ?_
        refine CW_seq ?_
        refine CW_block ?_
        refine cR ?_
        first | refine oQ (Is0 rfl rfl rfl rfl rfl rfl) rfl rfl ?_ | refine oQ (Is1 rfl rfl rfl rfl rfl rfl) rfl rfl ?_
        refine oQ (Q_ldv rfl rfl rfl rfl rfl rfl) rfl rfl ?_
        refine oA rfl rfl ?_
        refine oN ?_
        refine CW_region ?_
        iterate 2 refine oM rfl rfl ?_
        first
          | (refine oCall (cl 0 c0 (by omega)) [(0, 1)] 2 rfl rfl (Fits.mk' (vHc rfl vHn) rfl rfl (by simp)) rfl rfl ?_; rintro r H1 ⟨k0, u0, ha0, hb0, rfl, rfl⟩; refine ⟨.slice 4 0 3 k0, [(1, .ints t M), (4, .ints 2 ((M.drop 0).take 3 ++ u0))], rfl, rfl, rfl, ?_⟩)
          | (refine oCall (cl 3 c1 (by omega)) [(0, 1)] 2 rfl rfl (Fits.mk' (vHc rfl vHn) rfl rfl (by simp)) rfl rfl ?_; rintro r H1 ⟨k1, u1, ha1, hb1, rfl, rfl⟩; refine ⟨.slice 8 0 3 k1, [(1, .ints t M), (8, .ints 2 ((M.drop 3).take 3 ++ u1))], rfl, rfl, rfl, ?_⟩)
          | (refine oCall (cl 6 c2 (by omega)) [(0, 1)] 2 rfl rfl (Fits.mk' (vHc rfl vHn) rfl rfl (by simp)) rfl rfl ?_; rintro r H1 ⟨k2, u2, ha2, hb2, rfl, rfl⟩; refine ⟨.slice 12 0 3 k2, [(1, .ints t M), (12, .ints 2 ((M.drop 6).take 3 ++ u2))], rfl, rfl, rfl, ?_⟩)
        refine oBslv rfl rfl rfl rfl rfl rfl rfl rfl rfl rfl rfl rfl rfl ?_
        first | refine oAppV (by_ := 24) (A := []) (sp := []) rfl rfl rfl rfl rfl rfl rfl rfl rfl rfl rfl rfl rfl rfl rfl rfl rfl rfl (by first | rfl | omega | (simp; omega)) (by omega) (by omega) rfl rfl (fun kO hkO => ?_) | refine oAppV (by_ := 24) rfl rfl rfl rfl rfl rfl rfl rfl rfl rfl rfl rfl rfl rfl rfl rfl rfl rfl (by first | rfl | omega | (simp; omega)) (by omega) (by omega) rfl rfl (fun kO hkO => ?_)
        refine oA rfl rfl ?_
        refine OW_nil ?_
        all_goals first | with_reducible refine bN ?_ | with_reducible refine bE ?_ | with_reducible refine bR ?_ | refine bX rfl ?_
        all_goals with_reducible refine tN ?_
        all_goals (
         refine CW_region ?_
         first | refine oQ (Q_binu rfl rfl rfl (by omega)) rfl rfl ?_ | refine oQ (Q_bin rfl rfl rfl) rfl rfl ?_
         refine oM rfl rfl ?_
         refine OW_nil ?_))
     all_goals first
       | with_reducible refine tR ?_
       | with_reducible refine tE ?_
       | (
        with_reducible refine tN ?_
        refine RW_succ ?_
        refine cR ?_
        refine oQ (Q_bin rfl rfl rfl) rfl rfl ?_
        refine oN ?_
        refine CW_seq ?_
        first | refine cT rfl ?_ | refine cF rfl ?_ | refine CW_cond rfl (fun hc => ?_) (fun hc => ?_)
        all_goals try simp only [s1, s2, s3, s4, s5, s6, s7, s8, s9, s10, s11, s12] at hc
        all_goals try (exfalso; first | omega | (simp at hc; done); done)
        all_goals first
          | (
           refine CW_skip ?_)
          | (
           refine CW_exit ?_)
        all_goals first
          | with_reducible refine tR ?_
          | with_reducible refine tE ?_
          | (
           with_reducible refine tN ?_
           refine CW_seq ?_
           refine CW_block ?_
           refine cR ?_
           first | refine oQ (Is0 rfl rfl rfl rfl rfl rfl) rfl rfl ?_ | refine oQ (Is1 rfl rfl rfl rfl rfl rfl) rfl rfl ?_
           refine oQ (Q_ldv rfl rfl rfl rfl rfl rfl) rfl rfl ?_
           refine oA rfl rfl ?_
           refine oN ?_
           refine CW_region ?_
           iterate 2 refine oM rfl rfl ?_
           first
             | (refine oCall (cl 0 c0 (by omega)) [(0, 1)] 2 rfl rfl (Fits.mk' (vHc rfl vHn) rfl rfl (by simp)) rfl rfl ?_; rintro r H1 ⟨k0, u0, ha0, hb0, rfl, rfl⟩; refine ⟨.slice 4 0 3 k0, [(1, .ints t M), (4, .ints 2 ((M.drop 0).take 3 ++ u0))], rfl, rfl, rfl, ?_⟩)
             | (refine oCall (cl 3 c1 (by omega)) [(0, 1)] 2 rfl rfl (Fits.mk' (vHc rfl vHn) rfl rfl (by simp)) rfl rfl ?_; rintro r H1 ⟨k1, u1, ha1, hb1, rfl, rfl⟩; refine ⟨.slice 8 0 3 k1, [(1, .ints t M), (8, .ints 2 ((M.drop 3).take 3 ++ u1))], rfl, rfl, rfl, ?_⟩)
             | (refine oCall (cl 6 c2 (by omega)) [(0, 1)] 2 rfl rfl (Fits.mk' (vHc rfl vHn) rfl rfl (by simp)) rfl rfl ?_; rintro r H1 ⟨k2, u2, ha2, hb2, rfl, rfl⟩; refine ⟨.slice 12 0 3 k2, [(1, .ints t M), (12, .ints 2 ((M.drop 6).take 3 ++ u2))], rfl, rfl, rfl, ?_⟩)
           refine oBslv rfl rfl rfl rfl rfl rfl rfl rfl rfl rfl rfl rfl rfl ?_
           first | refine oAppV (by_ := 24) (A := []) (sp := []) rfl rfl rfl rfl rfl rfl rfl rfl rfl rfl rfl rfl rfl rfl rfl rfl rfl rfl (by first | rfl | omega | (simp; omega)) (by omega) (by omega) rfl rfl (fun kO hkO => ?_) | refine oAppV (by_ := 24) rfl rfl rfl rfl rfl rfl rfl rfl rfl rfl rfl rfl rfl rfl rfl rfl rfl rfl (by first | rfl | omega | (simp; omega)) (by omega) (by omega) rfl rfl (fun kO hkO => ?_)
           refine oA rfl rfl ?_
           refine OW_nil ?_
           all_goals first | with_reducible refine bN ?_ | with_reducible refine bE ?_ | with_reducible refine bR ?_ | refine bX rfl ?_
           all_goals with_reducible refine tN ?_
           all_goals (
            refine CW_region ?_
            first | refine oQ (Q_binu rfl rfl rfl (by omega)) rfl rfl ?_ | refine oQ (Q_bin rfl rfl rfl) rfl rfl ?_
            refine oM rfl rfl ?_
            refine OW_nil ?_))
        all_goals first
          | with_reducible refine tR ?_
          | with_reducible refine tE ?_
          | (
           with_reducible refine tN ?_
           refine RW_succ ?_
           refine cR ?_
           refine oQ (Q_bin rfl rfl rfl) rfl rfl ?_
           refine oN ?_
           refine CW_seq ?_
           first | refine cT rfl ?_ | refine cF rfl ?_ | refine CW_cond rfl (fun hc => ?_) (fun hc => ?_)
           all_goals try simp only [s1, s2, s3, s4, s5, s6, s7, s8, s9, s10, s11, s12] at hc
           all_goals try (exfalso; first | omega | (simp at hc; done); done)
           all_goals first
             | (
              refine CW_skip ?_)
             | (
              refine CW_exit ?_)
           all_goals first
             | with_reducible refine tR ?_
             | with_reducible refine tE ?_
             | (
              with_reducible refine tN ?_
              refine CW_seq ?_
              refine CW_block ?_
              refine cR ?_
              first | refine oQ (Is0 rfl rfl rfl rfl rfl rfl) rfl rfl ?_ | refine oQ (Is1 rfl rfl rfl rfl rfl rfl) rfl rfl ?_
              refine oQ (Q_ldv rfl rfl rfl rfl rfl rfl) rfl rfl ?_
              refine oA rfl rfl ?_
              refine oN ?_
              refine CW_region ?_
              iterate 2 refine oM rfl rfl ?_
              first
                | (refine oCall (cl 0 c0 (by omega)) [(0, 1)] 2 rfl rfl (Fits.mk' (vHc rfl vHn) rfl rfl (by simp)) rfl rfl ?_; rintro r H1 ⟨k0, u0, ha0, hb0, rfl, rfl⟩; refine ⟨.slice 4 0 3 k0, [(1, .ints t M), (4, .ints 2 ((M.drop 0).take 3 ++ u0))], rfl, rfl, rfl, ?_⟩)
                | (refine oCall (cl 3 c1 (by omega)) [(0, 1)] 2 rfl rfl (Fits.mk' (vHc rfl vHn) rfl rfl (by simp)) rfl rfl ?_; rintro r H1 ⟨k1, u1, ha1, hb1, rfl, rfl⟩; refine ⟨.slice 8 0 3 k1, [(1, .ints t M), (8, .ints 2 ((M.drop 3).take 3 ++ u1))], rfl, rfl, rfl, ?_⟩)
                | (refine oCall (cl 6 c2 (by omega)) [(0, 1)] 2 rfl rfl (Fits.mk' (vHc rfl vHn) rfl rfl (by simp)) rfl rfl ?_; rintro r H1 ⟨k2, u2, ha2, hb2, rfl, rfl⟩; refine ⟨.slice 12 0 3 k2, [(1, .ints t M), (12, .ints 2 ((M.drop 6).take 3 ++ u2))], rfl, rfl, rfl, ?_⟩)
              refine oBslv rfl rfl rfl rfl rfl rfl rfl rfl rfl rfl rfl rfl rfl ?_
              first | refine oAppV (by_ := 24) (A := []) (sp := []) rfl rfl rfl rfl rfl rfl rfl rfl rfl rfl rfl rfl rfl rfl rfl rfl rfl rfl (by first | rfl | omega | (simp; omega)) (by omega) (by omega) rfl rfl (fun kO hkO => ?_) | refine oAppV (by_ := 24) rfl rfl rfl rfl rfl rfl rfl rfl rfl rfl rfl rfl rfl rfl rfl rfl rfl rfl (by first | rfl | omega | (simp; omega)) (by omega) (by omega) rfl rfl (fun kO hkO => ?_)
              refine oA rfl rfl ?_
              refine OW_nil ?_
              all_goals first | with_reducible refine bN ?_ | with_reducible refine bE ?_ | with_reducible refine bR ?_ | refine bX rfl ?_
              all_goals with_reducible refine tN ?_
              all_goals (
               refine CW_region ?_
               first | refine oQ (Q_binu rfl rfl rfl (by omega)) rfl rfl ?_ | refine oQ (Q_bin rfl rfl rfl) rfl rfl ?_
               refine oM rfl rfl ?_
               refine OW_nil ?_))
           all_goals first
             | with_reducible refine tR ?_
             | with_reducible refine tE ?_
             | (
              with_reducible refine tN ?_
              exfalso; first | omega | (simp at hc; done) | (simp_all; done)))))
  all_goals first | with_reducible refine bN ?_ | with_reducible refine bE ?_ | with_reducible refine bR ?_ | refine bX rfl ?_
  all_goals with_reducible refine tN ?_
  all_goals (
   refine cR ?_
   refine oA rfl rfl ?_
   refine oN ?_
   refine CW_seq ?_
   refine cR ?_
   refine oA rfl rfl ?_
   refine oN ?_
   refine CW_block ?_
   refine CW_loop (ι := RS) (fun x => x.cnt ≤ 3 ∧ x.c ≤ 3 ∧ x.cnt ≤ x.c ∧ rdB p x.A 3 3 ∧ RedI p (fun i => (M.drop (i * 3)).take 3) 3 3 x.A x.cnt x.c) (fun x => ⟨[(0, .int p), (5, .slice 5 0 3 kO), (8, .int x.cnt), (9, .int x.c)], [(0, .vals 103 [.slice 1 0 3 c0, .slice 1 3 3 c1, .slice 1 6 3 c2]), (1, .ints t M), (2, .ints 2 ((x.A 0) ++ (x.S 0))), (3, .ints 2 ((x.A 1) ++ (x.S 1))), (4, .ints 2 ((x.A 2) ++ (x.S 2))), (5, .vals 103 ([.slice 2 0 3 (x.K 0), .slice 3 0 3 (x.K 1), .slice 4 0 3 (x.K 2)] ++ List.replicate (kO - 3) .bot))], 6⟩) (fun x => 3 - x.c) ⟨0, 0, fun i => (M.drop (i * 3)).take 3, fun i => match i with | 0 => k0 | 1 => k1 | _ => k2, fun i => match i with | 0 => u0 | 1 => u1 | _ => u2⟩ ?_ ?_ ?_
   · exact ⟨Nat.zero_le _, Nat.zero_le _, Nat.le_refl _, hM0, RedI_start p _ _ _⟩
   · refine View.mk' [(2, 4), (3, 8), (4, 12), (5, 14)] rfl (by simp only [wfB, List.all_cons, List.all_nil, ids_bots]; rfl) rfl ?_ ?_
     repeat' first | exact vFn | refine vFc rfl ?_ | exact vHn | refine vHc rfl ?_ | refine vFc (congrArg (fun z => some (V.int z)) ?_) ?_ | refine vHc (congrArg (fun z => some (Blk.ints _ z)) ?_) ?_ | refine vFc (congrArg (fun z => some (V.bool z)) ?_) ?_ | refine vFs rfl rfl ?_ ?_ | refine vHc (by rw [ren_bots]; rfl) ?_
   rintro ⟨cnt, c, A, K, S⟩ ⟨h1, h2, h3, hA, hR⟩
   dsimp only at h1 h2 h3 hA hR ⊢
   have l0 := (hA 0 (by omega)).1
   have l1 := (hA 1 (by omega)).1
   have l2 := (hA 2 (by omega)).1
   have hcc : cnt = 0 ∨ cnt = 1 ∨ cnt = 2 ∨ cnt = 3 := by omega
   obtain ⟨N, hN⟩ : ∃ z, z = cnt := ⟨cnt, rfl⟩
   obtain ⟨N2, hN2⟩ : ∃ z, z = cnt := ⟨cnt, rfl⟩
   rcases hcc with rfl | rfl | rfl | rfl
   all_goals (
    refine CW_seq ?_
    refine cR ?_
    iterate 2 refine oM rfl rfl ?_
    first | refine oQ (Q_len rfl rfl rfl rfl) rfl rfl ?_ | refine oQ (Q_len0 rfl rfl rfl rfl) rfl rfl ?_
    refine oQ (Q_bin rfl rfl rfl) rfl rfl ?_
    refine oM rfl rfl ?_
    all_goals first | refine oT rfl rfl ?_ | refine o1 rfl rfl rfl ?_ | refine o0 rfl rfl rfl ?_ | refine ogP1 rfl rfl rfl (fun hg => ?_) (fun hg => ?_) | refine ogP0 rfl rfl rfl (fun hg => ?_) (fun hg => ?_)
    all_goals try simp only [s1, s2, s3, s4, s5, s6, s7, s8, s9, s10, s11, s12] at hg
    all_goals try (exfalso; first | omega | exact absurd trivial hg | (simp at hg; done); done)
    all_goals first | (refine oM rfl rfl ?_) | skip
    all_goals first | refine oT rfl rfl ?_ | refine o1 rfl rfl rfl ?_ | refine o0 rfl rfl rfl ?_ | refine ogP1 rfl rfl rfl (fun hg => ?_) (fun hg => ?_) | refine ogP0 rfl rfl rfl (fun hg => ?_) (fun hg => ?_)
    all_goals try simp only [s1, s2, s3, s4, s5, s6, s7, s8, s9, s10, s11, s12] at hg
    all_goals try (exfalso; first | omega | exact absurd trivial hg | (simp at hg; done); done)
    all_goals first | (refine oM rfl rfl ?_) | skip
    all_goals first | refine oT rfl rfl ?_ | refine o1 rfl rfl rfl ?_ | refine o0 rfl rfl rfl ?_ | refine ogP1 rfl rfl rfl (fun hg => ?_) (fun hg => ?_) | refine ogP0 rfl rfl rfl (fun hg => ?_) (fun hg => ?_)
    all_goals try simp only [s1, s2, s3, s4, s5, s6, s7, s8, s9, s10, s11, s12] at hg
    all_goals try (exfalso; first | omega | exact absurd trivial hg | (simp at hg; done); done)
    all_goals first | refine oQ (Is0 rfl rfl rfl rfl rfl rfl) rfl rfl ?_ | refine oQ (Is1 rfl rfl rfl rfl rfl rfl) rfl rfl ?_ | skip
    all_goals first | refine oT rfl rfl ?_ | refine o1 rfl rfl rfl ?_ | refine o0 rfl rfl rfl ?_ | refine ogP1 rfl rfl rfl (fun hg => ?_) (fun hg => ?_) | refine ogP0 rfl rfl rfl (fun hg => ?_) (fun hg => ?_)
    all_goals try simp only [s1, s2, s3, s4, s5, s6, s7, s8, s9, s10, s11, s12] at hg
    all_goals try (exfalso; first | omega | exact absurd trivial hg | (simp at hg; done); done)
    all_goals first | (refine oQ (Q_ldv rfl rfl rfl rfl rfl rfl) rfl rfl ?_) | skip
    all_goals first | refine oT rfl rfl ?_ | refine o1 rfl rfl rfl ?_ | refine o0 rfl rfl rfl ?_ | refine ogP1 rfl rfl rfl (fun hg => ?_) (fun hg => ?_) | refine ogP0 rfl rfl rfl (fun hg => ?_) (fun hg => ?_)
    all_goals try simp only [s1, s2, s3, s4, s5, s6, s7, s8, s9, s10, s11, s12] at hg
    all_goals try (exfalso; first | omega | exact absurd trivial hg | (simp at hg; done); done)
    all_goals first | refine oQ (Q_len rfl rfl rfl rfl) rfl rfl ?_ | refine oQ (Q_len0 rfl rfl rfl rfl) rfl rfl ?_ | skip
    all_goals first | refine oT rfl rfl ?_ | refine o1 rfl rfl rfl ?_ | refine o0 rfl rfl rfl ?_ | refine ogP1 rfl rfl rfl (fun hg => ?_) (fun hg => ?_) | refine ogP0 rfl rfl rfl (fun hg => ?_) (fun hg => ?_)
    all_goals try simp only [s1, s2, s3, s4, s5, s6, s7, s8, s9, s10, s11, s12] at hg
    all_goals try (exfalso; first | omega | exact absurd trivial hg | (simp at hg; done); done)
    all_goals first | (refine oQ (Q_bin rfl rfl rfl) rfl rfl ?_) | skip
    all_goals first | refine oQ (Q_pick_t rfl (by with_reducible rfl) rfl rfl) rfl rfl ?_ | refine oQ (Q_pick_f rfl (by with_reducible rfl) rfl rfl) rfl rfl ?_
    all_goals refine oN ?_
    all_goals (
     first | refine cT rfl ?_ | refine cF rfl ?_ | refine CW_cond rfl (fun hc => ?_) (fun hc => ?_)
     all_goals try simp only [s1, s2, s3, s4, s5, s6, s7, s8, s9, s10, s11, s12] at hc
     all_goals try (exfalso; first | omega | (simp at hc; done); done)
     all_goals first
       | (
        refine CW_skip ?_)
       | (
        refine CW_exit ?_))
    all_goals first
      | with_reducible refine tR ?_
      | with_reducible refine tE ?_
      | (
       with_reducible refine tN ?_
       refine CW_seq ?_
       refine CW_block ?_
       refine cR ?_
       refine oM rfl rfl ?_
       refine oA rfl rfl ?_
       refine oN ?_
       refine CW_cut (ι := Nat) (fun i => N ≤ i ∧ i ≤ 3 ∧ c < 3 ∧ (∀ k, N ≤ k → k < i → (A k).getD c 0 = 0) ∧ (i < 3 → (A i).getD c 0 ≠ 0)) (fun i => ⟨[(0, .int p), (5, .slice 5 0 3 kO), (8, .int (N : Int)), (9, .int c), (10, .int i)], [(0, .vals 103 [.slice 1 0 3 c0, .slice 1 3 3 c1, .slice 1 6 3 c2]), (1, .ints t M), (2, .ints 2 ((A 0) ++ (S 0))), (3, .ints 2 ((A 1) ++ (S 1))), (4, .ints 2 ((A 2) ++ (S 2))), (5, .vals 103 ([.slice 2 0 3 (K 0), .slice 3 0 3 (K 1), .slice 4 0 3 (K 2)] ++ List.replicate (kO - 3) .bot))], 6⟩) ?_ ?_
       · (
        have hcw : c < 3 := by omega
        have g0 : (A 0 ++ S 0).getD c 0 = (A 0).getD c 0 := getD_app (by rw [l0]; exact hcw)
        have g1 : (A 1 ++ S 1).getD c 0 = (A 1).getD c 0 := getD_app (by rw [l1]; exact hcw)
        have g2 : (A 2 ++ S 2).getD c 0 = (A 2).getD c 0 := getD_app (by rw [l2]; exact hcw)
        rw [hN]
        all_goals (
         refine CW_block ?_
         refine CW_rounds 5 ?_
         refine RW_succ ?_
         refine CW_seq ?_
         refine cR ?_
         iterate 2 refine oM rfl rfl ?_
         first | refine oQ (Q_len rfl rfl rfl rfl) rfl rfl ?_ | refine oQ (Q_len0 rfl rfl rfl rfl) rfl rfl ?_
         refine oQ (Q_bin rfl rfl rfl) rfl rfl ?_
         refine oM rfl rfl ?_
         all_goals first | refine oT rfl rfl ?_ | refine o1 rfl rfl rfl ?_ | refine o0 rfl rfl rfl ?_ | refine ogP1 rfl rfl rfl (fun hg => ?_) (fun hg => ?_) | refine ogP0 rfl rfl rfl (fun hg => ?_) (fun hg => ?_)
         all_goals try simp only [s1, s2, s3, s4, s5, s6, s7, s8, s9, s10, s11, s12] at hg
         all_goals try (exfalso; first | omega | exact absurd trivial hg | (simp at hg; done); done)
         all_goals first | (refine oM rfl rfl ?_) | skip
         all_goals first | refine oT rfl rfl ?_ | refine o1 rfl rfl rfl ?_ | refine o0 rfl rfl rfl ?_ | refine ogP1 rfl rfl rfl (fun hg => ?_) (fun hg => ?_) | refine ogP0 rfl rfl rfl (fun hg => ?_) (fun hg => ?_)
         all_goals try simp only [s1, s2, s3, s4, s5, s6, s7, s8, s9, s10, s11, s12] at hg
         all_goals try (exfalso; first | omega | exact absurd trivial hg | (simp at hg; done); done)
         all_goals first | (refine oM rfl rfl ?_) | skip
         all_goals first | refine oT rfl rfl ?_ | refine o1 rfl rfl rfl ?_ | refine o0 rfl rfl rfl ?_ | refine ogP1 rfl rfl rfl (fun hg => ?_) (fun hg => ?_) | refine ogP0 rfl rfl rfl (fun hg => ?_) (fun hg => ?_)
         all_goals try simp only [s1, s2, s3, s4, s5, s6, s7, s8, s9, s10, s11, s12] at hg
         all_goals try (exfalso; first | omega | exact absurd trivial hg | (simp at hg; done); done)
         all_goals first | refine oQ (Is0 rfl rfl rfl rfl rfl rfl) rfl rfl ?_ | refine oQ (Is1 rfl rfl rfl rfl rfl rfl) rfl rfl ?_ | skip
         all_goals first | refine oT rfl rfl ?_ | refine o1 rfl rfl rfl ?_ | refine o0 rfl rfl rfl ?_ | refine ogP1 rfl rfl rfl (fun hg => ?_) (fun hg => ?_) | refine ogP0 rfl rfl rfl (fun hg => ?_) (fun hg => ?_)
         all_goals try simp only [s1, s2, s3, s4, s5, s6, s7, s8, s9, s10, s11, s12] at hg
         all_goals try (exfalso; first | omega | exact absurd trivial hg | (simp at hg; done); done)
         all_goals first | (refine oQ (Q_ldv rfl rfl rfl rfl rfl rfl) rfl rfl ?_) | skip
         all_goals first | refine oT rfl rfl ?_ | refine o1 rfl rfl rfl ?_ | refine o0 rfl rfl rfl ?_ | refine ogP1 rfl rfl rfl (fun hg => ?_) (fun hg => ?_) | refine ogP0 rfl rfl rfl (fun hg => ?_) (fun hg => ?_)
         all_goals try simp only [s1, s2, s3, s4, s5, s6, s7, s8, s9, s10, s11, s12] at hg
         all_goals try (exfalso; first | omega | exact absurd trivial hg | (simp at hg; done); done)
         all_goals first | (refine oM rfl rfl ?_) | skip
         all_goals first | refine oT rfl rfl ?_ | refine o1 rfl rfl rfl ?_ | refine o0 rfl rfl rfl ?_ | refine ogP1 rfl rfl rfl (fun hg => ?_) (fun hg => ?_) | refine ogP0 rfl rfl rfl (fun hg => ?_) (fun hg => ?_)
         all_goals try simp only [s1, s2, s3, s4, s5, s6, s7, s8, s9, s10, s11, s12] at hg
         all_goals try (exfalso; first | omega | exact absurd trivial hg | (simp at hg; done); done)
         all_goals first | refine oQ (Is0 rfl rfl rfl rfl rfl rfl) rfl rfl ?_ | refine oQ (Is1 rfl rfl rfl rfl rfl rfl) rfl rfl ?_ | skip
         all_goals first | refine oT rfl rfl ?_ | refine o1 rfl rfl rfl ?_ | refine o0 rfl rfl rfl ?_ | refine ogP1 rfl rfl rfl (fun hg => ?_) (fun hg => ?_) | refine ogP0 rfl rfl rfl (fun hg => ?_) (fun hg => ?_)
         all_goals try simp only [s1, s2, s3, s4, s5, s6, s7, s8, s9, s10, s11, s12] at hg
         all_goals try (exfalso; first | omega | exact absurd trivial hg | (simp at hg; done); done)
         all_goals first | refine oQ (Q_ldc rfl rfl rfl rfl rfl) rfl rfl ?_ | refine oQ (Ld rfl rfl rfl rfl) rfl rfl ?_ | skip
         all_goals first | refine oT rfl rfl ?_ | refine o1 rfl rfl rfl ?_ | refine o0 rfl rfl rfl ?_ | refine ogP1 rfl rfl rfl (fun hg => ?_) (fun hg => ?_) | refine ogP0 rfl rfl rfl (fun hg => ?_) (fun hg => ?_)
         all_goals try simp only [s1, s2, s3, s4, s5, s6, s7, s8, s9, s10, s11, s12] at hg
         all_goals try (exfalso; first | omega | exact absurd trivial hg | (simp at hg; done); done)
         all_goals first | (refine oQ (Q_bin rfl rfl rfl) rfl rfl ?_) | skip
         all_goals first | refine oQ (Q_pick_t rfl (by with_reducible rfl) rfl rfl) rfl rfl ?_ | refine oQ (Q_pick_f rfl (by with_reducible rfl) rfl rfl) rfl rfl ?_
         all_goals refine oN ?_
         all_goals (
          first | refine cT rfl ?_ | refine cF rfl ?_ | refine CW_cond rfl (fun hc => ?_) (fun hc => ?_)
          all_goals try simp only [s1, s2, s3, s4, s5, s6, s7, s8, s9, s10, s11, s12] at hc
          all_goals try (exfalso; first | omega | (simp at hc; done); done)
          all_goals first
            | (
             refine CW_skip ?_)
            | (
             refine CW_exit ?_))
         all_goals first
           | with_reducible refine tR ?_
           | with_reducible refine tE ?_
           | (
            with_reducible refine tN ?_
            refine CW_block ?_
            refine CW_region ?_
            refine oM rfl rfl ?_
            first | refine oQ (Q_binu rfl rfl rfl (by omega)) rfl rfl ?_ | refine oQ (Q_bin rfl rfl rfl) rfl rfl ?_
            refine oA rfl rfl ?_
            refine OW_nil ?_
            all_goals first | with_reducible refine bN ?_ | with_reducible refine bE ?_ | with_reducible refine bR ?_ | refine bX rfl ?_)
         all_goals first
           | with_reducible refine tR ?_
           | with_reducible refine tE ?_
           | (
            with_reducible refine tN ?_
            refine RW_succ ?_
            refine CW_seq ?_
            refine cR ?_
            iterate 2 refine oM rfl rfl ?_
            first | refine oQ (Q_len rfl rfl rfl rfl) rfl rfl ?_ | refine oQ (Q_len0 rfl rfl rfl rfl) rfl rfl ?_
            refine oQ (Q_bin rfl rfl rfl) rfl rfl ?_
            refine oM rfl rfl ?_
            all_goals first | refine oT rfl rfl ?_ | refine o1 rfl rfl rfl ?_ | refine o0 rfl rfl rfl ?_ | refine ogP1 rfl rfl rfl (fun hg => ?_) (fun hg => ?_) | refine ogP0 rfl rfl rfl (fun hg => ?_) (fun hg => ?_)
            all_goals try simp only [s1, s2, s3, s4, s5, s6, s7, s8, s9, s10, s11, s12] at hg
            all_goals try (exfalso; first | omega | exact absurd trivial hg | (simp at hg; done); done)
            all_goals first | (refine oM rfl rfl ?_) | skip
            all_goals first | refine oT rfl rfl ?_ | refine o1 rfl rfl rfl ?_ | refine o0 rfl rfl rfl ?_ | refine ogP1 rfl rfl rfl (fun hg => ?_) (fun hg => ?_) | refine ogP0 rfl rfl rfl (fun hg => ?_) (fun hg => ?_)
            all_goals try simp only [s1, s2, s3, s4, s5, s6, s7, s8, s9, s10, s11, s12] at hg
            all_goals try (exfalso; first | omega | exact absurd trivial hg | (simp at hg; done); done)
            all_goals first | (refine oM rfl rfl ?_) | skip
            all_goals first | refine oT rfl rfl ?_ | refine o1 rfl rfl rfl ?_ | refine o0 rfl rfl rfl ?_ | refine ogP1 rfl rfl rfl (fun hg => ?_) (fun hg => ?_) | refine ogP0 rfl rfl rfl (fun hg => ?_) (fun hg => ?_)
            all_goals try simp only [s1, s2, s3, s4, s5, s6, s7, s8, s9, s10, s11, s12] at hg
            all_goals try (exfalso; first | omega | exact absurd trivial hg | (simp at hg; done); done)
            all_goals first | refine oQ (Is0 rfl rfl rfl rfl rfl rfl) rfl rfl ?_ | refine oQ (Is1 rfl rfl rfl rfl rfl rfl) rfl rfl ?_ | skip
            all_goals first | refine oT rfl rfl ?_ | refine o1 rfl rfl rfl ?_ | refine o0 rfl rfl rfl ?_ | refine ogP1 rfl rfl rfl (fun hg => ?_) (fun hg => ?_) | refine ogP0 rfl rfl rfl (fun hg => ?_) (fun hg => ?_)
            all_goals try simp only [s1, s2, s3, s4, s5, s6, s7, s8, s9, s10, s11, s12] at hg
            all_goals try (exfalso; first | omega | exact absurd trivial hg | (simp at hg; done); done)
            all_goals first | (refine oQ (Q_ldv rfl rfl rfl rfl rfl rfl) rfl rfl ?_) | skip
            all_goals first | refine oT rfl rfl ?_ | refine o1 rfl rfl rfl ?_ | refine o0 rfl rfl rfl ?_ | refine ogP1 rfl rfl rfl (fun hg => ?_) (fun hg => ?_) | refine ogP0 rfl rfl rfl (fun hg => ?_) (fun hg => ?_)
            all_goals try simp only [s1, s2, s3, s4, s5, s6, s7, s8, s9, s10, s11, s12] at hg
            all_goals try (exfalso; first | omega | exact absurd trivial hg | (simp at hg; done); done)
            all_goals first | (refine oM rfl rfl ?_) | skip
            all_goals first | refine oT rfl rfl ?_ | refine o1 rfl rfl rfl ?_ | refine o0 rfl rfl rfl ?_ | refine ogP1 rfl rfl rfl (fun hg => ?_) (fun hg => ?_) | refine ogP0 rfl rfl rfl (fun hg => ?_) (fun hg => ?_)
            all_goals try simp only [s1, s2, s3, s4, s5, s6, s7, s8, s9, s10, s11, s12] at hg
            all_goals try (exfalso; first | omega | exact absurd trivial hg | (simp at hg; done); done)
            all_goals first | refine oQ (Is0 rfl rfl rfl rfl rfl rfl) rfl rfl ?_ | refine oQ (Is1 rfl rfl rfl rfl rfl rfl) rfl rfl ?_ | skip
            all_goals first | refine oT rfl rfl ?_ | refine o1 rfl rfl rfl ?_ | refine o0 rfl rfl rfl ?_ | refine ogP1 rfl rfl rfl (fun hg => ?_) (fun hg => ?_) | refine ogP0 rfl rfl rfl (fun hg => ?_) (fun hg => ?_)
            all_goals try simp only [s1, s2, s3, s4, s5, s6, s7, s8, s9, s10, s11, s12] at hg
            all_goals try (exfalso; first | omega | exact absurd trivial hg | (simp at hg; done); done)
            all_goals first | refine oQ (Q_ldc rfl rfl rfl rfl rfl) rfl rfl ?_ | refine oQ (Ld rfl rfl rfl rfl) rfl rfl ?_ | skip
            all_goals first | refine oT rfl rfl ?_ | refine o1 rfl rfl rfl ?_ | refine o0 rfl rfl rfl ?_ | refine ogP1 rfl rfl rfl (fun hg => ?_) (fun hg => ?_) | refine ogP0 rfl rfl rfl (fun hg => ?_) (fun hg => ?_)
            all_goals try simp only [s1, s2, s3, s4, s5, s6, s7, s8, s9, s10, s11, s12] at hg
            all_goals try (exfalso; first | omega | exact absurd trivial hg | (simp at hg; done); done)
            all_goals first | (refine oQ (Q_bin rfl rfl rfl) rfl rfl ?_) | skip
            all_goals first | refine oQ (Q_pick_t rfl (by with_reducible rfl) rfl rfl) rfl rfl ?_ | refine oQ (Q_pick_f rfl (by with_reducible rfl) rfl rfl) rfl rfl ?_
            all_goals refine oN ?_
            all_goals (
             first | refine cT rfl ?_ | refine cF rfl ?_ | refine CW_cond rfl (fun hc => ?_) (fun hc => ?_)
             all_goals try simp only [s1, s2, s3, s4, s5, s6, s7, s8, s9, s10, s11, s12] at hc
             all_goals try (exfalso; first | omega | (simp at hc; done); done)
             all_goals first
               | (
                refine CW_skip ?_)
               | (
                refine CW_exit ?_))
            all_goals first
              | with_reducible refine tR ?_
              | with_reducible refine tE ?_
              | (
               with_reducible refine tN ?_
               refine CW_block ?_
               refine CW_region ?_
               refine oM rfl rfl ?_
               first | refine oQ (Q_binu rfl rfl rfl (by omega)) rfl rfl ?_ | refine oQ (Q_bin rfl rfl rfl) rfl rfl ?_
               refine oA rfl rfl ?_
               refine OW_nil ?_
               all_goals first | with_reducible refine bN ?_ | with_reducible refine bE ?_ | with_reducible refine bR ?_ | refine bX rfl ?_)
            all_goals first
              | with_reducible refine tR ?_
              | with_reducible refine tE ?_
              | (
               with_reducible refine tN ?_
               refine RW_succ ?_
               refine CW_seq ?_
               refine cR ?_
               iterate 2 refine oM rfl rfl ?_
               first | refine oQ (Q_len rfl rfl rfl rfl) rfl rfl ?_ | refine oQ (Q_len0 rfl rfl rfl rfl) rfl rfl ?_
               refine oQ (Q_bin rfl rfl rfl) rfl rfl ?_
               refine oM rfl rfl ?_
               all_goals first | refine oT rfl rfl ?_ | refine o1 rfl rfl rfl ?_ | refine o0 rfl rfl rfl ?_ | refine ogP1 rfl rfl rfl (fun hg => ?_) (fun hg => ?_) | refine ogP0 rfl rfl rfl (fun hg => ?_) (fun hg => ?_)
               all_goals try simp only [s1, s2, s3, s4, s5, s6, s7, s8, s9, s10, s11, s12] at hg
               all_goals try (exfalso; first | omega | exact absurd trivial hg | (simp at hg; done); done)
               all_goals first | (refine oM rfl rfl ?_) | skip
               all_goals first | refine oT rfl rfl ?_ | refine o1 rfl rfl rfl ?_ | refine o0 rfl rfl rfl ?_ | refine ogP1 rfl rfl rfl (fun hg => ?_) (fun hg => ?_) | refine ogP0 rfl rfl rfl (fun hg => ?_) (fun hg => ?_)
               all_goals try simp only [s1, s2, s3, s4, s5, s6, s7, s8, s9, s10, s11, s12] at hg
               all_goals try (exfalso; first | omega | exact absurd trivial hg | (simp at hg; done); done)
               all_goals first | (refine oM rfl rfl ?_) | skip
               all_goals first | refine oT rfl rfl ?_ | refine o1 rfl rfl rfl ?_ | refine o0 rfl rfl rfl ?_ | refine ogP1 rfl rfl rfl (fun hg => ?_) (fun hg => ?_) | refine ogP0 rfl rfl rfl (fun hg => ?_) (fun hg => ?_)
               all_goals try simp only [s1, s2, s3, s4, s5, s6, s7, s8, s9, s10, s11, s12] at hg
               all_goals try (exfalso; first | omega | exact absurd trivial hg | (simp at hg; done); done)
               all_goals first | refine oQ (Is0 rfl rfl rfl rfl rfl rfl) rfl rfl ?_ | refine oQ (Is1 rfl rfl rfl rfl rfl rfl) rfl rfl ?_ | skip
               all_goals first | refine oT rfl rfl ?_ | refine o1 rfl rfl rfl ?_ | refine o0 rfl rfl rfl ?_ | refine ogP1 rfl rfl rfl (fun hg => ?_) (fun hg => ?_) | refine ogP0 rfl rfl rfl (fun hg => ?_) (fun hg => ?_)
               all_goals try simp only [s1, s2, s3, s4, s5, s6, s7, s8, s9, s10, s11, s12] at hg
               all_goals try (exfalso; first | omega | exact absurd trivial hg | (simp at hg; done); done)
               all_goals first | (refine oQ (Q_ldv rfl rfl rfl rfl rfl rfl) rfl rfl ?_) | skip
               all_goals first | refine oT rfl rfl ?_ | refine o1 rfl rfl rfl ?_ | refine o0 rfl rfl rfl ?_ | refine ogP1 rfl rfl rfl (fun hg => ?_) (fun hg => ?_) | refine ogP0 rfl rfl rfl (fun hg => ?_) (fun hg => ?_)
               all_goals try simp only [s1, s2, s3, s4, s5, s6, s7, s8, s9, s10, s11, s12] at hg
               all_goals try (exfalso; first | omega | exact absurd trivial hg | (simp at hg; done); done)
               all_goals first | (refine oM rfl rfl ?_) | skip
               all_goals first | refine oT rfl rfl ?_ | refine o1 rfl rfl rfl ?_ | refine o0 rfl rfl rfl ?_ | refine ogP1 rfl rfl rfl (fun hg => ?_) (fun hg => ?_) | refine ogP0 rfl rfl rfl (fun hg => ?_) (fun hg => ?_)
               all_goals try simp only [s1, s2, s3, s4, s5, s6, s7, s8, s9, s10, s11, s12] at hg
               all_goals try (exfalso; first | omega | exact absurd trivial hg | (simp at hg; done); done)
               all_goals first | refine oQ (Is0 rfl rfl rfl rfl rfl rfl) rfl rfl ?_ | refine oQ (Is1 rfl rfl rfl rfl rfl rfl) rfl rfl ?_ | skip
               all_goals first | refine oT rfl rfl ?_ | refine o1 rfl rfl rfl ?_ | refine o0 rfl rfl rfl ?_ | refine ogP1 rfl rfl rfl (fun hg => ?_) (fun hg => ?_) | refine ogP0 rfl rfl rfl (fun hg => ?_) (fun hg => ?_)
               all_goals try simp only [s1, s2, s3, s4, s5, s6, s7, s8, s9, s10, s11, s12] at hg
               all_goals try (exfalso; first | omega | exact absurd trivial hg | (simp at hg; done); done)
               all_goals first | refine oQ (Q_ldc rfl rfl rfl rfl rfl) rfl rfl ?_ | refine oQ (Ld rfl rfl rfl rfl) rfl rfl ?_ | skip
               all_goals first | refine oT rfl rfl ?_ | refine o1 rfl rfl rfl ?_ | refine o0 rfl rfl rfl ?_ | refine ogP1 rfl rfl rfl (fun hg => ?_) (fun hg => ?_) | refine ogP0 rfl rfl rfl (fun hg => ?_) (fun hg => ?_)
               all_goals try simp only [s1, s2, s3, s4, s5, s6, s7, s8, s9, s10, s11, s12] at hg
               all_goals try (exfalso; first | omega | exact absurd trivial hg | (simp at hg; done); done)
               all_goals first | (refine oQ (Q_bin rfl rfl rfl) rfl rfl ?_) | skip
               all_goals first | refine oQ (Q_pick_t rfl (by with_reducible rfl) rfl rfl) rfl rfl ?_ | refine oQ (Q_pick_f rfl (by with_reducible rfl) rfl rfl) rfl rfl ?_
               all_goals refine oN ?_
               all_goals (
                first | refine cT rfl ?_ | refine cF rfl ?_ | refine CW_cond rfl (fun hc => ?_) (fun hc => ?_)
                all_goals try simp only [s1, s2, s3, s4, s5, s6, s7, s8, s9, s10, s11, s12] at hc
                all_goals try (exfalso; first | omega | (simp at hc; done); done)
                all_goals first
                  | (
                   refine CW_skip ?_)
                  | (
                   refine CW_exit ?_))
               all_goals first
                 | with_reducible refine tR ?_
                 | with_reducible refine tE ?_
                 | (
                  with_reducible refine tN ?_
                  refine CW_block ?_
                  refine CW_region ?_
                  refine oM rfl rfl ?_
                  first | refine oQ (Q_binu rfl rfl rfl (by omega)) rfl rfl ?_ | refine oQ (Q_bin rfl rfl rfl) rfl rfl ?_
                  refine oA rfl rfl ?_
                  refine OW_nil ?_
                  all_goals first | with_reducible refine bN ?_ | with_reducible refine bE ?_ | with_reducible refine bR ?_ | refine bX rfl ?_)
               all_goals first
                 | with_reducible refine tR ?_
                 | with_reducible refine tE ?_
                 | (
                  with_reducible refine tN ?_
                  refine RW_succ ?_
                  refine CW_seq ?_
                  refine cR ?_
                  iterate 2 refine oM rfl rfl ?_
                  first | refine oQ (Q_len rfl rfl rfl rfl) rfl rfl ?_ | refine oQ (Q_len0 rfl rfl rfl rfl) rfl rfl ?_
                  refine oQ (Q_bin rfl rfl rfl) rfl rfl ?_
                  refine oM rfl rfl ?_
                  all_goals first | refine oT rfl rfl ?_ | refine o1 rfl rfl rfl ?_ | refine o0 rfl rfl rfl ?_ | refine ogP1 rfl rfl rfl (fun hg => ?_) (fun hg => ?_) | refine ogP0 rfl rfl rfl (fun hg => ?_) (fun hg => ?_)
                  all_goals try simp only [s1, s2, s3, s4, s5, s6, s7, s8, s9, s10, s11, s12] at hg
                  all_goals try (exfalso; first | omega | exact absurd trivial hg | (simp at hg; done); done)
                  all_goals first | (refine oM rfl rfl ?_) | skip
                  all_goals first | refine oT rfl rfl ?_ | refine o1 rfl rfl rfl ?_ | refine o0 rfl rfl rfl ?_ | refine ogP1 rfl rfl rfl (fun hg => ?_) (fun hg => ?_) | refine ogP0 rfl rfl rfl (fun hg => ?_) (fun hg => ?_)
                  all_goals try simp only [s1, s2, s3, s4, s5, s6, s7, s8, s9, s10, s11, s12] at hg
                  all_goals try (exfalso; first | omega | exact absurd trivial hg | (simp at hg; done); done)
                  all_goals first | (refine oM rfl rfl ?_) | skip
                  all_goals first | refine oT rfl rfl ?_ | refine o1 rfl rfl rfl ?_ | refine o0 rfl rfl rfl ?_ | refine ogP1 rfl rfl rfl (fun hg => ?_) (fun hg => ?_) | refine ogP0 rfl rfl rfl (fun hg => ?_) (fun hg => ?_)
                  all_goals try simp only [s1, s2, s3, s4, s5, s6, s7, s8, s9, s10, s11, s12] at hg
                  all_goals try (exfalso; first | omega | exact absurd trivial hg | (simp at hg; done); done)
                  all_goals first | refine oQ (Is0 rfl rfl rfl rfl rfl rfl) rfl rfl ?_ | refine oQ (Is1 rfl rfl rfl rfl rfl rfl) rfl rfl ?_ | skip
                  all_goals first | refine oT rfl rfl ?_ | refine o1 rfl rfl rfl ?_ | refine o0 rfl rfl rfl ?_ | refine ogP1 rfl rfl rfl (fun hg => ?_) (fun hg => ?_) | refine ogP0 rfl rfl rfl (fun hg => ?_) (fun hg => ?_)
                  all_goals try simp only [s1, s2, s3, s4, s5, s6, s7, s8, s9, s10, s11, s12] at hg
                  all_goals try (exfalso; first | omega | exact absurd trivial hg | (simp at hg; done); done)
                  all_goals first | (refine oQ (Q_ldv rfl rfl rfl rfl rfl rfl) rfl rfl ?_) | skip
                  all_goals first | refine oT rfl rfl ?_ | refine o1 rfl rfl rfl ?_ | refine o0 rfl rfl rfl ?_ | refine ogP1 rfl rfl rfl (fun hg => ?_) (fun hg => ?_) | refine ogP0 rfl rfl rfl (fun hg => ?_) (fun hg => ?_)
                  all_goals try simp only [s1, s2, s3, s4, s5, s6, s7, s8, s9, s10, s11, s12] at hg
                  all_goals try (exfalso; first | omega | exact absurd trivial hg | (simp at hg; done); done)
                  all_goals first | (refine oM rfl rfl ?_) | skip
                  all_goals first | refine oT rfl rfl ?_ | refine o1 rfl rfl rfl ?_ | refine o0 rfl rfl rfl ?_ | refine ogP1 rfl rfl rfl (fun hg => ?_) (fun hg => ?_) | refine ogP0 rfl rfl rfl (fun hg => ?_) (fun hg => ?_)
                  all_goals try simp only [s1, s2, s3, s4, s5, s6, s7, s8, s9, s10, s11, s12] at hg
                  all_goals try (exfalso; first | omega | exact absurd trivial hg | (simp at hg; done); done)
                  all_goals first | refine oQ (Is0 rfl rfl rfl rfl rfl rfl) rfl rfl ?_ | refine oQ (Is1 rfl rfl rfl rfl rfl rfl) rfl rfl ?_ | skip
                  all_goals first | refine oT rfl rfl ?_ | refine o1 rfl rfl rfl ?_ | refine o0 rfl rfl rfl ?_ | refine ogP1 rfl rfl rfl (fun hg => ?_) (fun hg => ?_) | refine ogP0 rfl rfl rfl (fun hg => ?_) (fun hg => ?_)
                  all_goals try simp only [s1, s2, s3, s4, s5, s6, s7, s8, s9, s10, s11, s12] at hg
                  all_goals try (exfalso; first | omega | exact absurd trivial hg | (simp at hg; done); done)
                  all_goals first | refine oQ (Q_ldc rfl rfl rfl rfl rfl) rfl rfl ?_ | refine oQ (Ld rfl rfl rfl rfl) rfl rfl ?_ | skip
                  all_goals first | refine oT rfl rfl ?_ | refine o1 rfl rfl rfl ?_ | refine o0 rfl rfl rfl ?_ | refine ogP1 rfl rfl rfl (fun hg => ?_) (fun hg => ?_) | refine ogP0 rfl rfl rfl (fun hg => ?_) (fun hg => ?_)
                  all_goals try simp only [s1, s2, s3, s4, s5, s6, s7, s8, s9, s10, s11, s12] at hg
                  all_goals try (exfalso; first | omega | exact absurd trivial hg | (simp at hg; done); done)
                  all_goals first | (refine oQ (Q_bin rfl rfl rfl) rfl rfl ?_) | skip
                  all_goals first | refine oQ (Q_pick_t rfl (by with_reducible rfl) rfl rfl) rfl rfl ?_ | refine oQ (Q_pick_f rfl (by with_reducible rfl) rfl rfl) rfl rfl ?_
                  all_goals refine oN ?_
                  all_goals (
                   first | refine cT rfl ?_ | refine cF rfl ?_ | refine CW_cond rfl (fun hc => ?_) (fun hc => ?_)
                   all_goals try simp only [s1, s2, s3, s4, s5, s6, s7, s8, s9, s10, s11, s12] at hc
                   all_goals try (exfalso; first | omega | (simp at hc; done); done)
                   all_goals first
                     | (
                      refine CW_skip ?_)
                     | (
                      refine CW_exit ?_))
                  all_goals first
                    | with_reducible refine tR ?_
                    | with_reducible refine tE ?_
                    | (
                     with_reducible refine tN ?_
                     refine CW_block ?_
                     refine CW_region ?_
                     refine oM rfl rfl ?_
                     first | refine oQ (Q_binu rfl rfl rfl (by omega)) rfl rfl ?_ | refine oQ (Q_bin rfl rfl rfl) rfl rfl ?_
                     refine oA rfl rfl ?_
                     refine OW_nil ?_
                     all_goals first | with_reducible refine bN ?_ | with_reducible refine bE ?_ | with_reducible refine bR ?_ | refine bX rfl ?_)
                  all_goals first
                    | with_reducible refine tR ?_
                    | with_reducible refine tE ?_
                    | (
                     with_reducible refine tN ?_
                     refine RW_succ ?_
                     refine CW_seq ?_
                     refine cR ?_
                     iterate 2 refine oM rfl rfl ?_
                     first | refine oQ (Q_len rfl rfl rfl rfl) rfl rfl ?_ | refine oQ (Q_len0 rfl rfl rfl rfl) rfl rfl ?_
                     refine oQ (Q_bin rfl rfl rfl) rfl rfl ?_
                     refine oM rfl rfl ?_
                     all_goals first | refine oT rfl rfl ?_ | refine o1 rfl rfl rfl ?_ | refine o0 rfl rfl rfl ?_ | refine ogP1 rfl rfl rfl (fun hg => ?_) (fun hg => ?_) | refine ogP0 rfl rfl rfl (fun hg => ?_) (fun hg => ?_)
                     all_goals try simp only [s1, s2, s3, s4, s5, s6, s7, s8, s9, s10, s11, s12] at hg
                     all_goals try (exfalso; first | omega | exact absurd trivial hg | (simp at hg; done); done)
                     all_goals first | (refine oM rfl rfl ?_) | skip
                     all_goals first | refine oT rfl rfl ?_ | refine o1 rfl rfl rfl ?_ | refine o0 rfl rfl rfl ?_ | refine ogP1 rfl rfl rfl (fun hg => ?_) (fun hg => ?_) | refine ogP0 rfl rfl rfl (fun hg => ?_) (fun hg => ?_)
                     all_goals try simp only [s1, s2, s3, s4, s5, s6, s7, s8, s9, s10, s11, s12] at hg
                     all_goals try (exfalso; first | omega | exact absurd trivial hg | (simp at hg; done); done)
                     all_goals first | (refine oM rfl rfl ?_) | skip
                     all_goals first | refine oT rfl rfl ?_ | refine o1 rfl rfl rfl ?_ | refine o0 rfl rfl rfl ?_ | refine ogP1 rfl rfl rfl (fun hg => ?_) (fun hg => ?_) | refine ogP0 rfl rfl rfl (fun hg => ?_) (fun hg => ?_)
                     all_goals try simp only [s1, s2, s3, s4, s5, s6, s7, s8, s9, s10, s11, s12] at hg
                     all_goals try (exfalso; first | omega | exact absurd trivial hg | (simp at hg; done); done)
                     all_goals first | refine oQ (Is0 rfl rfl rfl rfl rfl rfl) rfl rfl ?_ | refine oQ (Is1 rfl rfl rfl rfl rfl rfl) rfl rfl ?_ | skip
                     all_goals first | refine oT rfl rfl ?_ | refine o1 rfl rfl rfl ?_ | refine o0 rfl rfl rfl ?_ | refine ogP1 rfl rfl rfl (fun hg => ?_) (fun hg => ?_) | refine ogP0 rfl rfl rfl (fun hg => ?_) (fun hg => ?_)
                     all_goals try simp only [s1, s2, s3, s4, s5, s6, s7, s8, s9, s10, s11, s12] at hg
                     all_goals try (exfalso; first | omega | exact absurd trivial hg | (simp at hg; done); done)
                     all_goals first | (refine oQ (Q_ldv rfl rfl rfl rfl rfl rfl) rfl rfl ?_) | skip
                     all_goals first | refine oT rfl rfl ?_ | refine o1 rfl rfl rfl ?_ | refine o0 rfl rfl rfl ?_ | refine ogP1 rfl rfl rfl (fun hg => ?_) (fun hg => ?_) | refine ogP0 rfl rfl rfl (fun hg => ?_) (fun hg => ?_)
                     all_goals try simp only [s1, s2, s3, s4, s5, s6, s7, s8, s9, s10, s11, s12] at hg
                     all_goals try (exfalso; first | omega | exact absurd trivial hg | (simp at hg; done); done)
                     all_goals first | (refine oM rfl rfl ?_) | skip
                     all_goals first | refine oT rfl rfl ?_ | refine o1 rfl rfl rfl ?_ | refine o0 rfl rfl rfl ?_ | refine ogP1 rfl rfl rfl (fun hg => ?_) (fun hg => ?_) | refine ogP0 rfl rfl rfl (fun hg => ?_) (fun hg => ?_)
                     all_goals try simp only [s1, s2, s3, s4, s5, s6, s7, s8, s9, s10, s11, s12] at hg
                     all_goals try (exfalso; first | omega | exact absurd trivial hg | (simp at hg; done); done)
                     all_goals first | refine oQ (Is0 rfl rfl rfl rfl rfl rfl) rfl rfl ?_ | refine oQ (Is1 rfl rfl rfl rfl rfl rfl) rfl rfl ?_ | skip
                     all_goals first | refine oT rfl rfl ?_ | refine o1 rfl rfl rfl ?_ | refine o0 rfl rfl rfl ?_ | refine ogP1 rfl rfl rfl (fun hg => ?_) (fun hg => ?_) | refine ogP0 rfl rfl rfl (fun hg => ?_) (fun hg => ?_)
                     all_goals try simp only [s1, s2, s3, s4, s5, s6, s7, s8, s9, s10, s11, s12] at hg
                     all_goals try (exfalso; first | omega | exact absurd trivial hg | (simp at hg; done); done)
                     all_goals first | refine oQ (Q_ldc rfl rfl rfl rfl rfl) rfl rfl ?_ | refine oQ (Ld rfl rfl rfl rfl) rfl rfl ?_ | skip
                     all_goals first | refine oT rfl rfl ?_ | refine o1 rfl rfl rfl ?_ | refine o0 rfl rfl rfl ?_ | refine ogP1 rfl rfl rfl (fun hg => ?_) (fun hg => ?_) | refine ogP0 rfl rfl rfl (fun hg => ?_) (fun hg => ?_)
                     all_goals try simp only [s1, s2, s3, s4, s5, s6, s7, s8, s9, s10, s11, s12] at hg
                     all_goals try (exfalso; first | omega | exact absurd trivial hg | (simp at hg; done); done)
                     all_goals first | (refine oQ (Q_bin rfl rfl rfl) rfl rfl ?_) | skip
                     all_goals first | refine oQ (Q_pick_t rfl (by with_reducible rfl) rfl rfl) rfl rfl ?_ | refine oQ (Q_pick_f rfl (by with_reducible rfl) rfl rfl) rfl rfl ?_
                     all_goals refine oN ?_
                     all_goals (
                      first | refine cT rfl ?_ | refine cF rfl ?_ | refine CW_cond rfl (fun hc => ?_) (fun hc => ?_)
                      all_goals try simp only [s1, s2, s3, s4, s5, s6, s7, s8, s9, s10, s11, s12] at hc
                      all_goals try (exfalso; first | omega | (simp at hc; done); done)
                      all_goals first
                        | (
                         refine CW_skip ?_)
                        | (
                         refine CW_exit ?_))
                     all_goals first
                       | with_reducible refine tR ?_
                       | with_reducible refine tE ?_
                       | (
                        with_reducible refine tN ?_
                        refine CW_block ?_
                        refine CW_region ?_
                        refine oM rfl rfl ?_
                        first | refine oQ (Q_binu rfl rfl rfl (by omega)) rfl rfl ?_ | refine oQ (Q_bin rfl rfl rfl) rfl rfl ?_
                        refine oA rfl rfl ?_
                        refine OW_nil ?_
                        all_goals first | with_reducible refine bN ?_ | with_reducible refine bE ?_ | with_reducible refine bR ?_ | refine bX rfl ?_)
                     all_goals first
                       | with_reducible refine tR ?_
                       | with_reducible refine tE ?_
                       | (
                        with_reducible refine tN ?_
                        exfalso; first | omega | (simp at hc; done) | (simp_all; done))))))
         all_goals first | with_reducible refine bN ?_ | with_reducible refine bE ?_ | with_reducible refine bR ?_ | refine bX rfl ?_
         all_goals with_reducible refine tN ?_
         all_goals (
          first
            | (
             refine ⟨0, ?_, View.mk' [] rfl (by simp only [wfB, List.all_cons, List.all_nil, ids_bots]; rfl) rfl ?_ ?_⟩
             · refine ⟨by omega, by omega, hcw, fun z hz1 hz2 => ?_, fun hz => ?_⟩
               · (have e : z = 0 ∨ z = 1 ∨ z = 2 := by omega); rcases e with rfl | rfl | rfl <;> first | (exfalso; omega) | (first | (rw [← g0]; assumption) | (rw [← g1]; assumption) | (rw [← g2]; assumption))
               · first | (exfalso; omega) | (first | (rw [← g0]; assumption) | (rw [← g1]; assumption) | (rw [← g2]; assumption))
             all_goals (repeat' first | exact vFn | refine vFc rfl ?_ | exact vHn | refine vHc rfl ?_ | refine vFc (congrArg (fun z => some (V.int z)) ?_) ?_ | refine vHc (congrArg (fun z => some (Blk.ints _ z)) ?_) ?_ | refine vFc (congrArg (fun z => some (V.bool z)) ?_) ?_ | refine vFs rfl rfl ?_ ?_ | refine vHc (by rw [ren_bots]; rfl) ?_)
             all_goals omega
             done)
            | (
             refine ⟨1, ?_, View.mk' [] rfl (by simp only [wfB, List.all_cons, List.all_nil, ids_bots]; rfl) rfl ?_ ?_⟩
             · refine ⟨by omega, by omega, hcw, fun z hz1 hz2 => ?_, fun hz => ?_⟩
               · (have e : z = 0 ∨ z = 1 ∨ z = 2 := by omega); rcases e with rfl | rfl | rfl <;> first | (exfalso; omega) | (first | (rw [← g0]; assumption) | (rw [← g1]; assumption) | (rw [← g2]; assumption))
               · first | (exfalso; omega) | (first | (rw [← g0]; assumption) | (rw [← g1]; assumption) | (rw [← g2]; assumption))
             all_goals (repeat' first | exact vFn | refine vFc rfl ?_ | exact vHn | refine vHc rfl ?_ | refine vFc (congrArg (fun z => some (V.int z)) ?_) ?_ | refine vHc (congrArg (fun z => some (Blk.ints _ z)) ?_) ?_ | refine vFc (congrArg (fun z => some (V.bool z)) ?_) ?_ | refine vFs rfl rfl ?_ ?_ | refine vHc (by rw [ren_bots]; rfl) ?_)
             all_goals omega
             done)
            | (
             refine ⟨2, ?_, View.mk' [] rfl (by simp only [wfB, List.all_cons, List.all_nil, ids_bots]; rfl) rfl ?_ ?_⟩
             · refine ⟨by omega, by omega, hcw, fun z hz1 hz2 => ?_, fun hz => ?_⟩
               · (have e : z = 0 ∨ z = 1 ∨ z = 2 := by omega); rcases e with rfl | rfl | rfl <;> first | (exfalso; omega) | (first | (rw [← g0]; assumption) | (rw [← g1]; assumption) | (rw [← g2]; assumption))
               · first | (exfalso; omega) | (first | (rw [← g0]; assumption) | (rw [← g1]; assumption) | (rw [← g2]; assumption))
             all_goals (repeat' first | exact vFn | refine vFc rfl ?_ | exact vHn | refine vHc rfl ?_ | refine vFc (congrArg (fun z => some (V.int z)) ?_) ?_ | refine vHc (congrArg (fun z => some (Blk.ints _ z)) ?_) ?_ | refine vFc (congrArg (fun z => some (V.bool z)) ?_) ?_ | refine vFs rfl rfl ?_ ?_ | refine vHc (by rw [ren_bots]; rfl) ?_)
             all_goals omega
             done)
            | (
             refine ⟨3, ?_, View.mk' [] rfl (by simp only [wfB, List.all_cons, List.all_nil, ids_bots]; rfl) rfl ?_ ?_⟩
             · refine ⟨by omega, by omega, hcw, fun z hz1 hz2 => ?_, fun hz => ?_⟩
               · (have e : z = 0 ∨ z = 1 ∨ z = 2 := by omega); rcases e with rfl | rfl | rfl <;> first | (exfalso; omega) | (first | (rw [← g0]; assumption) | (rw [← g1]; assumption) | (rw [← g2]; assumption))
               · first | (exfalso; omega) | (first | (rw [← g0]; assumption) | (rw [← g1]; assumption) | (rw [← g2]; assumption))
             all_goals (repeat' first | exact vFn | refine vFc rfl ?_ | exact vHn | refine vHc rfl ?_ | refine vFc (congrArg (fun z => some (V.int z)) ?_) ?_ | refine vHc (congrArg (fun z => some (Blk.ints _ z)) ?_) ?_ | refine vFc (congrArg (fun z => some (V.bool z)) ?_) ?_ | refine vFs rfl rfl ?_ ?_ | refine vHc (by rw [ren_bots]; rfl) ?_)
             all_goals omega
             done))))
       rintro i ⟨hi1, hi2, hcw, hi3, hi4⟩
       try dsimp only
       rw [hN] at hi1 hi3 ⊢
       refine CW_seq ?_
       refine cR ?_
       iterate 2 refine oM rfl rfl ?_
       first | refine oQ (Q_len rfl rfl rfl rfl) rfl rfl ?_ | refine oQ (Q_len0 rfl rfl rfl rfl) rfl rfl ?_
       refine oQ (Q_bin rfl rfl rfl) rfl rfl ?_
       refine oN ?_
       first | refine cT rfl ?_ | refine cF rfl ?_ | refine CW_cond rfl (fun hc => ?_) (fun hc => ?_)
       all_goals try simp only [s1, s2, s3, s4, s5, s6, s7, s8, s9, s10, s11, s12] at hc
       all_goals try (exfalso; first | omega | (simp at hc; done); done)
       all_goals first
         | (
          refine CW_exit ?_)
         | (
          refine CW_skip ?_)
       all_goals first
         | with_reducible refine tR ?_
         | with_reducible refine tE ?_
         | (
          with_reducible refine tN ?_
          refine CW_cut (ι := RS) (fun x => rdB p x.A 3 3 ∧ RedI p (fun i => (M.drop (i * 3)).take 3) 3 3 (rw3 p x.A N2 c 3 3) (N2 + 1) (c + 1)) (fun x => ⟨[(0, .int p), (5, .slice 5 0 3 kO), (8, .int (N2 : Int)), (9, .int c)], [(0, .vals 103 [.slice 1 0 3 c0, .slice 1 3 3 c1, .slice 1 6 3 c2]), (1, .ints t M), (2, .ints 2 ((x.A 0) ++ (x.S 0))), (3, .ints 2 ((x.A 1) ++ (x.S 1))), (4, .ints 2 ((x.A 2) ++ (x.S 2))), (5, .vals 103 ([.slice 2 0 3 (x.K 0), .slice 3 0 3 (x.K 1), .slice 4 0 3 (x.K 2)] ++ List.replicate (kO - 3) .bot))], 6⟩) ?_ ?_
          · (
           have hii : i = 0 ∨ i = 1 ∨ i = 2 := by omega
           have hi0 : (A i).getD c 0 ≠ 0 := hi4 (by omega)
           rw [hN2]
           obtain ⟨i2, hi22⟩ : ∃ z, z = i := ⟨i, rfl⟩
           rcases hii with rfl | rfl | rfl
           all_goals try (exfalso; omega; done)
           all_goals (
            refine CW_any (fun i => List.elem i [13, 14, 15]) 16 rfl lateOk (by decide +kernel) (fun hst => ?_)
            refine aP 0 hst rfl rfl (by decide +kernel) (PX_move rfl rfl) rfl rfl ?_
            refine aP 1 hst rfl rfl (by decide +kernel) (PX_move rfl rfl) rfl rfl ?_
            refine aP 2 hst rfl rfl (by decide +kernel) (PX_move rfl rfl) rfl rfl ?_
            refine aP 3 hst rfl rfl (by decide +kernel) (PX_move rfl rfl) rfl rfl ?_
            refine aP 4 hst rfl rfl (by decide +kernel) (PX_move rfl rfl) rfl rfl ?_
            refine aP 5 hst rfl rfl (by decide +kernel) (PX_move rfl rfl) rfl rfl ?_
            first | refine aQ 6 hst rfl rfl (by decide +kernel) (QX_of (Is0 rfl rfl rfl rfl rfl rfl) NE_ix) rfl rfl ?_ | refine aQ 6 hst rfl rfl (by decide +kernel) (QX_of (Is1 rfl rfl rfl rfl rfl rfl) NE_ix) rfl rfl ?_
            refine aQ 7 hst rfl rfl (by decide +kernel) (QX_of (Q_ldv rfl rfl rfl rfl rfl rfl) NE_load) rfl rfl ?_
            refine aP 8 hst rfl rfl (by decide +kernel) (PX_move rfl rfl) rfl rfl ?_
            refine aP 9 hst rfl rfl (by decide +kernel) (PX_move rfl rfl) rfl rfl ?_
            first | refine aQ 10 hst rfl rfl (by decide +kernel) (QX_of (Is0 rfl rfl rfl rfl rfl rfl) NE_ix) rfl rfl ?_ | refine aQ 10 hst rfl rfl (by decide +kernel) (QX_of (Is1 rfl rfl rfl rfl rfl rfl) NE_ix) rfl rfl ?_
            refine aQ 11 hst rfl rfl (by decide +kernel) (QX_of (Q_ldv rfl rfl rfl rfl rfl rfl) NE_load) rfl rfl ?_
            first | refine aQ 12 hst rfl rfl (by decide +kernel) (QX_of (Is0 rfl rfl rfl rfl rfl rfl) NE_ix) rfl rfl ?_ | refine aQ 12 hst rfl rfl (by decide +kernel) (QX_of (Is1 rfl rfl rfl rfl rfl rfl) NE_ix) rfl rfl ?_
            refine AW_last [13, 14, 15] rfl (by decide +kernel) rfl ?_
            first | refine oStvB rfl rfl rfl rfl rfl rfl rfl (by first | omega | (dsimp only; omega) | (simp; omega) | (simp; done)) rfl rfl ?_ | refine oStv rfl rfl rfl rfl rfl rfl rfl (by first | omega | (dsimp only; omega) | (simp; omega) | (simp; done)) rfl rfl ?_
            first | refine oQ (Is0 rfl rfl rfl rfl rfl rfl) rfl rfl ?_ | refine oQ (Is1 rfl rfl rfl rfl rfl rfl) rfl rfl ?_
            first | refine oStvB rfl rfl rfl rfl rfl rfl rfl (by first | omega | (dsimp only; omega) | (simp; omega) | (simp; done)) rfl rfl ?_ | refine oStv rfl rfl rfl rfl rfl rfl rfl (by first | omega | (dsimp only; omega) | (simp; omega) | (simp; done)) rfl rfl ?_
            refine OW_nil (npN ?_)
            all_goals with_reducible refine tN ?_
            all_goals (
             first
               | (
                refine ⟨⟨0, c, fun j => match j with | 0 => A 0 | 1 => A 1 | _ => A 2, fun j => match j with | 0 => K 0 | 1 => K 1 | _ => K 2, fun j => match j with | 0 => S 0 | 1 => S 1 | _ => S 2⟩, ?_, View.mk' [] rfl (by simp only [wfB, List.all_cons, List.all_nil, ids_bots]; rfl) rfl ?_ ?_⟩
                · refine ⟨fun z hz => ?_, ?_⟩
                  · (have e : z = 0 ∨ z = 1 ∨ z = 2 := by omega); rcases e with rfl | rfl | rfl <;> first | exact hA 0 (by omega) | exact hA 1 (by omega) | exact hA 2 (by omega)
                  · refine rd_step hp hR hA hi1 (by omega) hcw hi0 rfl (fun z hz hne => ?_)
                    (have e : z = 0 ∨ z = 1 ∨ z = 2 := by omega); rcases e with rfl | rfl | rfl <;> first | rfl | (exact absurd rfl hne)
                all_goals (repeat' first | exact vFn | refine vFc rfl ?_ | exact vHn | refine vHc rfl ?_ | refine vFc (congrArg (fun z => some (V.int z)) ?_) ?_ | refine vHc (congrArg (fun z => some (Blk.ints _ z)) ?_) ?_ | refine vFc (congrArg (fun z => some (V.bool z)) ?_) ?_ | refine vFs rfl rfl ?_ ?_ | refine vHc (by rw [ren_bots]; rfl) ?_)
                all_goals omega
                done)
               | (
                refine ⟨⟨0, c, fun j => match j with | 0 => A 1 | 1 => A 0 | _ => A 2, fun j => match j with | 0 => K 1 | 1 => K 0 | _ => K 2, fun j => match j with | 0 => S 1 | 1 => S 0 | _ => S 2⟩, ?_, View.mk' [] rfl (by simp only [wfB, List.all_cons, List.all_nil, ids_bots]; rfl) rfl ?_ ?_⟩
                · refine ⟨fun z hz => ?_, ?_⟩
                  · (have e : z = 0 ∨ z = 1 ∨ z = 2 := by omega); rcases e with rfl | rfl | rfl <;> first | exact hA 0 (by omega) | exact hA 1 (by omega) | exact hA 2 (by omega)
                  · refine rd_step hp hR hA hi1 (by omega) hcw hi0 rfl (fun z hz hne => ?_)
                    (have e : z = 0 ∨ z = 1 ∨ z = 2 := by omega); rcases e with rfl | rfl | rfl <;> first | rfl | (exact absurd rfl hne)
                all_goals (repeat' first | exact vFn | refine vFc rfl ?_ | exact vHn | refine vHc rfl ?_ | refine vFc (congrArg (fun z => some (V.int z)) ?_) ?_ | refine vHc (congrArg (fun z => some (Blk.ints _ z)) ?_) ?_ | refine vFc (congrArg (fun z => some (V.bool z)) ?_) ?_ | refine vFs rfl rfl ?_ ?_ | refine vHc (by rw [ren_bots]; rfl) ?_)
                all_goals omega
                done)
               | (
                refine ⟨⟨0, c, fun j => match j with | 0 => A 2 | 1 => A 1 | _ => A 0, fun j => match j with | 0 => K 2 | 1 => K 1 | _ => K 0, fun j => match j with | 0 => S 2 | 1 => S 1 | _ => S 0⟩, ?_, View.mk' [] rfl (by simp only [wfB, List.all_cons, List.all_nil, ids_bots]; rfl) rfl ?_ ?_⟩
                · refine ⟨fun z hz => ?_, ?_⟩
                  · (have e : z = 0 ∨ z = 1 ∨ z = 2 := by omega); rcases e with rfl | rfl | rfl <;> first | exact hA 0 (by omega) | exact hA 1 (by omega) | exact hA 2 (by omega)
                  · refine rd_step hp hR hA hi1 (by omega) hcw hi0 rfl (fun z hz hne => ?_)
                    (have e : z = 0 ∨ z = 1 ∨ z = 2 := by omega); rcases e with rfl | rfl | rfl <;> first | rfl | (exact absurd rfl hne)
                all_goals (repeat' first | exact vFn | refine vFc rfl ?_ | exact vHn | refine vHc rfl ?_ | refine vFc (congrArg (fun z => some (V.int z)) ?_) ?_ | refine vHc (congrArg (fun z => some (Blk.ints _ z)) ?_) ?_ | refine vFc (congrArg (fun z => some (V.bool z)) ?_) ?_ | refine vFs rfl rfl ?_ ?_ | refine vHc (by rw [ren_bots]; rfl) ?_)
                all_goals omega
                done)
               | (
                refine ⟨⟨0, c, fun j => match j with | 0 => A 0 | 1 => A 2 | _ => A 1, fun j => match j with | 0 => K 0 | 1 => K 2 | _ => K 1, fun j => match j with | 0 => S 0 | 1 => S 2 | _ => S 1⟩, ?_, View.mk' [] rfl (by simp only [wfB, List.all_cons, List.all_nil, ids_bots]; rfl) rfl ?_ ?_⟩
                · refine ⟨fun z hz => ?_, ?_⟩
                  · (have e : z = 0 ∨ z = 1 ∨ z = 2 := by omega); rcases e with rfl | rfl | rfl <;> first | exact hA 0 (by omega) | exact hA 1 (by omega) | exact hA 2 (by omega)
                  · refine rd_step hp hR hA hi1 (by omega) hcw hi0 rfl (fun z hz hne => ?_)
                    (have e : z = 0 ∨ z = 1 ∨ z = 2 := by omega); rcases e with rfl | rfl | rfl <;> first | rfl | (exact absurd rfl hne)
                all_goals (repeat' first | exact vFn | refine vFc rfl ?_ | exact vHn | refine vHc rfl ?_ | refine vFc (congrArg (fun z => some (V.int z)) ?_) ?_ | refine vHc (congrArg (fun z => some (Blk.ints _ z)) ?_) ?_ | refine vFc (congrArg (fun z => some (V.bool z)) ?_) ?_ | refine vFs rfl rfl ?_ ?_ | refine vHc (by rw [ren_bots]; rfl) ?_)
                all_goals omega
                done)
               | (
                refine ⟨⟨0, c, fun j => match j with | 0 => A 0 | 1 => A 1 | _ => A 2, fun j => match j with | 0 => K 0 | 1 => K 1 | _ => K 2, fun j => match j with | 0 => S 0 | 1 => S 1 | _ => S 2⟩, ?_, View.mk' [(2, 3), (3, 2)] rfl (by simp only [wfB, List.all_cons, List.all_nil, ids_bots]; rfl) rfl ?_ ?_⟩
                · refine ⟨fun z hz => ?_, ?_⟩
                  · (have e : z = 0 ∨ z = 1 ∨ z = 2 := by omega); rcases e with rfl | rfl | rfl <;> first | exact hA 0 (by omega) | exact hA 1 (by omega) | exact hA 2 (by omega)
                  · refine rd_step hp hR hA hi1 (by omega) hcw hi0 rfl (fun z hz hne => ?_)
                    (have e : z = 0 ∨ z = 1 ∨ z = 2 := by omega); rcases e with rfl | rfl | rfl <;> first | rfl | (exact absurd rfl hne)
                all_goals (repeat' first | exact vFn | refine vFc rfl ?_ | exact vHn | refine vHc rfl ?_ | refine vFc (congrArg (fun z => some (V.int z)) ?_) ?_ | refine vHc (congrArg (fun z => some (Blk.ints _ z)) ?_) ?_ | refine vFc (congrArg (fun z => some (V.bool z)) ?_) ?_ | refine vFs rfl rfl ?_ ?_ | refine vHc (by rw [ren_bots]; rfl) ?_)
                all_goals omega
                done)
               | (
                refine ⟨⟨0, c, fun j => match j with | 0 => A 1 | 1 => A 0 | _ => A 2, fun j => match j with | 0 => K 1 | 1 => K 0 | _ => K 2, fun j => match j with | 0 => S 1 | 1 => S 0 | _ => S 2⟩, ?_, View.mk' [(2, 3), (3, 2)] rfl (by simp only [wfB, List.all_cons, List.all_nil, ids_bots]; rfl) rfl ?_ ?_⟩
                · refine ⟨fun z hz => ?_, ?_⟩
                  · (have e : z = 0 ∨ z = 1 ∨ z = 2 := by omega); rcases e with rfl | rfl | rfl <;> first | exact hA 0 (by omega) | exact hA 1 (by omega) | exact hA 2 (by omega)
                  · refine rd_step hp hR hA hi1 (by omega) hcw hi0 rfl (fun z hz hne => ?_)
                    (have e : z = 0 ∨ z = 1 ∨ z = 2 := by omega); rcases e with rfl | rfl | rfl <;> first | rfl | (exact absurd rfl hne)
                all_goals (repeat' first | exact vFn | refine vFc rfl ?_ | exact vHn | refine vHc rfl ?_ | refine vFc (congrArg (fun z => some (V.int z)) ?_) ?_ | refine vHc (congrArg (fun z => some (Blk.ints _ z)) ?_) ?_ | refine vFc (congrArg (fun z => some (V.bool z)) ?_) ?_ | refine vFs rfl rfl ?_ ?_ | refine vHc (by rw [ren_bots]; rfl) ?_)
                all_goals omega
                done)
               | (
                refine ⟨⟨0, c, fun j => match j with | 0 => A 2 | 1 => A 1 | _ => A 0, fun j => match j with | 0 => K 2 | 1 => K 1 | _ => K 0, fun j => match j with | 0 => S 2 | 1 => S 1 | _ => S 0⟩, ?_, View.mk' [(2, 3), (3, 2)] rfl (by simp only [wfB, List.all_cons, List.all_nil, ids_bots]; rfl) rfl ?_ ?_⟩
                · refine ⟨fun z hz => ?_, ?_⟩
                  · (have e : z = 0 ∨ z = 1 ∨ z = 2 := by omega); rcases e with rfl | rfl | rfl <;> first | exact hA 0 (by omega) | exact hA 1 (by omega) | exact hA 2 (by omega)
                  · refine rd_step hp hR hA hi1 (by omega) hcw hi0 rfl (fun z hz hne => ?_)
                    (have e : z = 0 ∨ z = 1 ∨ z = 2 := by omega); rcases e with rfl | rfl | rfl <;> first | rfl | (exact absurd rfl hne)
                all_goals (repeat' first | exact vFn | refine vFc rfl ?_ | exact vHn | refine vHc rfl ?_ | refine vFc (congrArg (fun z => some (V.int z)) ?_) ?_ | refine vHc (congrArg (fun z => some (Blk.ints _ z)) ?_) ?_ | refine vFc (congrArg (fun z => some (V.bool z)) ?_) ?_ | refine vFs rfl rfl ?_ ?_ | refine vHc (by rw [ren_bots]; rfl) ?_)
                all_goals omega
                done)
               | (
                refine ⟨⟨0, c, fun j => match j with | 0 => A 0 | 1 => A 2 | _ => A 1, fun j => match j with | 0 => K 0 | 1 => K 2 | _ => K 1, fun j => match j with | 0 => S 0 | 1 => S 2 | _ => S 1⟩, ?_, View.mk' [(2, 3), (3, 2)] rfl (by simp only [wfB, List.all_cons, List.all_nil, ids_bots]; rfl) rfl ?_ ?_⟩
                · refine ⟨fun z hz => ?_, ?_⟩
                  · (have e : z = 0 ∨ z = 1 ∨ z = 2 := by omega); rcases e with rfl | rfl | rfl <;> first | exact hA 0 (by omega) | exact hA 1 (by omega) | exact hA 2 (by omega)
                  · refine rd_step hp hR hA hi1 (by omega) hcw hi0 rfl (fun z hz hne => ?_)
                    (have e : z = 0 ∨ z = 1 ∨ z = 2 := by omega); rcases e with rfl | rfl | rfl <;> first | rfl | (exact absurd rfl hne)
                all_goals (repeat' first | exact vFn | refine vFc rfl ?_ | exact vHn | refine vHc rfl ?_ | refine vFc (congrArg (fun z => some (V.int z)) ?_) ?_ | refine vHc (congrArg (fun z => some (Blk.ints _ z)) ?_) ?_ | refine vFc (congrArg (fun z => some (V.bool z)) ?_) ?_ | refine vFs rfl rfl ?_ ?_ | refine vHc (by rw [ren_bots]; rfl) ?_)
                all_goals omega
                done)
               | (
                refine ⟨⟨0, c, fun j => match j with | 0 => A 0 | 1 => A 1 | _ => A 2, fun j => match j with | 0 => K 0 | 1 => K 1 | _ => K 2, fun j => match j with | 0 => S 0 | 1 => S 1 | _ => S 2⟩, ?_, View.mk' [(2, 4), (4, 2)] rfl (by simp only [wfB, List.all_cons, List.all_nil, ids_bots]; rfl) rfl ?_ ?_⟩
                · refine ⟨fun z hz => ?_, ?_⟩
                  · (have e : z = 0 ∨ z = 1 ∨ z = 2 := by omega); rcases e with rfl | rfl | rfl <;> first | exact hA 0 (by omega) | exact hA 1 (by omega) | exact hA 2 (by omega)
                  · refine rd_step hp hR hA hi1 (by omega) hcw hi0 rfl (fun z hz hne => ?_)
                    (have e : z = 0 ∨ z = 1 ∨ z = 2 := by omega); rcases e with rfl | rfl | rfl <;> first | rfl | (exact absurd rfl hne)
                all_goals (repeat' first | exact vFn | refine vFc rfl ?_ | exact vHn | refine vHc rfl ?_ | refine vFc (congrArg (fun z => some (V.int z)) ?_) ?_ | refine vHc (congrArg (fun z => some (Blk.ints _ z)) ?_) ?_ | refine vFc (congrArg (fun z => some (V.bool z)) ?_) ?_ | refine vFs rfl rfl ?_ ?_ | refine vHc (by rw [ren_bots]; rfl) ?_)
                all_goals omega
                done)
               | (
                refine ⟨⟨0, c, fun j => match j with | 0 => A 1 | 1 => A 0 | _ => A 2, fun j => match j with | 0 => K 1 | 1 => K 0 | _ => K 2, fun j => match j with | 0 => S 1 | 1 => S 0 | _ => S 2⟩, ?_, View.mk' [(2, 4), (4, 2)] rfl (by simp only [wfB, List.all_cons, List.all_nil, ids_bots]; rfl) rfl ?_ ?_⟩
                · refine ⟨fun z hz => ?_, ?_⟩
                  · (have e : z = 0 ∨ z = 1 ∨ z = 2 := by omega); rcases e with rfl | rfl | rfl <;> first | exact hA 0 (by omega) | exact hA 1 (by omega) | exact hA 2 (by omega)
                  · refine rd_step hp hR hA hi1 (by omega) hcw hi0 rfl (fun z hz hne => ?_)
                    (have e : z = 0 ∨ z = 1 ∨ z = 2 := by omega); rcases e with rfl | rfl | rfl <;> first | rfl | (exact absurd rfl hne)
                all_goals (repeat' first | exact vFn | refine vFc rfl ?_ | exact vHn | refine vHc rfl ?_ | refine vFc (congrArg (fun z => some (V.int z)) ?_) ?_ | refine vHc (congrArg (fun z => some (Blk.ints _ z)) ?_) ?_ | refine vFc (congrArg (fun z => some (V.bool z)) ?_) ?_ | refine vFs rfl rfl ?_ ?_ | refine vHc (by rw [ren_bots]; rfl) ?_)
                all_goals omega
                done)
               | (
                refine ⟨⟨0, c, fun j => match j with | 0 => A 2 | 1 => A 1 | _ => A 0, fun j => match j with | 0 => K 2 | 1 => K 1 | _ => K 0, fun j => match j with | 0 => S 2 | 1 => S 1 | _ => S 0⟩, ?_, View.mk' [(2, 4), (4, 2)] rfl (by simp only [wfB, List.all_cons, List.all_nil, ids_bots]; rfl) rfl ?_ ?_⟩
                · refine ⟨fun z hz => ?_, ?_⟩
                  · (have e : z = 0 ∨ z = 1 ∨ z = 2 := by omega); rcases e with rfl | rfl | rfl <;> first | exact hA 0 (by omega) | exact hA 1 (by omega) | exact hA 2 (by omega)
                  · refine rd_step hp hR hA hi1 (by omega) hcw hi0 rfl (fun z hz hne => ?_)
                    (have e : z = 0 ∨ z = 1 ∨ z = 2 := by omega); rcases e with rfl | rfl | rfl <;> first | rfl | (exact absurd rfl hne)
                all_goals (repeat' first | exact vFn | refine vFc rfl ?_ | exact vHn | refine vHc rfl ?_ | refine vFc (congrArg (fun z => some (V.int z)) ?_) ?_ | refine vHc (congrArg (fun z => some (Blk.ints _ z)) ?_) ?_ | refine vFc (congrArg (fun z => some (V.bool z)) ?_) ?_ | refine vFs rfl rfl ?_ ?_ | refine vHc (by rw [ren_bots]; rfl) ?_)
                all_goals omega
                done)
               | (
                refine ⟨⟨0, c, fun j => match j with | 0 => A 0 | 1 => A 2 | _ => A 1, fun j => match j with | 0 => K 0 | 1 => K 2 | _ => K 1, fun j => match j with | 0 => S 0 | 1 => S 2 | _ => S 1⟩, ?_, View.mk' [(2, 4), (4, 2)] rfl (by simp only [wfB, List.all_cons, List.all_nil, ids_bots]; rfl) rfl ?_ ?_⟩
                · refine ⟨fun z hz => ?_, ?_⟩
                  · (have e : z = 0 ∨ z = 1 ∨ z = 2 := by omega); rcases e with rfl | rfl | rfl <;> first | exact hA 0 (by omega) | exact hA 1 (by omega) | exact hA 2 (by omega)
                  · refine rd_step hp hR hA hi1 (by omega) hcw hi0 rfl (fun z hz hne => ?_)
                    (have e : z = 0 ∨ z = 1 ∨ z = 2 := by omega); rcases e with rfl | rfl | rfl <;> first | rfl | (exact absurd rfl hne)
                all_goals (repeat' first | exact vFn | refine vFc rfl ?_ | exact vHn | refine vHc rfl ?_ | refine vFc (congrArg (fun z => some (V.int z)) ?_) ?_ | refine vHc (congrArg (fun z => some (Blk.ints _ z)) ?_) ?_ | refine vFc (congrArg (fun z => some (V.bool z)) ?_) ?_ | refine vFs rfl rfl ?_ ?_ | refine vHc (by rw [ren_bots]; rfl) ?_)
                all_goals omega
                done)
               | (
                refine ⟨⟨0, c, fun j => match j with | 0 => A 0 | 1 => A 1 | _ => A 2, fun j => match j with | 0 => K 0 | 1 => K 1 | _ => K 2, fun j => match j with | 0 => S 0 | 1 => S 1 | _ => S 2⟩, ?_, View.mk' [(3, 4), (4, 3)] rfl (by simp only [wfB, List.all_cons, List.all_nil, ids_bots]; rfl) rfl ?_ ?_⟩
                · refine ⟨fun z hz => ?_, ?_⟩
                  · (have e : z = 0 ∨ z = 1 ∨ z = 2 := by omega); rcases e with rfl | rfl | rfl <;> first | exact hA 0 (by omega) | exact hA 1 (by omega) | exact hA 2 (by omega)
                  · refine rd_step hp hR hA hi1 (by omega) hcw hi0 rfl (fun z hz hne => ?_)
                    (have e : z = 0 ∨ z = 1 ∨ z = 2 := by omega); rcases e with rfl | rfl | rfl <;> first | rfl | (exact absurd rfl hne)
                all_goals (repeat' first | exact vFn | refine vFc rfl ?_ | exact vHn | refine vHc rfl ?_ | refine vFc (congrArg (fun z => some (V.int z)) ?_) ?_ | refine vHc (congrArg (fun z => some (Blk.ints _ z)) ?_) ?_ | refine vFc (congrArg (fun z => some (V.bool z)) ?_) ?_ | refine vFs rfl rfl ?_ ?_ | refine vHc (by rw [ren_bots]; rfl) ?_)
                all_goals omega
                done)
               | (
                refine ⟨⟨0, c, fun j => match j with | 0 => A 1 | 1 => A 0 | _ => A 2, fun j => match j with | 0 => K 1 | 1 => K 0 | _ => K 2, fun j => match j with | 0 => S 1 | 1 => S 0 | _ => S 2⟩, ?_, View.mk' [(3, 4), (4, 3)] rfl (by simp only [wfB, List.all_cons, List.all_nil, ids_bots]; rfl) rfl ?_ ?_⟩
                · refine ⟨fun z hz => ?_, ?_⟩
                  · (have e : z = 0 ∨ z = 1 ∨ z = 2 := by omega); rcases e with rfl | rfl | rfl <;> first | exact hA 0 (by omega) | exact hA 1 (by omega) | exact hA 2 (by omega)
                  · refine rd_step hp hR hA hi1 (by omega) hcw hi0 rfl (fun z hz hne => ?_)
                    (have e : z = 0 ∨ z = 1 ∨ z = 2 := by omega); rcases e with rfl | rfl | rfl <;> first | rfl | (exact absurd rfl hne)
                all_goals (repeat' first | exact vFn | refine vFc rfl ?_ | exact vHn | refine vHc rfl ?_ | refine vFc (congrArg (fun z => some (V.int z)) ?_) ?_ | refine vHc (congrArg (fun z => some (Blk.ints _ z)) ?_) ?_ | refine vFc (congrArg (fun z => some (V.bool z)) ?_) ?_ | refine vFs rfl rfl ?_ ?_ | refine vHc (by rw [ren_bots]; rfl) ?_)
                all_goals omega
                done)
               | (
                refine ⟨⟨0, c, fun j => match j with | 0 => A 2 | 1 => A 1 | _ => A 0, fun j => match j with | 0 => K 2 | 1 => K 1 | _ => K 0, fun j => match j with | 0 => S 2 | 1 => S 1 | _ => S 0⟩, ?_, View.mk' [(3, 4), (4, 3)] rfl (by simp only [wfB, List.all_cons, List.all_nil, ids_bots]; rfl) rfl ?_ ?_⟩
                · refine ⟨fun z hz => ?_, ?_⟩
                  · (have e : z = 0 ∨ z = 1 ∨ z = 2 := by omega); rcases e with rfl | rfl | rfl <;> first | exact hA 0 (by omega) | exact hA 1 (by omega) | exact hA 2 (by omega)
                  · refine rd_step hp hR hA hi1 (by omega) hcw hi0 rfl (fun z hz hne => ?_)
                    (have e : z = 0 ∨ z = 1 ∨ z = 2 := by omega); rcases e with rfl | rfl | rfl <;> first | rfl | (exact absurd rfl hne)
                all_goals (repeat' first | exact vFn | refine vFc rfl ?_ | exact vHn | refine vHc rfl ?_ | refine vFc (congrArg (fun z => some (V.int z)) ?_) ?_ | refine vHc (congrArg (fun z => some (Blk.ints _ z)) ?_) ?_ | refine vFc (congrArg (fun z => some (V.bool z)) ?_) ?_ | refine vFs rfl rfl ?_ ?_ | refine vHc (by rw [ren_bots]; rfl) ?_)
                all_goals omega
                done)
               | (
                refine ⟨⟨0, c, fun j => match j with | 0 => A 0 | 1 => A 2 | _ => A 1, fun j => match j with | 0 => K 0 | 1 => K 2 | _ => K 1, fun j => match j with | 0 => S 0 | 1 => S 2 | _ => S 1⟩, ?_, View.mk' [(3, 4), (4, 3)] rfl (by simp only [wfB, List.all_cons, List.all_nil, ids_bots]; rfl) rfl ?_ ?_⟩
                · refine ⟨fun z hz => ?_, ?_⟩
                  · (have e : z = 0 ∨ z = 1 ∨ z = 2 := by omega); rcases e with rfl | rfl | rfl <;> first | exact hA 0 (by omega) | exact hA 1 (by omega) | exact hA 2 (by omega)
                  · refine rd_step hp hR hA hi1 (by omega) hcw hi0 rfl (fun z hz hne => ?_)
                    (have e : z = 0 ∨ z = 1 ∨ z = 2 := by omega); rcases e with rfl | rfl | rfl <;> first | rfl | (exact absurd rfl hne)
                all_goals (repeat' first | exact vFn | refine vFc rfl ?_ | exact vHn | refine vHc rfl ?_ | refine vFc (congrArg (fun z => some (V.int z)) ?_) ?_ | refine vHc (congrArg (fun z => some (Blk.ints _ z)) ?_) ?_ | refine vFc (congrArg (fun z => some (V.bool z)) ?_) ?_ | refine vFs rfl rfl ?_ ?_ | refine vHc (by rw [ren_bots]; rfl) ?_)
                all_goals omega
                done))))
          rintro ⟨cn', c', A', K', S'⟩ ⟨hA', hR'⟩
          dsimp only at hA' hR' ⊢
          have m0 := (hA' 0 (by omega)).1
          have m1 := (hA' 1 (by omega)).1
          have m2 := (hA' 2 (by omega)).1
          have hN2m : N2 < 3 := by omega
          obtain ⟨N3, hN3⟩ : ∃ z, z = N2 := ⟨N2, rfl⟩
          obtain ⟨N4, hN4⟩ : ∃ z, z = N2 := ⟨N2, rfl⟩
          have hn0 := fun (i : Nat) (hi : (A' i).length = 3) => normal_con p 2 (A' i ++ S' i) 3 (K' i) (by simp; omega) hp (by decide)
          have hno : ∀ i, (A' i).length = 3 → Con Try.prog [] 89 [.int p, .slice 0 0 3 (K' i)] [(0, .ints 2 (A' i ++ S' i))] (fun r H' => r = .bool (facP p (A' i) != 0) ∧ H' = [(0, .ints 2 (normL p (A' i) ++ S' i))]) := fun i hi => by
            have := hn0 i hi
            rwa [show (A' i ++ S' i).take 3 = A' i by rw [← hi, List.take_left], show (A' i ++ S' i).drop 3 = S' i by rw [← hi, List.drop_left]] at this
          clear hn0
          rw [hN2] at hN3 hN4 hR' hN2m
          subst hN2
          refine cR ?_
          iterate 3 refine oM rfl rfl ?_
          first | refine oQ (Is0 rfl rfl rfl rfl rfl rfl) rfl rfl ?_ | refine oQ (Is1 rfl rfl rfl rfl rfl rfl) rfl rfl ?_
          refine oQ (Q_ldv rfl rfl rfl rfl rfl rfl) rfl rfl ?_
          first | (refine oCall (hno 0 m0) [(0, 2)] 0 rfl rfl (Fits.mk' (vHc rfl vHn) rfl rfl (by simp)) rfl rfl ?_; rintro r H1 ⟨rfl, rfl⟩; refine ⟨.bool (facP p (A' 0) != 0), [(2, .ints 2 (normL p (A' 0) ++ S' 0))], rfl, rfl, rfl, ?_⟩) | (refine oCall (hno 1 m1) [(0, 3)] 0 rfl rfl (Fits.mk' (vHc rfl vHn) rfl rfl (by simp)) rfl rfl ?_; rintro r H1 ⟨rfl, rfl⟩; refine ⟨.bool (facP p (A' 1) != 0), [(3, .ints 2 (normL p (A' 1) ++ S' 1))], rfl, rfl, rfl, ?_⟩) | (refine oCall (hno 2 m2) [(0, 4)] 0 rfl rfl (Fits.mk' (vHc rfl vHn) rfl rfl (by simp)) rfl rfl ?_; rintro r H1 ⟨rfl, rfl⟩; refine ⟨.bool (facP p (A' 2) != 0), [(4, .ints 2 (normL p (A' 2) ++ S' 2))], rfl, rfl, rfl, ?_⟩)
          refine oN ?_
          refine CW_seq ?_
          refine cR ?_
          refine oM rfl rfl ?_
          first | refine oQ (Q_len rfl rfl rfl rfl) rfl rfl ?_ | refine oQ (Q_len0 rfl rfl rfl rfl) rfl rfl ?_
          refine oM rfl rfl ?_
          refine oN ?_
          refine CW_block ?_
          refine CW_loop (ι := Nat) (fun z => z ≤ 3) (fun z => ⟨[(0, .int p), (5, .slice 5 0 3 kO), (8, .int (N3 : Int)), (9, .int c), (83, .slice 5 0 3 kO), (84, .int 3), (85, .int z)], [(0, .vals 103 [.slice 1 0 3 c0, .slice 1 3 3 c1, .slice 1 6 3 c2]), (1, .ints t M), (2, .ints 2 ((rw3 p A' N3 c 3 z 0) ++ (S' 0))), (3, .ints 2 ((rw3 p A' N3 c 3 z 1) ++ (S' 1))), (4, .ints 2 ((rw3 p A' N3 c 3 z 2) ++ (S' 2))), (5, .vals 103 ([.slice 2 0 3 (K' 0), .slice 3 0 3 (K' 1), .slice 4 0 3 (K' 2)] ++ List.replicate (kO - 3) .bot))], 6⟩) (fun z => 3 - z) 0 ?_ ?_ ?_
          all_goals subst hN3
          · first | trivial | omega | (simp; done) | (simp; omega)
          · refine View.mk' [] rfl (by simp only [wfB, List.all_cons, List.all_nil, ids_bots]; rfl) rfl ?_ ?_
            repeat' first | exact vFn | refine vFc rfl ?_ | exact vHn | refine vHc rfl ?_ | refine vFc (congrArg (fun z => some (V.int z)) ?_) ?_ | refine vHc (congrArg (fun z => some (Blk.ints _ z)) ?_) ?_ | refine vFc (congrArg (fun z => some (V.bool z)) ?_) ?_ | refine vFs rfl rfl ?_ ?_ | refine vHc (by rw [ren_bots]; rfl) ?_
          intro z hz
          have hzz : z = 0 ∨ z = 1 ∨ z = 2 ∨ z = 3 := by omega
          have hN4m : N4 < 3 := by omega
          have w0 := (rw3_bd (c := c) (k := z) (show 0 < p by omega) hN4m hA' 0 (by omega)).1
          have w1 := (rw3_bd (c := c) (k := z) (show 0 < p by omega) hN4m hA' 1 (by omega)).1
          have w2 := (rw3_bd (c := c) (k := z) (show 0 < p by omega) hN4m hA' 2 (by omega)).1
          have t2 : z < 3 → (rw3 p A' N4 c 3 z z ++ S' z).getD c 0 = 0 → z ≠ N4 → ∀ j, rw3 p A' N4 c 3 (z + 1) j = rw3 p A' N4 c 3 z j := fun a b d j => rw3_zero a hA' (by rw [rw3_at d, getD_app (by rw [(hA' z a).1]; exact hcw)] at b; exact b)
          rw [hN4] at t2 w0 w1 w2
          obtain ⟨k4, hk4⟩ : ∃ y, y = z := ⟨z, rfl⟩
          rcases hzz with rfl | rfl | rfl | rfl
          all_goals (
           refine cR ?_
           refine oQ (Q_bin rfl rfl rfl) rfl rfl ?_
           refine oN ?_
           refine CW_seq ?_
           first | refine cT rfl ?_ | refine cF rfl ?_ | refine CW_cond rfl (fun hc => ?_) (fun hc => ?_)
           all_goals try simp only [s1, s2, s3, s4, s5, s6, s7, s8, s9, s10, s11, s12] at hc
           all_goals try (exfalso; first | omega | (simp at hc; done); done)
           all_goals first
             | (
              refine CW_skip ?_)
             | (
              refine CW_exit ?_)
           all_goals first
             | with_reducible refine tR ?_
             | with_reducible refine tE ?_
             | (
              with_reducible refine tN ?_
              refine CW_seq ?_
              refine CW_block ?_
              refine cR ?_
              refine oM rfl rfl ?_
              first | refine oQ (Is0 rfl rfl rfl rfl rfl rfl) rfl rfl ?_ | refine oQ (Is1 rfl rfl rfl rfl rfl rfl) rfl rfl ?_
              refine oQ (Q_ldv rfl rfl rfl rfl rfl rfl) rfl rfl ?_
              iterate 2 refine oA rfl rfl ?_
              refine oN ?_
              refine cR ?_
              iterate 2 refine oM rfl rfl ?_
              first | refine oQ (Is0 rfl rfl rfl rfl rfl rfl) rfl rfl ?_ | refine oQ (Is1 rfl rfl rfl rfl rfl rfl) rfl rfl ?_
              first | refine oQ (Q_ldc rfl rfl rfl rfl rfl) rfl rfl ?_ | refine oQ (Ld rfl rfl rfl rfl) rfl rfl ?_
              refine oA rfl rfl ?_
              refine oN ?_
              refine cR ?_
              iterate 2 refine oM rfl rfl ?_
              refine oQ (Q_bin rfl rfl rfl) rfl rfl ?_
              refine oM rfl rfl ?_
              all_goals first | refine oT rfl rfl ?_ | refine o1 rfl rfl rfl ?_ | refine o0 rfl rfl rfl ?_ | refine ogP1 rfl rfl rfl (fun hg => ?_) (fun hg => ?_) | refine ogP0 rfl rfl rfl (fun hg => ?_) (fun hg => ?_)
              all_goals try simp only [s1, s2, s3, s4, s5, s6, s7, s8, s9, s10, s11, s12] at hg
              all_goals try (exfalso; first | omega | exact absurd trivial hg | (simp at hg; done); done)
              all_goals first | (refine oM rfl rfl ?_) | skip
              all_goals first | refine oT rfl rfl ?_ | refine o1 rfl rfl rfl ?_ | refine o0 rfl rfl rfl ?_ | refine ogP1 rfl rfl rfl (fun hg => ?_) (fun hg => ?_) | refine ogP0 rfl rfl rfl (fun hg => ?_) (fun hg => ?_)
              all_goals try simp only [s1, s2, s3, s4, s5, s6, s7, s8, s9, s10, s11, s12] at hg
              all_goals try (exfalso; first | omega | exact absurd trivial hg | (simp at hg; done); done)
              all_goals first | (refine oQ (Q_bin rfl rfl rfl) rfl rfl ?_) | skip
              all_goals first | refine oQ (Q_pick_t rfl (by with_reducible rfl) rfl rfl) rfl rfl ?_ | refine oQ (Q_pick_f rfl (by with_reducible rfl) rfl rfl) rfl rfl ?_
              all_goals refine oN ?_
              all_goals (
               first | refine cT rfl ?_ | refine cF rfl ?_ | refine CW_cond rfl (fun hc => ?_) (fun hc => ?_)
               all_goals try simp only [s1, s2, s3, s4, s5, s6, s7, s8, s9, s10, s11, s12] at hc
               all_goals try (exfalso; first | omega | (simp at hc; done); done)
               all_goals first
                 | (
                  refine CW_skip ?_)
                 | (
                  refine cR ?_
                  refine oM rfl rfl ?_
                  first | refine oQ (Q_len rfl rfl rfl rfl) rfl rfl ?_ | refine oQ (Q_len0 rfl rfl rfl rfl) rfl rfl ?_
                  refine oM rfl rfl ?_
                  refine oN ?_
                  refine CW_block ?_
                  have hk4m : k4 < 3 := by omega
                  have hN4m : N4 < 3 := by omega
                  have hne : k4 ≠ N4 := by omega
                  have q0 := (hA' k4 hk4m).2
                  have q1 := fun y (hy : y < 3) => rw4_get (N := N4) (c := c) (s := S' k4) hk4m hA' hy
                  have q2 := fun y (hy : y < 3) => rw4_getN (c := c) (k := k4) (s := S' N4) hN4m hne.symm hA' hy
                  have q3 := fun y (hy : y < 3) => rw4_set (N := N4) (c := c) (s := S' k4) hk4m hA' hy
                  have q4 := fun y (hy : y = 3) (i : Nat) => rw4_end (N := N4) (c := c) (i := i) hne hk4m hA' hy
                  have q5 := fun (i : Nat) => rw4_zero (p := p) (A := A') (c := c) (w := 3) (i := i) hne
                  have q7 := fun y => normL_bd (show 0 < p by omega) (A' N4) y
                  have q8 := fun y (hy : y ≤ 3) => rw4_len (N := N4) (c := c) (i := k4) hN4m hk4m hk4m hA' hy
                  have q9 := fun y (hy : y ≤ 3) => rw4_len (N := N4) (c := c) (i := N4) hN4m hk4m hN4m hA' hy
                  have q6 : rw3 p A' N4 c 3 k4 k4 = A' k4 := rw3_at hne
                  refine CW_loop (ι := Nat) (fun y => y ≤ 3) (fun y => ⟨[(0, .int p), (5, .slice 5 0 3 kO), (8, .int (N4 : Int)), (9, .int c), (12, .slice (k4 + 2) 0 3 (K' k4)), (13, .int ((A' k4).getD c 0)), (83, .slice 5 0 3 kO), (84, .int 3), (85, .int (k4 : Int)), (102, .int 3), (103, .int y)], [(0, .vals 103 [.slice 1 0 3 c0, .slice 1 3 3 c1, .slice 1 6 3 c2]), (1, .ints t M), (2, .ints 2 ((rw4 p A' N4 c 3 k4 y 0) ++ (S' 0))), (3, .ints 2 ((rw4 p A' N4 c 3 k4 y 1) ++ (S' 1))), (4, .ints 2 ((rw4 p A' N4 c 3 k4 y 2) ++ (S' 2))), (5, .vals 103 ([.slice 2 0 3 (K' 0), .slice 3 0 3 (K' 1), .slice 4 0 3 (K' 2)] ++ List.replicate (kO - 3) .bot))], 6⟩) (fun y => 3 - y) 0 ?_ ?_ ?_
                  all_goals (subst hN4; subst hk4)
                  · first | trivial | omega | (simp; done) | (simp; omega)
                  · refine View.mk' [] rfl (by simp only [wfB, List.all_cons, List.all_nil, ids_bots]; rfl) rfl ?_ ?_
                    repeat' first | exact vFn | refine vFc rfl ?_ | exact vHn | refine vHc rfl ?_ | refine vFc (congrArg (fun z => some (V.int z)) ?_) ?_ | refine vHc (congrArg (fun z => some (Blk.ints _ z)) ?_) ?_ | refine vFc (congrArg (fun z => some (V.bool z)) ?_) ?_ | refine vFs rfl rfl ?_ ?_ | refine vHc (by rw [ren_bots]; rfl) ?_
                    all_goals first | rfl | exact (congrArg (· ++ _) (q5 _)) | exact (congrArg (· ++ _) (q5 _)).symm | (rw [getD_app (by omega), q6]) | (rw [getD_app (by omega)]; exact congrArg (fun z => List.getD z c 0) q6)
                  intro y hy
                  have e8 := q8 y hy
                  have e9 := q9 y hy
                  have b1 := q0 y
                  have b2 := q0 c
                  have b3 := q7 y
                  refine cR ?_
                  refine oQ (Q_bin rfl rfl rfl) rfl rfl ?_
                  refine oN ?_
                  refine CW_seq ?_
                  first | refine cT rfl ?_ | refine cF rfl ?_ | refine CW_cond rfl (fun hc => ?_) (fun hc => ?_)
                  all_goals try simp only [s1, s2, s3, s4, s5, s6, s7, s8, s9, s10, s11, s12] at hc
                  all_goals try (exfalso; first | omega | (simp at hc; done); done)
                  all_goals first
                    | (
                     refine CW_skip ?_)
                    | (
                     refine CW_exit ?_)
                  all_goals first
                    | with_reducible refine tR ?_
                    | with_reducible refine tE ?_
                    | (
                     with_reducible refine tN ?_
                     refine CW_seq ?_
                     refine CW_block ?_
                     refine cR ?_
                     refine oM rfl rfl ?_
                     refine oA rfl rfl ?_
                     refine oN ?_
                     refine CW_any (fun i => List.elem i [19]) 20 rfl lateOk (by decide +kernel) (fun hst => ?_)
                     refine aP 0 hst rfl rfl (by decide +kernel) (PX_move rfl rfl) rfl rfl ?_
                     refine aP 1 hst rfl rfl (by decide +kernel) (PX_move rfl rfl) rfl rfl ?_
                     refine aP 2 hst rfl rfl (by decide +kernel) (PX_move rfl rfl) rfl rfl ?_
                     refine aP 3 hst rfl rfl (by decide +kernel) (PX_move rfl rfl) rfl rfl ?_
                     first | refine aQ 4 hst rfl rfl (by decide +kernel) (QX_of (Is0 rfl rfl rfl rfl rfl rfl) NE_ix) rfl rfl ?_ | refine aQ 4 hst rfl rfl (by decide +kernel) (QX_of (Is1 rfl rfl rfl rfl rfl rfl) NE_ix) rfl rfl ?_
                     have hy3 : y < 3 := by omega
                     refine aQ 5 hst rfl rfl (by decide +kernel) (QX_of (Ld rfl rfl rfl rfl) NE_load) rfl rfl ?_
                     rw [q1 y hy3]
                     refine aP 6 hst rfl rfl (by decide +kernel) (PX_move rfl rfl) rfl rfl ?_
                     refine aP 7 hst rfl rfl (by decide +kernel) (PX_move rfl rfl) rfl rfl ?_
                     refine aP 8 hst rfl rfl (by decide +kernel) (PX_move rfl rfl) rfl rfl ?_
                     first | refine aQ 9 hst rfl rfl (by decide +kernel) (QX_of (Is0 rfl rfl rfl rfl rfl rfl) NE_ix) rfl rfl ?_ | refine aQ 9 hst rfl rfl (by decide +kernel) (QX_of (Is1 rfl rfl rfl rfl rfl rfl) NE_ix) rfl rfl ?_
                     refine aQ 10 hst rfl rfl (by decide +kernel) (QX_of (Q_ldv rfl rfl rfl rfl rfl rfl) NE_load) rfl rfl ?_
                     refine aP 11 hst rfl rfl (by decide +kernel) (PX_move rfl rfl) rfl rfl ?_
                     first | refine aQ 12 hst rfl rfl (by decide +kernel) (QX_of (Is0 rfl rfl rfl rfl rfl rfl) NE_ix) rfl rfl ?_ | refine aQ 12 hst rfl rfl (by decide +kernel) (QX_of (Is1 rfl rfl rfl rfl rfl rfl) NE_ix) rfl rfl ?_
                     refine aQ 13 hst rfl rfl (by decide +kernel) (QX_of (Ld rfl rfl rfl rfl) NE_load) rfl rfl ?_
                     rw [q2 y hy3]
                     refine aMul 14 hst rfl rfl (by decide +kernel) 12 12 rfl rfl (by omega) (by omega) (by decide) rfl (fun z120 hz120 hl120 hu120 => ?_)
                     first | refine aQ 15 hst rfl rfl (by decide +kernel) (QX_of (Q_binu rfl rfl rfl (by omega)) NE_bin) rfl rfl ?_ | refine aQ 15 hst rfl rfl (by decide +kernel) (QX_of (Q_bin rfl rfl rfl) NE_bin) rfl rfl ?_
                     refine aP 16 hst rfl rfl (by decide +kernel) (PX_move rfl rfl) rfl rfl ?_
                     refine aQ 17 hst rfl rfl (by decide +kernel) (QX_call0 (mod_con _ _ (by omega) (by omega)) rfl rfl rfl) rfl rfl ?_
                     first | refine aQ 18 hst rfl rfl (by decide +kernel) (QX_of (Is0 rfl rfl rfl rfl rfl rfl) NE_ix) rfl rfl ?_ | refine aQ 18 hst rfl rfl (by decide +kernel) (QX_of (Is1 rfl rfl rfl rfl rfl rfl) NE_ix) rfl rfl ?_
                     refine AW_last [19] rfl (by decide +kernel) rfl ?_
                     refine oS rfl rfl rfl rfl rfl ?_
                     refine OW_nil (npN ?_)
                     all_goals first | with_reducible refine bN ?_ | with_reducible refine bE ?_ | with_reducible refine bR ?_ | refine bX rfl ?_
                     all_goals with_reducible refine tN ?_
                     all_goals (
                      refine CW_region ?_
                      first | refine oQ (Q_binu rfl rfl rfl (by omega)) rfl rfl ?_ | refine oQ (Q_bin rfl rfl rfl) rfl rfl ?_
                      refine oM rfl rfl ?_
                      refine OW_nil ?_))
                  all_goals first
                    | with_reducible refine tR ?_
                    | with_reducible refine tE ?_
                    | (
                     with_reducible refine tN ?_
                     refine ⟨y + 1, ?_, ?_, View.mk' [] rfl (by simp only [wfB, List.all_cons, List.all_nil, ids_bots]; rfl) rfl ?_ ?_⟩
                     · omega
                     · omega
                     all_goals (repeat' first | exact vFn | refine vFc rfl ?_ | exact vHn | refine vHc rfl ?_ | refine vFc (congrArg (fun z => some (V.int z)) ?_) ?_ | refine vHc (congrArg (fun z => some (Blk.ints _ z)) ?_) ?_ | refine vFc (congrArg (fun z => some (V.bool z)) ?_) ?_ | refine vFs rfl rfl ?_ ?_ | refine vHc (by rw [ren_bots]; rfl) ?_)
                     all_goals first | rfl | omega | (subst hz120; exact q3 y hy3) | (subst hz120; exact (q3 y hy3).symm))
                  all_goals first | with_reducible refine bN ?_ | with_reducible refine bE ?_ | with_reducible refine bR ?_ | refine bX rfl ?_))
              all_goals first | with_reducible refine bN ?_ | with_reducible refine bE ?_ | with_reducible refine bR ?_ | refine bX rfl ?_
              all_goals with_reducible refine tN ?_
              all_goals (
               refine CW_region ?_
               first | refine oQ (Q_binu rfl rfl rfl (by omega)) rfl rfl ?_ | refine oQ (Q_bin rfl rfl rfl) rfl rfl ?_
               refine oM rfl rfl ?_
               refine OW_nil ?_))
           all_goals first
             | with_reducible refine tR ?_
             | with_reducible refine tE ?_
             | (
              with_reducible refine tN ?_
              first
                | (
                 refine ⟨0 + 1, ?_, ?_, View.mk' [] rfl (by simp only [wfB, List.all_cons, List.all_nil, ids_bots]; rfl) rfl ?_ ?_⟩
                 · omega
                 · omega
                 all_goals (repeat' first | exact vFn | refine vFc rfl ?_ | exact vHn | refine vHc rfl ?_ | refine vFc (congrArg (fun z => some (V.int z)) ?_) ?_ | refine vHc (congrArg (fun z => some (Blk.ints _ z)) ?_) ?_ | refine vFc (congrArg (fun z => some (V.bool z)) ?_) ?_ | refine vFs rfl rfl ?_ ?_ | refine vHc (by rw [ren_bots]; rfl) ?_)
                 all_goals first | rfl | omega | exact congrArg (· ++ _) (q4 y (by omega) _) | exact (congrArg (· ++ _) (q4 y (by omega) _)).symm | exact congrArg (· ++ _) (t2 (by decide) (by assumption) (by decide) _) | exact (congrArg (· ++ _) (t2 (by decide) (by assumption) (by decide) _)).symm
                 done)
                | (
                 refine ⟨1 + 1, ?_, ?_, View.mk' [] rfl (by simp only [wfB, List.all_cons, List.all_nil, ids_bots]; rfl) rfl ?_ ?_⟩
                 · omega
                 · omega
                 all_goals (repeat' first | exact vFn | refine vFc rfl ?_ | exact vHn | refine vHc rfl ?_ | refine vFc (congrArg (fun z => some (V.int z)) ?_) ?_ | refine vHc (congrArg (fun z => some (Blk.ints _ z)) ?_) ?_ | refine vFc (congrArg (fun z => some (V.bool z)) ?_) ?_ | refine vFs rfl rfl ?_ ?_ | refine vHc (by rw [ren_bots]; rfl) ?_)
                 all_goals first | rfl | omega | exact congrArg (· ++ _) (q4 y (by omega) _) | exact (congrArg (· ++ _) (q4 y (by omega) _)).symm | exact congrArg (· ++ _) (t2 (by decide) (by assumption) (by decide) _) | exact (congrArg (· ++ _) (t2 (by decide) (by assumption) (by decide) _)).symm
                 done)
                | (
                 refine ⟨2 + 1, ?_, ?_, View.mk' [] rfl (by simp only [wfB, List.all_cons, List.all_nil, ids_bots]; rfl) rfl ?_ ?_⟩
                 · omega
                 · omega
                 all_goals (repeat' first | exact vFn | refine vFc rfl ?_ | exact vHn | refine vHc rfl ?_ | refine vFc (congrArg (fun z => some (V.int z)) ?_) ?_ | refine vHc (congrArg (fun z => some (Blk.ints _ z)) ?_) ?_ | refine vFc (congrArg (fun z => some (V.bool z)) ?_) ?_ | refine vFs rfl rfl ?_ ?_ | refine vHc (by rw [ren_bots]; rfl) ?_)
                 all_goals first | rfl | omega | exact congrArg (· ++ _) (q4 y (by omega) _) | exact (congrArg (· ++ _) (q4 y (by omega) _)).symm | exact congrArg (· ++ _) (t2 (by decide) (by assumption) (by decide) _) | exact (congrArg (· ++ _) (t2 (by decide) (by assumption) (by decide) _)).symm
                 done)))
          all_goals first | with_reducible refine bN ?_ | with_reducible refine bE ?_ | with_reducible refine bR ?_ | refine bX rfl ?_
          all_goals with_reducible refine tN ?_
          all_goals (
           refine CW_region ?_
           refine oM rfl rfl ?_
           first | refine oQ (Q_binu rfl rfl rfl (by omega)) rfl rfl ?_ | refine oQ (Q_bin rfl rfl rfl) rfl rfl ?_
           refine oA rfl rfl ?_
           refine OW_nil ?_))
       all_goals first | with_reducible refine bN ?_ | with_reducible refine bE ?_ | with_reducible refine bR ?_ | refine bX rfl ?_
       all_goals with_reducible refine tN ?_
       all_goals (
        refine CW_region ?_
        refine oM rfl rfl ?_
        first | refine oQ (Q_binu rfl rfl rfl (by omega)) rfl rfl ?_ | refine oQ (Q_bin rfl rfl rfl) rfl rfl ?_
        refine oA rfl rfl ?_
        refine OW_nil ?_))
    all_goals first
      | with_reducible refine tR ?_
      | with_reducible refine tE ?_
      | (
       with_reducible refine tN ?_
       first
         | (
          refine ⟨⟨0, c + 1, A, K, S⟩, ?_, ?_, View.mk' [] rfl (by simp only [wfB, List.all_cons, List.all_nil, ids_bots]; rfl) rfl ?_ ?_⟩
          · try dsimp only
            refine ⟨by omega, by omega, by omega, ?_, ?_⟩
            · first | exact hA | exact rw3_bd (by omega) (by omega) hA'
            · first | exact RedI_skip hR (fun k a b => hi3 k a (by omega)) | exact hR'
          · (try dsimp only); omega
          all_goals (repeat' first | exact vFn | refine vFc rfl ?_ | exact vHn | refine vHc rfl ?_ | refine vFc (congrArg (fun z => some (V.int z)) ?_) ?_ | refine vHc (congrArg (fun z => some (Blk.ints _ z)) ?_) ?_ | refine vFc (congrArg (fun z => some (V.bool z)) ?_) ?_ | refine vFs rfl rfl ?_ ?_ | refine vHc (by rw [ren_bots]; rfl) ?_)
          all_goals first | rfl | omega
          done)
         | (
          refine ⟨⟨1, c + 1, A, K, S⟩, ?_, ?_, View.mk' [] rfl (by simp only [wfB, List.all_cons, List.all_nil, ids_bots]; rfl) rfl ?_ ?_⟩
          · try dsimp only
            refine ⟨by omega, by omega, by omega, ?_, ?_⟩
            · first | exact hA | exact rw3_bd (by omega) (by omega) hA'
            · first | exact RedI_skip hR (fun k a b => hi3 k a (by omega)) | exact hR'
          · (try dsimp only); omega
          all_goals (repeat' first | exact vFn | refine vFc rfl ?_ | exact vHn | refine vHc rfl ?_ | refine vFc (congrArg (fun z => some (V.int z)) ?_) ?_ | refine vHc (congrArg (fun z => some (Blk.ints _ z)) ?_) ?_ | refine vFc (congrArg (fun z => some (V.bool z)) ?_) ?_ | refine vFs rfl rfl ?_ ?_ | refine vHc (by rw [ren_bots]; rfl) ?_)
          all_goals first | rfl | omega
          done)
         | (
          refine ⟨⟨2, c + 1, A, K, S⟩, ?_, ?_, View.mk' [] rfl (by simp only [wfB, List.all_cons, List.all_nil, ids_bots]; rfl) rfl ?_ ?_⟩
          · try dsimp only
            refine ⟨by omega, by omega, by omega, ?_, ?_⟩
            · first | exact hA | exact rw3_bd (by omega) (by omega) hA'
            · first | exact RedI_skip hR (fun k a b => hi3 k a (by omega)) | exact hR'
          · (try dsimp only); omega
          all_goals (repeat' first | exact vFn | refine vFc rfl ?_ | exact vHn | refine vHc rfl ?_ | refine vFc (congrArg (fun z => some (V.int z)) ?_) ?_ | refine vHc (congrArg (fun z => some (Blk.ints _ z)) ?_) ?_ | refine vFc (congrArg (fun z => some (V.bool z)) ?_) ?_ | refine vFs rfl rfl ?_ ?_ | refine vHc (by rw [ren_bots]; rfl) ?_)
          all_goals first | rfl | omega
          done)
         | (
          refine ⟨⟨0 + 1, c + 1, rw3 p A' 0 c 3 3, K', S'⟩, ?_, ?_, View.mk' [] rfl (by simp only [wfB, List.all_cons, List.all_nil, ids_bots]; rfl) rfl ?_ ?_⟩
          · try dsimp only
            refine ⟨by omega, by omega, by omega, ?_, ?_⟩
            · first | exact hA | exact rw3_bd (by omega) (by omega) hA'
            · first | exact RedI_skip hR (fun k a b => hi3 k a (by omega)) | exact hR'
          · (try dsimp only); omega
          all_goals (repeat' first | exact vFn | refine vFc rfl ?_ | exact vHn | refine vHc rfl ?_ | refine vFc (congrArg (fun z => some (V.int z)) ?_) ?_ | refine vHc (congrArg (fun z => some (Blk.ints _ z)) ?_) ?_ | refine vFc (congrArg (fun z => some (V.bool z)) ?_) ?_ | refine vFs rfl rfl ?_ ?_ | refine vHc (by rw [ren_bots]; rfl) ?_)
          all_goals first | rfl | omega
          done)
         | (
          refine ⟨⟨1 + 1, c + 1, rw3 p A' 1 c 3 3, K', S'⟩, ?_, ?_, View.mk' [] rfl (by simp only [wfB, List.all_cons, List.all_nil, ids_bots]; rfl) rfl ?_ ?_⟩
          · try dsimp only
            refine ⟨by omega, by omega, by omega, ?_, ?_⟩
            · first | exact hA | exact rw3_bd (by omega) (by omega) hA'
            · first | exact RedI_skip hR (fun k a b => hi3 k a (by omega)) | exact hR'
          · (try dsimp only); omega
          all_goals (repeat' first | exact vFn | refine vFc rfl ?_ | exact vHn | refine vHc rfl ?_ | refine vFc (congrArg (fun z => some (V.int z)) ?_) ?_ | refine vHc (congrArg (fun z => some (Blk.ints _ z)) ?_) ?_ | refine vFc (congrArg (fun z => some (V.bool z)) ?_) ?_ | refine vFs rfl rfl ?_ ?_ | refine vHc (by rw [ren_bots]; rfl) ?_)
          all_goals first | rfl | omega
          done)
         | (
          refine ⟨⟨2 + 1, c + 1, rw3 p A' 2 c 3 3, K', S'⟩, ?_, ?_, View.mk' [] rfl (by simp only [wfB, List.all_cons, List.all_nil, ids_bots]; rfl) rfl ?_ ?_⟩
          · try dsimp only
            refine ⟨by omega, by omega, by omega, ?_, ?_⟩
            · first | exact hA | exact rw3_bd (by omega) (by omega) hA'
            · first | exact RedI_skip hR (fun k a b => hi3 k a (by omega)) | exact hR'
          · (try dsimp only); omega
          all_goals (repeat' first | exact vFn | refine vFc rfl ?_ | exact vHn | refine vHc rfl ?_ | refine vFc (congrArg (fun z => some (V.int z)) ?_) ?_ | refine vHc (congrArg (fun z => some (Blk.ints _ z)) ?_) ?_ | refine vFc (congrArg (fun z => some (V.bool z)) ?_) ?_ | refine vFs rfl rfl ?_ ?_ | refine vHc (by rw [ren_bots]; rfl) ?_)
          all_goals first | rfl | omega
          done)))
   all_goals first | with_reducible refine bN ?_ | with_reducible refine bE ?_ | with_reducible refine bR ?_ | refine bX rfl ?_
   all_goals with_reducible refine tN ?_
   all_goals (
    refine cR ?_
    iterate 2 refine oM rfl rfl ?_
    refine oQ (Q_slsH rfl rfl rfl rfl rfl (by first | omega | (dsimp only; omega) | (simp; omega) | (simp; done))) rfl rfl ?_
    refine oA rfl rfl ?_
    refine oN ?_
    refine CW_ret ?_))
  all_goals (
   have e := RedI_end hp hR (by omega) (by omega)
   first | exact exitH (r0 := .slice 5 0 0 kO) (H0 := [(0, .vals 103 [.slice 1 0 3 c0, .slice 1 3 3 c1, .slice 1 6 3 c2]), (1, .ints t M), (2, .ints 2 ((A 0) ++ (S 0))), (3, .ints 2 ((A 1) ++ (S 1))), (4, .ints 2 ((A 2) ++ (S 2))), (5, .vals 103 ([.slice 2 0 3 (K 0), .slice 3 0 3 (K 1), .slice 4 0 3 (K 2)] ++ List.replicate (kO - 3) .bot))]) (.inr rfl) [] 6 (.cons (.tmp rfl rfl) .nil) rfl rfl rfl (vHc rfl (vHc rfl (vHc rfl (vHc rfl (vHc rfl (vHc (by rw [ren_bots]; rfl) vHn)))))) (by simp only [wfB, List.all_cons, List.all_nil, ids_bots]; rfl) rfl ⟨kO, A, K, S, by rw [e], hA, ⟨c, h2, by omega, by rw [e]; exact hR⟩, rfl⟩ | exact exitH (r0 := .slice 5 0 1 kO) (H0 := [(0, .vals 103 [.slice 1 0 3 c0, .slice 1 3 3 c1, .slice 1 6 3 c2]), (1, .ints t M), (2, .ints 2 ((A 0) ++ (S 0))), (3, .ints 2 ((A 1) ++ (S 1))), (4, .ints 2 ((A 2) ++ (S 2))), (5, .vals 103 ([.slice 2 0 3 (K 0), .slice 3 0 3 (K 1), .slice 4 0 3 (K 2)] ++ List.replicate (kO - 3) .bot))]) (.inr rfl) [] 6 (.cons (.tmp rfl rfl) .nil) rfl rfl rfl (vHc rfl (vHc rfl (vHc rfl (vHc rfl (vHc rfl (vHc (by rw [ren_bots]; rfl) vHn)))))) (by simp only [wfB, List.all_cons, List.all_nil, ids_bots]; rfl) rfl ⟨kO, A, K, S, by rw [e], hA, ⟨c, h2, by omega, by rw [e]; exact hR⟩, rfl⟩ | exact exitH (r0 := .slice 5 0 2 kO) (H0 := [(0, .vals 103 [.slice 1 0 3 c0, .slice 1 3 3 c1, .slice 1 6 3 c2]), (1, .ints t M), (2, .ints 2 ((A 0) ++ (S 0))), (3, .ints 2 ((A 1) ++ (S 1))), (4, .ints 2 ((A 2) ++ (S 2))), (5, .vals 103 ([.slice 2 0 3 (K 0), .slice 3 0 3 (K 1), .slice 4 0 3 (K 2)] ++ List.replicate (kO - 3) .bot))]) (.inr rfl) [] 6 (.cons (.tmp rfl rfl) .nil) rfl rfl rfl (vHc rfl (vHc rfl (vHc rfl (vHc rfl (vHc rfl (vHc (by rw [ren_bots]; rfl) vHn)))))) (by simp only [wfB, List.all_cons, List.all_nil, ids_bots]; rfl) rfl ⟨kO, A, K, S, by rw [e], hA, ⟨c, h2, by omega, by rw [e]; exact hR⟩, rfl⟩ | exact exitH (r0 := .slice 5 0 3 kO) (H0 := [(0, .vals 103 [.slice 1 0 3 c0, .slice 1 3 3 c1, .slice 1 6 3 c2]), (1, .ints t M), (2, .ints 2 ((A 0) ++ (S 0))), (3, .ints 2 ((A 1) ++ (S 1))), (4, .ints 2 ((A 2) ++ (S 2))), (5, .vals 103 ([.slice 2 0 3 (K 0), .slice 3 0 3 (K 1), .slice 4 0 3 (K 2)] ++ List.replicate (kO - 3) .bot))]) (.inr rfl) [] 6 (.cons (.tmp rfl rfl) .nil) rfl rfl rfl (vHc rfl (vHc rfl (vHc rfl (vHc rfl (vHc rfl (vHc (by rw [ren_bots]; rfl) vHn)))))) (by simp only [wfB, List.all_cons, List.all_nil, ids_bots]; rfl) rfl ⟨kO, A, K, S, by rw [e], hA, ⟨c, h2, by omega, by rw [e]; exact hR⟩, rfl⟩)
end Go.Proofs.Ytoiolpgmilobnaa
namespace Go.Proofs.Ytoiolpgmilobnaa
set_option maxRecDepth 10000
set_option linter.unusedSimpArgs false
set_option linter.unusedVariables false
attribute [local irreducible] CW OW QW QOp Con thenP inBlockP AW QX RW AX
theorem l01LessB_con (p : Int) (t t' : TypeId) (R S : List Int) (n k k' : Nat) (m : Int) (hp : primeB p = true) (hR : n ≤ R.length) (hS : n ≤ S.length) (h9 : n ≤ 1000) (bR : ∀ j, j < n → 0 ≤ R.getD j 0 ∧ R.getD j 0 ≤ 12) (bS : ∀ j, j < n → 0 ≤ S.getD j 0 ∧ S.getD j 0 ≤ 12) (bm : 0 ≤ m ∧ m ≤ 12) : Con Try.prog [] 120 [.int p, .slice 0 0 n k, .slice 1 0 n k', .int m] [(0, .ints t R), (1, .ints t' S)] (fun v H' => ∃ k2 sp, n ≤ k2 ∧ k2 ≤ n + sp.length ∧ v = .slice 2 0 n k2 ∧ H' = [(0, .ints t R), (1, .ints t' S), (2, .ints 2 (lsL p R S m n ++ sp))]) := by
  have hb := prime_bd hp
  refine conW tab_ok [(0, .int p), (1, .slice 0 0 n k), (2, .slice 1 0 n k'), (3, .int m)] 2 [0, 1] [0, 1] Try.func120 rfl rfl rfl rfl rfl rfl rfl rfl rfl ?_
  refine cR ?_
  refine oA rfl rfl ?_
  refine oN ?_
  refine cR ?_
  refine oBsl (zl := []) (r := []) rfl rfl rfl rfl (.inl ⟨rfl, rfl⟩) rfl rfl rfl rfl rfl rfl ?_
  refine oA rfl rfl ?_
  refine oN ?_
  refine CW_seq ?_
  refine cR ?_
  refine oA rfl rfl ?_
  refine oN ?_
  refine CW_block ?_
  refine CW_loop (ι := Nat × Nat × List Int) (fun x => x.1 ≤ n ∧ x.1 ≤ x.2.1 ∧ x.2.1 ≤ x.1 + x.2.2.length) (fun x => ⟨[(0, .int p), (1, .slice 0 0 n k), (2, .slice 1 0 n k'), (3, .int m), (9, .slice 2 0 x.1 x.2.1), (10, .int x.1)], [(0, .ints t R), (1, .ints t' S), (2, .ints 2 (lsL p R S m x.1 ++ x.2.2))], 3⟩) (fun x => n - x.1) (0, 0, []) ?_ ?_ ?_
  · exact ⟨Nat.zero_le _, Nat.le_refl _, Nat.le_refl _⟩
  · refine View.mk' [] rfl rfl rfl ?_ ?_
    repeat' first | exact vFn | refine vFc rfl ?_ | exact vHn | refine vHc rfl ?_ | refine vFc (congrArg (fun z => some (V.int z)) ?_) ?_ | refine vHc (congrArg (fun z => some (Blk.ints _ z)) ?_) ?_ | refine vFc (congrArg (fun z => some (V.bool z)) ?_) ?_ | refine vFs rfl rfl ?_ ?_
  rintro ⟨i, kk, sp⟩ ⟨hi, hi2, hi3⟩
  dsimp only at hi hi2 hi3 ⊢
  have b1 := bR i
  have b2 := bS i
  have hlen : (lsL p R S m i).length = i * 1 := by rw [lsL_len]; omega
  refine CW_seq ?_
  refine cR ?_
  iterate 2 refine oM rfl rfl ?_
  first | refine oQ (Q_len rfl rfl rfl rfl) rfl rfl ?_ | refine oQ (Q_len0 rfl rfl rfl rfl) rfl rfl ?_
  refine oQ (Q_bin rfl rfl rfl) rfl rfl ?_
  refine oN ?_
  first | refine cT rfl ?_ | refine cF rfl ?_ | refine CW_cond rfl (fun hc => ?_) (fun hc => ?_)
  all_goals try simp only [s1, s2, s3, s4, s5, s6, s7, s8, s9, s10, s11, s12] at hc
  all_goals first
    | (
     refine CW_skip ?_)
    | (
     refine CW_exit ?_)
  all_goals first
    | with_reducible refine tR ?_
    | with_reducible refine tE ?_
    | (
     with_reducible refine tN ?_
     refine CW_seq ?_
     refine CW_block ?_
     refine CW_any (fun i => List.elem i [15, 16]) 17 rfl lateOk (by decide +kernel) (fun hst => ?_)
     refine aP 0 hst rfl rfl (by decide +kernel) (PX_move rfl rfl) rfl rfl ?_
     refine aP 1 hst rfl rfl (by decide +kernel) (PX_move rfl rfl) rfl rfl ?_
     refine aP 2 hst rfl rfl (by decide +kernel) (PX_move rfl rfl) rfl rfl ?_
     refine aP 3 hst rfl rfl (by decide +kernel) (PX_move rfl rfl) rfl rfl ?_
     first | refine aQ 4 hst rfl rfl (by decide +kernel) (QX_of (Is0 rfl rfl rfl rfl rfl rfl) NE_ix) rfl rfl ?_ | refine aQ 4 hst rfl rfl (by decide +kernel) (QX_of (Is1 rfl rfl rfl rfl rfl rfl) NE_ix) rfl rfl ?_
     refine aQ 5 hst rfl rfl (by decide +kernel) (QX_of (Ld rfl rfl rfl rfl) NE_load) rfl rfl ?_
     refine aP 6 hst rfl rfl (by decide +kernel) (PX_move rfl rfl) rfl rfl ?_
     refine aP 7 hst rfl rfl (by decide +kernel) (PX_move rfl rfl) rfl rfl ?_
     refine aP 8 hst rfl rfl (by decide +kernel) (PX_move rfl rfl) rfl rfl ?_
     first | refine aQ 9 hst rfl rfl (by decide +kernel) (QX_of (Is0 rfl rfl rfl rfl rfl rfl) NE_ix) rfl rfl ?_ | refine aQ 9 hst rfl rfl (by decide +kernel) (QX_of (Is1 rfl rfl rfl rfl rfl rfl) NE_ix) rfl rfl ?_
     refine aQ 10 hst rfl rfl (by decide +kernel) (QX_of (Ld rfl rfl rfl rfl) NE_load) rfl rfl ?_
     refine aMul 11 hst rfl rfl (by decide +kernel) 12 12 rfl rfl (by omega) (by omega) (by decide) rfl (fun z29 hz29 hl29 hu29 => ?_)
     first | refine aQ 12 hst rfl rfl (by decide +kernel) (QX_of (Q_binu rfl rfl rfl (by omega)) NE_bin) rfl rfl ?_ | refine aQ 12 hst rfl rfl (by decide +kernel) (QX_of (Q_bin rfl rfl rfl) NE_bin) rfl rfl ?_
     subst hz29
     refine aQ 13 hst rfl rfl (by decide +kernel) (QX_call0 (l01Mod_con (R.getD i 0 - m * S.getD i 0) p (by omega) (by omega)) rfl rfl rfl) rfl rfl ?_
     refine AW_one (i := 14) (by decide +kernel) ?_
     refine gBsl (zl := []) rfl rfl rfl rfl rfl rfl (.inl ⟨rfl, rfl⟩) rfl rfl rfl rfl rfl rfl ?_
     refine AW_last [15, 16] rfl (by decide +kernel) rfl ?_
     refine oApp (sz := 1) (by_ := 8) rfl rfl rfl rfl rfl rfl ⟨by decide, rfl, .inl ⟨rfl, rfl⟩⟩ rfl rfl rfl rfl rfl rfl hlen rfl (by omega) hi2 (by omega) (by omega) rfl rfl (fun k2 sp2 h1 h2 => ?_)
     refine oA rfl rfl ?_
     refine OW_nil (npN ?_)
     all_goals first | with_reducible refine bN ?_ | with_reducible refine bE ?_ | with_reducible refine bR ?_ | refine bX rfl ?_
     all_goals with_reducible refine tN ?_
     all_goals (
      refine CW_region ?_
      refine oM rfl rfl ?_
      first | refine oQ (Q_binu rfl rfl rfl (by omega)) rfl rfl ?_ | refine oQ (Q_bin rfl rfl rfl) rfl rfl ?_
      refine oA rfl rfl ?_
      refine OW_nil ?_))
  all_goals first
    | with_reducible refine tR ?_
    | with_reducible refine tE ?_
    | (
     with_reducible refine tN ?_
     refine ⟨(i + 1, k2, sp2), ?_, ?_, View.mk' [(2, 4)] rfl rfl rfl ?_ ?_⟩
     · exact ⟨by omega, by simpa using h1, by simpa using h2⟩
     · omega
     all_goals (repeat' first | exact vFn | refine vFc rfl ?_ | exact vHn | refine vHc rfl ?_ | refine vFc (congrArg (fun z => some (V.int z)) ?_) ?_ | refine vHc (congrArg (fun z => some (Blk.ints _ z)) ?_) ?_ | refine vFc (congrArg (fun z => some (V.bool z)) ?_) ?_ | refine vFs rfl rfl ?_ ?_)
     all_goals dsimp only
     all_goals (rw [lsL_snoc]; rfl))
  all_goals first | with_reducible refine bN ?_ | with_reducible refine bE ?_ | with_reducible refine bR ?_ | refine bX rfl ?_
  all_goals with_reducible refine tN ?_
  all_goals (
   refine cR ?_
   refine oM rfl rfl ?_
   refine oA rfl rfl ?_
   refine oN ?_
   refine CW_ret ?_)
  all_goals (
   have e : i = n := by omega
   subst e
   exact exitH (r0 := .slice 2 0 i kk) (H0 := [(0, .ints t R), (1, .ints t' S), (2, .ints 2 (lsL p R S m i ++ sp))]) (.inr rfl) [] 3 (.cons (.tmp rfl rfl) .nil) rfl rfl rfl (vHc rfl (vHc rfl (vHc rfl vHn))) rfl rfl ⟨kk, sp, hi2, hi3, rfl, rfl⟩)
theorem lsL_app (p : Int) {r s : List Int} (a b : List Int) (k : Int) {w : Nat} (hr : r.length = w) (hs : s.length = w) : lsL p (r ++ a) (s ++ b) k w = lsL p r s k w := by
  unfold lsL
  refine List.map_congr_left fun j hj => ?_
  have hj : j < w := by simpa using hj
  rw [getD_app (by omega), getD_app (by omega)]
theorem lessw_con {p : Int} (hp : primeB p = true) (t t' : TypeId) (w : Nat) (r s a b : List Int) (k k' : Nat) (m : Int) (h9 : w ≤ 1000) (hr : rwB p w r) (hs : rwB p w s) (hm : 0 ≤ m ∧ m < p) : Con Try.prog [] 120 [.int p, .slice 0 0 w k, .slice 1 0 w k', .int m] [(0, .ints t (r ++ a)), (1, .ints t' (s ++ b))] (fun v H' => ∃ k2 sp, w ≤ k2 ∧ k2 ≤ w + sp.length ∧ v = .slice 2 0 w k2 ∧ H' = [(0, .ints t (r ++ a)), (1, .ints t' (s ++ b)), (2, .ints 2 (lsL p r s m w ++ sp))]) := by
  have hb := prime_bd hp
  have := l01LessB_con p t t' (r ++ a) (s ++ b) w k k' m hp (by rw [List.length_append, hr.1]; omega) (by rw [List.length_append, hs.1]; omega) h9 (fun j hj => by rw [getD_app (by rw [hr.1]; exact hj)]; have := hr.2 j; omega) (fun j hj => by rw [getD_app (by rw [hs.1]; exact hj)]; have := hs.2 j; omega) (by omega)
  rwa [lsL_app p a b m hr.1 hs.1] at this
theorem leadw_con (t : TypeId) (w : Nat) (r a : List Int) (k : Nat) (h9 : w ≤ 1000) (hr : r.length = w) (v : Int) (hv : ldI r = v) : ConQ Try.prog [] 121 [.slice 0 0 w k] [(0, .ints t (r ++ a))] (.int v) := by
  have := l01Lead_con t (r ++ a) w k (by rw [List.length_append]; omega) (by omega)
  rwa [show (r ++ a).take w = r by rw [← hr, List.take_left], hv] at this
theorem normw_con {p : Int} (hp : primeB p = true) (t : TypeId) (w : Nat) (r a : List Int) (k : Nat) (h9 : w ≤ 1000) (hr : r.length = w) : Con Try.prog [] 122 [.int p, .slice 0 0 w k] [(0, .ints t (r ++ a))]
    (fun v H' => ∃ k' sp, w ≤ k' ∧ k' ≤ w + sp.length ∧ v = .tuple [.slice 1 0 w k', .bool (facP p r != 0)] ∧ H' = [(0, .ints t (r ++ a)), (1, .ints 2 (normL p r ++ sp))]) := by
  have := l01Norm_con p t (r ++ a) w k (by rw [List.length_append]; omega) hp (by omega)
  rwa [show (r ++ a).take w = r by rw [← hr, List.take_left]] at this
end Go.Proofs.Ytoiolpgmilobnaa
