/- PolarPlane, SingularSpots: the reference's side. Printed by gen_d7.py. -/
import Derived.Test.YtendffbpmpobnaaDoorD6
namespace Go.Proofs.YtendffbpmpobnaaDoor
set_option maxRecDepth 10000
set_option linter.unusedSimpArgs false
set_option linter.unusedVariables false
attribute [local irreducible] CW OW QW QOp Con thenP inBlockP AW QX RW
theorem l08Polar_con (p : Int) (q a : List Int) (hp : primeB p = true) (hql : q.length = 10) (hal : a.length = 4) (hq : smN 12 q) (ha : smN 12 a) : ConQ Tryd.prog [] 54 [.int p, .arr q, .arr a] [] (.tuple [.arr (normL p (plL p q a)), .bool (facP p (plL p q a) != 0)]) := by
  have hpb := prime_bd hp
  have hsu := l08Sums_con p q a hp hql hal hq ha
  have hpl := plL_len p q a
  have hno := fun (sp : List Int) (k : Nat) => l01Norm_con p 2 (plL p q a ++ sp) 4 k (by simp) hp (by omega)
  simp only [List.take_left' hpl] at hno
  have hzz := fun h => zeroN (p := p) (l := plL p q a) h
  rw [hpl] at hzz
  obtain ⟨n0, n1, n2, n3, hNN⟩ := four_ex (plN_len p q a)
  rw [hNN] at hno hzz ⊢
  generalize facP p (plL p q a) = ff at *
  refine conW tab_ok [(0, .int p), (1, .arr q), (2, .arr a)] 0 [] [] Tryd.func54 rfl rfl rfl rfl rfl rfl rfl rfl rfl ?_
  refine cR ?_
  iterate 2 refine oBox rfl rfl rfl rfl rfl rfl ?_
  refine oAlloc rfl rfl rfl rfl rfl rfl rfl ?_
  refine oA rfl rfl ?_
  refine oN ?_
  refine cR ?_
  iterate 2 refine oM rfl rfl ?_
  refine oQ (Q_ldw rfl rfl rfl rfl hql) rfl rfl ?_
  refine oQ (Q_ldw rfl rfl rfl rfl hal) rfl rfl ?_
  refine oCall (hsu) [] 1 rfl rfl (Fits.mk' vHn rfl rfl (by first | (simp; done) | exact glOk rfl rfl rfl)) rfl rfl ?_
  rintro r H1 ⟨k9, sp9, hk9, hs9, rfl, rfl⟩
  refine ⟨.slice 3 0 4 k9, [(3, .ints 2 (plL p q a ++ sp9))], rfl, rfl, rfl, ?_⟩
  refine oCall (hno sp9 k9) [(0, 3)] 2 rfl rfl (Fits.mk' (vHc rfl vHn) rfl rfl (by first | (simp; done) | exact glOk rfl rfl rfl)) rfl rfl ?_
  rintro r H1 ⟨k', spn, hk1, hk2, rfl, rfl⟩
  refine ⟨.tuple [.slice 5 0 4 k', .bool (ff != 0)], [(3, .ints 2 (plL p q a ++ sp9)), (5, .ints 2 ([n0, n1, n2, n3] ++ spn))], rfl, rfl, rfl, ?_⟩
  refine oM rfl rfl ?_
  iterate 2 refine oQ (Q_extract rfl rfl) rfl rfl ?_
  iterate 2 refine oA rfl rfl ?_
  refine oN ?_
  refine CW_seq ?_
  refine cR ?_
  refine oM rfl rfl ?_
  refine oQ (Q_not rfl) rfl rfl ?_
  refine oN ?_
  first | refine cT rfl ?_ | refine cF rfl ?_ | refine CW_cond rfl (fun hc => ?_) (fun hc => ?_)
  all_goals try simp only [s1, s2, s3, s4, s5, s6, s7, s8, s9, s10, s11, s12] at hc
  all_goals first
    | (
     refine CW_skip ?_)
    | (
     refine cR ?_
     refine oQ (Q_build rfl rfl rfl rfl rfl rfl rfl rfl) rfl rfl ?_
     first | refine oSw rfl rfl rfl rfl ?_ | refine oSa rfl rfl rfl rfl ?_
     refine oA rfl rfl ?_
     refine oN ?_
     refine CW_ret ?_)
  all_goals first
    | with_reducible refine tR ?_
    | with_reducible refine tE ?_
    | (
     with_reducible refine tN ?_
     refine CW_seq ?_
     refine CW_any (fun i => List.elem i [13, 14]) 15 rfl lateOk (by decide +kernel) (fun hst => ?_)
     refine aP 0 hst rfl rfl (by decide +kernel) (PX_move rfl rfl) rfl rfl ?_
     first | refine aQ 1 hst rfl rfl (by decide +kernel) (QX_of (Is0 rfl rfl rfl rfl rfl rfl) NE_ix) rfl rfl ?_ | refine aQ 1 hst rfl rfl (by decide +kernel) (QX_of (Is1 rfl rfl rfl rfl rfl rfl) NE_ix) rfl rfl ?_
     first | refine aQ 2 hst rfl rfl (by decide +kernel) (QX_of (Q_ldc rfl rfl rfl rfl rfl) NE_load) rfl rfl ?_ | refine aQ 2 hst rfl rfl (by decide +kernel) (QX_of (Ld rfl rfl rfl rfl) NE_load) rfl rfl ?_
     refine aP 3 hst rfl rfl (by decide +kernel) (PX_move rfl rfl) rfl rfl ?_
     first | refine aQ 4 hst rfl rfl (by decide +kernel) (QX_of (Is0 rfl rfl rfl rfl rfl rfl) NE_ix) rfl rfl ?_ | refine aQ 4 hst rfl rfl (by decide +kernel) (QX_of (Is1 rfl rfl rfl rfl rfl rfl) NE_ix) rfl rfl ?_
     first | refine aQ 5 hst rfl rfl (by decide +kernel) (QX_of (Q_ldc rfl rfl rfl rfl rfl) NE_load) rfl rfl ?_ | refine aQ 5 hst rfl rfl (by decide +kernel) (QX_of (Ld rfl rfl rfl rfl) NE_load) rfl rfl ?_
     refine aP 6 hst rfl rfl (by decide +kernel) (PX_move rfl rfl) rfl rfl ?_
     first | refine aQ 7 hst rfl rfl (by decide +kernel) (QX_of (Is0 rfl rfl rfl rfl rfl rfl) NE_ix) rfl rfl ?_ | refine aQ 7 hst rfl rfl (by decide +kernel) (QX_of (Is1 rfl rfl rfl rfl rfl rfl) NE_ix) rfl rfl ?_
     first | refine aQ 8 hst rfl rfl (by decide +kernel) (QX_of (Q_ldc rfl rfl rfl rfl rfl) NE_load) rfl rfl ?_ | refine aQ 8 hst rfl rfl (by decide +kernel) (QX_of (Ld rfl rfl rfl rfl) NE_load) rfl rfl ?_
     refine aP 9 hst rfl rfl (by decide +kernel) (PX_move rfl rfl) rfl rfl ?_
     first | refine aQ 10 hst rfl rfl (by decide +kernel) (QX_of (Is0 rfl rfl rfl rfl rfl rfl) NE_ix) rfl rfl ?_ | refine aQ 10 hst rfl rfl (by decide +kernel) (QX_of (Is1 rfl rfl rfl rfl rfl rfl) NE_ix) rfl rfl ?_
     first | refine aQ 11 hst rfl rfl (by decide +kernel) (QX_of (Q_ldc rfl rfl rfl rfl rfl) NE_load) rfl rfl ?_ | refine aQ 11 hst rfl rfl (by decide +kernel) (QX_of (Ld rfl rfl rfl rfl) NE_load) rfl rfl ?_
     refine aQ 12 hst rfl rfl (by decide +kernel) (QX_of (v := .arr [n0, n1, n2, n3]) (Q_build rfl rfl rfl rfl rfl rfl rfl rfl) NE_build) rfl rfl ?_
     refine AW_last [13, 14] rfl (by decide +kernel) rfl ?_
     first | refine oSw rfl rfl rfl rfl ?_ | refine oSa rfl rfl rfl rfl ?_
     refine oA rfl rfl ?_
     refine OW_nil (npN ?_)
     all_goals with_reducible refine tN ?_
     all_goals (
      refine CW_ret ?_))
  all_goals (
   refine exitQ (.inr rfl) 0 (.cons (.arr rfl rfl rfl rfl (by first | omega | (dsimp only; omega) | (simp; omega) | (simp; done))) (.cons (.tmp rfl rfl) .nil)) ?_ rfl vHn rfl rfl
   first
     | (have hf : ff = 0 := hc
        simp only [resV, hf]
        rw [hzz hf]
        try rfl)
     | (have hf : ¬ ff = 0 := hc
        simp only [resV]
        rw [show (ff != 0) = true by simpa using hf]
        try rfl))
theorem spec_PolarPlane_con (p : Int) (q a : List Int) (hql : q.length = 10) (hal : a.length = 4) : ConQ Tryd.prog [] 23 [.int p, .arr q, .arr a] [] (.tuple [.arr (ppV p q a), .int (ppC p q a)]) := by
  have hcc := l08Code_con p q hql a 1 1 (by omega) (by decide)
  rw [allF1 hal] at hcc
  have hnl := plN_len p q a
  have hsl := plL_len p q a
  refine conW tab_ok [(0, .int p), (1, .arr q), (2, .arr a)] 0 [] [] Tryd.func23 rfl rfl rfl rfl rfl rfl rfl rfl rfl ?_
  refine cR ?_
  iterate 2 refine oBox rfl rfl rfl rfl rfl rfl ?_
  refine oAlloc rfl rfl rfl rfl rfl rfl rfl ?_
  refine oA rfl rfl ?_
  refine oN ?_
  refine CW_seq ?_
  refine cR ?_
  refine oM rfl rfl ?_
  refine oQ (Q_ldw rfl rfl rfl rfl hql) rfl rfl ?_
  refine oQ (Q_ldw rfl rfl rfl rfl hal) rfl rfl ?_
  refine oBsl1 hal rfl rfl rfl rfl rfl rfl rfl rfl rfl rfl ?_
  refine oQ (Q_call (hcc) [(0, 3)] rfl rfl (Fits.mk' (vHc rfl vHn) rfl rfl (by first | (simp; done) | exact glOk rfl rfl rfl)) rfl rfl) rfl rfl ?_
  refine oA rfl rfl ?_
  refine oN ?_
  refine cR ?_
  refine oM rfl rfl ?_
  refine oQ (Q_bin rfl rfl rfl) rfl rfl ?_
  refine oN ?_
  first | refine cT rfl ?_ | refine cF rfl ?_ | refine CW_cond rfl (fun hc => ?_) (fun hc => ?_)
  all_goals try simp only [s1, s2, s3, s4, s5, s6, s7, s8, s9, s10, s11, s12] at hc
  all_goals first
    | (
     refine CW_skip ?_)
    | (
     refine cR ?_
     refine oQ (Q_build rfl rfl rfl rfl rfl rfl rfl rfl) rfl rfl ?_
     refine oM rfl rfl ?_
     first | refine oSw rfl rfl rfl rfl ?_ | refine oSa rfl rfl rfl rfl ?_
     refine oA rfl rfl ?_
     refine oN ?_
     refine CW_ret ?_)
  all_goals first
    | with_reducible refine tR ?_
    | with_reducible refine tE ?_
    | (
     with_reducible refine tN ?_
     refine cR ?_
     refine oM rfl rfl ?_
     (have hc0 : cdB p (pointB p q && pointB p a) = 0 := hc)
     (have hcz := iqC_zero hc0)
     (have hqq := smN_point hcz.2.1)
     (have hqa := smN_point hcz.2.2)
     (have hp := hcz.1)
     refine oQ (Q_ldw rfl rfl rfl rfl hql) rfl rfl ?_
     refine oQ (Q_ldw rfl rfl rfl rfl hal) rfl rfl ?_
     refine oQ (Q_call0 (l08Polar_con p q a hp hql hal hqq hqa) rfl rfl rfl) rfl rfl ?_
     refine oM rfl rfl ?_
     iterate 2 refine oQ (Q_extract rfl rfl) rfl rfl ?_
     refine oAlloc rfl rfl rfl rfl rfl rfl rfl ?_
     first | refine oSw rfl rfl rfl rfl ?_ | refine oSa rfl rfl rfl rfl ?_
     refine oA rfl rfl ?_
     refine oN ?_
     refine CW_seq ?_
     refine cR ?_
     refine oM rfl rfl ?_
     refine oQ (Q_not rfl) rfl rfl ?_
     refine oN ?_
     first | refine cT rfl ?_ | refine cF rfl ?_ | refine CW_cond rfl (fun hc => ?_) (fun hc => ?_)
     all_goals try simp only [s1, s2, s3, s4, s5, s6, s7, s8, s9, s10, s11, s12] at hc
     all_goals first
       | (
        refine CW_skip ?_)
       | (
        refine cR ?_
        refine oQ (Q_build rfl rfl rfl rfl rfl rfl rfl rfl) rfl rfl ?_
        first | refine oSw rfl rfl rfl rfl ?_ | refine oSa rfl rfl rfl rfl ?_
        refine oA rfl rfl ?_
        refine oN ?_
        refine CW_ret ?_)
     all_goals first
       | with_reducible refine tR ?_
       | with_reducible refine tE ?_
       | (
        with_reducible refine tN ?_
        refine cR ?_
        refine oQ (Q_ldw rfl rfl rfl rfl hnl) rfl rfl ?_
        first | refine oSw rfl rfl rfl rfl ?_ | refine oSa rfl rfl rfl rfl ?_
        refine oA rfl rfl ?_
        refine oN ?_
        refine CW_ret ?_))
  all_goals (
   refine exitQ (.inr rfl) 0 (.cons (.arr rfl rfl rfl rfl (by first | omega | (dsimp only; omega) | (simp; omega) | (simp; done))) (.cons (.tmp rfl rfl) .nil)) ?_ rfl vHn rfl rfl
   first
     | (have hm : ppC p q a = cdB p (pointB p q && pointB p a) := if_neg hc
        exact arr_codeD (if_neg (by rw [hm]; exact hc)).symm hm.symm)
     | (have hb2 : facP p (plL p q a) ≠ 0 := by simp_all
        have hm : ppC p q a = 0 := (if_pos hc0).trans (if_pos hb2)
        exact arr_codeD (if_pos hm).symm hm.symm)
     | (have hb2 : ¬(facP p (plL p q a) ≠ 0) := by simp_all
        have hm : ppC p q a = 5 := (if_pos hc0).trans (if_neg hb2)
        exact arr_codeD (if_neg (by rw [hm]; decide)).symm hm.symm))
theorem spec_SingularSpots_con (p : Int) (q : List Int) (hql : q.length = 10) : Con Tryd.prog [] 26 [.int p, .arr q] [] (listR 4 28 [] 0 (quC p q) (ssV p q)) := by
  by_cases hcd : quC p q = 0
  · obtain ⟨hp, hq⟩ := quC_zero hcd
    have hsm := smN_point hq
    have hb := prime_bd hp
    have hal := allSp_len hp
    have h4 : ∀ x ∈ allSp p, x.length = 4 := fun x hx => (allSp_norm hp hx).1
    have hf4 := flat3 h4
    refine conW tab_ok [(0, .int p), (1, .arr q)] 0 [] [] Tryd.func26 rfl rfl rfl rfl rfl rfl rfl rfl rfl ?_
    refine cR ?_
    refine oBox rfl rfl rfl rfl rfl rfl ?_
    iterate 2 refine oA rfl rfl ?_
    refine oN ?_
    refine CW_seq ?_
    refine cR ?_
    refine oM rfl rfl ?_
    refine oQ (Q_ldw rfl rfl rfl rfl hql) rfl rfl ?_
    refine oQ (Q_call0 (l08Code_nil p q hql) rfl rfl rfl) rfl rfl ?_
    refine oA rfl rfl ?_
    refine oN ?_
    refine cR ?_
    refine oM rfl rfl ?_
    refine oQ (Q_bin rfl rfl rfl) rfl rfl ?_
    refine oN ?_
    first | refine cT rfl ?_ | refine cF rfl ?_ | refine CW_cond rfl (fun hc => ?_) (fun hc => ?_)
    all_goals try simp only [s1, s2, s3, s4, s5, s6, s7, s8, s9, s10, s11, s12] at hc
    all_goals try (exfalso; first | exact absurd hcd hc | exact absurd hc hcd; done)
    all_goals first
      | (
       refine CW_skip ?_)
      | (
       refine cR ?_
       refine oM rfl rfl ?_
       iterate 2 refine oA rfl rfl ?_
       refine oN ?_
       refine CW_ret ?_)
    all_goals first
      | with_reducible refine tR ?_
      | with_reducible refine tE ?_
      | (
       with_reducible refine tN ?_
       refine cR ?_
       refine oM rfl rfl ?_
       refine oCall (l08All_con p hp) [] 1 rfl rfl (Fits.mk' vHn rfl rfl (by first | (simp; done) | exact glOk rfl rfl rfl)) rfl rfl ?_
       rintro r H1 ⟨k0, sp0, hk0, hsp0, rfl, rfl⟩
       refine ⟨.slice 1 0 (allSp p).length k0, [(1, .ints 28 ((allSp p).flatten ++ sp0))], rfl, rfl, rfl, ?_⟩
       refine oBsl rfl rfl rfl rfl (.inr ⟨rfl, rfl, by decide⟩) rfl rfl rfl rfl rfl rfl ?_
       iterate 2 refine oA rfl rfl ?_
       refine oN ?_
       refine CW_seq ?_
       refine cR ?_
       refine oA rfl rfl ?_
       refine oN ?_
       refine CW_block ?_
       refine CW_loop (ι := Nat × Nat × List Int) (fun x => x.1 ≤ (allSp p).length ∧ (((allSp p).take x.1).filter (fun m => !(facP p (plL p q m) != 0))).length ≤ x.2.1 ∧ x.2.1 * 4 ≤ (((allSp p).take x.1).filter (fun m => !(facP p (plL p q m) != 0))).length * 4 + x.2.2.length) (fun x => ⟨[(0, .int p), (3, .ptr 0 0), (7, .slice 1 0 (allSp p).length k0), (8, .slice 2 0 (((allSp p).take x.1).filter (fun m => !(facP p (plL p q m) != 0))).length x.2.1), (9, .int x.1)], [(0, .ints 26 q), (1, .ints 28 ((allSp p).flatten ++ sp0)), (2, .ints 28 ((((allSp p).take x.1).filter (fun m => !(facP p (plL p q m) != 0))).flatten ++ x.2.2))], 3⟩) (fun x => (allSp p).length - x.1) (0, 0, []) ?_ ?_ ?_
       · exact ⟨Nat.zero_le _, Nat.le_refl _, Nat.le_refl _⟩
       · refine View.mk' [] rfl rfl rfl ?_ ?_
         repeat' first | exact vFn | refine vFc rfl ?_ | exact vHn | refine vHc rfl ?_ | refine vFc (congrArg (fun z => some (V.int z)) ?_) ?_ | refine vHc (congrArg (fun z => some (Blk.ints _ z)) ?_) ?_ | refine vFc (congrArg (fun z => some (V.bool z)) ?_) ?_ | refine vFs rfl rfl ?_ ?_
       rintro ⟨i, k, sp⟩ ⟨hi, hk, hsp⟩
       dsimp only at hi hk hsp ⊢
       have hfn := filter_len (g := (fun m => !(facP p (plL p q m) != 0))) i hi
       have hlen := flat3 (filter_three (g := (fun m => !(facP p (plL p q m) != 0))) h4 i)
       have hmem := fun h : i < (allSp p).length => getD_mem h
       have h4i := fun h : i < (allSp p).length => h4 _ (getD_mem h)
       have hnl := plN_len p q ((allSp p).getD i [])
       refine CW_seq ?_
       refine cR ?_
       iterate 2 refine oM rfl rfl ?_
       first | refine oQ (Q_len rfl rfl rfl rfl) rfl rfl ?_ | refine oQ (Q_len0 rfl rfl rfl rfl) rfl rfl ?_
       refine oQ (Q_bin rfl rfl rfl) rfl rfl ?_
       refine oN ?_
       first | refine cT rfl ?_ | refine cF rfl ?_ | refine CW_cond rfl (fun hc => ?_) (fun hc => ?_)
       all_goals try simp only [s1, s2, s3, s4, s5, s6, s7, s8, s9, s10, s11, s12] at hc
       all_goals try (exfalso; first | exact absurd hcd hc | exact absurd hc hcd; done)
       all_goals first
         | (
          refine CW_skip ?_)
         | (
          refine CW_exit ?_)
       all_goals first
         | with_reducible refine tR ?_
         | with_reducible refine tE ?_
         | (
          with_reducible refine tN ?_
          refine CW_seq ?_
          refine CW_block ?_
          refine CW_seq ?_
          refine CW_any (fun i => List.elem i [11, 12]) 13 rfl lateOk (by decide +kernel) (fun hst => ?_)
          refine aP 0 hst rfl rfl (by decide +kernel) (PX_move rfl rfl) rfl rfl ?_
          refine aQ 1 hst rfl rfl (by decide +kernel) (QX_of (Q_ldw rfl rfl rfl rfl hql) NE_load) rfl rfl ?_
          refine aP 2 hst rfl rfl (by decide +kernel) (PX_move rfl rfl) rfl rfl ?_
          refine aP 3 hst rfl rfl (by decide +kernel) (PX_move rfl rfl) rfl rfl ?_
          (have h4i := h4i (by omega)); (have hmem := hmem (by omega)); refine aQ 4 hst rfl rfl (by decide +kernel) (QX_of (Q_ixs0z 4 rfl rfl rfl rfl rfl rfl (by omega)) NE_ix) rfl rfl ?_
          refine aQ 5 hst rfl rfl (by decide +kernel) (QX_of (Q_lda (n := 4) rfl rfl rfl rfl rfl (by rw [List.length_append, hf4]; omega)) NE_load) rfl rfl ?_; rw [flat_get h4 (show i < (allSp p).length by omega)]
          refine aQ 6 hst rfl rfl (by decide +kernel) (QX_call0 (l08Polar_con p q _ hp hql h4i hsm (allSp_smN hp hmem)) rfl rfl rfl) rfl rfl ?_
          refine aP 7 hst rfl rfl (by decide +kernel) (PX_move rfl rfl) rfl rfl ?_
          refine aExt 8 hst rfl rfl (by decide +kernel) rfl rfl rfl rfl ?_
          refine aExt 9 hst rfl rfl (by decide +kernel) rfl rfl rfl rfl ?_
          refine AW_one (i := 10) (by decide +kernel) ?_
          refine gAlloc rfl rfl rfl rfl rfl rfl rfl rfl rfl ?_
          refine AW_last [11, 12] rfl (by decide +kernel) rfl ?_
          first | refine oSw rfl rfl rfl rfl ?_ | refine oSa rfl rfl rfl rfl ?_
          refine oA rfl rfl ?_
          refine OW_nil (npN ?_)
          all_goals with_reducible refine tN ?_
          all_goals (
           refine cR ?_
           refine oM rfl rfl ?_
           refine oQ (Q_not rfl) rfl rfl ?_
           refine oN ?_
           first | refine cT rfl ?_ | refine cF rfl ?_ | refine CW_cond rfl (fun hc => ?_) (fun hc => ?_)
           all_goals try simp only [s1, s2, s3, s4, s5, s6, s7, s8, s9, s10, s11, s12] at hc
           all_goals try (exfalso; first | exact absurd hcd hc | exact absurd hc hcd; done)
           all_goals first
             | (
              refine CW_skip ?_)
             | (
              refine CW_region ?_
              iterate 3 refine oM rfl rfl ?_
              first | refine oQ (Q_ixs0z 4 rfl rfl rfl rfl rfl rfl (by first | omega | (dsimp only; omega) | (simp; omega) | (simp; done))) rfl rfl ?_ | refine oQ (Q_ixsz 4 rfl rfl rfl rfl rfl rfl (by first | omega | (dsimp only; omega) | (simp; omega) | (simp; done))) rfl rfl ?_
              refine oQ (Q_lda (n := 4) rfl rfl rfl rfl rfl (by rw [List.length_append, hf4]; omega)) rfl rfl ?_; rw [flat_get h4 (show i < (allSp p).length by omega)]
              refine oBsl1 h4i rfl rfl rfl rfl rfl rfl rfl rfl rfl rfl ?_
              refine oApp (sz := 4) (by_ := 32) (xl := (allSp p).getD i []) rfl rfl rfl rfl rfl rfl ⟨by decide, rfl, .inr rfl⟩ rfl rfl rfl rfl rfl rfl hlen (by rw [h4i]) (by omega) (by omega) (by omega) (by omega) rfl rfl (fun k2 sp2 h1 h2 => ?_)
              refine oA rfl rfl ?_
              refine OW_nil ?_))
          all_goals first | with_reducible refine bN ?_ | with_reducible refine bE ?_ | with_reducible refine bR ?_ | refine bX rfl ?_
          all_goals with_reducible refine tN ?_
          all_goals (
           refine CW_region ?_
           refine oM rfl rfl ?_
           first | refine oQ (Q_binu rfl rfl rfl (by omega)) rfl rfl ?_ | refine oQ (Q_bin rfl rfl rfl) rfl rfl ?_
           refine oA rfl rfl ?_
           refine OW_nil ?_))
       all_goals first
         | with_reducible refine tR ?_
         | with_reducible refine tE ?_
         | (
          with_reducible refine tN ?_
          first
            | (
             refine ⟨(i + 1, k2, sp2), ?_, ?_, View.mk' [(2, 5)] rfl rfl rfl ?_ ?_⟩
             · dsimp only
               first
                 | (rw [filter_snoc (g := (fun m => !(facP p (plL p q m) != 0))) (by omega) (fzD0 hc), List.length_append, List.length_singleton]; exact ⟨by omega, h1, h2⟩)
                 | (rw [filter_skip (g := (fun m => !(facP p (plL p q m) != 0))) (by omega) (fzD1 hc)]; exact ⟨by omega, hk, hsp⟩)
             · omega
             all_goals (repeat' first | exact vFn | refine vFc rfl ?_ | exact vHn | refine vHc rfl ?_ | refine vFc (congrArg (fun z => some (V.int z)) ?_) ?_ | refine vHc (congrArg (fun z => some (Blk.ints _ z)) ?_) ?_ | refine vFc (congrArg (fun z => some (V.bool z)) ?_) ?_ | refine vFs rfl rfl ?_ ?_)
             all_goals dsimp only
             all_goals first
               | (rw [filter_snoc (g := (fun m => !(facP p (plL p q m) != 0))) (by omega) (fzD0 hc)]; simp; done)
               | (rw [filter_skip (g := (fun m => !(facP p (plL p q m) != 0))) (by omega) (fzD1 hc)]; done))
            | (
             refine ⟨(i + 1, k, sp), ?_, ?_, View.mk' [] rfl rfl rfl ?_ ?_⟩
             · dsimp only
               first
                 | (rw [filter_snoc (g := (fun m => !(facP p (plL p q m) != 0))) (by omega) (fzD0 hc), List.length_append, List.length_singleton]; exact ⟨by omega, h1, h2⟩)
                 | (rw [filter_skip (g := (fun m => !(facP p (plL p q m) != 0))) (by omega) (fzD1 hc)]; exact ⟨by omega, hk, hsp⟩)
             · omega
             all_goals (repeat' first | exact vFn | refine vFc rfl ?_ | exact vHn | refine vHc rfl ?_ | refine vFc (congrArg (fun z => some (V.int z)) ?_) ?_ | refine vHc (congrArg (fun z => some (Blk.ints _ z)) ?_) ?_ | refine vFc (congrArg (fun z => some (V.bool z)) ?_) ?_ | refine vFs rfl rfl ?_ ?_)
             all_goals dsimp only
             all_goals first
               | (rw [filter_snoc (g := (fun m => !(facP p (plL p q m) != 0))) (by omega) (fzD0 hc)]; simp; done)
               | (rw [filter_skip (g := (fun m => !(facP p (plL p q m) != 0))) (by omega) (fzD1 hc)]; done)))
       all_goals first | with_reducible refine bN ?_ | with_reducible refine bE ?_ | with_reducible refine bR ?_ | refine bX rfl ?_
       all_goals with_reducible refine tN ?_
       all_goals (
        refine cR ?_
        refine oM rfl rfl ?_
        iterate 2 refine oA rfl rfl ?_
        refine oN ?_
        refine CW_ret ?_))
    all_goals (
     first
       | (exfalso; first | exact hc hcd | exact hcd hc; done)
       | (have e : i = (allSp p).length := (by omega)
          subst e
          rw [List.take_length] at hk hsp
          exact exitH (r0 := .tuple [.slice 0 0 (ssV p q).length k, .int 0]) (H0 := [(0, .ints 28 ((ssV p q).flatten ++ sp))]) (.inr rfl) [(0, 2)] 1 (.cons (.tmp rfl rfl) (.cons (.tmp rfl rfl) .nil)) (by simp only [List.take_length]; rfl) rfl rfl (vHc (by simp only [List.take_length]; rfl) vHn) rfl rfl (listR_ok hcd hk hsp rfl rfl)))
  · skip
    refine conW tab_ok [(0, .int p), (1, .arr q)] 0 [] [] Tryd.func26 rfl rfl rfl rfl rfl rfl rfl rfl rfl ?_
    refine cR ?_
    refine oBox rfl rfl rfl rfl rfl rfl ?_
    iterate 2 refine oA rfl rfl ?_
    refine oN ?_
    refine CW_seq ?_
    refine cR ?_
    refine oM rfl rfl ?_
    refine oQ (Q_ldw rfl rfl rfl rfl hql) rfl rfl ?_
    refine oQ (Q_call0 (l08Code_nil p q hql) rfl rfl rfl) rfl rfl ?_
    refine oA rfl rfl ?_
    refine oN ?_
    refine cR ?_
    refine oM rfl rfl ?_
    refine oQ (Q_bin rfl rfl rfl) rfl rfl ?_
    refine oN ?_
    first | refine cT rfl ?_ | refine cF rfl ?_ | refine CW_cond rfl (fun hc => ?_) (fun hc => ?_)
    all_goals try simp only [s1, s2, s3, s4, s5, s6, s7, s8, s9, s10, s11, s12] at hc
    all_goals try (exfalso; first | exact absurd hcd hc | exact absurd hc hcd; done)
    all_goals first
      | (
       refine CW_skip ?_)
      | (
       refine cR ?_
       refine oM rfl rfl ?_
       iterate 2 refine oA rfl rfl ?_
       refine oN ?_
       refine CW_ret ?_)
    all_goals first
      | with_reducible refine tR ?_
      | with_reducible refine tE ?_
      | (
       with_reducible refine tN ?_
       refine cR ?_
       (exfalso; first | exact hc hcd | exact hcd hc)
       fail "call of loop.example/g01310/spec.l08All at slot 19"
       refine oBsl rfl rfl rfl rfl (.inr ⟨rfl, rfl, by decide⟩) rfl rfl rfl rfl rfl rfl ?_
       iterate 2 refine oA rfl rfl ?_
       refine oN ?_
       refine CW_seq ?_
       refine cR ?_
       refine oA rfl rfl ?_
       refine oN ?_
       refine CW_block ?_
       fail "loop 0 wants its states"
       · first | trivial | omega | (simp; done) | (simp; omega)
       · refine View.mk' [] rfl rfl rfl ?_ ?_
         repeat' first | exact vFn | refine vFc rfl ?_ | exact vHn | refine vHc rfl ?_ | refine vFc (congrArg (fun z => some (V.int z)) ?_) ?_ | refine vHc (congrArg (fun z => some (Blk.ints _ z)) ?_) ?_ | refine vFc (congrArg (fun z => some (V.bool z)) ?_) ?_ | refine vFs rfl rfl ?_ ?_
       intro i hi
       refine CW_seq ?_
       refine cR ?_
       iterate 2 refine oM rfl rfl ?_
       first | refine oQ (Q_len rfl rfl rfl rfl) rfl rfl ?_ | refine oQ (Q_len0 rfl rfl rfl rfl) rfl rfl ?_
       refine oQ (Q_bin rfl rfl rfl) rfl rfl ?_
       refine oN ?_
       first | refine cT rfl ?_ | refine cF rfl ?_ | refine CW_cond rfl (fun hc => ?_) (fun hc => ?_)
       all_goals try simp only [s1, s2, s3, s4, s5, s6, s7, s8, s9, s10, s11, s12] at hc
       all_goals try (exfalso; first | exact absurd hcd hc | exact absurd hc hcd; done)
       all_goals first
         | (
          refine CW_skip ?_)
         | (
          refine CW_exit ?_)
       all_goals first
         | with_reducible refine tR ?_
         | with_reducible refine tE ?_
         | (
          with_reducible refine tN ?_
          refine CW_seq ?_
          refine CW_block ?_
          refine CW_seq ?_
          refine CW_any (fun i => List.elem i [11, 12]) 13 rfl lateOk (by decide +kernel) (fun hst => ?_)
          refine aP 0 hst rfl rfl (by decide +kernel) (PX_move rfl rfl) rfl rfl ?_
          first | refine aQ 1 hst rfl rfl (by decide +kernel) (QX_of (Lw rfl rfl rfl rfl) NE_load) rfl rfl ?_ | refine aQ 1 hst rfl rfl (by decide +kernel) (QX_of (La rfl rfl rfl rfl rfl) NE_load) rfl rfl ?_
          refine aP 2 hst rfl rfl (by decide +kernel) (PX_move rfl rfl) rfl rfl ?_
          refine aP 3 hst rfl rfl (by decide +kernel) (PX_move rfl rfl) rfl rfl ?_
          first | refine aQ 4 hst rfl rfl (by decide +kernel) (QX_of (Q_ixs0z 4 rfl rfl rfl rfl rfl rfl (by first | omega | (dsimp only; omega) | (simp; omega) | (simp; done))) NE_ix) rfl rfl ?_ | refine aQ 4 hst rfl rfl (by decide +kernel) (QX_of (Q_ixsz 4 rfl rfl rfl rfl rfl rfl (by first | omega | (dsimp only; omega) | (simp; omega) | (simp; done))) NE_ix) rfl rfl ?_
          first | refine aQ 5 hst rfl rfl (by decide +kernel) (QX_of (Lw rfl rfl rfl rfl) NE_load) rfl rfl ?_ | refine aQ 5 hst rfl rfl (by decide +kernel) (QX_of (La rfl rfl rfl rfl rfl) NE_load) rfl rfl ?_
          fail "call of loop.example/g01310/spec.l08Polar at slot 34"
          refine aP 7 hst rfl rfl (by decide +kernel) (PX_move rfl rfl) rfl rfl ?_
          refine aExt 8 hst rfl rfl (by decide +kernel) rfl rfl rfl rfl ?_
          refine aExt 9 hst rfl rfl (by decide +kernel) rfl rfl rfl rfl ?_
          refine AW_one (i := 10) (by decide +kernel) ?_
          refine gAlloc rfl rfl rfl rfl rfl rfl rfl rfl rfl ?_
          refine AW_last [11, 12] rfl (by decide +kernel) rfl ?_
          first | refine oSw rfl rfl rfl rfl ?_ | refine oSa rfl rfl rfl rfl ?_
          refine oA rfl rfl ?_
          refine OW_nil (npN ?_)
          all_goals with_reducible refine tN ?_
          all_goals (
           refine cR ?_
           refine oM rfl rfl ?_
           refine oQ (Q_not rfl) rfl rfl ?_
           refine oN ?_
           first | refine cT rfl ?_ | refine cF rfl ?_ | refine CW_cond rfl (fun hc => ?_) (fun hc => ?_)
           all_goals try simp only [s1, s2, s3, s4, s5, s6, s7, s8, s9, s10, s11, s12] at hc
           all_goals try (exfalso; first | exact absurd hcd hc | exact absurd hc hcd; done)
           all_goals first
             | (
              refine CW_skip ?_)
             | (
              refine CW_region ?_
              iterate 3 refine oM rfl rfl ?_
              first | refine oQ (Q_ixs0z 4 rfl rfl rfl rfl rfl rfl (by first | omega | (dsimp only; omega) | (simp; omega) | (simp; done))) rfl rfl ?_ | refine oQ (Q_ixsz 4 rfl rfl rfl rfl rfl rfl (by first | omega | (dsimp only; omega) | (simp; omega) | (simp; done))) rfl rfl ?_
              first | refine oQ (Lw rfl rfl rfl rfl) rfl rfl ?_ | refine oQ (La rfl rfl rfl rfl rfl) rfl rfl ?_
              refine oBsl rfl rfl rfl rfl (.inr ⟨rfl, rfl, by decide⟩) rfl rfl rfl rfl rfl rfl ?_
              fail "builtin append at slot 45"
              refine oA rfl rfl ?_
              refine OW_nil ?_))
          all_goals first | with_reducible refine bN ?_ | with_reducible refine bE ?_ | with_reducible refine bR ?_ | refine bX rfl ?_
          all_goals with_reducible refine tN ?_
          all_goals (
           refine CW_region ?_
           refine oM rfl rfl ?_
           first | refine oQ (Q_binu rfl rfl rfl (by omega)) rfl rfl ?_ | refine oQ (Q_bin rfl rfl rfl) rfl rfl ?_
           refine oA rfl rfl ?_
           refine OW_nil ?_))
       all_goals first
         | with_reducible refine tR ?_
         | with_reducible refine tE ?_
         | (
          with_reducible refine tN ?_
          fail "again 0")
       all_goals first | with_reducible refine bN ?_ | with_reducible refine bE ?_ | with_reducible refine bR ?_ | refine bX rfl ?_
       all_goals with_reducible refine tN ?_
       all_goals (
        refine cR ?_
        refine oM rfl rfl ?_
        iterate 2 refine oA rfl rfl ?_
        refine oN ?_
        refine CW_ret ?_))
    all_goals (
     first | (exfalso; first | exact hc hcd | exact hcd hc; done) | exact exitH (r0 := .tuple [.nilsl, .int (quC p q)]) (H0 := []) (.inr rfl) [] 0 (.cons (.tmp rfl rfl) (.cons (.tmp rfl rfl) .nil)) rfl rfl rfl vHn rfl rfl (listR_no hcd rfl rfl))
end Go.Proofs.YtendffbpmpobnaaDoor
