/- Tangents of cubics; TangentOfCubic, SingularPoints of both sides. Printed by gen_k3.py. -/
import Derived.Test.YtlhlnaehfjojiaaDoorK2
import Derived.Test.YtlhlnaehfjojiaaDoorQ7
import Derived.Test.YtlhlnaehfjojiaaDoorEngN
namespace Go.Proofs.YtlhlnaehfjojiaaDoor
set_option maxRecDepth 10000
set_option linter.unusedSimpArgs false
set_option linter.unusedVariables false
theorem allF1 {g : List Int → Bool} {sz : Nat} {M : List Int} (h : M.length = sz) : allF g sz M 1 = g M := by
  subst h
  simp [allF, elemAt]
theorem fz0 {x : Int} (h : x = 0) : (!(x != 0)) = true := by simp [h]
theorem fz1 {x : Int} (h : ¬ x = 0) : (!(x != 0)) = false := by simp [h]
def slL (p : Int) (c a : List Int) : List Int := [cuD p c a 0, cuD p c a 1, cuD p c a 2]
theorem slL_len (p : Int) (c a : List Int) : (slL p c a).length = 3 := rfl
theorem slN_len (p : Int) (c a : List Int) : (normL p (slL p c a)).length = 3 := by rw [normL_length]; rfl
def tcC (p : Int) (c a : List Int) : Int := if codeB p (pointB p a && pointB p c) = 0 then (if facP p (slL p c a) ≠ 0 ∧ cuA p c a = 0 then 0 else 5) else codeB p (pointB p a && pointB p c)
def tcV (p : Int) (c a : List Int) : List Int := if tcC p c a = 0 then normL p (slL p c a) else [0, 0, 0]
def sgG (p : Int) (c m : List Int) : Bool := decide (cuA p c m = 0) && decide (slL p c m = [0, 0, 0])
def sgV (p : Int) (c : List Int) : List (List Int) := (cpV p c).filter fun m => !(facP p (slL p c m) != 0)
theorem cuD_md {p : Int} (hp : primeB p = true) (c a : List Int) (y : Nat) : cuD p c a y % p = cuD p c a y := Int.emod_emod_of_dvd _ (Int.dvd_refl p)
theorem sl_zero {p : Int} (hp : primeB p = true) (c a : List Int) : (!(facP p (slL p c a) != 0)) = decide (slL p c a = [0, 0, 0]) := by
  have h := fac_zero hp (slL p c a)
  simp only [slL, List.map_cons, List.map_nil, cuD_md hp, fnz] at h
  have e : facP p (slL p c a) = 0 ↔ slL p c a = [0, 0, 0] := by
    unfold slL
    rw [h]
    constructor
    · intro h1
      by_cases h2 : cuD p c a 0 = 0 <;> by_cases h3 : cuD p c a 1 = 0 <;> by_cases h4 : cuD p c a 2 = 0 <;> simp_all
    · intro h1
      simp only [List.cons.injEq] at h1
      simp [h1]
  rw [Bool.eq_iff_iff]
  simp [e]
theorem sgV_eq {p : Int} (hp : primeB p = true) (c : List Int) : (allPts p).filter (sgG p c) = sgV p c := by
  unfold sgV cpV
  rw [List.filter_filter]
  congr 1
  funext m
  rw [sl_zero hp, sgG, cuG, Bool.and_comm]
theorem sgV_three {p : Int} {c : List Int} : ∀ x ∈ sgV p c, x.length = 3 := fun x hx => cpV_three x (List.mem_filter.1 hx).1
theorem sgV_len {p : Int} (hp : primeB p = true) (c : List Int) : (sgV p c).length ≤ 183 := Nat.le_trans (List.length_filter_le _ _) (cpV_len hp c)
attribute [local irreducible] CW OW QW QOp Con thenP inBlockP AW QX RW
theorem tangent_con (p : Int) (c a : List Int) (hp : primeB p = true) (hcl : c.length = 10) (hal : a.length = 3) (qc : smN 12 c) (qa : smN 12 a) : ConQ Tryd.prog [(0, 2000)] 55 [.arr c, .int p, .arr a] [(2000, .ro 0 cuT)] (.tuple [.arr (normL p (slL p c a)), .bool ((facP p (slL p c a) != 0) && cuG p c a)]) := by
  have hnl := slN_len p c a
  have hsl := slL_len p c a
  have hslo := slopes_con p c a hp hcl hal qc qa
  change ConQ _ _ _ _ _ (.arr (slL p c a)) at hslo
  generalize hfb : (facP p (slL p c a) != 0) = fb
  cases fb with
  | false =>
    refine conW tab_ok [(0, .arr c), (1, .int p), (2, .arr a)] 0 [2000] [] Tryd.func55 rfl rfl rfl rfl rfl rfl rfl rfl rfl ?_
    refine cR ?_
    iterate 2 refine oBox rfl rfl rfl rfl rfl rfl ?_
    refine oAlloc rfl rfl rfl rfl rfl rfl rfl ?_
    refine oA rfl rfl ?_
    refine oN ?_
    refine cR ?_
    refine oQ (Q_ldw rfl rfl rfl rfl hcl) rfl rfl ?_
    refine oM rfl rfl ?_
    refine oQ (Q_ldw rfl rfl rfl rfl hal) rfl rfl ?_
    refine oQ (Q_call (hslo) [] rfl rfl (Fits.mk' (vHc rfl vHn) rfl rfl (by first | (simp; done) | exact glOk rfl rfl rfl)) rfl rfl) rfl rfl ?_
    refine oAlloc rfl rfl rfl rfl rfl rfl rfl ?_
    first | refine oSw rfl rfl rfl rfl ?_ | refine oSa rfl rfl rfl rfl ?_
    refine oN ?_
    refine cR ?_
    refine oM rfl rfl ?_
    refine oQ (Q_slaF rfl rfl rfl rfl) rfl rfl ?_
    refine oCall (normal_con p 32 (slL p c a) 3 3 (Nat.le_of_eq hsl.symm) hp (by omega)) [(0, 3)] 0 rfl rfl (Fits.mk' (vHc rfl vHn) rfl rfl (by first | (simp; done) | exact glOk rfl rfl rfl)) rfl rfl ?_
    rintro r H1 ⟨rfl, rfl⟩
    simp only [List.take_of_length_le (show (slL p c a).length ≤ 3 from Nat.le_refl _), List.drop_eq_nil_of_le (show (slL p c a).length ≤ 3 from Nat.le_refl _), List.append_nil]
    rw [hfb]
    refine ⟨.bool false, [(3, .ints 32 (normL p (slL p c a)))], rfl, rfl, rfl, ?_⟩
    refine oA rfl rfl ?_
    refine oN ?_
    refine CW_seq ?_
    refine CW_anyV 9 2 11 (normL p (slL p c a)) rfl lateOk (by decide +kernel) rfl rfl rfl (fun hst => ?_)
    refine vQ 0 hst rfl rfl rfl (by decide +kernel) (QX_of (Q_ldw rfl rfl rfl rfl hnl) NE_load) rfl rfl ?_
    refine vQ 1 hst rfl rfl rfl (by decide +kernel) (QX_of (Q_move rfl rfl) NE_move) rfl rfl ?_
    refine vQ 2 hst rfl rfl rfl (by decide +kernel) (QX_of (Q_move rfl rfl) NE_move) rfl rfl ?_
    first | (refine vQg 3 hst rfl rfl rfl (by decide +kernel) rfl rfl (QX_of (Q_ldw rfl rfl rfl rfl hcl) NE_load) rfl rfl ?_) | refine vSkip 3 hst rfl rfl rfl (by decide +kernel) rfl rfl rfl rfl ?_
    first | (refine vQg 4 hst rfl rfl rfl (by decide +kernel) rfl rfl (QX_of (Q_move rfl rfl) NE_move) rfl rfl ?_) | refine vSkip 4 hst rfl rfl rfl (by decide +kernel) rfl rfl rfl rfl ?_
    first | (refine vQg 5 hst rfl rfl rfl (by decide +kernel) rfl rfl (QX_of (Q_ldw rfl rfl rfl rfl hal) NE_load) rfl rfl ?_) | refine vSkip 5 hst rfl rfl rfl (by decide +kernel) rfl rfl rfl rfl ?_
    first | (refine vQg 6 hst rfl rfl rfl (by decide +kernel) rfl rfl (QX_call (at_con p c a hp hcl hal qc qa) [] rfl rfl (Fits.mk' (vHc rfl vHn) rfl rfl (by first | (simp; done) | exact glOk rfl rfl rfl)) rfl rfl rfl) rfl rfl ?_) | refine vSkip 6 hst rfl rfl rfl (by decide +kernel) rfl rfl rfl rfl ?_
    first | (refine vQg 7 hst rfl rfl rfl (by decide +kernel) rfl rfl (QX_of (Q_bin rfl rfl rfl) NE_bin) rfl rfl ?_) | refine vSkip 7 hst rfl rfl rfl (by decide +kernel) rfl rfl rfl rfl ?_
    first | refine vQ 8 hst rfl rfl rfl (by decide +kernel) (QX_of (Q_pick_t rfl (by with_reducible rfl) rfl rfl) NE_pick) rfl rfl ?_ | refine vQ 8 hst rfl rfl rfl (by decide +kernel) (QX_of (Q_pick_f rfl (by with_reducible rfl) rfl rfl) NE_pick) rfl rfl ?_
    refine AV_store rfl (by decide +kernel) rfl rfl rfl rfl (by first | assumption | rfl | omega | (simp; omega)) rfl ?_
    refine vQ 10 hst rfl rfl rfl (by decide +kernel) (QX_of (Q_assign rfl rfl) NE_assign) rfl rfl ?_
    refine AV_done (by decide +kernel) rfl ?_
    all_goals with_reducible refine tN ?_
    all_goals (
     refine CW_ret ?_)
    all_goals (
     refine exitQ (.inr rfl) 0 (.cons (.arr rfl rfl rfl rfl (by first | omega | (dsimp only; omega) | (simp; omega) | (simp; done))) (.cons (.tmp rfl rfl) .nil)) ?_ rfl (vHc rfl vHn) rfl rfl
     rfl)
  | true =>
    refine conW tab_ok [(0, .arr c), (1, .int p), (2, .arr a)] 0 [2000] [] Tryd.func55 rfl rfl rfl rfl rfl rfl rfl rfl rfl ?_
    refine cR ?_
    iterate 2 refine oBox rfl rfl rfl rfl rfl rfl ?_
    refine oAlloc rfl rfl rfl rfl rfl rfl rfl ?_
    refine oA rfl rfl ?_
    refine oN ?_
    refine cR ?_
    refine oQ (Q_ldw rfl rfl rfl rfl hcl) rfl rfl ?_
    refine oM rfl rfl ?_
    refine oQ (Q_ldw rfl rfl rfl rfl hal) rfl rfl ?_
    refine oQ (Q_call (hslo) [] rfl rfl (Fits.mk' (vHc rfl vHn) rfl rfl (by first | (simp; done) | exact glOk rfl rfl rfl)) rfl rfl) rfl rfl ?_
    refine oAlloc rfl rfl rfl rfl rfl rfl rfl ?_
    first | refine oSw rfl rfl rfl rfl ?_ | refine oSa rfl rfl rfl rfl ?_
    refine oN ?_
    refine cR ?_
    refine oM rfl rfl ?_
    refine oQ (Q_slaF rfl rfl rfl rfl) rfl rfl ?_
    refine oCall (normal_con p 32 (slL p c a) 3 3 (Nat.le_of_eq hsl.symm) hp (by omega)) [(0, 3)] 0 rfl rfl (Fits.mk' (vHc rfl vHn) rfl rfl (by first | (simp; done) | exact glOk rfl rfl rfl)) rfl rfl ?_
    rintro r H1 ⟨rfl, rfl⟩
    simp only [List.take_of_length_le (show (slL p c a).length ≤ 3 from Nat.le_refl _), List.drop_eq_nil_of_le (show (slL p c a).length ≤ 3 from Nat.le_refl _), List.append_nil]
    rw [hfb]
    refine ⟨.bool true, [(3, .ints 32 (normL p (slL p c a)))], rfl, rfl, rfl, ?_⟩
    refine oA rfl rfl ?_
    refine oN ?_
    refine CW_seq ?_
    refine CW_anyV 9 2 11 (normL p (slL p c a)) rfl lateOk (by decide +kernel) rfl rfl rfl (fun hst => ?_)
    refine vQ 0 hst rfl rfl rfl (by decide +kernel) (QX_of (Q_ldw rfl rfl rfl rfl hnl) NE_load) rfl rfl ?_
    refine vQ 1 hst rfl rfl rfl (by decide +kernel) (QX_of (Q_move rfl rfl) NE_move) rfl rfl ?_
    refine vQ 2 hst rfl rfl rfl (by decide +kernel) (QX_of (Q_move rfl rfl) NE_move) rfl rfl ?_
    first | (refine vQg 3 hst rfl rfl rfl (by decide +kernel) rfl rfl (QX_of (Q_ldw rfl rfl rfl rfl hcl) NE_load) rfl rfl ?_) | refine vSkip 3 hst rfl rfl rfl (by decide +kernel) rfl rfl rfl rfl ?_
    first | (refine vQg 4 hst rfl rfl rfl (by decide +kernel) rfl rfl (QX_of (Q_move rfl rfl) NE_move) rfl rfl ?_) | refine vSkip 4 hst rfl rfl rfl (by decide +kernel) rfl rfl rfl rfl ?_
    first | (refine vQg 5 hst rfl rfl rfl (by decide +kernel) rfl rfl (QX_of (Q_ldw rfl rfl rfl rfl hal) NE_load) rfl rfl ?_) | refine vSkip 5 hst rfl rfl rfl (by decide +kernel) rfl rfl rfl rfl ?_
    first | (refine vQg 6 hst rfl rfl rfl (by decide +kernel) rfl rfl (QX_call (at_con p c a hp hcl hal qc qa) [] rfl rfl (Fits.mk' (vHc rfl vHn) rfl rfl (by first | (simp; done) | exact glOk rfl rfl rfl)) rfl rfl rfl) rfl rfl ?_) | refine vSkip 6 hst rfl rfl rfl (by decide +kernel) rfl rfl rfl rfl ?_
    first | (refine vQg 7 hst rfl rfl rfl (by decide +kernel) rfl rfl (QX_of (Q_bin rfl rfl rfl) NE_bin) rfl rfl ?_) | refine vSkip 7 hst rfl rfl rfl (by decide +kernel) rfl rfl rfl rfl ?_
    first | refine vQ 8 hst rfl rfl rfl (by decide +kernel) (QX_of (Q_pick_t rfl (by with_reducible rfl) rfl rfl) NE_pick) rfl rfl ?_ | refine vQ 8 hst rfl rfl rfl (by decide +kernel) (QX_of (Q_pick_f rfl (by with_reducible rfl) rfl rfl) NE_pick) rfl rfl ?_
    refine AV_store rfl (by decide +kernel) rfl rfl rfl rfl (by first | assumption | rfl | omega | (simp; omega)) rfl ?_
    refine vQ 10 hst rfl rfl rfl (by decide +kernel) (QX_of (Q_assign rfl rfl) NE_assign) rfl rfl ?_
    refine AV_done (by decide +kernel) rfl ?_
    all_goals with_reducible refine tN ?_
    all_goals (
     refine CW_ret ?_)
    all_goals (
     refine exitQ (.inr rfl) 0 (.cons (.arr rfl rfl rfl rfl (by first | omega | (dsimp only; omega) | (simp; omega) | (simp; done))) (.cons (.tmp rfl rfl) .nil)) ?_ rfl (vHc rfl vHn) rfl rfl
     rfl)
theorem singularPoints1_con (p : Int) (c m : List Int) (hp : primeB p = true) (hcl : c.length = 10) (qc : smN 12 c) (hm : m ∈ allPts p) : ConQ Tryd.prog [(0, 2000)] 56 [.arr m, .ptr 1000 0, .ptr 1001 0] [(1000, .ints 26 c), (1001, .ints 2 [p]), (2000, .ro 0 cuT)] (.bool (sgG p c m)) := by
  have hm3 := allPts_three hm
  have hslo := slopes_con p c m hp hcl hm3 qc (allPts_smN hp hm)
  change ConQ _ _ _ _ _ (.arr (slL p c m)) at hslo
  have hsl := slL_len p c m
  refine conW tab_ok [(0, .arr m), (1, .ptr 1000 0), (2, .ptr 1001 0)] 0 [1000, 1001, 2000] [1000, 1001] Tryd.func56 rfl rfl rfl rfl rfl rfl rfl rfl rfl ?_
  refine cR ?_
  refine oBox rfl rfl rfl rfl rfl rfl ?_
  refine oA rfl rfl ?_
  refine oN ?_
  refine cR ?_
  refine oQ (Q_ldw rfl rfl rfl rfl hcl) rfl rfl ?_
  first | refine oQ (Q_ldc rfl rfl rfl rfl rfl) rfl rfl ?_ | refine oQ (Ld rfl rfl rfl rfl) rfl rfl ?_
  refine oQ (Q_ldw rfl rfl rfl rfl hm3) rfl rfl ?_
  refine oQ (Q_call (at_con p c m hp hcl hm3 qc (allPts_smN hp hm)) [] rfl rfl (Fits.mk' (vHc rfl vHn) rfl rfl (by first | (simp; done) | exact glOk rfl rfl rfl)) rfl rfl) rfl rfl ?_
  refine oQ (Q_bin rfl rfl rfl) rfl rfl ?_
  refine oM rfl rfl ?_
  all_goals first | refine oT rfl rfl ?_ | refine o1 rfl rfl rfl ?_ | refine o0 rfl rfl rfl ?_ | refine ogP1 rfl rfl rfl (fun hg => ?_) (fun hg => ?_) | refine ogP0 rfl rfl rfl (fun hg => ?_) (fun hg => ?_)
  all_goals try simp only [s1, s2, s3, s4, s5, s6, s7, s8, s9, s10, s11, s12] at hg
  all_goals first | (refine oQ (Q_ldw rfl rfl rfl rfl hcl) rfl rfl ?_) | skip
  all_goals first | refine oT rfl rfl ?_ | refine o1 rfl rfl rfl ?_ | refine o0 rfl rfl rfl ?_ | refine ogP1 rfl rfl rfl (fun hg => ?_) (fun hg => ?_) | refine ogP0 rfl rfl rfl (fun hg => ?_) (fun hg => ?_)
  all_goals try simp only [s1, s2, s3, s4, s5, s6, s7, s8, s9, s10, s11, s12] at hg
  all_goals first | refine oQ (Q_ldc rfl rfl rfl rfl rfl) rfl rfl ?_ | refine oQ (Ld rfl rfl rfl rfl) rfl rfl ?_ | skip
  all_goals first | refine oT rfl rfl ?_ | refine o1 rfl rfl rfl ?_ | refine o0 rfl rfl rfl ?_ | refine ogP1 rfl rfl rfl (fun hg => ?_) (fun hg => ?_) | refine ogP0 rfl rfl rfl (fun hg => ?_) (fun hg => ?_)
  all_goals try simp only [s1, s2, s3, s4, s5, s6, s7, s8, s9, s10, s11, s12] at hg
  all_goals first | (refine oQ (Q_ldw rfl rfl rfl rfl hm3) rfl rfl ?_) | skip
  all_goals first | refine oT rfl rfl ?_ | refine o1 rfl rfl rfl ?_ | refine o0 rfl rfl rfl ?_ | refine ogP1 rfl rfl rfl (fun hg => ?_) (fun hg => ?_) | refine ogP0 rfl rfl rfl (fun hg => ?_) (fun hg => ?_)
  all_goals try simp only [s1, s2, s3, s4, s5, s6, s7, s8, s9, s10, s11, s12] at hg
  all_goals first | (refine oQ (Q_call (hslo) [] rfl rfl (Fits.mk' (vHc rfl vHn) rfl rfl (by first | (simp; done) | exact glOk rfl rfl rfl)) rfl rfl) rfl rfl ?_) | skip
  all_goals first | refine oT rfl rfl ?_ | refine o1 rfl rfl rfl ?_ | refine o0 rfl rfl rfl ?_ | refine ogP1 rfl rfl rfl (fun hg => ?_) (fun hg => ?_) | refine ogP0 rfl rfl rfl (fun hg => ?_) (fun hg => ?_)
  all_goals try simp only [s1, s2, s3, s4, s5, s6, s7, s8, s9, s10, s11, s12] at hg
  all_goals first | (refine oQ (v := .arr [0, 0, 0]) (Q_build rfl rfl rfl rfl rfl rfl rfl rfl) rfl rfl ?_) | skip
  all_goals first | refine oT rfl rfl ?_ | refine o1 rfl rfl rfl ?_ | refine o0 rfl rfl rfl ?_ | refine ogP1 rfl rfl rfl (fun hg => ?_) (fun hg => ?_) | refine ogP0 rfl rfl rfl (fun hg => ?_) (fun hg => ?_)
  all_goals try simp only [s1, s2, s3, s4, s5, s6, s7, s8, s9, s10, s11, s12] at hg
  all_goals first | (refine oQ (Q_arrb rfl rfl rfl rfl rfl rfl rfl rfl rfl (by first | omega | (dsimp only; omega) | (simp; omega) | (simp; done)) (by first | omega | (dsimp only; omega) | (simp; omega) | (simp; done))) rfl rfl ?_) | skip
  all_goals first | refine oQ (Q_pick_t rfl (by with_reducible rfl) rfl rfl) rfl rfl ?_ | refine oQ (Q_pick_f rfl (by with_reducible rfl) rfl rfl) rfl rfl ?_
  all_goals first | (refine oA rfl rfl ?_)
  all_goals refine oN ?_
  all_goals (
   refine CW_ret ?_)
  all_goals (
   refine exitQ (.inr rfl) 0 (.cons (.tmp rfl rfl) .nil) ?_ rfl (vHc rfl (vHc rfl (vHc rfl vHn))) rfl rfl
   simp only [resV, V.bool.injEq, sgG]
   first
     | (have hg' : decide (cuA p c m = 0) = _ := hg; rw [hg']; rfl)
     | (simp_all; done))
theorem impl_SingularPoints_con (p : Int) (c : List Int) (hcl : c.length = 10) : Con Tryd.prog [(0, 2000)] 24 [.int p, .arr c] [(2000, .ro 0 cuT)] (listR 3 35 [(2000, .ro 0 cuT)] 0 (cuC p c) (sgV p c)) := by
  by_cases hcd : cuC p c = 0
  · obtain ⟨hp, hq⟩ := cuC_zero hcd
    rw [← sgV_eq hp]
    have hpt := pointsThat_g2 56 26 c 2 [p] (sgG p c) p hp (fun m hm => singularPoints1_con p c m hp hcl (smN_point hq) hm)
    generalize (allPts p).filter (sgG p c) = LL at *
    refine conW tab_ok [(0, .int p), (1, .arr c)] 0 [2000] [] Tryd.func24 rfl rfl rfl rfl rfl rfl rfl rfl rfl ?_
    refine cR ?_
    iterate 2 refine oBox rfl rfl rfl rfl rfl rfl ?_
    iterate 2 refine oA rfl rfl ?_
    refine oN ?_
    refine CW_seq ?_
    refine cR ?_
    refine oQ (Ld rfl rfl rfl rfl) rfl rfl ?_
    refine oQ (Q_ldw rfl rfl rfl rfl hcl) rfl rfl ?_
    refine oQ (Q_call0 (cubicCode_con p true c hcl) rfl rfl rfl) rfl rfl ?_
    refine oA rfl rfl ?_
    refine oN ?_
    refine cR ?_
    refine oM rfl rfl ?_
    refine oQ (Q_bin rfl rfl rfl) rfl rfl ?_
    refine oN ?_
    first | refine cT rfl ?_ | refine cF rfl ?_ | refine CW_cond rfl (fun hc => ?_) (fun hc => ?_)
    all_goals try simp only [s1, s2, s3, s4, s5, s6, s7, s8, s9, s10, s11, s12] at hc
    all_goals try (exfalso; first | exact absurd hcd hc | exact absurd hc hcd; done)
    all_goals first
      | (
       refine CW_skip ?_)
      | (
       refine cR ?_
       refine oM rfl rfl ?_
       iterate 2 refine oA rfl rfl ?_
       refine oN ?_
       refine CW_ret ?_)
    all_goals first
      | with_reducible refine tR ?_
      | with_reducible refine tE ?_
      | (
       with_reducible refine tN ?_
       refine cR ?_
       refine oQ (Ld rfl rfl rfl rfl) rfl rfl ?_
       refine oQ (Q_makeFunc rfl rfl) rfl rfl ?_
       refine oCall (hpt) [(1000, 1), (1001, 0)] 1 rfl rfl (Fits.mk' (vHc rfl (vHc rfl (vHc rfl vHn))) rfl rfl (by first | (simp; done) | exact glOk rfl rfl rfl)) rfl rfl ?_
       rintro r H1 ⟨k9, sp9, hk9, hs9, rfl, rfl⟩
       refine ⟨.slice 2 0 LL.length k9, [(1, .ints 26 c), (0, .ints 2 [p]), (2000, .ro 0 cuT), (2, .ints 35 (LL.flatten ++ sp9))], rfl, rfl, rfl, ?_⟩
       iterate 2 refine oA rfl rfl ?_
       refine oN ?_
       refine CW_ret ?_)
    all_goals (
     first | (exfalso; first | exact hc hcd | exact hcd hc; done) | exact exitH (r0 := .tuple [.slice 0 0 LL.length k9, .int 0]) (H0 := [(2000, .ro 0 cuT), (0, .ints 35 (LL.flatten ++ sp9))]) (.inr rfl) [(0, 2)] 1 (.cons (.tmp rfl rfl) (.cons (.tmp rfl rfl) .nil)) rfl rfl rfl (vHc rfl (vHc rfl vHn)) rfl rfl (listR_ok hcd hk9 hs9 rfl rfl))
  · skip
    refine conW tab_ok [(0, .int p), (1, .arr c)] 0 [2000] [] Tryd.func24 rfl rfl rfl rfl rfl rfl rfl rfl rfl ?_
    refine cR ?_
    iterate 2 refine oBox rfl rfl rfl rfl rfl rfl ?_
    iterate 2 refine oA rfl rfl ?_
    refine oN ?_
    refine CW_seq ?_
    refine cR ?_
    refine oQ (Ld rfl rfl rfl rfl) rfl rfl ?_
    refine oQ (Q_ldw rfl rfl rfl rfl hcl) rfl rfl ?_
    refine oQ (Q_call0 (cubicCode_con p true c hcl) rfl rfl rfl) rfl rfl ?_
    refine oA rfl rfl ?_
    refine oN ?_
    refine cR ?_
    refine oM rfl rfl ?_
    refine oQ (Q_bin rfl rfl rfl) rfl rfl ?_
    refine oN ?_
    first | refine cT rfl ?_ | refine cF rfl ?_ | refine CW_cond rfl (fun hc => ?_) (fun hc => ?_)
    all_goals try simp only [s1, s2, s3, s4, s5, s6, s7, s8, s9, s10, s11, s12] at hc
    all_goals try (exfalso; first | exact absurd hcd hc | exact absurd hc hcd; done)
    all_goals first
      | (
       refine CW_skip ?_)
      | (
       refine cR ?_
       refine oM rfl rfl ?_
       iterate 2 refine oA rfl rfl ?_
       refine oN ?_
       refine CW_ret ?_)
    all_goals first
      | with_reducible refine tR ?_
      | with_reducible refine tE ?_
      | (
       with_reducible refine tN ?_
       refine cR ?_
       (exfalso; first | exact hc hcd | exact hcd hc)
       refine oQ (Q_makeFunc rfl rfl) rfl rfl ?_
       fail "call of loop.example/g01310/impl.pointsThat at slot 15"
       iterate 2 refine oA rfl rfl ?_
       refine oN ?_
       refine CW_ret ?_)
    all_goals (
     first | (exfalso; first | exact hc hcd | exact hcd hc; done) | exact exitH (r0 := .tuple [.nilsl, .int (cuC p c)]) (H0 := [(2000, .ro 0 cuT)]) (.inr rfl) [] 0 (.cons (.tmp rfl rfl) (.cons (.tmp rfl rfl) .nil)) rfl rfl rfl (vHc rfl vHn) rfl rfl (listR_no hcd rfl rfl))
theorem l06Tangent_con (p : Int) (c a : List Int) (hp : primeB p = true) (hcl : c.length = 10) (hal : a.length = 3) (qc : smN 12 c) (qa : smN 12 a) : ConQ Tryd.prog [] 52 [.int p, .arr c, .arr a] [] (.tuple [.arr (normL p (slL p c a)), .bool (facP p (slL p c a) != 0)]) := by
  have hnl := slN_len p c a
  have hsl := slL_len p c a
  have hmd := l01Made_con p (cuD p c a 0) (cuD p c a 1) (cuD p c a 2) hp
  change ConQ _ _ _ _ _ (.tuple [.arr (normL p (slL p c a)), .bool (facP p (slL p c a) != 0)]) at hmd
  refine conW tab_ok [(0, .int p), (1, .arr c), (2, .arr a)] 0 [] [] Tryd.func52 rfl rfl rfl rfl rfl rfl rfl rfl rfl ?_
  refine cR ?_
  iterate 2 refine oBox rfl rfl rfl rfl rfl rfl ?_
  refine oAlloc rfl rfl rfl rfl rfl rfl rfl ?_
  refine oA rfl rfl ?_
  refine oN ?_
  refine CW_seq ?_
  refine CW_any (fun i => List.elem i [18, 19]) 20 rfl lateOk (by decide +kernel) (fun hst => ?_)
  refine aP 0 hst rfl rfl (by decide +kernel) (PX_move rfl rfl) rfl rfl ?_
  refine aP 1 hst rfl rfl (by decide +kernel) (PX_move rfl rfl) rfl rfl ?_
  refine aQ 2 hst rfl rfl (by decide +kernel) (QX_of (Q_ldw rfl rfl rfl rfl hcl) NE_load) rfl rfl ?_
  refine aQ 3 hst rfl rfl (by decide +kernel) (QX_of (Q_ldw rfl rfl rfl rfl hal) NE_load) rfl rfl ?_
  refine aQ 4 hst rfl rfl (by decide +kernel) (QX_call0 (l06Atd_con p c a 0 (by decide) hp hcl hal qc qa) rfl rfl rfl) rfl rfl ?_
  refine aP 5 hst rfl rfl (by decide +kernel) (PX_move rfl rfl) rfl rfl ?_
  refine aQ 6 hst rfl rfl (by decide +kernel) (QX_of (Q_ldw rfl rfl rfl rfl hcl) NE_load) rfl rfl ?_
  refine aQ 7 hst rfl rfl (by decide +kernel) (QX_of (Q_ldw rfl rfl rfl rfl hal) NE_load) rfl rfl ?_
  refine aQ 8 hst rfl rfl (by decide +kernel) (QX_call0 (l06Atd_con p c a 1 (by decide) hp hcl hal qc qa) rfl rfl rfl) rfl rfl ?_
  refine aP 9 hst rfl rfl (by decide +kernel) (PX_move rfl rfl) rfl rfl ?_
  refine aQ 10 hst rfl rfl (by decide +kernel) (QX_of (Q_ldw rfl rfl rfl rfl hcl) NE_load) rfl rfl ?_
  refine aQ 11 hst rfl rfl (by decide +kernel) (QX_of (Q_ldw rfl rfl rfl rfl hal) NE_load) rfl rfl ?_
  refine aQ 12 hst rfl rfl (by decide +kernel) (QX_call0 (l06Atd_con p c a 2 (by decide) hp hcl hal qc qa) rfl rfl rfl) rfl rfl ?_
  refine aQ 13 hst rfl rfl (by decide +kernel) (QX_call0 (hmd) rfl rfl rfl) rfl rfl ?_
  refine aP 14 hst rfl rfl (by decide +kernel) (PX_move rfl rfl) rfl rfl ?_
  refine aExt 15 hst rfl rfl (by decide +kernel) rfl rfl rfl rfl ?_
  refine aExt 16 hst rfl rfl (by decide +kernel) rfl rfl rfl rfl ?_
  refine AW_one (i := 17) (by decide +kernel) ?_
  refine gAlloc rfl rfl rfl rfl rfl rfl rfl rfl rfl ?_
  refine AW_last [18, 19] rfl (by decide +kernel) rfl ?_
  first | refine oSw rfl rfl rfl rfl ?_ | refine oSa rfl rfl rfl rfl ?_
  refine oA rfl rfl ?_
  refine OW_nil (npN ?_)
  all_goals with_reducible refine tN ?_
  all_goals (
   refine cR ?_
   refine oQ (Q_ldw rfl rfl rfl rfl hnl) rfl rfl ?_
   refine oM rfl rfl ?_
   first | refine oSw rfl rfl rfl rfl ?_ | refine oSa rfl rfl rfl rfl ?_
   refine oA rfl rfl ?_
   refine oN ?_
   refine CW_ret ?_)
  all_goals (
   ((refine exitQ (.inr rfl) 0 (.cons (.arr rfl rfl rfl rfl (by first | omega | (dsimp only; omega) | (simp; omega) | (simp; done))) (.cons (.tmp rfl rfl) .nil)) ?_ rfl vHn rfl rfl); rfl))
theorem impl_TangentOfCubic_con (p : Int) (c a : List Int) (hcl : c.length = 10) (hal : a.length = 3) : ConQ Tryd.prog [(0, 2000)] 21 [.int p, .arr c, .arr a] [(2000, .ro 0 cuT)] (.tuple [.arr (tcV p c a), .int (tcC p c a)]) := by
  have hnl := slN_len p c a
  have hsl := slL_len p c a
  refine conW tab_ok [(0, .int p), (1, .arr c), (2, .arr a)] 0 [2000] [] Tryd.func21 rfl rfl rfl rfl rfl rfl rfl rfl rfl ?_
  refine cR ?_
  iterate 2 refine oBox rfl rfl rfl rfl rfl rfl ?_
  refine oAlloc rfl rfl rfl rfl rfl rfl rfl ?_
  refine oA rfl rfl ?_
  refine oN ?_
  iterate 2 refine CW_seq ?_
  refine CW_any (fun _ => false) 8 rfl lateOk (by decide +kernel) (fun hst => ?_)
  refine aP 0 hst rfl rfl (by decide +kernel) (PX_move rfl rfl) rfl rfl ?_
  refine aQ 1 hst rfl rfl (by decide +kernel) (QX_of (Q_ldw rfl rfl rfl rfl hcl) NE_load) rfl rfl ?_
  refine aP 2 hst rfl rfl (by decide +kernel) (PX_move rfl rfl) rfl rfl ?_
  refine aQ 3 hst rfl rfl (by decide +kernel) (QX_of (Q_ldw rfl rfl rfl rfl hal) NE_load) rfl rfl ?_
  refine AW_one (i := 4) (by decide +kernel) ?_
  refine gBsl1 hal rfl rfl rfl rfl rfl rfl rfl rfl rfl rfl rfl rfl ?_
  refine aQ 5 hst rfl rfl (by decide +kernel) (QX_call (arePoints_one p a hal) [(0, 3)] rfl rfl (Fits.mk' (vHc rfl vHn) rfl rfl (by first | (simp; done) | exact glOk rfl rfl rfl)) rfl rfl rfl) rfl rfl ?_
  refine aQ 6 hst rfl rfl (by decide +kernel) (QX_call0 (cubicCode_con p (pointB p a) c hcl) rfl rfl rfl) rfl rfl ?_
  refine aQ 7 hst rfl rfl (by decide +kernel) (QX_of (Q_assign rfl rfl) NE_assign) rfl rfl ?_
  refine AW_done (by decide +kernel) ?_
  all_goals with_reducible refine tN ?_
  all_goals (
   refine cR ?_
   refine oM rfl rfl ?_
   refine oQ (Q_bin rfl rfl rfl) rfl rfl ?_
   refine oN ?_
   first | refine cT rfl ?_ | refine cF rfl ?_ | refine CW_cond rfl (fun hc => ?_) (fun hc => ?_)
   all_goals try simp only [s1, s2, s3, s4, s5, s6, s7, s8, s9, s10, s11, s12] at hc
   all_goals first
     | (
      refine CW_skip ?_)
     | (
      refine cR ?_
      refine oQ (Q_build rfl rfl rfl rfl rfl rfl rfl rfl) rfl rfl ?_
      refine oM rfl rfl ?_
      first | refine oSw rfl rfl rfl rfl ?_ | refine oSa rfl rfl rfl rfl ?_
      refine oA rfl rfl ?_
      refine oN ?_
      refine CW_ret ?_))
  all_goals first
    | with_reducible refine tR ?_
    | with_reducible refine tE ?_
    | (
     with_reducible refine tN ?_
     refine cR ?_
     (have hc0 : codeB p (pointB p a && pointB p c) = 0 := hc)
     (have hcc := codeB_zero.1 hc0)
     (have hcb := Bool.and_eq_true_iff.1 hcc.2)
     (have hcq := smN_point hcb.2)
     (have hca := smN_point hcb.1)
     refine oQ (Q_ldw rfl rfl rfl rfl hcl) rfl rfl ?_
     refine oM rfl rfl ?_
     refine oQ (Q_ldw rfl rfl rfl rfl hal) rfl rfl ?_
     refine oQ (Q_call (tangent_con p c a hcc.1 hcl hal hcq hca) [] rfl rfl (Fits.mk' (vHc rfl vHn) rfl rfl (by first | (simp; done) | exact glOk rfl rfl rfl)) rfl rfl) rfl rfl ?_
     refine oM rfl rfl ?_
     iterate 2 refine oQ (Q_extract rfl rfl) rfl rfl ?_
     refine oAlloc rfl rfl rfl rfl rfl rfl rfl ?_
     first | refine oSw rfl rfl rfl rfl ?_ | refine oSa rfl rfl rfl rfl ?_
     refine oA rfl rfl ?_
     refine oN ?_
     refine CW_seq ?_
     refine cR ?_
     refine oM rfl rfl ?_
     refine oQ (Q_not rfl) rfl rfl ?_
     refine oN ?_
     first | refine cT rfl ?_ | refine cF rfl ?_ | refine CW_cond rfl (fun hc => ?_) (fun hc => ?_)
     all_goals try simp only [s1, s2, s3, s4, s5, s6, s7, s8, s9, s10, s11, s12] at hc
     all_goals first
       | (
        refine CW_skip ?_)
       | (
        refine cR ?_
        refine oQ (Q_build rfl rfl rfl rfl rfl rfl rfl rfl) rfl rfl ?_
        first | refine oSw rfl rfl rfl rfl ?_ | refine oSa rfl rfl rfl rfl ?_
        refine oA rfl rfl ?_
        refine oN ?_
        refine CW_ret ?_)
     all_goals first
       | with_reducible refine tR ?_
       | with_reducible refine tE ?_
       | (
        with_reducible refine tN ?_
        refine cR ?_
        first | refine oQ (Lw rfl rfl rfl rfl) rfl rfl ?_ | refine oQ (La rfl rfl rfl rfl rfl) rfl rfl ?_
        first | refine oSw rfl rfl rfl rfl ?_ | refine oSa rfl rfl rfl rfl ?_
        refine oA rfl rfl ?_
        refine oN ?_
        refine CW_ret ?_))
  all_goals (
   refine exitQ (.inr rfl) 0 (.cons (.arr rfl rfl rfl rfl (by first | omega | (dsimp only; omega) | (simp; omega) | (simp; done))) (.cons (.tmp rfl rfl) .nil)) ?_ rfl (vHc rfl vHn) rfl rfl
   first
     | (have hm : tcC p c a = codeB p (pointB p a && pointB p c) := if_neg hc
        exact arr_code (if_neg (by rw [hm]; exact hc)).symm hm.symm)
     | (have hb2 : facP p (slL p c a) ≠ 0 ∧ cuA p c a = 0 := by simp_all [cuG]
        have hm : tcC p c a = 0 := (if_pos hc0).trans (if_pos hb2)
        exact arr_code (if_pos hm).symm hm.symm)
     | (have hb2 : ¬(facP p (slL p c a) ≠ 0 ∧ cuA p c a = 0) := by simp_all [cuG]
        have hm : tcC p c a = 5 := (if_pos hc0).trans (if_neg hb2)
        exact arr_code (if_neg (by rw [hm]; decide)).symm hm.symm))
theorem spec_TangentOfCubic_con (p : Int) (c a : List Int) (hcl : c.length = 10) (hal : a.length = 3) : ConQ Tryd.prog [] 19 [.int p, .arr c, .arr a] [] (.tuple [.arr (tcV p c a), .int (tcC p c a)]) := by
  have hnl := slN_len p c a
  have hsl := slL_len p c a
  have hcr := l06Code_row p c hcl 35 a 1 1 (by omega) (by decide)
  rw [allF1 hal] at hcr
  refine conW tab_ok [(0, .int p), (1, .arr c), (2, .arr a)] 0 [] [] Tryd.func19 rfl rfl rfl rfl rfl rfl rfl rfl rfl ?_
  refine cR ?_
  iterate 2 refine oBox rfl rfl rfl rfl rfl rfl ?_
  refine oAlloc rfl rfl rfl rfl rfl rfl rfl ?_
  refine oA rfl rfl ?_
  refine oN ?_
  refine CW_seq ?_
  refine cR ?_
  refine oM rfl rfl ?_
  refine oQ (Q_ldw rfl rfl rfl rfl hcl) rfl rfl ?_
  refine oQ (Q_ldw rfl rfl rfl rfl hal) rfl rfl ?_
  refine oBsl1 hal rfl rfl rfl rfl rfl rfl rfl rfl rfl rfl ?_
  refine oQ (Q_call (hcr) [(0, 3)] rfl rfl (Fits.mk' (vHc rfl vHn) rfl rfl (by first | (simp; done) | exact glOk rfl rfl rfl)) rfl rfl) rfl rfl ?_
  refine oA rfl rfl ?_
  refine oN ?_
  refine cR ?_
  refine oM rfl rfl ?_
  refine oQ (Q_bin rfl rfl rfl) rfl rfl ?_
  refine oN ?_
  first | refine cT rfl ?_ | refine cF rfl ?_ | refine CW_cond rfl (fun hc => ?_) (fun hc => ?_)
  all_goals try simp only [s1, s2, s3, s4, s5, s6, s7, s8, s9, s10, s11, s12] at hc
  all_goals first
    | (
     refine CW_skip ?_)
    | (
     refine cR ?_
     refine oQ (Q_build rfl rfl rfl rfl rfl rfl rfl rfl) rfl rfl ?_
     refine oM rfl rfl ?_
     first | refine oSw rfl rfl rfl rfl ?_ | refine oSa rfl rfl rfl rfl ?_
     refine oA rfl rfl ?_
     refine oN ?_
     refine CW_ret ?_)
  all_goals first
    | with_reducible refine tR ?_
    | with_reducible refine tE ?_
    | (
     with_reducible refine tN ?_
     refine cR ?_
     refine oM rfl rfl ?_
     (have hc0 : codeB p (pointB p a && pointB p c) = 0 := hc)
     (have hcc := codeB_zero.1 hc0)
     (have hcb := Bool.and_eq_true_iff.1 hcc.2)
     (have hcq := smN_point hcb.2)
     (have hca := smN_point hcb.1)
     refine oQ (Q_ldw rfl rfl rfl rfl hcl) rfl rfl ?_
     refine oQ (Q_ldw rfl rfl rfl rfl hal) rfl rfl ?_
     refine oQ (Q_call0 (l06Tangent_con p c a hcc.1 hcl hal hcq hca) rfl rfl rfl) rfl rfl ?_
     refine oM rfl rfl ?_
     iterate 2 refine oQ (Q_extract rfl rfl) rfl rfl ?_
     refine oAlloc rfl rfl rfl rfl rfl rfl rfl ?_
     first | refine oSw rfl rfl rfl rfl ?_ | refine oSa rfl rfl rfl rfl ?_
     refine oA rfl rfl ?_
     refine oN ?_
     refine CW_seq ?_
     refine cR ?_
     refine oM rfl rfl ?_
     refine oQ (Q_not rfl) rfl rfl ?_
     refine oM rfl rfl ?_
     all_goals first | refine oT rfl rfl ?_ | refine o1 rfl rfl rfl ?_ | refine o0 rfl rfl rfl ?_ | refine ogP1 rfl rfl rfl (fun hg => ?_) (fun hg => ?_) | refine ogP0 rfl rfl rfl (fun hg => ?_) (fun hg => ?_)
     all_goals try simp only [s1, s2, s3, s4, s5, s6, s7, s8, s9, s10, s11, s12] at hg
     all_goals first | (refine oM rfl rfl ?_) | skip
     all_goals first | refine oT rfl rfl ?_ | refine o1 rfl rfl rfl ?_ | refine o0 rfl rfl rfl ?_ | refine ogP1 rfl rfl rfl (fun hg => ?_) (fun hg => ?_) | refine ogP0 rfl rfl rfl (fun hg => ?_) (fun hg => ?_)
     all_goals try simp only [s1, s2, s3, s4, s5, s6, s7, s8, s9, s10, s11, s12] at hg
     all_goals first | (refine oQ (Q_ldw rfl rfl rfl rfl hcl) rfl rfl ?_) | skip
     all_goals first | refine oT rfl rfl ?_ | refine o1 rfl rfl rfl ?_ | refine o0 rfl rfl rfl ?_ | refine ogP1 rfl rfl rfl (fun hg => ?_) (fun hg => ?_) | refine ogP0 rfl rfl rfl (fun hg => ?_) (fun hg => ?_)
     all_goals try simp only [s1, s2, s3, s4, s5, s6, s7, s8, s9, s10, s11, s12] at hg
     all_goals first | (refine oQ (Q_ldw rfl rfl rfl rfl hal) rfl rfl ?_) | skip
     all_goals first | refine oT rfl rfl ?_ | refine o1 rfl rfl rfl ?_ | refine o0 rfl rfl rfl ?_ | refine ogP1 rfl rfl rfl (fun hg => ?_) (fun hg => ?_) | refine ogP0 rfl rfl rfl (fun hg => ?_) (fun hg => ?_)
     all_goals try simp only [s1, s2, s3, s4, s5, s6, s7, s8, s9, s10, s11, s12] at hg
     all_goals first | (refine oQ (Q_call0 (l06On_con p c a hcc.1 hcl hal hcq hca) rfl rfl rfl) rfl rfl ?_) | skip
     all_goals first | refine oT rfl rfl ?_ | refine o1 rfl rfl rfl ?_ | refine o0 rfl rfl rfl ?_ | refine ogP1 rfl rfl rfl (fun hg => ?_) (fun hg => ?_) | refine ogP0 rfl rfl rfl (fun hg => ?_) (fun hg => ?_)
     all_goals try simp only [s1, s2, s3, s4, s5, s6, s7, s8, s9, s10, s11, s12] at hg
     all_goals first | (refine oQ (Q_not rfl) rfl rfl ?_) | skip
     all_goals first | refine oQ (Q_pick_t rfl (by with_reducible rfl) rfl rfl) rfl rfl ?_ | refine oQ (Q_pick_f rfl (by with_reducible rfl) rfl rfl) rfl rfl ?_
     all_goals refine oN ?_
     all_goals (
      first | refine cT rfl ?_ | refine cF rfl ?_ | refine CW_cond rfl (fun hc => ?_) (fun hc => ?_)
      all_goals try simp only [s1, s2, s3, s4, s5, s6, s7, s8, s9, s10, s11, s12] at hc
      all_goals first
        | (
         refine CW_skip ?_)
        | (
         refine cR ?_
         refine oQ (Q_build rfl rfl rfl rfl rfl rfl rfl rfl) rfl rfl ?_
         first | refine oSw rfl rfl rfl rfl ?_ | refine oSa rfl rfl rfl rfl ?_
         refine oA rfl rfl ?_
         refine oN ?_
         refine CW_ret ?_))
     all_goals first
       | with_reducible refine tR ?_
       | with_reducible refine tE ?_
       | (
        with_reducible refine tN ?_
        refine cR ?_
        first | refine oQ (Lw rfl rfl rfl rfl) rfl rfl ?_ | refine oQ (La rfl rfl rfl rfl rfl) rfl rfl ?_
        first | refine oSw rfl rfl rfl rfl ?_ | refine oSa rfl rfl rfl rfl ?_
        refine oA rfl rfl ?_
        refine oN ?_
        refine CW_ret ?_))
  all_goals (
   refine exitQ (.inr rfl) 0 (.cons (.arr rfl rfl rfl rfl (by first | omega | (dsimp only; omega) | (simp; omega) | (simp; done))) (.cons (.tmp rfl rfl) .nil)) ?_ rfl vHn rfl rfl
   first
     | (have hm : tcC p c a = codeB p (pointB p a && pointB p c) := if_neg hc
        exact arr_code (if_neg (by rw [hm]; exact hc)).symm hm.symm)
     | (have hb2 : facP p (slL p c a) ≠ 0 ∧ cuA p c a = 0 := by simp_all [cuG]
        have hm : tcC p c a = 0 := (if_pos hc0).trans (if_pos hb2)
        exact arr_code (if_pos hm).symm hm.symm)
     | (have hb2 : ¬(facP p (slL p c a) ≠ 0 ∧ cuA p c a = 0) := by simp_all [cuG]
        have hm : tcC p c a = 5 := (if_pos hc0).trans (if_neg hb2)
        exact arr_code (if_neg (by rw [hm]; decide)).symm hm.symm))
theorem spec_SingularPoints_con (p : Int) (c : List Int) (hcl : c.length = 10) : Con Tryd.prog [] 23 [.int p, .arr c] [] (listR 3 35 [] 0 (cuC p c) (sgV p c)) := by
  by_cases hcd : cuC p c = 0
  · obtain ⟨hp, hq⟩ := cuC_zero hcd
    have hsm := smN_point hq
    have hb := prime_bd hp
    have hal := cpV_len hp c
    have h3 : ∀ x ∈ cpV p c, x.length = 3 := cpV_three
    have hf3 := flat3 h3
    refine conW tab_ok [(0, .int p), (1, .arr c)] 0 [] [] Tryd.func23 rfl rfl rfl rfl rfl rfl rfl rfl rfl ?_
    refine cR ?_
    refine oBox rfl rfl rfl rfl rfl rfl ?_
    iterate 2 refine oA rfl rfl ?_
    refine oN ?_
    refine CW_seq ?_
    refine cR ?_
    refine oM rfl rfl ?_
    refine oQ (Q_ldw rfl rfl rfl rfl hcl) rfl rfl ?_
    refine oQ (Q_call0 (l06Code_nil p c hcl) rfl rfl rfl) rfl rfl ?_
    refine oA rfl rfl ?_
    refine oN ?_
    refine cR ?_
    refine oM rfl rfl ?_
    refine oQ (Q_bin rfl rfl rfl) rfl rfl ?_
    refine oN ?_
    first | refine cT rfl ?_ | refine cF rfl ?_ | refine CW_cond rfl (fun hc => ?_) (fun hc => ?_)
    all_goals try simp only [s1, s2, s3, s4, s5, s6, s7, s8, s9, s10, s11, s12] at hc
    all_goals try (exfalso; first | exact absurd hcd hc | exact absurd hc hcd; done)
    all_goals first
      | (
       refine CW_skip ?_)
      | (
       refine cR ?_
       refine oM rfl rfl ?_
       iterate 2 refine oA rfl rfl ?_
       refine oN ?_
       refine CW_ret ?_)
    all_goals first
      | with_reducible refine tR ?_
      | with_reducible refine tE ?_
      | (
       with_reducible refine tN ?_
       refine cR ?_
       refine oM rfl rfl ?_
       refine oQ (Q_ldw rfl rfl rfl rfl hcl) rfl rfl ?_
       refine oCall (l06Points_con p c hp hcl hsm) [] 1 rfl rfl (Fits.mk' vHn rfl rfl (by first | (simp; done) | exact glOk rfl rfl rfl)) rfl rfl ?_
       rintro r H1 ⟨k0, sp0, hk0, hsp0, rfl, rfl⟩
       refine ⟨.slice 1 0 (cpV p c).length k0, [(1, .ints 35 ((cpV p c).flatten ++ sp0))], rfl, rfl, rfl, ?_⟩
       refine oBsl rfl rfl rfl rfl (.inr ⟨rfl, rfl, by decide⟩) rfl rfl rfl rfl rfl rfl ?_
       iterate 2 refine oA rfl rfl ?_
       refine oN ?_
       refine CW_seq ?_
       refine cR ?_
       refine oA rfl rfl ?_
       refine oN ?_
       refine CW_block ?_
       refine CW_loop (ι := Nat × Nat × List Int) (fun x => x.1 ≤ (cpV p c).length ∧ (((cpV p c).take x.1).filter fun m => !(facP p (slL p c m) != 0)).length ≤ x.2.1 ∧ x.2.1 * 3 ≤ (((cpV p c).take x.1).filter fun m => !(facP p (slL p c m) != 0)).length * 3 + x.2.2.length) (fun x => ⟨[(0, .int p), (3, .ptr 0 0), (7, .slice 1 0 (cpV p c).length k0), (8, .slice 2 0 (((cpV p c).take x.1).filter fun m => !(facP p (slL p c m) != 0)).length x.2.1), (9, .int x.1)], [(0, .ints 26 c), (1, .ints 35 ((cpV p c).flatten ++ sp0)), (2, .ints 35 ((((cpV p c).take x.1).filter fun m => !(facP p (slL p c m) != 0)).flatten ++ x.2.2))], 3⟩) (fun x => (cpV p c).length - x.1) (0, 0, []) ?_ ?_ ?_
       · exact ⟨Nat.zero_le _, Nat.le_refl _, Nat.le_refl _⟩
       · refine View.mk' [] rfl rfl rfl ?_ ?_
         repeat' first | exact vFn | refine vFc rfl ?_ | exact vHn | refine vHc rfl ?_ | refine vFc (congrArg (fun z => some (V.int z)) ?_) ?_ | refine vHc (congrArg (fun z => some (Blk.ints _ z)) ?_) ?_ | refine vFc (congrArg (fun z => some (V.bool z)) ?_) ?_ | refine vFs rfl rfl ?_ ?_
       rintro ⟨i, k, sp⟩ ⟨hi, hk, hsp⟩
       dsimp only at hi hk hsp ⊢
       have hfn := filter_len (g := fun m => !(facP p (slL p c m) != 0)) i hi
       have hlen := flat3 (filter_three (g := fun m => !(facP p (slL p c m) != 0)) h3 i)
       have hmem := fun h : i < (cpV p c).length => getD_mem h
       have h3i := fun h : i < (cpV p c).length => h3 _ (getD_mem h)
       have hnl := slN_len p c ((cpV p c).getD i [])
       refine CW_seq ?_
       refine cR ?_
       iterate 2 refine oM rfl rfl ?_
       first | refine oQ (Q_len rfl rfl rfl rfl) rfl rfl ?_ | refine oQ (Q_len0 rfl rfl rfl rfl) rfl rfl ?_
       refine oQ (Q_bin rfl rfl rfl) rfl rfl ?_
       refine oN ?_
       first | refine cT rfl ?_ | refine cF rfl ?_ | refine CW_cond rfl (fun hc => ?_) (fun hc => ?_)
       all_goals try simp only [s1, s2, s3, s4, s5, s6, s7, s8, s9, s10, s11, s12] at hc
       all_goals try (exfalso; first | exact absurd hcd hc | exact absurd hc hcd; done)
       all_goals first
         | (
          refine CW_skip ?_)
         | (
          refine CW_exit ?_)
       all_goals first
         | with_reducible refine tR ?_
         | with_reducible refine tE ?_
         | (
          with_reducible refine tN ?_
          refine CW_seq ?_
          refine CW_block ?_
          refine CW_seq ?_
          refine CW_any (fun i => List.elem i [11, 12]) 13 rfl lateOk (by decide +kernel) (fun hst => ?_)
          refine aP 0 hst rfl rfl (by decide +kernel) (PX_move rfl rfl) rfl rfl ?_
          refine aQ 1 hst rfl rfl (by decide +kernel) (QX_of (Q_ldw rfl rfl rfl rfl hcl) NE_load) rfl rfl ?_
          refine aP 2 hst rfl rfl (by decide +kernel) (PX_move rfl rfl) rfl rfl ?_
          refine aP 3 hst rfl rfl (by decide +kernel) (PX_move rfl rfl) rfl rfl ?_
          (have h3i := h3i (by omega)); (have hmem := hmem (by omega)); refine aQ 4 hst rfl rfl (by decide +kernel) (QX_of (Q_ixs0z 3 rfl rfl rfl rfl rfl rfl (by omega)) NE_ix) rfl rfl ?_
          refine aQ 5 hst rfl rfl (by decide +kernel) (QX_of (Q_lda (n := 3) rfl rfl rfl rfl rfl (by rw [List.length_append, hf3]; omega)) NE_load) rfl rfl ?_; rw [flat_get h3 (show i < (cpV p c).length by omega)]
          refine aQ 6 hst rfl rfl (by decide +kernel) (QX_call0 (l06Tangent_con p c _ hp hcl h3i hsm (allPts_smN hp (List.mem_filter.1 hmem).1)) rfl rfl rfl) rfl rfl ?_
          refine aP 7 hst rfl rfl (by decide +kernel) (PX_move rfl rfl) rfl rfl ?_
          refine aExt 8 hst rfl rfl (by decide +kernel) rfl rfl rfl rfl ?_
          refine aExt 9 hst rfl rfl (by decide +kernel) rfl rfl rfl rfl ?_
          refine AW_one (i := 10) (by decide +kernel) ?_
          refine gAlloc rfl rfl rfl rfl rfl rfl rfl rfl rfl ?_
          refine AW_last [11, 12] rfl (by decide +kernel) rfl ?_
          first | refine oSw rfl rfl rfl rfl ?_ | refine oSa rfl rfl rfl rfl ?_
          refine oA rfl rfl ?_
          refine OW_nil (npN ?_)
          all_goals with_reducible refine tN ?_
          all_goals (
           refine cR ?_
           refine oM rfl rfl ?_
           refine oQ (Q_not rfl) rfl rfl ?_
           refine oN ?_
           first | refine cT rfl ?_ | refine cF rfl ?_ | refine CW_cond rfl (fun hc => ?_) (fun hc => ?_)
           all_goals try simp only [s1, s2, s3, s4, s5, s6, s7, s8, s9, s10, s11, s12] at hc
           all_goals try (exfalso; first | exact absurd hcd hc | exact absurd hc hcd; done)
           all_goals first
             | (
              refine CW_skip ?_)
             | (
              refine CW_region ?_
              iterate 3 refine oM rfl rfl ?_
              first | refine oQ (Q_ixs0z 3 rfl rfl rfl rfl rfl rfl (by first | omega | (dsimp only; omega) | (simp; omega) | (simp; done))) rfl rfl ?_ | refine oQ (Q_ixsz 3 rfl rfl rfl rfl rfl rfl (by first | omega | (dsimp only; omega) | (simp; omega) | (simp; done))) rfl rfl ?_
              refine oQ (Q_lda (n := 3) rfl rfl rfl rfl rfl (by rw [List.length_append, hf3]; omega)) rfl rfl ?_; rw [flat_get h3 (show i < (cpV p c).length by omega)]
              refine oBsl1 h3i rfl rfl rfl rfl rfl rfl rfl rfl rfl rfl ?_
              refine oApp (sz := 3) (by_ := 24) (xl := (cpV p c).getD i []) rfl rfl rfl rfl rfl rfl ⟨by decide, rfl, .inr rfl⟩ rfl rfl rfl rfl rfl rfl hlen (by rw [h3i]) (by omega) (by omega) (by omega) (by omega) rfl rfl (fun k2 sp2 h1 h2 => ?_)
              refine oA rfl rfl ?_
              refine OW_nil ?_))
          all_goals first | with_reducible refine bN ?_ | with_reducible refine bE ?_ | with_reducible refine bR ?_ | refine bX rfl ?_
          all_goals with_reducible refine tN ?_
          all_goals (
           refine CW_region ?_
           refine oM rfl rfl ?_
           first | refine oQ (Q_binu rfl rfl rfl (by omega)) rfl rfl ?_ | refine oQ (Q_bin rfl rfl rfl) rfl rfl ?_
           refine oA rfl rfl ?_
           refine OW_nil ?_))
       all_goals first
         | with_reducible refine tR ?_
         | with_reducible refine tE ?_
         | (
          with_reducible refine tN ?_
          first
            | (
             refine ⟨(i + 1, k2, sp2), ?_, ?_, View.mk' [(2, 5)] rfl rfl rfl ?_ ?_⟩
             · dsimp only
               first
                 | (rw [filter_snoc (g := fun m => !(facP p (slL p c m) != 0)) (by omega) (fz0 hc), List.length_append, List.length_singleton]; exact ⟨by omega, h1, h2⟩)
                 | (rw [filter_skip (g := fun m => !(facP p (slL p c m) != 0)) (by omega) (fz1 hc)]; exact ⟨by omega, hk, hsp⟩)
             · omega
             all_goals (repeat' first | exact vFn | refine vFc rfl ?_ | exact vHn | refine vHc rfl ?_ | refine vFc (congrArg (fun z => some (V.int z)) ?_) ?_ | refine vHc (congrArg (fun z => some (Blk.ints _ z)) ?_) ?_ | refine vFc (congrArg (fun z => some (V.bool z)) ?_) ?_ | refine vFs rfl rfl ?_ ?_)
             all_goals dsimp only
             all_goals first
               | (rw [filter_snoc (g := fun m => !(facP p (slL p c m) != 0)) (by omega) (fz0 hc)]; simp; done)
               | (rw [filter_skip (g := fun m => !(facP p (slL p c m) != 0)) (by omega) (fz1 hc)]; done))
            | (
             refine ⟨(i + 1, k, sp), ?_, ?_, View.mk' [] rfl rfl rfl ?_ ?_⟩
             · dsimp only
               first
                 | (rw [filter_snoc (g := fun m => !(facP p (slL p c m) != 0)) (by omega) (fz0 hc), List.length_append, List.length_singleton]; exact ⟨by omega, h1, h2⟩)
                 | (rw [filter_skip (g := fun m => !(facP p (slL p c m) != 0)) (by omega) (fz1 hc)]; exact ⟨by omega, hk, hsp⟩)
             · omega
             all_goals (repeat' first | exact vFn | refine vFc rfl ?_ | exact vHn | refine vHc rfl ?_ | refine vFc (congrArg (fun z => some (V.int z)) ?_) ?_ | refine vHc (congrArg (fun z => some (Blk.ints _ z)) ?_) ?_ | refine vFc (congrArg (fun z => some (V.bool z)) ?_) ?_ | refine vFs rfl rfl ?_ ?_)
             all_goals dsimp only
             all_goals first
               | (rw [filter_snoc (g := fun m => !(facP p (slL p c m) != 0)) (by omega) (fz0 hc)]; simp; done)
               | (rw [filter_skip (g := fun m => !(facP p (slL p c m) != 0)) (by omega) (fz1 hc)]; done)))
       all_goals first | with_reducible refine bN ?_ | with_reducible refine bE ?_ | with_reducible refine bR ?_ | refine bX rfl ?_
       all_goals with_reducible refine tN ?_
       all_goals (
        refine cR ?_
        refine oM rfl rfl ?_
        iterate 2 refine oA rfl rfl ?_
        refine oN ?_
        refine CW_ret ?_))
    all_goals (
     first
       | (exfalso; first | exact hc hcd | exact hcd hc; done)
       | (have e : i = (cpV p c).length := (by omega)
          subst e
          rw [List.take_length] at hk hsp
          exact exitH (r0 := .tuple [.slice 0 0 (sgV p c).length k, .int 0]) (H0 := [(0, .ints 35 ((sgV p c).flatten ++ sp))]) (.inr rfl) [(0, 2)] 1 (.cons (.tmp rfl rfl) (.cons (.tmp rfl rfl) .nil)) (by simp only [List.take_length]; rfl) rfl rfl (vHc (by simp only [List.take_length]; rfl) vHn) rfl rfl (listR_ok hcd hk hsp rfl rfl)))
  · skip
    refine conW tab_ok [(0, .int p), (1, .arr c)] 0 [] [] Tryd.func23 rfl rfl rfl rfl rfl rfl rfl rfl rfl ?_
    refine cR ?_
    refine oBox rfl rfl rfl rfl rfl rfl ?_
    iterate 2 refine oA rfl rfl ?_
    refine oN ?_
    refine CW_seq ?_
    refine cR ?_
    refine oM rfl rfl ?_
    refine oQ (Q_ldw rfl rfl rfl rfl hcl) rfl rfl ?_
    refine oQ (Q_call0 (l06Code_nil p c hcl) rfl rfl rfl) rfl rfl ?_
    refine oA rfl rfl ?_
    refine oN ?_
    refine cR ?_
    refine oM rfl rfl ?_
    refine oQ (Q_bin rfl rfl rfl) rfl rfl ?_
    refine oN ?_
    first | refine cT rfl ?_ | refine cF rfl ?_ | refine CW_cond rfl (fun hc => ?_) (fun hc => ?_)
    all_goals try simp only [s1, s2, s3, s4, s5, s6, s7, s8, s9, s10, s11, s12] at hc
    all_goals try (exfalso; first | exact absurd hcd hc | exact absurd hc hcd; done)
    all_goals first
      | (
       refine CW_skip ?_)
      | (
       refine cR ?_
       refine oM rfl rfl ?_
       iterate 2 refine oA rfl rfl ?_
       refine oN ?_
       refine CW_ret ?_)
    all_goals first
      | with_reducible refine tR ?_
      | with_reducible refine tE ?_
      | (
       with_reducible refine tN ?_
       refine cR ?_
       refine oM rfl rfl ?_
       (exfalso; first | exact hc hcd | exact hcd hc)
       fail "call of loop.example/g01310/spec.l06Points at slot 20"
       refine oBsl rfl rfl rfl rfl (.inr ⟨rfl, rfl, by decide⟩) rfl rfl rfl rfl rfl rfl ?_
       iterate 2 refine oA rfl rfl ?_
       refine oN ?_
       refine CW_seq ?_
       refine cR ?_
       refine oA rfl rfl ?_
       refine oN ?_
       refine CW_block ?_
       fail "loop 0 wants its states"
       · first | trivial | omega | (simp; done) | (simp; omega)
       · refine View.mk' [] rfl rfl rfl ?_ ?_
         repeat' first | exact vFn | refine vFc rfl ?_ | exact vHn | refine vHc rfl ?_ | refine vFc (congrArg (fun z => some (V.int z)) ?_) ?_ | refine vHc (congrArg (fun z => some (Blk.ints _ z)) ?_) ?_ | refine vFc (congrArg (fun z => some (V.bool z)) ?_) ?_ | refine vFs rfl rfl ?_ ?_
       intro i hi
       refine CW_seq ?_
       refine cR ?_
       iterate 2 refine oM rfl rfl ?_
       first | refine oQ (Q_len rfl rfl rfl rfl) rfl rfl ?_ | refine oQ (Q_len0 rfl rfl rfl rfl) rfl rfl ?_
       refine oQ (Q_bin rfl rfl rfl) rfl rfl ?_
       refine oN ?_
       first | refine cT rfl ?_ | refine cF rfl ?_ | refine CW_cond rfl (fun hc => ?_) (fun hc => ?_)
       all_goals try simp only [s1, s2, s3, s4, s5, s6, s7, s8, s9, s10, s11, s12] at hc
       all_goals try (exfalso; first | exact absurd hcd hc | exact absurd hc hcd; done)
       all_goals first
         | (
          refine CW_skip ?_)
         | (
          refine CW_exit ?_)
       all_goals first
         | with_reducible refine tR ?_
         | with_reducible refine tE ?_
         | (
          with_reducible refine tN ?_
          refine CW_seq ?_
          refine CW_block ?_
          refine CW_seq ?_
          refine CW_any (fun i => List.elem i [11, 12]) 13 rfl lateOk (by decide +kernel) (fun hst => ?_)
          refine aP 0 hst rfl rfl (by decide +kernel) (PX_move rfl rfl) rfl rfl ?_
          first | refine aQ 1 hst rfl rfl (by decide +kernel) (QX_of (Lw rfl rfl rfl rfl) NE_load) rfl rfl ?_ | refine aQ 1 hst rfl rfl (by decide +kernel) (QX_of (La rfl rfl rfl rfl rfl) NE_load) rfl rfl ?_
          refine aP 2 hst rfl rfl (by decide +kernel) (PX_move rfl rfl) rfl rfl ?_
          refine aP 3 hst rfl rfl (by decide +kernel) (PX_move rfl rfl) rfl rfl ?_
          first | refine aQ 4 hst rfl rfl (by decide +kernel) (QX_of (Q_ixs0z 3 rfl rfl rfl rfl rfl rfl (by first | omega | (dsimp only; omega) | (simp; omega) | (simp; done))) NE_ix) rfl rfl ?_ | refine aQ 4 hst rfl rfl (by decide +kernel) (QX_of (Q_ixsz 3 rfl rfl rfl rfl rfl rfl (by first | omega | (dsimp only; omega) | (simp; omega) | (simp; done))) NE_ix) rfl rfl ?_
          first | refine aQ 5 hst rfl rfl (by decide +kernel) (QX_of (Lw rfl rfl rfl rfl) NE_load) rfl rfl ?_ | refine aQ 5 hst rfl rfl (by decide +kernel) (QX_of (La rfl rfl rfl rfl rfl) NE_load) rfl rfl ?_
          fail "call of loop.example/g01310/spec.l06Tangent at slot 35"
          refine aP 7 hst rfl rfl (by decide +kernel) (PX_move rfl rfl) rfl rfl ?_
          refine aExt 8 hst rfl rfl (by decide +kernel) rfl rfl rfl rfl ?_
          refine aExt 9 hst rfl rfl (by decide +kernel) rfl rfl rfl rfl ?_
          refine AW_one (i := 10) (by decide +kernel) ?_
          refine gAlloc rfl rfl rfl rfl rfl rfl rfl rfl rfl ?_
          refine AW_last [11, 12] rfl (by decide +kernel) rfl ?_
          first | refine oSw rfl rfl rfl rfl ?_ | refine oSa rfl rfl rfl rfl ?_
          refine oA rfl rfl ?_
          refine OW_nil (npN ?_)
          all_goals with_reducible refine tN ?_
          all_goals (
           refine cR ?_
           refine oM rfl rfl ?_
           refine oQ (Q_not rfl) rfl rfl ?_
           refine oN ?_
           first | refine cT rfl ?_ | refine cF rfl ?_ | refine CW_cond rfl (fun hc => ?_) (fun hc => ?_)
           all_goals try simp only [s1, s2, s3, s4, s5, s6, s7, s8, s9, s10, s11, s12] at hc
           all_goals try (exfalso; first | exact absurd hcd hc | exact absurd hc hcd; done)
           all_goals first
             | (
              refine CW_skip ?_)
             | (
              refine CW_region ?_
              iterate 3 refine oM rfl rfl ?_
              first | refine oQ (Q_ixs0z 3 rfl rfl rfl rfl rfl rfl (by first | omega | (dsimp only; omega) | (simp; omega) | (simp; done))) rfl rfl ?_ | refine oQ (Q_ixsz 3 rfl rfl rfl rfl rfl rfl (by first | omega | (dsimp only; omega) | (simp; omega) | (simp; done))) rfl rfl ?_
              first | refine oQ (Lw rfl rfl rfl rfl) rfl rfl ?_ | refine oQ (La rfl rfl rfl rfl rfl) rfl rfl ?_
              refine oBsl rfl rfl rfl rfl (.inr ⟨rfl, rfl, by decide⟩) rfl rfl rfl rfl rfl rfl ?_
              fail "builtin append at slot 46"
              refine oA rfl rfl ?_
              refine OW_nil ?_))
          all_goals first | with_reducible refine bN ?_ | with_reducible refine bE ?_ | with_reducible refine bR ?_ | refine bX rfl ?_
          all_goals with_reducible refine tN ?_
          all_goals (
           refine CW_region ?_
           refine oM rfl rfl ?_
           first | refine oQ (Q_binu rfl rfl rfl (by omega)) rfl rfl ?_ | refine oQ (Q_bin rfl rfl rfl) rfl rfl ?_
           refine oA rfl rfl ?_
           refine OW_nil ?_))
       all_goals first
         | with_reducible refine tR ?_
         | with_reducible refine tE ?_
         | (
          with_reducible refine tN ?_
          fail "again 0")
       all_goals first | with_reducible refine bN ?_ | with_reducible refine bE ?_ | with_reducible refine bR ?_ | refine bX rfl ?_
       all_goals with_reducible refine tN ?_
       all_goals (
        refine cR ?_
        refine oM rfl rfl ?_
        iterate 2 refine oA rfl rfl ?_
        refine oN ?_
        refine CW_ret ?_))
    all_goals (
     first | (exfalso; first | exact hc hcd | exact hcd hc; done) | exact exitH (r0 := .tuple [.nilsl, .int (cuC p c)]) (H0 := []) (.inr rfl) [] 0 (.cons (.tmp rfl rfl) (.cons (.tmp rfl rfl) .nil)) rfl rfl rfl vHn rfl rfl (listR_no hcd rfl rfl))
end Go.Proofs.YtlhlnaehfjojiaaDoor
