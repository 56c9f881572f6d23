/- PolarPlane, SingularSpots: the program's side. Printed by gen_d5.py. -/
import Derived.Test.YtendffbpmpobnaaDoorD3
namespace Go.Proofs.YtendffbpmpobnaaDoor
set_option maxRecDepth 10000
set_option linter.unusedSimpArgs false
set_option linter.unusedVariables false
theorem arr_codeD {a b : List Int} {c d : Int} (h1 : a = b) (h2 : c = d) : V.tuple [.arr a, .int c] = V.tuple [.arr b, .int d] := by rw [h1, h2]
def plL (p : Int) (q a : List Int) : List Int := suV p (rwL p q) a
@[simp] theorem plL_len (p : Int) (q a : List Int) : (plL p q a).length = 4 := rfl
theorem plN_len (p : Int) (q a : List Int) : (normL p (plL p q a)).length = 4 := by rw [normL_length]; rfl
def ppC (p : Int) (q a : List Int) : Int := if cdB p (pointB p q && pointB p a) = 0 then (if facP p (plL p q a) ≠ 0 then 0 else 5) else cdB p (pointB p q && pointB p a)
def ppV (p : Int) (q a : List Int) : List Int := if ppC p q a = 0 then normL p (plL p q a) else [0, 0, 0, 0]
def ssG (p : Int) (q m : List Int) : Bool := decide (plL p q m = [0, 0, 0, 0])
def ssV (p : Int) (q : List Int) : List (List Int) := (allSp p).filter fun m => !(facP p (plL p q m) != 0)
theorem su_md (p : Int) (R a : List Int) (i : Nat) : suT R a i 4 % p % p = suT R a i 4 % p := Int.emod_emod_of_dvd _ (Int.dvd_refl p)
theorem pl_zero {p : Int} (hp : primeB p = true) (q a : List Int) : (!(facP p (plL p q a) != 0)) = ssG p q a := by
  have h := fac_zero hp (plL p q a)
  unfold plL at h
  simp only [suV, List.map_cons, List.map_nil, su_md, fnz] at h
  have e : facP p (plL p q a) = 0 ↔ plL p q a = [0, 0, 0, 0] := by
    unfold plL suV
    rw [h]
    constructor
    · intro h1
      by_cases h2 : suT (rwL p q) a 0 4 % p = 0 <;> by_cases h3 : suT (rwL p q) a 1 4 % p = 0 <;> by_cases h4 : suT (rwL p q) a 2 4 % p = 0 <;> by_cases h5 : suT (rwL p q) a 3 4 % p = 0 <;> simp_all
    · intro h1
      simp only [List.cons.injEq] at h1
      simp [h1]
  unfold ssG
  rw [Bool.eq_iff_iff]
  simp [e]
theorem ssV_eq {p : Int} (hp : primeB p = true) (q : List Int) : (allSp p).filter (ssG p q) = ssV p q := by
  unfold ssV
  congr 1
  funext m
  rw [pl_zero hp]
theorem ssV_four {p : Int} (hp : primeB p = true) {q : List Int} : ∀ x ∈ ssV p q, x.length = 4 := fun x hx => (allSp_norm hp (List.mem_filter.1 hx).1).1
theorem ssV_len {p : Int} (hp : primeB p = true) (q : List Int) : (ssV p q).length ≤ 2380 := Nat.le_trans (List.length_filter_le _ _) (allSp_len hp)
attribute [local irreducible] CW OW QW QOp Con thenP inBlockP AW QX RW
theorem impl_PolarPlane_con (p : Int) (q a : List Int) (hql : q.length = 10) (hal : a.length = 4) : ConQ Tryd.prog [(0, 2000)] 24 [.int p, .arr q, .arr a] [(2000, .ro 0 sqT)] (.tuple [.arr (ppV p q a), .int (ppC p q a)]) := by
  have hcc := quadricCode_con p q hql a 1 1 (by omega) (by decide)
  rw [allF1 hal] at hcc
  have hnl := plN_len p q a
  have hsl := plL_len p q a
  refine conW tab_ok [(0, .int p), (1, .arr q), (2, .arr a)] 0 [2000] [] Tryd.func24 rfl rfl rfl rfl rfl rfl rfl rfl rfl ?_
  refine cR ?_
  iterate 2 refine oBox rfl rfl rfl rfl rfl rfl ?_
  refine oAlloc rfl rfl rfl rfl rfl rfl rfl ?_
  refine oA rfl rfl ?_
  refine oN ?_
  refine CW_seq ?_
  refine cR ?_
  refine oM rfl rfl ?_
  refine oQ (Q_ldw rfl rfl rfl rfl hql) rfl rfl ?_
  refine oQ (Q_ldw rfl rfl rfl rfl hal) rfl rfl ?_
  refine oBsl1 hal rfl rfl rfl rfl rfl rfl rfl rfl rfl rfl ?_
  refine oQ (Q_call (hcc) [(0, 3)] rfl rfl (Fits.mk' (vHc rfl vHn) rfl rfl (by first | (simp; done) | exact glOk rfl rfl rfl)) rfl rfl) rfl rfl ?_
  refine oA rfl rfl ?_
  refine oN ?_
  refine cR ?_
  refine oM rfl rfl ?_
  refine oQ (Q_bin rfl rfl rfl) rfl rfl ?_
  refine oN ?_
  first | refine cT rfl ?_ | refine cF rfl ?_ | refine CW_cond rfl (fun hc => ?_) (fun hc => ?_)
  all_goals try simp only [s1, s2, s3, s4, s5, s6, s7, s8, s9, s10, s11, s12] at hc
  all_goals first
    | (
     refine CW_skip ?_)
    | (
     refine cR ?_
     refine oQ (Q_build rfl rfl rfl rfl rfl rfl rfl rfl) rfl rfl ?_
     refine oM rfl rfl ?_
     first | refine oSw rfl rfl rfl rfl ?_ | refine oSa rfl rfl rfl rfl ?_
     refine oA rfl rfl ?_
     refine oN ?_
     refine CW_ret ?_)
  all_goals first
    | with_reducible refine tR ?_
    | with_reducible refine tE ?_
    | (
     with_reducible refine tN ?_
     refine cR ?_
     (have hc0 : cdB p (pointB p q && pointB p a) = 0 := hc)
     (have hcz := iqC_zero hc0)
     (have hqq := smN_point hcz.2.1)
     (have hqa := smN_point hcz.2.2)
     (have hsu : ConQ Tryd.prog [(0, 2000)] 55 [.arr q, .int p, .arr a] [(2000, .ro 0 sqT)] (.arr (plL p q a)) := sums_con p q a hcz.1 hql hal hqq hqa)
     (have hp := hcz.1)
     refine oQ (Q_ldw rfl rfl rfl rfl hql) rfl rfl ?_
     refine oM rfl rfl ?_
     refine oQ (Q_ldw rfl rfl rfl rfl hal) rfl rfl ?_
     refine oQ (Q_call (hsu) [] rfl rfl (Fits.mk' (vHc rfl vHn) rfl rfl (by first | (simp; done) | exact glOk rfl rfl rfl)) rfl rfl) rfl rfl ?_
     refine oAlloc rfl rfl rfl rfl rfl rfl rfl ?_
     first | refine oSw rfl rfl rfl rfl ?_ | refine oSa rfl rfl rfl rfl ?_
     refine oN ?_
     refine CW_seq ?_
     refine cR ?_
     refine oM rfl rfl ?_
     refine oQ (Q_slaF rfl rfl rfl rfl) rfl rfl ?_
     refine oCall (normal_con p 28 (plL p q a) 4 4 (Nat.le_of_eq hsl.symm) hp (by omega)) [(0, 4)] 0 rfl rfl (Fits.mk' (vHc rfl vHn) rfl rfl (by first | (simp; done) | exact glOk rfl rfl rfl)) rfl rfl ?_
     rintro r H1 ⟨rfl, rfl⟩
     simp only [List.take_of_length_le (show (plL p q a).length ≤ 4 from Nat.le_refl _), List.drop_eq_nil_of_le (show (plL p q a).length ≤ 4 from Nat.le_refl _), List.append_nil]
     refine ⟨.bool (facP p (plL p q a) != 0), [(4, .ints 28 (normL p (plL p q a)))], rfl, rfl, rfl, ?_⟩
     refine oQ (Q_not rfl) rfl rfl ?_
     refine oN ?_
     first | refine cT rfl ?_ | refine cF rfl ?_ | refine CW_cond rfl (fun hc => ?_) (fun hc => ?_)
     all_goals try simp only [s1, s2, s3, s4, s5, s6, s7, s8, s9, s10, s11, s12] at hc
     all_goals first
       | (
        refine CW_skip ?_)
       | (
        refine cR ?_
        refine oQ (Q_build rfl rfl rfl rfl rfl rfl rfl rfl) rfl rfl ?_
        first | refine oSw rfl rfl rfl rfl ?_ | refine oSa rfl rfl rfl rfl ?_
        refine oA rfl rfl ?_
        refine oN ?_
        refine CW_ret ?_)
     all_goals first
       | with_reducible refine tR ?_
       | with_reducible refine tE ?_
       | (
        with_reducible refine tN ?_
        refine cR ?_
        refine oQ (Q_ldw rfl rfl rfl rfl hnl) rfl rfl ?_
        first | refine oSw rfl rfl rfl rfl ?_ | refine oSa rfl rfl rfl rfl ?_
        refine oA rfl rfl ?_
        refine oN ?_
        refine CW_ret ?_))
  all_goals (
   refine exitQ (.inr rfl) 0 (.cons (.arr rfl rfl rfl rfl (by first | omega | (dsimp only; omega) | (simp; omega) | (simp; done))) (.cons (.tmp rfl rfl) .nil)) ?_ rfl (vHc rfl vHn) rfl rfl
   first
     | (have hm : ppC p q a = cdB p (pointB p q && pointB p a) := if_neg hc
        exact arr_codeD (if_neg (by rw [hm]; exact hc)).symm hm.symm)
     | (have hb2 : facP p (plL p q a) ≠ 0 := by simp_all
        have hm : ppC p q a = 0 := (if_pos hc0).trans (if_pos hb2)
        exact arr_codeD (if_pos hm).symm hm.symm)
     | (have hb2 : ¬(facP p (plL p q a) ≠ 0) := by simp_all
        have hm : ppC p q a = 5 := (if_pos hc0).trans (if_neg hb2)
        exact arr_codeD (if_neg (by rw [hm]; decide)).symm hm.symm))
theorem singularSpots1_con (p : Int) (q m : List Int) (hp : primeB p = true) (hql : q.length = 10) (hq : smN 12 q) (hm : m.length = 4) (hn : normB p m = true) : ConQ Tryd.prog [(0, 2000)] 59 [.arr m, .ptr 1000 0, .ptr 1001 0] [(1000, .ints 26 q), (1001, .ints 2 [p]), (2000, .ro 0 sqT)] (.bool (ssG p q m)) := by
  have hms := smN_point (show pointB p m = true by rw [pointB, hp, hn]; rfl)
  have hsu : ConQ Tryd.prog [(0, 2000)] 55 [.arr q, .int p, .arr m] [(2000, .ro 0 sqT)] (.arr (plL p q m)) := sums_con p q m hp hql hm hq hms
  have hsl := plL_len p q m
  refine conW tab_ok [(0, .arr m), (1, .ptr 1000 0), (2, .ptr 1001 0)] 0 [1000, 1001, 2000] [1000, 1001] Tryd.func59 rfl rfl rfl rfl rfl rfl rfl rfl rfl ?_
  refine cR ?_
  refine oBox rfl rfl rfl rfl rfl rfl ?_
  refine oA rfl rfl ?_
  refine oN ?_
  refine cR ?_
  refine oQ (Q_ldw rfl rfl rfl rfl hql) rfl rfl ?_
  first | refine oQ (Q_ldc rfl rfl rfl rfl rfl) rfl rfl ?_ | refine oQ (Ld rfl rfl rfl rfl) rfl rfl ?_
  refine oQ (Q_ldw rfl rfl rfl rfl hm) rfl rfl ?_
  refine oQ (Q_call (hsu) [] rfl rfl (Fits.mk' (vHc rfl vHn) rfl rfl (by first | (simp; done) | exact glOk rfl rfl rfl)) rfl rfl) rfl rfl ?_
  refine oQ (v := .arr [0, 0, 0, 0]) (Q_build rfl rfl rfl rfl rfl rfl rfl rfl) rfl rfl ?_
  refine oQ (Q_arrb rfl rfl rfl rfl rfl rfl rfl rfl rfl (by first | omega | (dsimp only; omega) | (simp; omega) | (simp; done)) (by first | omega | (dsimp only; omega) | (simp; omega) | (simp; done))) rfl rfl ?_
  refine oA rfl rfl ?_
  refine oN ?_
  refine CW_ret ?_
  all_goals (
   ((refine exitQ (.inr rfl) 0 (.cons (.tmp rfl rfl) .nil) ?_ rfl (vHc rfl (vHc rfl (vHc rfl vHn))) rfl rfl); simp [resV, ssG]))
theorem impl_SingularSpots_con (p : Int) (q : List Int) (hql : q.length = 10) : Con Tryd.prog [(0, 2000)] 27 [.int p, .arr q] [(2000, .ro 0 sqT)] (listR 4 28 [(2000, .ro 0 sqT)] 0 (quC p q) (ssV p q)) := by
  by_cases hcd : quC p q = 0
  · obtain ⟨hp, hq⟩ := quC_zero hcd
    rw [← ssV_eq hp]
    have hst := spotsThat_con 59 26 q 2 [p] (ssG p q) p hp (fun m hm hn => singularSpots1_con p q m hp hql (smN_point hq) hm hn)
    generalize (allSp p).filter (ssG p q) = LL at *
    refine conW tab_ok [(0, .int p), (1, .arr q)] 0 [2000] [] Tryd.func27 rfl rfl rfl rfl rfl rfl rfl rfl rfl ?_
    refine cR ?_
    iterate 2 refine oBox rfl rfl rfl rfl rfl rfl ?_
    iterate 2 refine oA rfl rfl ?_
    refine oN ?_
    refine CW_seq ?_
    refine cR ?_
    refine oQ (Ld rfl rfl rfl rfl) rfl rfl ?_
    refine oQ (Q_ldw rfl rfl rfl rfl hql) rfl rfl ?_
    refine oQ (Q_call0 (quadricCode_nil p q hql) rfl rfl rfl) rfl rfl ?_
    refine oA rfl rfl ?_
    refine oN ?_
    refine cR ?_
    refine oM rfl rfl ?_
    refine oQ (Q_bin rfl rfl rfl) rfl rfl ?_
    refine oN ?_
    first | refine cT rfl ?_ | refine cF rfl ?_ | refine CW_cond rfl (fun hc => ?_) (fun hc => ?_)
    all_goals try simp only [s1, s2, s3, s4, s5, s6, s7, s8, s9, s10, s11, s12] at hc
    all_goals try (exfalso; first | exact absurd hcd hc | exact absurd hc hcd; done)
    all_goals first
      | (
       refine CW_skip ?_)
      | (
       refine cR ?_
       refine oM rfl rfl ?_
       iterate 2 refine oA rfl rfl ?_
       refine oN ?_
       refine CW_ret ?_)
    all_goals first
      | with_reducible refine tR ?_
      | with_reducible refine tE ?_
      | (
       with_reducible refine tN ?_
       refine cR ?_
       refine oQ (Ld rfl rfl rfl rfl) rfl rfl ?_
       refine oQ (Q_makeFunc rfl rfl) rfl rfl ?_
       refine oCall (hst) [(1000, 1), (1001, 0)] 1 rfl rfl (Fits.mk' (vHc rfl (vHc rfl (vHc rfl vHn))) rfl rfl (by first | (simp; done) | exact glOk rfl rfl rfl)) rfl rfl ?_
       rintro r H1 ⟨k9, sp9, hk9, hs9, rfl, rfl⟩
       refine ⟨.slice 2 0 LL.length k9, [(1, .ints 26 q), (0, .ints 2 [p]), (2000, .ro 0 sqT), (2, .ints 28 (LL.flatten ++ sp9))], rfl, rfl, rfl, ?_⟩
       iterate 2 refine oA rfl rfl ?_
       refine oN ?_
       refine CW_ret ?_)
    all_goals (
     first | (exfalso; first | exact hc hcd | exact hcd hc; done) | exact exitH (r0 := .tuple [.slice 0 0 LL.length k9, .int 0]) (H0 := [(2000, .ro 0 sqT), (0, .ints 28 (LL.flatten ++ sp9))]) (.inr rfl) [(0, 2)] 1 (.cons (.tmp rfl rfl) (.cons (.tmp rfl rfl) .nil)) rfl rfl rfl (vHc rfl (vHc rfl vHn)) rfl rfl (listR_ok hcd hk9 hs9 rfl rfl))
  · skip
    refine conW tab_ok [(0, .int p), (1, .arr q)] 0 [2000] [] Tryd.func27 rfl rfl rfl rfl rfl rfl rfl rfl rfl ?_
    refine cR ?_
    iterate 2 refine oBox rfl rfl rfl rfl rfl rfl ?_
    iterate 2 refine oA rfl rfl ?_
    refine oN ?_
    refine CW_seq ?_
    refine cR ?_
    refine oQ (Ld rfl rfl rfl rfl) rfl rfl ?_
    refine oQ (Q_ldw rfl rfl rfl rfl hql) rfl rfl ?_
    refine oQ (Q_call0 (quadricCode_nil p q hql) rfl rfl rfl) rfl rfl ?_
    refine oA rfl rfl ?_
    refine oN ?_
    refine cR ?_
    refine oM rfl rfl ?_
    refine oQ (Q_bin rfl rfl rfl) rfl rfl ?_
    refine oN ?_
    first | refine cT rfl ?_ | refine cF rfl ?_ | refine CW_cond rfl (fun hc => ?_) (fun hc => ?_)
    all_goals try simp only [s1, s2, s3, s4, s5, s6, s7, s8, s9, s10, s11, s12] at hc
    all_goals try (exfalso; first | exact absurd hcd hc | exact absurd hc hcd; done)
    all_goals first
      | (
       refine CW_skip ?_)
      | (
       refine cR ?_
       refine oM rfl rfl ?_
       iterate 2 refine oA rfl rfl ?_
       refine oN ?_
       refine CW_ret ?_)
    all_goals first
      | with_reducible refine tR ?_
      | with_reducible refine tE ?_
      | (
       with_reducible refine tN ?_
       refine cR ?_
       (exfalso; first | exact hc hcd | exact hcd hc)
       refine oQ (Q_makeFunc rfl rfl) rfl rfl ?_
       fail "call of loop.example/g01310/impl.spotsThat at slot 15"
       iterate 2 refine oA rfl rfl ?_
       refine oN ?_
       refine CW_ret ?_)
    all_goals (
     first | (exfalso; first | exact hc hcd | exact hcd hc; done) | exact exitH (r0 := .tuple [.nilsl, .int (quC p q)]) (H0 := [(2000, .ro 0 sqT)]) (.inr rfl) [] 0 (.cons (.tmp rfl rfl) (.cons (.tmp rfl rfl) .nil)) rfl rfl rfl (vHc rfl vHn) rfl rfl (listR_no hcd rfl rfl))
end Go.Proofs.YtendffbpmpobnaaDoor
