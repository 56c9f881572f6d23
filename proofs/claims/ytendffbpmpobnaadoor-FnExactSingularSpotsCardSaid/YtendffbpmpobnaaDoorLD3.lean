/- Laws. Printed by gen_ld3.py. -/
import Derived.Test.YtendffbpmpobnaaDoorA2
import Derived.Test.YtendffbpmpobnaaDoorD7
import Derived.Test.YtendffbpmpobnaaDoorB6S
import Derived.Test.YtendffbpmpobnaaDoorR2
namespace Go.Proofs.YtendffbpmpobnaaDoor
attribute [local irreducible] CW OW QW QOp Con thenP inBlockP AW QX RW
set_option maxRecDepth 10000
set_option linter.unusedSimpArgs false
set_option linter.unusedVariables false
theorem eqSpot_same (a : List Int) (ha : a.length = 4) : ConQ Tryd.prog [] 25 [.arr a, .arr a] [] (.bool true) := by
  have := eqSpot_con a a ha ha
  simpa using this
theorem law_FnExactPolarPlane (p : Int) (q : List Int) (a : List Int) (qlq : q.length = 10) (qla : a.length = 4) : ConQ Tryd.prog [(0, 2000)] 6 [.int p, .arr q, .arr a] [(2000, .ro 0 sqT)] (.bool true) := by
  have hvl : (ppV p q a).length = 4 := by unfold ppV; split; (rw [normL_length]; rfl); rfl
  have hsp := spec_PolarPlane_con p q a qlq qla
  have him := impl_PolarPlane_con p q a qlq qla
  generalize ppV p q a = vv at *
  generalize ppC p q a = cc at *
  refine conW tab_ok [(0, .int p), (1, .arr q), (2, .arr a)] 0 [2000] [] Tryd.func6 rfl rfl rfl rfl rfl rfl rfl rfl rfl ?_
  refine cR ?_
  iterate 2 refine oBox rfl rfl rfl rfl rfl rfl ?_
  refine oA rfl rfl ?_
  refine oN ?_
  refine CW_seq ?_
  refine CW_any (fun i => List.elem i [10, 11]) 12 rfl lateOk (by decide +kernel) (fun hst => ?_)
  refine aP 0 hst rfl rfl (by decide +kernel) (PX_move rfl rfl) rfl rfl ?_
  first | refine aQ 1 hst rfl rfl (by decide +kernel) (QX_of (Lw rfl rfl rfl rfl) NE_load) rfl rfl ?_ | refine aQ 1 hst rfl rfl (by decide +kernel) (QX_of (La rfl rfl rfl rfl rfl) NE_load) rfl rfl ?_
  refine aQ 2 hst rfl rfl (by decide +kernel) (QX_call0 (toQuadric_con _ qlq) rfl rfl rfl) rfl rfl ?_
  first | refine aQ 3 hst rfl rfl (by decide +kernel) (QX_of (Lw rfl rfl rfl rfl) NE_load) rfl rfl ?_ | refine aQ 3 hst rfl rfl (by decide +kernel) (QX_of (La rfl rfl rfl rfl rfl) NE_load) rfl rfl ?_
  refine aQ 4 hst rfl rfl (by decide +kernel) (QX_call0 (toSpot_con _ qla) rfl rfl rfl) rfl rfl ?_
  refine aQ 5 hst rfl rfl (by decide +kernel) (QX_call0 (hsp) rfl rfl rfl) rfl rfl ?_
  refine aP 6 hst rfl rfl (by decide +kernel) (PX_move rfl rfl) rfl rfl ?_
  refine aExt 7 hst rfl rfl (by decide +kernel) rfl rfl rfl rfl ?_
  refine aExt 8 hst rfl rfl (by decide +kernel) rfl rfl rfl rfl ?_
  refine AW_one (i := 9) (by decide +kernel) ?_
  refine gAlloc rfl rfl rfl rfl rfl rfl rfl rfl rfl ?_
  refine AW_last [10, 11] rfl (by decide +kernel) rfl ?_
  first | refine oSw rfl rfl rfl rfl ?_ | refine oSa rfl rfl rfl rfl ?_
  refine oA rfl rfl ?_
  refine OW_nil (npN ?_)
  all_goals with_reducible refine tN ?_
  all_goals (
   refine CW_seq ?_
   refine CW_any (fun i => List.elem i [10, 11]) 12 rfl lateOk (by decide +kernel) (fun hst => ?_)
   refine aP 0 hst rfl rfl (by decide +kernel) (PX_move rfl rfl) rfl rfl ?_
   first | refine aQ 1 hst rfl rfl (by decide +kernel) (QX_of (Lw rfl rfl rfl rfl) NE_load) rfl rfl ?_ | refine aQ 1 hst rfl rfl (by decide +kernel) (QX_of (La rfl rfl rfl rfl rfl) NE_load) rfl rfl ?_
   refine aQ 2 hst rfl rfl (by decide +kernel) (QX_call0 (toQuadric_con _ qlq) rfl rfl rfl) rfl rfl ?_
   first | refine aQ 3 hst rfl rfl (by decide +kernel) (QX_of (Lw rfl rfl rfl rfl) NE_load) rfl rfl ?_ | refine aQ 3 hst rfl rfl (by decide +kernel) (QX_of (La rfl rfl rfl rfl rfl) NE_load) rfl rfl ?_
   refine aQ 4 hst rfl rfl (by decide +kernel) (QX_call0 (toSpot_con _ qla) rfl rfl rfl) rfl rfl ?_
   refine aQ 5 hst rfl rfl (by decide +kernel) (QX_call (him) [] rfl rfl (Fits.mk' (vHc rfl vHn) rfl rfl (by first | (simp; done) | exact glOk rfl rfl rfl)) rfl rfl rfl) rfl rfl ?_
   refine aP 6 hst rfl rfl (by decide +kernel) (PX_move rfl rfl) rfl rfl ?_
   refine aExt 7 hst rfl rfl (by decide +kernel) rfl rfl rfl rfl ?_
   refine aExt 8 hst rfl rfl (by decide +kernel) rfl rfl rfl rfl ?_
   refine AW_one (i := 9) (by decide +kernel) ?_
   refine gAlloc rfl rfl rfl rfl rfl rfl rfl rfl rfl ?_
   refine AW_last [10, 11] rfl (by decide +kernel) rfl ?_
   first | refine oSw rfl rfl rfl rfl ?_ | refine oSa rfl rfl rfl rfl ?_
   refine oA rfl rfl ?_
   refine OW_nil (npN ?_)
   all_goals with_reducible refine tN ?_
   all_goals (
    refine CW_seq ?_
    refine cR ?_
    first | refine oQ (Lw rfl rfl rfl rfl) rfl rfl ?_ | refine oQ (La rfl rfl rfl rfl rfl) rfl rfl ?_
    first | refine oQ (Lw rfl rfl rfl rfl) rfl rfl ?_ | refine oQ (La rfl rfl rfl rfl rfl) rfl rfl ?_
    refine oQ (Q_call0 (eqSpot_same vv hvl) rfl rfl rfl) rfl rfl ?_
    refine oQ (Q_not rfl) rfl rfl ?_
    refine oM rfl rfl ?_
    all_goals first | refine oT rfl rfl ?_ | refine o1 rfl rfl rfl ?_ | refine o0 rfl rfl rfl ?_ | refine ogP1 rfl rfl rfl (fun hg => ?_) (fun hg => ?_) | refine ogP0 rfl rfl rfl (fun hg => ?_) (fun hg => ?_)
    all_goals try simp only [s1, s2, s3, s4, s5, s6, s7, s8, s9, s10, s11, s12] at hg
    all_goals first | (refine oM rfl rfl ?_) | skip
    all_goals first | refine oT rfl rfl ?_ | refine o1 rfl rfl rfl ?_ | refine o0 rfl rfl rfl ?_ | refine ogP1 rfl rfl rfl (fun hg => ?_) (fun hg => ?_) | refine ogP0 rfl rfl rfl (fun hg => ?_) (fun hg => ?_)
    all_goals try simp only [s1, s2, s3, s4, s5, s6, s7, s8, s9, s10, s11, s12] at hg
    all_goals first | (refine oM rfl rfl ?_) | skip
    all_goals first | refine oT rfl rfl ?_ | refine o1 rfl rfl rfl ?_ | refine o0 rfl rfl rfl ?_ | refine ogP1 rfl rfl rfl (fun hg => ?_) (fun hg => ?_) | refine ogP0 rfl rfl rfl (fun hg => ?_) (fun hg => ?_)
    all_goals try simp only [s1, s2, s3, s4, s5, s6, s7, s8, s9, s10, s11, s12] at hg
    all_goals first | (refine oQ (Q_bin rfl rfl rfl) rfl rfl ?_) | skip
    all_goals first | refine oQ (Q_pick_t rfl (by with_reducible rfl) rfl rfl) rfl rfl ?_ | refine oQ (Q_pick_f rfl (by with_reducible rfl) rfl rfl) rfl rfl ?_
    all_goals refine oN ?_
    all_goals (
     first | refine cT rfl ?_ | refine cF rfl ?_ | refine CW_cond rfl (fun hc => ?_) (fun hc => ?_)
     all_goals try simp only [s1, s2, s3, s4, s5, s6, s7, s8, s9, s10, s11, s12] at hc
     all_goals try (exfalso; first | omega | (simp at hc; done); done)
     all_goals first
       | (
        refine CW_skip ?_)
       | (
        refine cR ?_
        refine oA rfl rfl ?_
        refine oN ?_
        refine CW_ret ?_))
    all_goals first
      | with_reducible refine tR ?_
      | with_reducible refine tE ?_
      | (
       with_reducible refine tN ?_
       refine cR ?_
       refine oA rfl rfl ?_
       refine oN ?_
       refine CW_ret ?_)))
  all_goals (
   first | ((refine exitQ (.inr rfl) 0 (.cons (.tmp rfl rfl) .nil) ?_ rfl (vHc rfl vHn) rfl rfl); rfl) | (exfalso; simp at hg; done) | (exfalso; simp_all; done))
theorem eqSpotS_same (t t' : TypeId) (L : List (List Int)) (sp sp' : List Int) (k k' : Nat) (h3 : ∀ x ∈ L, x.length = 4) (h6 : L.length ≤ 1000000000) : ConQ Tryd.prog [] 20 [.slice 0 0 L.length k, .slice 1 0 L.length k'] [(0, .ints t (L.flatten ++ sp)), (1, .ints t' (L.flatten ++ sp'))] (.bool true) := by
  have hf := flat3 h3
  have := eqSpotS_con t t' (L.flatten ++ sp) (L.flatten ++ sp') L.length k L.length k' (by simp [hf]) (by simp [hf]) ⟨h6, h6⟩
  rw [← hf, List.take_left, List.take_left] at this
  simpa using this
theorem listR_pos {sz : Nat} {T : TypeId} {H0 : Hp} {b : Nat} {code : Int} {L : List (List Int)} {r : V} {H' : Hp} (hc : code = 0) (h : listR sz T H0 b code L r H') : ∃ (k : Nat) (sp : List Int), L.length ≤ k ∧ k * sz ≤ L.length * sz + sp.length ∧ r = .tuple [.slice b 0 L.length k, .int 0] ∧ H' = H0 ++ [(b, .ints T (L.flatten ++ sp))] := by
  unfold listR at h
  rwa [if_pos hc] at h
theorem listR_neg {sz : Nat} {T : TypeId} {H0 : Hp} {b : Nat} {code : Int} {L : List (List Int)} {r : V} {H' : Hp} (hc : ¬ code = 0) (h : listR sz T H0 b code L r H') : r = .tuple [.nilsl, .int code] ∧ H' = H0 := by
  unfold listR at h
  rwa [if_neg hc] at h
theorem law_FnExactSingularSpots (p : Int) (q : List Int) (qlq : q.length = 10) : ConQ Tryd.prog [(0, 2000)] 7 [.int p, .arr q] [(2000, .ro 0 sqT)] (.bool true) := by
  by_cases hcd : quC p q = 0
  · have h3 : ∀ x ∈ (ssV p q), x.length = 4 := ssV_four (quC_zero hcd).1
    have hln : (ssV p q).length ≤ 100000 := Nat.le_trans (ssV_len (quC_zero hcd).1 q) (by decide)
    have hfl := flat3 h3
    generalize hLL : (ssV p q) = LL at *
    have hsp := spec_SingularSpots_con p q qlq
    have him := impl_SingularSpots_con p q qlq
    rw [hLL] at hsp him
    refine conW tab_ok [(0, .int p), (1, .arr q)] 0 [2000] [] Tryd.func7 rfl rfl rfl rfl rfl rfl rfl rfl rfl ?_
    refine cR ?_
    refine oBox rfl rfl rfl rfl rfl rfl ?_
    refine oA rfl rfl ?_
    refine oN ?_
    refine cR ?_
    refine oM rfl rfl ?_
    first | refine oQ (Lw rfl rfl rfl rfl) rfl rfl ?_ | refine oQ (La rfl rfl rfl rfl rfl) rfl rfl ?_
    refine oQ (Q_call0 (toQuadric_con _ qlq) rfl rfl rfl) rfl rfl ?_
    refine oCall (hsp) [] 1 rfl rfl (Fits.mk' vHn rfl rfl (by first | (simp; done) | exact glOk rfl rfl rfl)) rfl rfl ?_
    rintro r H1 hR
    obtain ⟨k0, sp0, hk0, hs0, rfl, rfl⟩ := listR_pos hcd hR
    refine ⟨.tuple [.slice 1 0 LL.length k0, .int 0], [(1, .ints 28 (LL.flatten ++ sp0))], rfl, rfl, rfl, ?_⟩
    refine oM rfl rfl ?_
    iterate 2 refine oQ (Q_extract rfl rfl) rfl rfl ?_
    iterate 2 refine oA rfl rfl ?_
    refine oN ?_
    refine cR ?_
    refine oM rfl rfl ?_
    first | refine oQ (Lw rfl rfl rfl rfl) rfl rfl ?_ | refine oQ (La rfl rfl rfl rfl rfl) rfl rfl ?_
    refine oQ (Q_call0 (toQuadric_con _ qlq) rfl rfl rfl) rfl rfl ?_
    refine oCall (him) [] 1 rfl rfl (Fits.mk' (vHc rfl vHn) rfl rfl (by first | (simp; done) | exact glOk rfl rfl rfl)) rfl rfl ?_
    rintro r H1 hR
    obtain ⟨k1, sp1, hk1, hs1, rfl, rfl⟩ := listR_pos hcd hR
    refine ⟨.tuple [.slice 2 0 LL.length k1, .int 0], [(2000, .ro 0 sqT), (2, .ints 28 (LL.flatten ++ sp1))], rfl, rfl, rfl, ?_⟩
    refine oM rfl rfl ?_
    iterate 2 refine oQ (Q_extract rfl rfl) rfl rfl ?_
    iterate 2 refine oA rfl rfl ?_
    refine oN ?_
    refine CW_seq ?_
    refine cR ?_
    iterate 2 refine oM rfl rfl ?_
    refine oQ (Q_call (eqSpotS_same 28 28 LL sp1 sp0 k1 k0 h3 (by omega)) [(0, 2), (1, 1)] rfl rfl (Fits.mk' (vHc rfl (vHc rfl vHn)) rfl rfl (by first | (simp; done) | exact glOk rfl rfl rfl)) rfl rfl) rfl rfl ?_
    refine oQ (Q_not rfl) rfl rfl ?_
    refine oM rfl rfl ?_
    all_goals first | refine oT rfl rfl ?_ | refine o1 rfl rfl rfl ?_ | refine o0 rfl rfl rfl ?_ | refine ogP1 rfl rfl rfl (fun hg => ?_) (fun hg => ?_) | refine ogP0 rfl rfl rfl (fun hg => ?_) (fun hg => ?_)
    all_goals try simp only [s1, s2, s3, s4, s5, s6, s7, s8, s9, s10, s11, s12] at hg
    all_goals first | (refine oM rfl rfl ?_) | skip
    all_goals first | refine oT rfl rfl ?_ | refine o1 rfl rfl rfl ?_ | refine o0 rfl rfl rfl ?_ | refine ogP1 rfl rfl rfl (fun hg => ?_) (fun hg => ?_) | refine ogP0 rfl rfl rfl (fun hg => ?_) (fun hg => ?_)
    all_goals try simp only [s1, s2, s3, s4, s5, s6, s7, s8, s9, s10, s11, s12] at hg
    all_goals first | (refine oM rfl rfl ?_) | skip
    all_goals first | refine oT rfl rfl ?_ | refine o1 rfl rfl rfl ?_ | refine o0 rfl rfl rfl ?_ | refine ogP1 rfl rfl rfl (fun hg => ?_) (fun hg => ?_) | refine ogP0 rfl rfl rfl (fun hg => ?_) (fun hg => ?_)
    all_goals try simp only [s1, s2, s3, s4, s5, s6, s7, s8, s9, s10, s11, s12] at hg
    all_goals first | (refine oQ (Q_bin rfl rfl rfl) rfl rfl ?_) | skip
    all_goals first | refine oQ (Q_pick_t rfl (by with_reducible rfl) rfl rfl) rfl rfl ?_ | refine oQ (Q_pick_f rfl (by with_reducible rfl) rfl rfl) rfl rfl ?_
    all_goals refine oN ?_
    all_goals (
     first | refine cT rfl ?_ | refine cF rfl ?_ | refine CW_cond rfl (fun hc => ?_) (fun hc => ?_)
     all_goals try simp only [s1, s2, s3, s4, s5, s6, s7, s8, s9, s10, s11, s12] at hc
     all_goals try (exfalso; first | omega | (simp at hc; done); done)
     all_goals first
       | (
        refine CW_skip ?_)
       | (
        refine cR ?_
        refine oA rfl rfl ?_
        refine oN ?_
        refine CW_ret ?_))
    all_goals first
      | with_reducible refine tR ?_
      | with_reducible refine tE ?_
      | (
       with_reducible refine tN ?_
       refine cR ?_
       refine oA rfl rfl ?_
       refine oN ?_
       refine cR ?_
       iterate 2 refine oM rfl rfl ?_
       refine oCall (markSpotS_con 101 28 (LL.flatten ++ sp1) LL.length k1 (by rw [List.length_append, hfl]; omega) (by omega) (by omega)) [(0, 2)] 0 rfl rfl (Fits.mk' (vHc rfl vHn) rfl rfl (by first | (simp; done) | exact glOk rfl rfl rfl)) rfl rfl ?_
       rintro r H1 ⟨rfl, rfl⟩
       refine ⟨.int ((101 + LL.length * 4 : Nat) : Int), [(2, .ints 28 (seqL 101 (LL.length * 4) ++ (LL.flatten ++ sp1).drop (LL.length * 4)))], rfl, rfl, rfl, ?_⟩
       refine oA rfl rfl ?_
       refine oN ?_
       refine cR ?_
       refine oA rfl rfl ?_
       refine oN ?_
       refine cR ?_
       iterate 2 refine oM rfl rfl ?_
       refine oQ (Q_call (heldSpotS_con 101 28 ((LL.flatten ++ sp1).drop (LL.length * 4)) LL.length k1 (by omega) (by omega)) [(0, 2)] rfl rfl (Fits.mk' (vHc rfl vHn) rfl rfl (by first | (simp; done) | exact glOk rfl rfl rfl)) rfl rfl) rfl rfl ?_
       refine oA rfl rfl ?_
       refine oN ?_
       refine CW_seq ?_
       refine cR ?_
       refine oM rfl rfl ?_
       refine oQ (Q_bin rfl rfl rfl) rfl rfl ?_
       refine oN ?_
       first | refine cT rfl ?_ | refine cF rfl ?_ | refine CW_cond rfl (fun hc => ?_) (fun hc => ?_)
       all_goals try simp only [s1, s2, s3, s4, s5, s6, s7, s8, s9, s10, s11, s12] at hc
       all_goals try (exfalso; first | omega | (simp at hc; done); done)
       all_goals first
         | (
          refine CW_skip ?_)
         | (
          refine cR ?_
          refine oA rfl rfl ?_
          refine oN ?_
          refine CW_ret ?_)
       all_goals first
         | with_reducible refine tR ?_
         | with_reducible refine tE ?_
         | (
          with_reducible refine tN ?_
          refine CW_seq ?_
          refine cR ?_
          iterate 2 refine oM rfl rfl ?_
          refine oQ (Q_bin rfl rfl rfl) rfl rfl ?_
          refine oN ?_
          first | refine cT rfl ?_ | refine cF rfl ?_ | refine CW_cond rfl (fun hc => ?_) (fun hc => ?_)
          all_goals try simp only [s1, s2, s3, s4, s5, s6, s7, s8, s9, s10, s11, s12] at hc
          all_goals try (exfalso; first | omega | (simp at hc; done); done)
          all_goals first
            | (
             refine CW_skip ?_)
            | (
             refine cR ?_
             refine oA rfl rfl ?_
             refine oN ?_
             refine CW_ret ?_)
          all_goals first
            | with_reducible refine tR ?_
            | with_reducible refine tE ?_
            | (
             with_reducible refine tN ?_
             refine cR ?_
             refine oM rfl rfl ?_
             first | refine oQ (Lw rfl rfl rfl rfl) rfl rfl ?_ | refine oQ (La rfl rfl rfl rfl rfl) rfl rfl ?_
             refine oQ (Q_call0 (toQuadric_con _ qlq) rfl rfl rfl) rfl rfl ?_
             refine oCall (him) [] 1 rfl rfl (Fits.mk' (vHc rfl vHn) rfl rfl (by first | (simp; done) | exact glOk rfl rfl rfl)) rfl rfl ?_
             rintro r H1 hR
             obtain ⟨k2, sp2, hk2, hs2, rfl, rfl⟩ := listR_pos hcd hR
             refine ⟨.tuple [.slice 3 0 LL.length k2, .int 0], [(2000, .ro 0 sqT), (3, .ints 28 (LL.flatten ++ sp2))], rfl, rfl, rfl, ?_⟩
             refine oM rfl rfl ?_
             iterate 2 refine oQ (Q_extract rfl rfl) rfl rfl ?_
             iterate 2 refine oA rfl rfl ?_
             refine oN ?_
             refine CW_seq ?_
             refine cR ?_
             iterate 2 refine oM rfl rfl ?_
             refine oQ (Q_call (eqSpotS_same 28 28 LL sp2 sp0 k2 k0 h3 (by omega)) [(0, 3), (1, 1)] rfl rfl (Fits.mk' (vHc rfl (vHc rfl vHn)) rfl rfl (by first | (simp; done) | exact glOk rfl rfl rfl)) rfl rfl) rfl rfl ?_
             refine oQ (Q_not rfl) rfl rfl ?_
             refine oM rfl rfl ?_
             all_goals first | refine oT rfl rfl ?_ | refine o1 rfl rfl rfl ?_ | refine o0 rfl rfl rfl ?_ | refine ogP1 rfl rfl rfl (fun hg => ?_) (fun hg => ?_) | refine ogP0 rfl rfl rfl (fun hg => ?_) (fun hg => ?_)
             all_goals try simp only [s1, s2, s3, s4, s5, s6, s7, s8, s9, s10, s11, s12] at hg
             all_goals first | (refine oM rfl rfl ?_) | skip
             all_goals first | refine oT rfl rfl ?_ | refine o1 rfl rfl rfl ?_ | refine o0 rfl rfl rfl ?_ | refine ogP1 rfl rfl rfl (fun hg => ?_) (fun hg => ?_) | refine ogP0 rfl rfl rfl (fun hg => ?_) (fun hg => ?_)
             all_goals try simp only [s1, s2, s3, s4, s5, s6, s7, s8, s9, s10, s11, s12] at hg
             all_goals first | (refine oM rfl rfl ?_) | skip
             all_goals first | refine oT rfl rfl ?_ | refine o1 rfl rfl rfl ?_ | refine o0 rfl rfl rfl ?_ | refine ogP1 rfl rfl rfl (fun hg => ?_) (fun hg => ?_) | refine ogP0 rfl rfl rfl (fun hg => ?_) (fun hg => ?_)
             all_goals try simp only [s1, s2, s3, s4, s5, s6, s7, s8, s9, s10, s11, s12] at hg
             all_goals first | (refine oQ (Q_bin rfl rfl rfl) rfl rfl ?_) | skip
             all_goals first | refine oQ (Q_pick_t rfl (by with_reducible rfl) rfl rfl) rfl rfl ?_ | refine oQ (Q_pick_f rfl (by with_reducible rfl) rfl rfl) rfl rfl ?_
             all_goals refine oN ?_
             all_goals (
              first | refine cT rfl ?_ | refine cF rfl ?_ | refine CW_cond rfl (fun hc => ?_) (fun hc => ?_)
              all_goals try simp only [s1, s2, s3, s4, s5, s6, s7, s8, s9, s10, s11, s12] at hc
              all_goals try (exfalso; first | omega | (simp at hc; done); done)
              all_goals first
                | (
                 refine CW_skip ?_)
                | (
                 refine cR ?_
                 refine oA rfl rfl ?_
                 refine oN ?_
                 refine CW_ret ?_))
             all_goals first
               | with_reducible refine tR ?_
               | with_reducible refine tE ?_
               | (
                with_reducible refine tN ?_
                refine cR ?_
                refine oA rfl rfl ?_
                refine oN ?_
                refine cR ?_
                iterate 2 refine oM rfl rfl ?_
                refine oQ (Q_call (heldSpotS_con 101 28 ((LL.flatten ++ sp1).drop (LL.length * 4)) LL.length k1 (by omega) (by omega)) [(0, 2)] rfl rfl (Fits.mk' (vHc rfl vHn) rfl rfl (by first | (simp; done) | exact glOk rfl rfl rfl)) rfl rfl) rfl rfl ?_
                refine oA rfl rfl ?_
                refine oN ?_
                refine CW_seq ?_
                refine cR ?_
                refine oM rfl rfl ?_
                refine oQ (Q_bin rfl rfl rfl) rfl rfl ?_
                refine oN ?_
                first | refine cT rfl ?_ | refine cF rfl ?_ | refine CW_cond rfl (fun hc => ?_) (fun hc => ?_)
                all_goals try simp only [s1, s2, s3, s4, s5, s6, s7, s8, s9, s10, s11, s12] at hc
                all_goals try (exfalso; first | omega | (simp at hc; done); done)
                all_goals first
                  | (
                   refine CW_skip ?_)
                  | (
                   refine cR ?_
                   refine oA rfl rfl ?_
                   refine oN ?_
                   refine CW_ret ?_)
                all_goals first
                  | with_reducible refine tR ?_
                  | with_reducible refine tE ?_
                  | (
                   with_reducible refine tN ?_
                   refine CW_seq ?_
                   refine cR ?_
                   iterate 2 refine oM rfl rfl ?_
                   refine oQ (Q_bin rfl rfl rfl) rfl rfl ?_
                   refine oN ?_
                   first | refine cT rfl ?_ | refine cF rfl ?_ | refine CW_cond rfl (fun hc => ?_) (fun hc => ?_)
                   all_goals try simp only [s1, s2, s3, s4, s5, s6, s7, s8, s9, s10, s11, s12] at hc
                   all_goals try (exfalso; first | omega | (simp at hc; done); done)
                   all_goals first
                     | (
                      refine CW_skip ?_)
                     | (
                      refine cR ?_
                      refine oA rfl rfl ?_
                      refine oN ?_
                      refine CW_ret ?_)
                   all_goals first
                     | with_reducible refine tR ?_
                     | with_reducible refine tE ?_
                     | (
                      with_reducible refine tN ?_
                      refine cR ?_
                      refine oA rfl rfl ?_
                      refine oN ?_
                      refine CW_ret ?_))))))
    all_goals (
     first | ((refine exitQ (.inr rfl) 0 (.cons (.tmp rfl rfl) .nil) ?_ rfl (vHc rfl vHn) rfl rfl); rfl) | (exfalso; simp at hg; done) | (exfalso; simp_all; done))
  · skip
    refine conW tab_ok [(0, .int p), (1, .arr q)] 0 [2000] [] Tryd.func7 rfl rfl rfl rfl rfl rfl rfl rfl rfl ?_
    refine cR ?_
    refine oBox rfl rfl rfl rfl rfl rfl ?_
    refine oA rfl rfl ?_
    refine oN ?_
    refine cR ?_
    refine oM rfl rfl ?_
    first | refine oQ (Lw rfl rfl rfl rfl) rfl rfl ?_ | refine oQ (La rfl rfl rfl rfl rfl) rfl rfl ?_
    refine oQ (Q_call0 (toQuadric_con _ qlq) rfl rfl rfl) rfl rfl ?_
    refine oCall (spec_SingularSpots_con p q qlq) [] 0 rfl rfl (Fits.mk' vHn rfl rfl (by first | (simp; done) | exact glOk rfl rfl rfl)) rfl rfl ?_
    rintro r H1 hR
    obtain ⟨rfl, rfl⟩ := listR_neg hcd hR
    refine ⟨.tuple [.nilsl, .int (quC p q)], [], rfl, rfl, rfl, ?_⟩
    refine oM rfl rfl ?_
    iterate 2 refine oQ (Q_extract rfl rfl) rfl rfl ?_
    iterate 2 refine oA rfl rfl ?_
    refine oN ?_
    refine cR ?_
    refine oM rfl rfl ?_
    first | refine oQ (Lw rfl rfl rfl rfl) rfl rfl ?_ | refine oQ (La rfl rfl rfl rfl rfl) rfl rfl ?_
    refine oQ (Q_call0 (toQuadric_con _ qlq) rfl rfl rfl) rfl rfl ?_
    refine oCall (impl_SingularSpots_con p q qlq) [] 0 rfl rfl (Fits.mk' (vHc rfl vHn) rfl rfl (by first | (simp; done) | exact glOk rfl rfl rfl)) rfl rfl ?_
    rintro r H1 hR
    obtain ⟨rfl, rfl⟩ := listR_neg hcd hR
    refine ⟨.tuple [.nilsl, .int (quC p q)], [(2000, .ro 0 sqT)], rfl, rfl, rfl, ?_⟩
    refine oM rfl rfl ?_
    iterate 2 refine oQ (Q_extract rfl rfl) rfl rfl ?_
    iterate 2 refine oA rfl rfl ?_
    refine oN ?_
    refine CW_seq ?_
    refine cR ?_
    iterate 2 refine oM rfl rfl ?_
    refine oQ (Q_call0 (eqSpotS_nn) rfl rfl rfl) rfl rfl ?_
    refine oQ (Q_not rfl) rfl rfl ?_
    refine oM rfl rfl ?_
    all_goals first | refine oT rfl rfl ?_ | refine o1 rfl rfl rfl ?_ | refine o0 rfl rfl rfl ?_ | refine ogP1 rfl rfl rfl (fun hg => ?_) (fun hg => ?_) | refine ogP0 rfl rfl rfl (fun hg => ?_) (fun hg => ?_)
    all_goals try simp only [s1, s2, s3, s4, s5, s6, s7, s8, s9, s10, s11, s12] at hg
    all_goals first | (refine oM rfl rfl ?_) | skip
    all_goals first | refine oT rfl rfl ?_ | refine o1 rfl rfl rfl ?_ | refine o0 rfl rfl rfl ?_ | refine ogP1 rfl rfl rfl (fun hg => ?_) (fun hg => ?_) | refine ogP0 rfl rfl rfl (fun hg => ?_) (fun hg => ?_)
    all_goals try simp only [s1, s2, s3, s4, s5, s6, s7, s8, s9, s10, s11, s12] at hg
    all_goals first | (refine oM rfl rfl ?_) | skip
    all_goals first | refine oT rfl rfl ?_ | refine o1 rfl rfl rfl ?_ | refine o0 rfl rfl rfl ?_ | refine ogP1 rfl rfl rfl (fun hg => ?_) (fun hg => ?_) | refine ogP0 rfl rfl rfl (fun hg => ?_) (fun hg => ?_)
    all_goals try simp only [s1, s2, s3, s4, s5, s6, s7, s8, s9, s10, s11, s12] at hg
    all_goals first | (refine oQ (Q_bin rfl rfl rfl) rfl rfl ?_) | skip
    all_goals first | refine oQ (Q_pick_t rfl (by with_reducible rfl) rfl rfl) rfl rfl ?_ | refine oQ (Q_pick_f rfl (by with_reducible rfl) rfl rfl) rfl rfl ?_
    all_goals refine oN ?_
    all_goals (
     first | refine cT rfl ?_ | refine cF rfl ?_ | refine CW_cond rfl (fun hc => ?_) (fun hc => ?_)
     all_goals try simp only [s1, s2, s3, s4, s5, s6, s7, s8, s9, s10, s11, s12] at hc
     all_goals try (exfalso; first | omega | (simp at hc; done); done)
     all_goals first
       | (
        refine CW_skip ?_)
       | (
        refine cR ?_
        refine oA rfl rfl ?_
        refine oN ?_
        refine CW_ret ?_))
    all_goals first
      | with_reducible refine tR ?_
      | with_reducible refine tE ?_
      | (
       with_reducible refine tN ?_
       refine cR ?_
       refine oA rfl rfl ?_
       refine oN ?_
       refine cR ?_
       iterate 2 refine oM rfl rfl ?_
       refine oQ (Q_call0 (markSpotS_nil 101) rfl rfl rfl) rfl rfl ?_
       refine oA rfl rfl ?_
       refine oN ?_
       refine cR ?_
       refine oA rfl rfl ?_
       refine oN ?_
       refine cR ?_
       iterate 2 refine oM rfl rfl ?_
       refine oQ (Q_call0 (heldSpotS_nil 101) rfl rfl rfl) rfl rfl ?_
       refine oA rfl rfl ?_
       refine oN ?_
       refine CW_seq ?_
       refine cR ?_
       refine oM rfl rfl ?_
       refine oQ (Q_bin rfl rfl rfl) rfl rfl ?_
       refine oN ?_
       first | refine cT rfl ?_ | refine cF rfl ?_ | refine CW_cond rfl (fun hc => ?_) (fun hc => ?_)
       all_goals try simp only [s1, s2, s3, s4, s5, s6, s7, s8, s9, s10, s11, s12] at hc
       all_goals try (exfalso; first | omega | (simp at hc; done); done)
       all_goals first
         | (
          refine CW_skip ?_)
         | (
          refine cR ?_
          refine oA rfl rfl ?_
          refine oN ?_
          refine CW_ret ?_)
       all_goals first
         | with_reducible refine tR ?_
         | with_reducible refine tE ?_
         | (
          with_reducible refine tN ?_
          refine CW_seq ?_
          refine cR ?_
          iterate 2 refine oM rfl rfl ?_
          refine oQ (Q_bin rfl rfl rfl) rfl rfl ?_
          refine oN ?_
          first | refine cT rfl ?_ | refine cF rfl ?_ | refine CW_cond rfl (fun hc => ?_) (fun hc => ?_)
          all_goals try simp only [s1, s2, s3, s4, s5, s6, s7, s8, s9, s10, s11, s12] at hc
          all_goals try (exfalso; first | omega | (simp at hc; done); done)
          all_goals first
            | (
             refine CW_skip ?_)
            | (
             refine cR ?_
             refine oA rfl rfl ?_
             refine oN ?_
             refine CW_ret ?_)
          all_goals first
            | with_reducible refine tR ?_
            | with_reducible refine tE ?_
            | (
             with_reducible refine tN ?_
             refine cR ?_
             refine oM rfl rfl ?_
             first | refine oQ (Lw rfl rfl rfl rfl) rfl rfl ?_ | refine oQ (La rfl rfl rfl rfl rfl) rfl rfl ?_
             refine oQ (Q_call0 (toQuadric_con _ qlq) rfl rfl rfl) rfl rfl ?_
             refine oCall (impl_SingularSpots_con p q qlq) [] 0 rfl rfl (Fits.mk' (vHc rfl vHn) rfl rfl (by first | (simp; done) | exact glOk rfl rfl rfl)) rfl rfl ?_
             rintro r H1 hR
             obtain ⟨rfl, rfl⟩ := listR_neg hcd hR
             refine ⟨.tuple [.nilsl, .int (quC p q)], [(2000, .ro 0 sqT)], rfl, rfl, rfl, ?_⟩
             refine oM rfl rfl ?_
             iterate 2 refine oQ (Q_extract rfl rfl) rfl rfl ?_
             iterate 2 refine oA rfl rfl ?_
             refine oN ?_
             refine CW_seq ?_
             refine cR ?_
             iterate 2 refine oM rfl rfl ?_
             refine oQ (Q_call0 (eqSpotS_nn) rfl rfl rfl) rfl rfl ?_
             refine oQ (Q_not rfl) rfl rfl ?_
             refine oM rfl rfl ?_
             all_goals first | refine oT rfl rfl ?_ | refine o1 rfl rfl rfl ?_ | refine o0 rfl rfl rfl ?_ | refine ogP1 rfl rfl rfl (fun hg => ?_) (fun hg => ?_) | refine ogP0 rfl rfl rfl (fun hg => ?_) (fun hg => ?_)
             all_goals try simp only [s1, s2, s3, s4, s5, s6, s7, s8, s9, s10, s11, s12] at hg
             all_goals first | (refine oM rfl rfl ?_) | skip
             all_goals first | refine oT rfl rfl ?_ | refine o1 rfl rfl rfl ?_ | refine o0 rfl rfl rfl ?_ | refine ogP1 rfl rfl rfl (fun hg => ?_) (fun hg => ?_) | refine ogP0 rfl rfl rfl (fun hg => ?_) (fun hg => ?_)
             all_goals try simp only [s1, s2, s3, s4, s5, s6, s7, s8, s9, s10, s11, s12] at hg
             all_goals first | (refine oM rfl rfl ?_) | skip
             all_goals first | refine oT rfl rfl ?_ | refine o1 rfl rfl rfl ?_ | refine o0 rfl rfl rfl ?_ | refine ogP1 rfl rfl rfl (fun hg => ?_) (fun hg => ?_) | refine ogP0 rfl rfl rfl (fun hg => ?_) (fun hg => ?_)
             all_goals try simp only [s1, s2, s3, s4, s5, s6, s7, s8, s9, s10, s11, s12] at hg
             all_goals first | (refine oQ (Q_bin rfl rfl rfl) rfl rfl ?_) | skip
             all_goals first | refine oQ (Q_pick_t rfl (by with_reducible rfl) rfl rfl) rfl rfl ?_ | refine oQ (Q_pick_f rfl (by with_reducible rfl) rfl rfl) rfl rfl ?_
             all_goals refine oN ?_
             all_goals (
              first | refine cT rfl ?_ | refine cF rfl ?_ | refine CW_cond rfl (fun hc => ?_) (fun hc => ?_)
              all_goals try simp only [s1, s2, s3, s4, s5, s6, s7, s8, s9, s10, s11, s12] at hc
              all_goals try (exfalso; first | omega | (simp at hc; done); done)
              all_goals first
                | (
                 refine CW_skip ?_)
                | (
                 refine cR ?_
                 refine oA rfl rfl ?_
                 refine oN ?_
                 refine CW_ret ?_))
             all_goals first
               | with_reducible refine tR ?_
               | with_reducible refine tE ?_
               | (
                with_reducible refine tN ?_
                refine cR ?_
                refine oA rfl rfl ?_
                refine oN ?_
                refine cR ?_
                iterate 2 refine oM rfl rfl ?_
                refine oQ (Q_call0 (heldSpotS_nil 101) rfl rfl rfl) rfl rfl ?_
                refine oA rfl rfl ?_
                refine oN ?_
                refine CW_seq ?_
                refine cR ?_
                refine oM rfl rfl ?_
                refine oQ (Q_bin rfl rfl rfl) rfl rfl ?_
                refine oN ?_
                first | refine cT rfl ?_ | refine cF rfl ?_ | refine CW_cond rfl (fun hc => ?_) (fun hc => ?_)
                all_goals try simp only [s1, s2, s3, s4, s5, s6, s7, s8, s9, s10, s11, s12] at hc
                all_goals try (exfalso; first | omega | (simp at hc; done); done)
                all_goals first
                  | (
                   refine CW_skip ?_)
                  | (
                   refine cR ?_
                   refine oA rfl rfl ?_
                   refine oN ?_
                   refine CW_ret ?_)
                all_goals first
                  | with_reducible refine tR ?_
                  | with_reducible refine tE ?_
                  | (
                   with_reducible refine tN ?_
                   refine CW_seq ?_
                   refine cR ?_
                   iterate 2 refine oM rfl rfl ?_
                   refine oQ (Q_bin rfl rfl rfl) rfl rfl ?_
                   refine oN ?_
                   first | refine cT rfl ?_ | refine cF rfl ?_ | refine CW_cond rfl (fun hc => ?_) (fun hc => ?_)
                   all_goals try simp only [s1, s2, s3, s4, s5, s6, s7, s8, s9, s10, s11, s12] at hc
                   all_goals try (exfalso; first | omega | (simp at hc; done); done)
                   all_goals first
                     | (
                      refine CW_skip ?_)
                     | (
                      refine cR ?_
                      refine oA rfl rfl ?_
                      refine oN ?_
                      refine CW_ret ?_)
                   all_goals first
                     | with_reducible refine tR ?_
                     | with_reducible refine tE ?_
                     | (
                      with_reducible refine tN ?_
                      refine cR ?_
                      refine oA rfl rfl ?_
                      refine oN ?_
                      refine CW_ret ?_))))))
    all_goals (
     first | ((refine exitQ (.inr rfl) 0 (.cons (.tmp rfl rfl) .nil) ?_ rfl (vHc rfl vHn) rfl rfl); rfl) | (exfalso; simp at hg; done) | (exfalso; simp_all; done))
end Go.Proofs.YtendffbpmpobnaaDoor
