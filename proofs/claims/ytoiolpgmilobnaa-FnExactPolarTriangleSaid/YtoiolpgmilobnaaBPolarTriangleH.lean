/- What the last text of PolarTriangle needs, part 8: contracts of functions and plain mathematics. No conditions beyond those each theorem states. -/
import Derived.Test.YtoiolpgmilobnaaBPolarTriangleG
namespace Go.Proofs.Ytoiolpgmilobnaa
set_option maxRecDepth 10000
set_option linter.unusedSimpArgs false
set_option linter.unusedVariables false
set_option maxHeartbeats 4000000
attribute [local irreducible] CW OW QW QOp Con thenP inBlockP AW QX RW AX
theorem reduced33_con (p : Int) (t : TypeId) (M : List Int) (k c0 c1 c2 : Nat) (hM : M.length = 9) (hp : primeB p = true) (hb : ∀ j, 0 ≤ M.getD j 0 ∧ M.getD j 0 < p) : Con Try.prog [] 85 [.int p, .slice 0 0 3 k] [(0, .vals 103 [.slice 1 0 3 c0, .slice 1 3 3 c1, .slice 1 6 3 c2]), (1, .ints t M)] (fun v H' => ∃ (kO : Nat) (A : Nat → List Int) (K : Nat → Nat) (S : Nat → List Int), v = .slice 5 0 (rkI p (fun i => (M.drop (i * 3)).take 3) 3 3) kO ∧ rdB p A 3 3 ∧ (∃ c, c ≤ 3 ∧ (rkI p (fun i => (M.drop (i * 3)).take 3) 3 3 = 3 ∨ c = 3) ∧ RedI p (fun i => (M.drop (i * 3)).take 3) 3 3 A (rkI p (fun i => (M.drop (i * 3)).take 3) 3 3) c) ∧ H' = [(0, .vals 103 [.slice 1 0 3 c0, .slice 1 3 3 c1, .slice 1 6 3 c2]), (1, .ints t M), (2, .ints 2 ((A 0) ++ (S 0))), (3, .ints 2 ((A 1) ++ (S 1))), (4, .ints 2 ((A 2) ++ (S 2))), (5, .vals 103 ([.slice 2 0 3 (K 0), .slice 3 0 3 (K 1), .slice 4 0 3 (K 2)] ++ List.replicate (kO - 3) .bot))]) := by
  have hpb := prime_bd hp
  have cl := fun (o kk : Nat) (h : o + 3 ≤ M.length) => clone64_con t M o 3 kk h (by decide)
  have hM0 : rdB p (fun i => (M.drop (i * 3)).take 3) 3 3 := fun i hi => ⟨by simp; omega, fun j => by
    by_cases hj : j < 3
    · have := hb (i * 3 + j)
      simpa [List.getD, List.getElem?_take, hj] using this
    · have e : ((M.drop (i * 3)).take 3).getD j 0 = 0 := by simp [List.getD, List.getElem?_take, hj]
      rw [e]; omega⟩
  refine conW tab_ok [(0, .int p), (1, .slice 0 0 3 k)] 2 [0, 1] [0, 1] Try.func85 rfl rfl rfl rfl rfl rfl rfl rfl rfl ?_
  refine cR ?_
  refine oA rfl rfl ?_
  refine oN ?_
  refine cR ?_
  refine oBslv (r := []) rfl rfl rfl rfl rfl rfl rfl rfl rfl rfl rfl rfl rfl ?_
  refine oA rfl rfl ?_
  refine oN ?_
  refine CW_seq ?_
  refine cR ?_
  refine oM rfl rfl ?_
  first | refine oQ (Q_len rfl rfl rfl rfl) rfl rfl ?_ | refine oQ (Q_len0 rfl rfl rfl rfl) rfl rfl ?_
  refine oM rfl rfl ?_
  refine oN ?_
  refine CW_block ?_
  refine CW_rounds 4 ?_
  refine RW_succ ?_
  refine cR ?_
  refine oQ (Q_bin rfl rfl rfl) rfl rfl ?_
  refine oN ?_
  refine CW_seq ?_
  first | refine cT rfl ?_ | refine cF rfl ?_ | refine CW_cond rfl (fun hc => ?_) (fun hc => ?_)
  all_goals try simp only [s1, s2, s3, s4, s5, s6, s7, s8, s9, s10, s11, s12] at hc
  all_goals try (exfalso; first | omega | (simp at hc; done); done)
  all_goals first
    | (
     refine CW_skip ?_)
    | (
     refine CW_exit ?_)
  all_goals first
    | with_reducible refine tR ?_
    | with_reducible refine tE ?_
    | (
     with_reducible refine tN ?_
     refine CW_seq ?_
     refine CW_block ?_
     refine cR ?_
     first | refine oQ (Is0 rfl rfl rfl rfl rfl rfl) rfl rfl ?_ | refine oQ (Is1 rfl rfl rfl rfl rfl rfl) rfl rfl ?_
     refine oQ (Q_ldv rfl rfl rfl rfl rfl rfl) rfl rfl ?_
     refine oA rfl rfl ?_
     refine oN ?_
     refine CW_region ?_
     iterate 2 refine oM rfl rfl ?_
     first
       | (refine oCall (cl 0 c0 (by omega)) [(0, 1)] 2 rfl rfl (Fits.mk' (vHc rfl vHn) rfl rfl (by simp)) rfl rfl ?_; rintro r H1 ⟨k0, u0, ha0, hb0, rfl, rfl⟩; refine ⟨.slice 4 0 3 k0, [(1, .ints t M), (4, .ints 2 ((M.drop 0).take 3 ++ u0))], rfl, rfl, rfl, ?_⟩)
       | (refine oCall (cl 3 c1 (by omega)) [(0, 1)] 2 rfl rfl (Fits.mk' (vHc rfl vHn) rfl rfl (by simp)) rfl rfl ?_; rintro r H1 ⟨k1, u1, ha1, hb1, rfl, rfl⟩; refine ⟨.slice 8 0 3 k1, [(1, .ints t M), (8, .ints 2 ((M.drop 3).take 3 ++ u1))], rfl, rfl, rfl, ?_⟩)
       | (refine oCall (cl 6 c2 (by omega)) [(0, 1)] 2 rfl rfl (Fits.mk' (vHc rfl vHn) rfl rfl (by simp)) rfl rfl ?_; rintro r H1 ⟨k2, u2, ha2, hb2, rfl, rfl⟩; refine ⟨.slice 12 0 3 k2, [(1, .ints t M), (12, .ints 2 ((M.drop 6).take 3 ++ u2))], rfl, rfl, rfl, ?_⟩)
     refine oBslv rfl rfl rfl rfl rfl rfl rfl rfl rfl rfl rfl rfl rfl ?_
     first | refine oAppV (by_ := 24) (A := []) (sp := []) rfl rfl rfl rfl rfl rfl rfl rfl rfl rfl rfl rfl rfl rfl rfl rfl rfl rfl (by first | rfl | omega | (simp; omega)) (by omega) (by omega) rfl rfl (fun kO hkO => ?_) | refine oAppV (by_ := 24) rfl rfl rfl rfl rfl rfl rfl rfl rfl rfl rfl rfl rfl rfl rfl rfl rfl rfl (by first | rfl | omega | (simp; omega)) (by omega) (by omega) rfl rfl (fun kO hkO => ?_)
     refine oA rfl rfl ?_
     refine OW_nil ?_
     all_goals first | with_reducible refine bN ?_ | with_reducible refine bE ?_ | with_reducible refine bR ?_ | refine bX rfl ?_
     all_goals with_reducible refine tN ?_
     all_goals (
      refine CW_region ?_
      first | refine oQ (Q_binu rfl rfl rfl (by omega)) rfl rfl ?_ | refine oQ (Q_bin rfl rfl rfl) rfl rfl ?_
      refine oM rfl rfl ?_
      refine OW_nil ?_))
  all_goals first
    | with_reducible refine tR ?_
    | with_reducible refine tE ?_
    | (
     with_reducible refine tN ?_
     refine RW_succ ?_
     refine cR ?_
     refine oQ (Q_bin rfl rfl rfl) rfl rfl ?_
     refine oN ?_
     refine CW_seq ?_
     first | refine cT rfl ?_ | refine cF rfl ?_ | refine CW_cond rfl (fun hc => ?_) (fun hc => ?_)
     all_goals try simp only [s1, s2, s3, s4, s5, s6, s7, s8, s9, s10, s11, s12] at hc
     all_goals try (exfalso; first | omega | (simp at hc; done); done)
     all_goals first
       | (
        refine CW_skip ?_)
       | (
        refine CW_exit ?_)
     all_goals first
       | with_reducible refine tR ?_
       | with_reducible refine tE ?_
       | (
        with_reducible refine tN ?_
        refine CW_seq ?_
        refine CW_block ?_
        refine cR ?_
        first | refine oQ (Is0 rfl rfl rfl rfl rfl rfl) rfl rfl ?_ | refine oQ (Is1 rfl rfl rfl rfl rfl rfl) rfl rfl ?_
        refine oQ (Q_ldv rfl rfl rfl rfl rfl rfl) rfl rfl ?_
        refine oA rfl rfl ?_
        refine oN ?_
        refine CW_region ?_
        iterate 2 refine oM rfl rfl ?_
        first
          | (refine oCall (cl 0 c0 (by omega)) [(0, 1)] 2 rfl rfl (Fits.mk' (vHc rfl vHn) rfl rfl (by simp)) rfl rfl ?_; rintro r H1 ⟨k0, u0, ha0, hb0, rfl, rfl⟩; refine ⟨.slice 4 0 3 k0, [(1, .ints t M), (4, .ints 2 ((M.drop 0).take 3 ++ u0))], rfl, rfl, rfl, ?_⟩)
          | (refine oCall (cl 3 c1 (by omega)) [(0, 1)] 2 rfl rfl (Fits.mk' (vHc rfl vHn) rfl rfl (by simp)) rfl rfl ?_; rintro r H1 ⟨k1, u1, ha1, hb1, rfl, rfl⟩; refine ⟨.slice 8 0 3 k1, [(1, .ints t M), (8, .ints 2 ((M.drop 3).take 3 ++ u1))], rfl, rfl, rfl, ?_⟩)
          | (refine oCall (cl 6 c2 (by omega)) [(0, 1)] 2 rfl rfl (Fits.mk' (vHc rfl vHn) rfl rfl (by simp)) rfl rfl ?_; rintro r H1 ⟨k2, u2, ha2, hb2, rfl, rfl⟩; refine ⟨.slice 12 0 3 k2, [(1, .ints t M), (12, .ints 2 ((M.drop 6).take 3 ++ u2))], rfl, rfl, rfl, ?_⟩)
        refine oBslv rfl rfl rfl rfl rfl rfl rfl rfl rfl rfl rfl rfl rfl ?_
        first | refine oAppV (by_ := 24) (A := []) (sp := []) rfl rfl rfl rfl rfl rfl rfl rfl rfl rfl rfl rfl rfl rfl rfl rfl rfl rfl (by first | rfl | omega | (simp; omega)) (by omega) (by omega) rfl rfl (fun kO hkO => ?_) | refine oAppV (by_ := 24) rfl rfl rfl rfl rfl rfl rfl rfl rfl rfl rfl rfl rfl rfl rfl rfl rfl rfl (by first | rfl | omega | (simp; omega)) (by omega) (by omega) rfl rfl (fun kO hkO => ?_)
        refine oA rfl rfl ?_
        refine OW_nil ?_
        all_goals first | with_reducible refine bN ?_ | with_reducible refine bE ?_ | with_reducible refine bR ?_ | refine bX rfl ?_
        all_goals with_reducible refine tN ?_
        all_goals (
         refine CW_region ?_
         first | refine oQ (Q_binu rfl rfl rfl (by omega)) rfl rfl ?_ | refine oQ (Q_bin rfl rfl rfl) rfl rfl ?_
         refine oM rfl rfl ?_
         refine OW_nil ?_))
     all_goals first
       | with_reducible refine tR ?_
       | with_reducible refine tE ?_
       | (
        with_reducible refine tN ?_
        refine RW_succ ?_
        refine cR ?_
        refine oQ (Q_bin rfl rfl rfl) rfl rfl ?_
        refine oN ?_
        refine CW_seq ?_
        first | refine cT rfl ?_ | refine cF rfl ?_ | refine CW_cond rfl (fun hc => ?_) (fun hc => ?_)
        all_goals try simp only [s1, s2, s3, s4, s5, s6, s7, s8, s9, s10, s11, s12] at hc
        all_goals try (exfalso; first | omega | (simp at hc; done); done)
        all_goals first
          | (
           refine CW_skip ?_)
          | (
           refine CW_exit ?_)
        all_goals first
          | with_reducible refine tR ?_
          | with_reducible refine tE ?_
          | (
           with_reducible refine tN ?_
           refine CW_seq ?_
           refine CW_block ?_
           refine cR ?_
           first | refine oQ (Is0 rfl rfl rfl rfl rfl rfl) rfl rfl ?_ | refine oQ (Is1 rfl rfl rfl rfl rfl rfl) rfl rfl ?_
           refine oQ (Q_ldv rfl rfl rfl rfl rfl rfl) rfl rfl ?_
           refine oA rfl rfl ?_
           refine oN ?_
           refine CW_region ?_
           iterate 2 refine oM rfl rfl ?_
           first
             | (refine oCall (cl 0 c0 (by omega)) [(0, 1)] 2 rfl rfl (Fits.mk' (vHc rfl vHn) rfl rfl (by simp)) rfl rfl ?_; rintro r H1 ⟨k0, u0, ha0, hb0, rfl, rfl⟩; refine ⟨.slice 4 0 3 k0, [(1, .ints t M), (4, .ints 2 ((M.drop 0).take 3 ++ u0))], rfl, rfl, rfl, ?_⟩)
             | (refine oCall (cl 3 c1 (by omega)) [(0, 1)] 2 rfl rfl (Fits.mk' (vHc rfl vHn) rfl rfl (by simp)) rfl rfl ?_; rintro r H1 ⟨k1, u1, ha1, hb1, rfl, rfl⟩; refine ⟨.slice 8 0 3 k1, [(1, .ints t M), (8, .ints 2 ((M.drop 3).take 3 ++ u1))], rfl, rfl, rfl, ?_⟩)
             | (refine oCall (cl 6 c2 (by omega)) [(0, 1)] 2 rfl rfl (Fits.mk' (vHc rfl vHn) rfl rfl (by simp)) rfl rfl ?_; rintro r H1 ⟨k2, u2, ha2, hb2, rfl, rfl⟩; refine ⟨.slice 12 0 3 k2, [(1, .ints t M), (12, .ints 2 ((M.drop 6).take 3 ++ u2))], rfl, rfl, rfl, ?_⟩)
           refine oBslv rfl rfl rfl rfl rfl rfl rfl rfl rfl rfl rfl rfl rfl ?_
           first | refine oAppV (by_ := 24) (A := []) (sp := []) rfl rfl rfl rfl rfl rfl rfl rfl rfl rfl rfl rfl rfl rfl rfl rfl rfl rfl (by first | rfl | omega | (simp; omega)) (by omega) (by omega) rfl rfl (fun kO hkO => ?_) | refine oAppV (by_ := 24) rfl rfl rfl rfl rfl rfl rfl rfl rfl rfl rfl rfl rfl rfl rfl rfl rfl rfl (by first | rfl | omega | (simp; omega)) (by omega) (by omega) rfl rfl (fun kO hkO => ?_)
           refine oA rfl rfl ?_
           refine OW_nil ?_
           all_goals first | with_reducible refine bN ?_ | with_reducible refine bE ?_ | with_reducible refine bR ?_ | refine bX rfl ?_
           all_goals with_reducible refine tN ?_
           all_goals (
            refine CW_region ?_
            first | refine oQ (Q_binu rfl rfl rfl (by omega)) rfl rfl ?_ | refine oQ (Q_bin rfl rfl rfl) rfl rfl ?_
            refine oM rfl rfl ?_
            refine OW_nil ?_))
        all_goals first
          | with_reducible refine tR ?_
          | with_reducible refine tE ?_
          | (
           with_reducible refine tN ?_
           refine RW_succ ?_
           refine cR ?_
           refine oQ (Q_bin rfl rfl rfl) rfl rfl ?_
           refine oN ?_
           refine CW_seq ?_
           first | refine cT rfl ?_ | refine cF rfl ?_ | refine CW_cond rfl (fun hc => ?_) (fun hc => ?_)
           all_goals try simp only [s1, s2, s3, s4, s5, s6, s7, s8, s9, s10, s11, s12] at hc
           all_goals try (exfalso; first | omega | (simp at hc; done); done)
           all_goals first
             | (
              refine CW_skip ?_)
             | (
              refine CW_exit ?_)
           all_goals first
             | with_reducible refine tR ?_
             | with_reducible refine tE ?_
             | (
              with_reducible refine tN ?_
              refine CW_seq ?_
              refine CW_block ?_
              refine cR ?_
              first | refine oQ (Is0 rfl rfl rfl rfl rfl rfl) rfl rfl ?_ | refine oQ (Is1 rfl rfl rfl rfl rfl rfl) rfl rfl ?_
              refine oQ (Q_ldv rfl rfl rfl rfl rfl rfl) rfl rfl ?_
              refine oA rfl rfl ?_
              refine oN ?_
              refine CW_region ?_
              iterate 2 refine oM rfl rfl ?_
              first
                | (refine oCall (cl 0 c0 (by omega)) [(0, 1)] 2 rfl rfl (Fits.mk' (vHc rfl vHn) rfl rfl (by simp)) rfl rfl ?_; rintro r H1 ⟨k0, u0, ha0, hb0, rfl, rfl⟩; refine ⟨.slice 4 0 3 k0, [(1, .ints t M), (4, .ints 2 ((M.drop 0).take 3 ++ u0))], rfl, rfl, rfl, ?_⟩)
                | (refine oCall (cl 3 c1 (by omega)) [(0, 1)] 2 rfl rfl (Fits.mk' (vHc rfl vHn) rfl rfl (by simp)) rfl rfl ?_; rintro r H1 ⟨k1, u1, ha1, hb1, rfl, rfl⟩; refine ⟨.slice 8 0 3 k1, [(1, .ints t M), (8, .ints 2 ((M.drop 3).take 3 ++ u1))], rfl, rfl, rfl, ?_⟩)
                | (refine oCall (cl 6 c2 (by omega)) [(0, 1)] 2 rfl rfl (Fits.mk' (vHc rfl vHn) rfl rfl (by simp)) rfl rfl ?_; rintro r H1 ⟨k2, u2, ha2, hb2, rfl, rfl⟩; refine ⟨.slice 12 0 3 k2, [(1, .ints t M), (12, .ints 2 ((M.drop 6).take 3 ++ u2))], rfl, rfl, rfl, ?_⟩)
              refine oBslv rfl rfl rfl rfl rfl rfl rfl rfl rfl rfl rfl rfl rfl ?_
              first | refine oAppV (by_ := 24) (A := []) (sp := []) rfl rfl rfl rfl rfl rfl rfl rfl rfl rfl rfl rfl rfl rfl rfl rfl rfl rfl (by first | rfl | omega | (simp; omega)) (by omega) (by omega) rfl rfl (fun kO hkO => ?_) | refine oAppV (by_ := 24) rfl rfl rfl rfl rfl rfl rfl rfl rfl rfl rfl rfl rfl rfl rfl rfl rfl rfl (by first | rfl | omega | (simp; omega)) (by omega) (by omega) rfl rfl (fun kO hkO => ?_)
              refine oA rfl rfl ?_
              refine OW_nil ?_
              all_goals first | with_reducible refine bN ?_ | with_reducible refine bE ?_ | with_reducible refine bR ?_ | refine bX rfl ?_
              all_goals with_reducible refine tN ?_
              all_goals (
               refine CW_region ?_
               first | refine oQ (Q_binu rfl rfl rfl (by omega)) rfl rfl ?_ | refine oQ (Q_bin rfl rfl rfl) rfl rfl ?_
               refine oM rfl rfl ?_
               refine OW_nil ?_))
           all_goals first
             | with_reducible refine tR ?_
             | with_reducible refine tE ?_
             | (
              with_reducible refine tN ?_
              exfalso; first | omega | (simp at hc; done) | (simp_all; done)))))
  all_goals first | with_reducible refine bN ?_ | with_reducible refine bE ?_ | with_reducible refine bR ?_ | refine bX rfl ?_
  all_goals with_reducible refine tN ?_
  all_goals (
   refine cR ?_
   refine oA rfl rfl ?_
   refine oN ?_
   refine CW_seq ?_
   refine cR ?_
   refine oA rfl rfl ?_
   refine oN ?_
   refine CW_block ?_
   refine CW_loop (ι := RS) (fun x => x.cnt ≤ 3 ∧ x.c ≤ 3 ∧ x.cnt ≤ x.c ∧ rdB p x.A 3 3 ∧ RedI p (fun i => (M.drop (i * 3)).take 3) 3 3 x.A x.cnt x.c) (fun x => ⟨[(0, .int p), (5, .slice 5 0 3 kO), (8, .int x.cnt), (9, .int x.c)], [(0, .vals 103 [.slice 1 0 3 c0, .slice 1 3 3 c1, .slice 1 6 3 c2]), (1, .ints t M), (2, .ints 2 ((x.A 0) ++ (x.S 0))), (3, .ints 2 ((x.A 1) ++ (x.S 1))), (4, .ints 2 ((x.A 2) ++ (x.S 2))), (5, .vals 103 ([.slice 2 0 3 (x.K 0), .slice 3 0 3 (x.K 1), .slice 4 0 3 (x.K 2)] ++ List.replicate (kO - 3) .bot))], 6⟩) (fun x => 3 - x.c) ⟨0, 0, fun i => (M.drop (i * 3)).take 3, fun i => match i with | 0 => k0 | 1 => k1 | _ => k2, fun i => match i with | 0 => u0 | 1 => u1 | _ => u2⟩ ?_ ?_ ?_
   · exact ⟨Nat.zero_le _, Nat.zero_le _, Nat.le_refl _, hM0, RedI_start p _ _ _⟩
   · refine View.mk' [(2, 4), (3, 8), (4, 12), (5, 14)] rfl (by simp only [wfB, List.all_cons, List.all_nil, ids_bots]; rfl) rfl ?_ ?_
     repeat' first | exact vFn | refine vFc rfl ?_ | exact vHn | refine vHc rfl ?_ | refine vFc (congrArg (fun z => some (V.int z)) ?_) ?_ | refine vHc (congrArg (fun z => some (Blk.ints _ z)) ?_) ?_ | refine vFc (congrArg (fun z => some (V.bool z)) ?_) ?_ | refine vFs rfl rfl ?_ ?_ | refine vHc (by rw [ren_bots]; rfl) ?_
   rintro ⟨cnt, c, A, K, S⟩ ⟨h1, h2, h3, hA, hR⟩
   dsimp only at h1 h2 h3 hA hR ⊢
   have l0 := (hA 0 (by omega)).1
   have l1 := (hA 1 (by omega)).1
   have l2 := (hA 2 (by omega)).1
   have hcc : cnt = 0 ∨ cnt = 1 ∨ cnt = 2 ∨ cnt = 3 := by omega
   obtain ⟨N, hN⟩ : ∃ z, z = cnt := ⟨cnt, rfl⟩
   obtain ⟨N2, hN2⟩ : ∃ z, z = cnt := ⟨cnt, rfl⟩
   rcases hcc with rfl | rfl | rfl | rfl
   all_goals (
    refine CW_seq ?_
    refine cR ?_
    iterate 2 refine oM rfl rfl ?_
    first | refine oQ (Q_len rfl rfl rfl rfl) rfl rfl ?_ | refine oQ (Q_len0 rfl rfl rfl rfl) rfl rfl ?_
    refine oQ (Q_bin rfl rfl rfl) rfl rfl ?_
    refine oM rfl rfl ?_
    all_goals first | refine oT rfl rfl ?_ | refine o1 rfl rfl rfl ?_ | refine o0 rfl rfl rfl ?_ | refine ogP1 rfl rfl rfl (fun hg => ?_) (fun hg => ?_) | refine ogP0 rfl rfl rfl (fun hg => ?_) (fun hg => ?_)
    all_goals try simp only [s1, s2, s3, s4, s5, s6, s7, s8, s9, s10, s11, s12] at hg
    all_goals try (exfalso; first | omega | exact absurd trivial hg | (simp at hg; done); done)
    all_goals first | (refine oM rfl rfl ?_) | skip
    all_goals first | refine oT rfl rfl ?_ | refine o1 rfl rfl rfl ?_ | refine o0 rfl rfl rfl ?_ | refine ogP1 rfl rfl rfl (fun hg => ?_) (fun hg => ?_) | refine ogP0 rfl rfl rfl (fun hg => ?_) (fun hg => ?_)
    all_goals try simp only [s1, s2, s3, s4, s5, s6, s7, s8, s9, s10, s11, s12] at hg
    all_goals try (exfalso; first | omega | exact absurd trivial hg | (simp at hg; done); done)
    all_goals first | (refine oM rfl rfl ?_) | skip
    all_goals first | refine oT rfl rfl ?_ | refine o1 rfl rfl rfl ?_ | refine o0 rfl rfl rfl ?_ | refine ogP1 rfl rfl rfl (fun hg => ?_) (fun hg => ?_) | refine ogP0 rfl rfl rfl (fun hg => ?_) (fun hg => ?_)
    all_goals try simp only [s1, s2, s3, s4, s5, s6, s7, s8, s9, s10, s11, s12] at hg
    all_goals try (exfalso; first | omega | exact absurd trivial hg | (simp at hg; done); done)
    all_goals first | refine oQ (Is0 rfl rfl rfl rfl rfl rfl) rfl rfl ?_ | refine oQ (Is1 rfl rfl rfl rfl rfl rfl) rfl rfl ?_ | skip
    all_goals first | refine oT rfl rfl ?_ | refine o1 rfl rfl rfl ?_ | refine o0 rfl rfl rfl ?_ | refine ogP1 rfl rfl rfl (fun hg => ?_) (fun hg => ?_) | refine ogP0 rfl rfl rfl (fun hg => ?_) (fun hg => ?_)
    all_goals try simp only [s1, s2, s3, s4, s5, s6, s7, s8, s9, s10, s11, s12] at hg
    all_goals try (exfalso; first | omega | exact absurd trivial hg | (simp at hg; done); done)
    all_goals first | (refine oQ (Q_ldv rfl rfl rfl rfl rfl rfl) rfl rfl ?_) | skip
    all_goals first | refine oT rfl rfl ?_ | refine o1 rfl rfl rfl ?_ | refine o0 rfl rfl rfl ?_ | refine ogP1 rfl rfl rfl (fun hg => ?_) (fun hg => ?_) | refine ogP0 rfl rfl rfl (fun hg => ?_) (fun hg => ?_)
    all_goals try simp only [s1, s2, s3, s4, s5, s6, s7, s8, s9, s10, s11, s12] at hg
    all_goals try (exfalso; first | omega | exact absurd trivial hg | (simp at hg; done); done)
    all_goals first | refine oQ (Q_len rfl rfl rfl rfl) rfl rfl ?_ | refine oQ (Q_len0 rfl rfl rfl rfl) rfl rfl ?_ | skip
    all_goals first | refine oT rfl rfl ?_ | refine o1 rfl rfl rfl ?_ | refine o0 rfl rfl rfl ?_ | refine ogP1 rfl rfl rfl (fun hg => ?_) (fun hg => ?_) | refine ogP0 rfl rfl rfl (fun hg => ?_) (fun hg => ?_)
    all_goals try simp only [s1, s2, s3, s4, s5, s6, s7, s8, s9, s10, s11, s12] at hg
    all_goals try (exfalso; first | omega | exact absurd trivial hg | (simp at hg; done); done)
    all_goals first | (refine oQ (Q_bin rfl rfl rfl) rfl rfl ?_) | skip
    all_goals first | refine oQ (Q_pick_t rfl (by with_reducible rfl) rfl rfl) rfl rfl ?_ | refine oQ (Q_pick_f rfl (by with_reducible rfl) rfl rfl) rfl rfl ?_
    all_goals refine oN ?_
    all_goals (
     first | refine cT rfl ?_ | refine cF rfl ?_ | refine CW_cond rfl (fun hc => ?_) (fun hc => ?_)
     all_goals try simp only [s1, s2, s3, s4, s5, s6, s7, s8, s9, s10, s11, s12] at hc
     all_goals try (exfalso; first | omega | (simp at hc; done); done)
     all_goals first
       | (
        refine CW_skip ?_)
       | (
        refine CW_exit ?_))
    all_goals first
      | with_reducible refine tR ?_
      | with_reducible refine tE ?_
      | (
       with_reducible refine tN ?_
       refine CW_seq ?_
       refine CW_block ?_
       refine cR ?_
       refine oM rfl rfl ?_
       refine oA rfl rfl ?_
       refine oN ?_
       refine CW_cut (ι := Nat) (fun i => N ≤ i ∧ i ≤ 3 ∧ c < 3 ∧ (∀ k, N ≤ k → k < i → (A k).getD c 0 = 0) ∧ (i < 3 → (A i).getD c 0 ≠ 0)) (fun i => ⟨[(0, .int p), (5, .slice 5 0 3 kO), (8, .int (N : Int)), (9, .int c), (10, .int i)], [(0, .vals 103 [.slice 1 0 3 c0, .slice 1 3 3 c1, .slice 1 6 3 c2]), (1, .ints t M), (2, .ints 2 ((A 0) ++ (S 0))), (3, .ints 2 ((A 1) ++ (S 1))), (4, .ints 2 ((A 2) ++ (S 2))), (5, .vals 103 ([.slice 2 0 3 (K 0), .slice 3 0 3 (K 1), .slice 4 0 3 (K 2)] ++ List.replicate (kO - 3) .bot))], 6⟩) ?_ ?_
       · (
        have hcw : c < 3 := by omega
        have g0 : (A 0 ++ S 0).getD c 0 = (A 0).getD c 0 := getD_app (by rw [l0]; exact hcw)
        have g1 : (A 1 ++ S 1).getD c 0 = (A 1).getD c 0 := getD_app (by rw [l1]; exact hcw)
        have g2 : (A 2 ++ S 2).getD c 0 = (A 2).getD c 0 := getD_app (by rw [l2]; exact hcw)
        rw [hN]
        all_goals (
         refine CW_block ?_
         refine CW_rounds 5 ?_
         refine RW_succ ?_
         refine CW_seq ?_
         refine cR ?_
         iterate 2 refine oM rfl rfl ?_
         first | refine oQ (Q_len rfl rfl rfl rfl) rfl rfl ?_ | refine oQ (Q_len0 rfl rfl rfl rfl) rfl rfl ?_
         refine oQ (Q_bin rfl rfl rfl) rfl rfl ?_
         refine oM rfl rfl ?_
         all_goals first | refine oT rfl rfl ?_ | refine o1 rfl rfl rfl ?_ | refine o0 rfl rfl rfl ?_ | refine ogP1 rfl rfl rfl (fun hg => ?_) (fun hg => ?_) | refine ogP0 rfl rfl rfl (fun hg => ?_) (fun hg => ?_)
         all_goals try simp only [s1, s2, s3, s4, s5, s6, s7, s8, s9, s10, s11, s12] at hg
         all_goals try (exfalso; first | omega | exact absurd trivial hg | (simp at hg; done); done)
         all_goals first | (refine oM rfl rfl ?_) | skip
         all_goals first | refine oT rfl rfl ?_ | refine o1 rfl rfl rfl ?_ | refine o0 rfl rfl rfl ?_ | refine ogP1 rfl rfl rfl (fun hg => ?_) (fun hg => ?_) | refine ogP0 rfl rfl rfl (fun hg => ?_) (fun hg => ?_)
         all_goals try simp only [s1, s2, s3, s4, s5, s6, s7, s8, s9, s10, s11, s12] at hg
         all_goals try (exfalso; first | omega | exact absurd trivial hg | (simp at hg; done); done)
         all_goals first | (refine oM rfl rfl ?_) | skip
         all_goals first | refine oT rfl rfl ?_ | refine o1 rfl rfl rfl ?_ | refine o0 rfl rfl rfl ?_ | refine ogP1 rfl rfl rfl (fun hg => ?_) (fun hg => ?_) | refine ogP0 rfl rfl rfl (fun hg => ?_) (fun hg => ?_)
         all_goals try simp only [s1, s2, s3, s4, s5, s6, s7, s8, s9, s10, s11, s12] at hg
         all_goals try (exfalso; first | omega | exact absurd trivial hg | (simp at hg; done); done)
         all_goals first | refine oQ (Is0 rfl rfl rfl rfl rfl rfl) rfl rfl ?_ | refine oQ (Is1 rfl rfl rfl rfl rfl rfl) rfl rfl ?_ | skip
         all_goals first | refine oT rfl rfl ?_ | refine o1 rfl rfl rfl ?_ | refine o0 rfl rfl rfl ?_ | refine ogP1 rfl rfl rfl (fun hg => ?_) (fun hg => ?_) | refine ogP0 rfl rfl rfl (fun hg => ?_) (fun hg => ?_)
         all_goals try simp only [s1, s2, s3, s4, s5, s6, s7, s8, s9, s10, s11, s12] at hg
         all_goals try (exfalso; first | omega | exact absurd trivial hg | (simp at hg; done); done)
         all_goals first | (refine oQ (Q_ldv rfl rfl rfl rfl rfl rfl) rfl rfl ?_) | skip
         all_goals first | refine oT rfl rfl ?_ | refine o1 rfl rfl rfl ?_ | refine o0 rfl rfl rfl ?_ | refine ogP1 rfl rfl rfl (fun hg => ?_) (fun hg => ?_) | refine ogP0 rfl rfl rfl (fun hg => ?_) (fun hg => ?_)
         all_goals try simp only [s1, s2, s3, s4, s5, s6, s7, s8, s9, s10, s11, s12] at hg
         all_goals try (exfalso; first | omega | exact absurd trivial hg | (simp at hg; done); done)
         all_goals first | (refine oM rfl rfl ?_) | skip
         all_goals first | refine oT rfl rfl ?_ | refine o1 rfl rfl rfl ?_ | refine o0 rfl rfl rfl ?_ | refine ogP1 rfl rfl rfl (fun hg => ?_) (fun hg => ?_) | refine ogP0 rfl rfl rfl (fun hg => ?_) (fun hg => ?_)
         all_goals try simp only [s1, s2, s3, s4, s5, s6, s7, s8, s9, s10, s11, s12] at hg
         all_goals try (exfalso; first | omega | exact absurd trivial hg | (simp at hg; done); done)
         all_goals first | refine oQ (Is0 rfl rfl rfl rfl rfl rfl) rfl rfl ?_ | refine oQ (Is1 rfl rfl rfl rfl rfl rfl) rfl rfl ?_ | skip
         all_goals first | refine oT rfl rfl ?_ | refine o1 rfl rfl rfl ?_ | refine o0 rfl rfl rfl ?_ | refine ogP1 rfl rfl rfl (fun hg => ?_) (fun hg => ?_) | refine ogP0 rfl rfl rfl (fun hg => ?_) (fun hg => ?_)
         all_goals try simp only [s1, s2, s3, s4, s5, s6, s7, s8, s9, s10, s11, s12] at hg
         all_goals try (exfalso; first | omega | exact absurd trivial hg | (simp at hg; done); done)
         all_goals first | refine oQ (Q_ldc rfl rfl rfl rfl rfl) rfl rfl ?_ | refine oQ (Ld rfl rfl rfl rfl) rfl rfl ?_ | skip
         all_goals first | refine oT rfl rfl ?_ | refine o1 rfl rfl rfl ?_ | refine o0 rfl rfl rfl ?_ | refine ogP1 rfl rfl rfl (fun hg => ?_) (fun hg => ?_) | refine ogP0 rfl rfl rfl (fun hg => ?_) (fun hg => ?_)
         all_goals try simp only [s1, s2, s3, s4, s5, s6, s7, s8, s9, s10, s11, s12] at hg
         all_goals try (exfalso; first | omega | exact absurd trivial hg | (simp at hg; done); done)
         all_goals first | (refine oQ (Q_bin rfl rfl rfl) rfl rfl ?_) | skip
         all_goals first | refine oQ (Q_pick_t rfl (by with_reducible rfl) rfl rfl) rfl rfl ?_ | refine oQ (Q_pick_f rfl (by with_reducible rfl) rfl rfl) rfl rfl ?_
         all_goals refine oN ?_
         all_goals (
          first | refine cT rfl ?_ | refine cF rfl ?_ | refine CW_cond rfl (fun hc => ?_) (fun hc => ?_)
          all_goals try simp only [s1, s2, s3, s4, s5, s6, s7, s8, s9, s10, s11, s12] at hc
          all_goals try (exfalso; first | omega | (simp at hc; done); done)
          all_goals first
            | (
             refine CW_skip ?_)
            | (
             refine CW_exit ?_))
         all_goals first
           | with_reducible refine tR ?_
           | with_reducible refine tE ?_
           | (
            with_reducible refine tN ?_
            refine CW_block ?_
            refine CW_region ?_
            refine oM rfl rfl ?_
            first | refine oQ (Q_binu rfl rfl rfl (by omega)) rfl rfl ?_ | refine oQ (Q_bin rfl rfl rfl) rfl rfl ?_
            refine oA rfl rfl ?_
            refine OW_nil ?_
            all_goals first | with_reducible refine bN ?_ | with_reducible refine bE ?_ | with_reducible refine bR ?_ | refine bX rfl ?_)
         all_goals first
           | with_reducible refine tR ?_
           | with_reducible refine tE ?_
           | (
            with_reducible refine tN ?_
            refine RW_succ ?_
            refine CW_seq ?_
            refine cR ?_
            iterate 2 refine oM rfl rfl ?_
            first | refine oQ (Q_len rfl rfl rfl rfl) rfl rfl ?_ | refine oQ (Q_len0 rfl rfl rfl rfl) rfl rfl ?_
            refine oQ (Q_bin rfl rfl rfl) rfl rfl ?_
            refine oM rfl rfl ?_
            all_goals first | refine oT rfl rfl ?_ | refine o1 rfl rfl rfl ?_ | refine o0 rfl rfl rfl ?_ | refine ogP1 rfl rfl rfl (fun hg => ?_) (fun hg => ?_) | refine ogP0 rfl rfl rfl (fun hg => ?_) (fun hg => ?_)
            all_goals try simp only [s1, s2, s3, s4, s5, s6, s7, s8, s9, s10, s11, s12] at hg
            all_goals try (exfalso; first | omega | exact absurd trivial hg | (simp at hg; done); done)
            all_goals first | (refine oM rfl rfl ?_) | skip
            all_goals first | refine oT rfl rfl ?_ | refine o1 rfl rfl rfl ?_ | refine o0 rfl rfl rfl ?_ | refine ogP1 rfl rfl rfl (fun hg => ?_) (fun hg => ?_) | refine ogP0 rfl rfl rfl (fun hg => ?_) (fun hg => ?_)
            all_goals try simp only [s1, s2, s3, s4, s5, s6, s7, s8, s9, s10, s11, s12] at hg
            all_goals try (exfalso; first | omega | exact absurd trivial hg | (simp at hg; done); done)
            all_goals first | (refine oM rfl rfl ?_) | skip
            all_goals first | refine oT rfl rfl ?_ | refine o1 rfl rfl rfl ?_ | refine o0 rfl rfl rfl ?_ | refine ogP1 rfl rfl rfl (fun hg => ?_) (fun hg => ?_) | refine ogP0 rfl rfl rfl (fun hg => ?_) (fun hg => ?_)
            all_goals try simp only [s1, s2, s3, s4, s5, s6, s7, s8, s9, s10, s11, s12] at hg
            all_goals try (exfalso; first | omega | exact absurd trivial hg | (simp at hg; done); done)
            all_goals first | refine oQ (Is0 rfl rfl rfl rfl rfl rfl) rfl rfl ?_ | refine oQ (Is1 rfl rfl rfl rfl rfl rfl) rfl rfl ?_ | skip
            all_goals first | refine oT rfl rfl ?_ | refine o1 rfl rfl rfl ?_ | refine o0 rfl rfl rfl ?_ | refine ogP1 rfl rfl rfl (fun hg => ?_) (fun hg => ?_) | refine ogP0 rfl rfl rfl (fun hg => ?_) (fun hg => ?_)
            all_goals try simp only [s1, s2, s3, s4, s5, s6, s7, s8, s9, s10, s11, s12] at hg
            all_goals try (exfalso; first | omega | exact absurd trivial hg | (simp at hg; done); done)
            all_goals first | (refine oQ (Q_ldv rfl rfl rfl rfl rfl rfl) rfl rfl ?_) | skip
            all_goals first | refine oT rfl rfl ?_ | refine o1 rfl rfl rfl ?_ | refine o0 rfl rfl rfl ?_ | refine ogP1 rfl rfl rfl (fun hg => ?_) (fun hg => ?_) | refine ogP0 rfl rfl rfl (fun hg => ?_) (fun hg => ?_)
            all_goals try simp only [s1, s2, s3, s4, s5, s6, s7, s8, s9, s10, s11, s12] at hg
            all_goals try (exfalso; first | omega | exact absurd trivial hg | (simp at hg; done); done)
            all_goals first | (refine oM rfl rfl ?_) | skip
            all_goals first | refine oT rfl rfl ?_ | refine o1 rfl rfl rfl ?_ | refine o0 rfl rfl rfl ?_ | refine ogP1 rfl rfl rfl (fun hg => ?_) (fun hg => ?_) | refine ogP0 rfl rfl rfl (fun hg => ?_) (fun hg => ?_)
            all_goals try simp only [s1, s2, s3, s4, s5, s6, s7, s8, s9, s10, s11, s12] at hg
            all_goals try (exfalso; first | omega | exact absurd trivial hg | (simp at hg; done); done)
            all_goals first | refine oQ (Is0 rfl rfl rfl rfl rfl rfl) rfl rfl ?_ | refine oQ (Is1 rfl rfl rfl rfl rfl rfl) rfl rfl ?_ | skip
            all_goals first | refine oT rfl rfl ?_ | refine o1 rfl rfl rfl ?_ | refine o0 rfl rfl rfl ?_ | refine ogP1 rfl rfl rfl (fun hg => ?_) (fun hg => ?_) | refine ogP0 rfl rfl rfl (fun hg => ?_) (fun hg => ?_)
            all_goals try simp only [s1, s2, s3, s4, s5, s6, s7, s8, s9, s10, s11, s12] at hg
            all_goals try (exfalso; first | omega | exact absurd trivial hg | (simp at hg; done); done)
            all_goals first | refine oQ (Q_ldc rfl rfl rfl rfl rfl) rfl rfl ?_ | refine oQ (Ld rfl rfl rfl rfl) rfl rfl ?_ | skip
            all_goals first | refine oT rfl rfl ?_ | refine o1 rfl rfl rfl ?_ | refine o0 rfl rfl rfl ?_ | refine ogP1 rfl rfl rfl (fun hg => ?_) (fun hg => ?_) | refine ogP0 rfl rfl rfl (fun hg => ?_) (fun hg => ?_)
            all_goals try simp only [s1, s2, s3, s4, s5, s6, s7, s8, s9, s10, s11, s12] at hg
            all_goals try (exfalso; first | omega | exact absurd trivial hg | (simp at hg; done); done)
            all_goals first | (refine oQ (Q_bin rfl rfl rfl) rfl rfl ?_) | skip
            all_goals first | refine oQ (Q_pick_t rfl (by with_reducible rfl) rfl rfl) rfl rfl ?_ | refine oQ (Q_pick_f rfl (by with_reducible rfl) rfl rfl) rfl rfl ?_
            all_goals refine oN ?_
            all_goals (
             first | refine cT rfl ?_ | refine cF rfl ?_ | refine CW_cond rfl (fun hc => ?_) (fun hc => ?_)
             all_goals try simp only [s1, s2, s3, s4, s5, s6, s7, s8, s9, s10, s11, s12] at hc
             all_goals try (exfalso; first | omega | (simp at hc; done); done)
             all_goals first
               | (
                refine CW_skip ?_)
               | (
                refine CW_exit ?_))
            all_goals first
              | with_reducible refine tR ?_
              | with_reducible refine tE ?_
              | (
               with_reducible refine tN ?_
               refine CW_block ?_
               refine CW_region ?_
               refine oM rfl rfl ?_
               first | refine oQ (Q_binu rfl rfl rfl (by omega)) rfl rfl ?_ | refine oQ (Q_bin rfl rfl rfl) rfl rfl ?_
               refine oA rfl rfl ?_
               refine OW_nil ?_
               all_goals first | with_reducible refine bN ?_ | with_reducible refine bE ?_ | with_reducible refine bR ?_ | refine bX rfl ?_)
            all_goals first
              | with_reducible refine tR ?_
              | with_reducible refine tE ?_
              | (
               with_reducible refine tN ?_
               refine RW_succ ?_
               refine CW_seq ?_
               refine cR ?_
               iterate 2 refine oM rfl rfl ?_
               first | refine oQ (Q_len rfl rfl rfl rfl) rfl rfl ?_ | refine oQ (Q_len0 rfl rfl rfl rfl) rfl rfl ?_
               refine oQ (Q_bin rfl rfl rfl) rfl rfl ?_
               refine oM rfl rfl ?_
               all_goals first | refine oT rfl rfl ?_ | refine o1 rfl rfl rfl ?_ | refine o0 rfl rfl rfl ?_ | refine ogP1 rfl rfl rfl (fun hg => ?_) (fun hg => ?_) | refine ogP0 rfl rfl rfl (fun hg => ?_) (fun hg => ?_)
               all_goals try simp only [s1, s2, s3, s4, s5, s6, s7, s8, s9, s10, s11, s12] at hg
               all_goals try (exfalso; first | omega | exact absurd trivial hg | (simp at hg; done); done)
               all_goals first | (refine oM rfl rfl ?_) | skip
               all_goals first | refine oT rfl rfl ?_ | refine o1 rfl rfl rfl ?_ | refine o0 rfl rfl rfl ?_ | refine ogP1 rfl rfl rfl (fun hg => ?_) (fun hg => ?_) | refine ogP0 rfl rfl rfl (fun hg => ?_) (fun hg => ?_)
               all_goals try simp only [s1, s2, s3, s4, s5, s6, s7, s8, s9, s10, s11, s12] at hg
               all_goals try (exfalso; first | omega | exact absurd trivial hg | (simp at hg; done); done)
               all_goals first | (refine oM rfl rfl ?_) | skip
               all_goals first | refine oT rfl rfl ?_ | refine o1 rfl rfl rfl ?_ | refine o0 rfl rfl rfl ?_ | refine ogP1 rfl rfl rfl (fun hg => ?_) (fun hg => ?_) | refine ogP0 rfl rfl rfl (fun hg => ?_) (fun hg => ?_)
               all_goals try simp only [s1, s2, s3, s4, s5, s6, s7, s8, s9, s10, s11, s12] at hg
               all_goals try (exfalso; first | omega | exact absurd trivial hg | (simp at hg; done); done)
               all_goals first | refine oQ (Is0 rfl rfl rfl rfl rfl rfl) rfl rfl ?_ | refine oQ (Is1 rfl rfl rfl rfl rfl rfl) rfl rfl ?_ | skip
               all_goals first | refine oT rfl rfl ?_ | refine o1 rfl rfl rfl ?_ | refine o0 rfl rfl rfl ?_ | refine ogP1 rfl rfl rfl (fun hg => ?_) (fun hg => ?_) | refine ogP0 rfl rfl rfl (fun hg => ?_) (fun hg => ?_)
               all_goals try simp only [s1, s2, s3, s4, s5, s6, s7, s8, s9, s10, s11, s12] at hg
               all_goals try (exfalso; first | omega | exact absurd trivial hg | (simp at hg; done); done)
               all_goals first | (refine oQ (Q_ldv rfl rfl rfl rfl rfl rfl) rfl rfl ?_) | skip
               all_goals first | refine oT rfl rfl ?_ | refine o1 rfl rfl rfl ?_ | refine o0 rfl rfl rfl ?_ | refine ogP1 rfl rfl rfl (fun hg => ?_) (fun hg => ?_) | refine ogP0 rfl rfl rfl (fun hg => ?_) (fun hg => ?_)
               all_goals try simp only [s1, s2, s3, s4, s5, s6, s7, s8, s9, s10, s11, s12] at hg
               all_goals try (exfalso; first | omega | exact absurd trivial hg | (simp at hg; done); done)
               all_goals first | (refine oM rfl rfl ?_) | skip
               all_goals first | refine oT rfl rfl ?_ | refine o1 rfl rfl rfl ?_ | refine o0 rfl rfl rfl ?_ | refine ogP1 rfl rfl rfl (fun hg => ?_) (fun hg => ?_) | refine ogP0 rfl rfl rfl (fun hg => ?_) (fun hg => ?_)
               all_goals try simp only [s1, s2, s3, s4, s5, s6, s7, s8, s9, s10, s11, s12] at hg
               all_goals try (exfalso; first | omega | exact absurd trivial hg | (simp at hg; done); done)
               all_goals first | refine oQ (Is0 rfl rfl rfl rfl rfl rfl) rfl rfl ?_ | refine oQ (Is1 rfl rfl rfl rfl rfl rfl) rfl rfl ?_ | skip
               all_goals first | refine oT rfl rfl ?_ | refine o1 rfl rfl rfl ?_ | refine o0 rfl rfl rfl ?_ | refine ogP1 rfl rfl rfl (fun hg => ?_) (fun hg => ?_) | refine ogP0 rfl rfl rfl (fun hg => ?_) (fun hg => ?_)
               all_goals try simp only [s1, s2, s3, s4, s5, s6, s7, s8, s9, s10, s11, s12] at hg
               all_goals try (exfalso; first | omega | exact absurd trivial hg | (simp at hg; done); done)
               all_goals first | refine oQ (Q_ldc rfl rfl rfl rfl rfl) rfl rfl ?_ | refine oQ (Ld rfl rfl rfl rfl) rfl rfl ?_ | skip
               all_goals first | refine oT rfl rfl ?_ | refine o1 rfl rfl rfl ?_ | refine o0 rfl rfl rfl ?_ | refine ogP1 rfl rfl rfl (fun hg => ?_) (fun hg => ?_) | refine ogP0 rfl rfl rfl (fun hg => ?_) (fun hg => ?_)
               all_goals try simp only [s1, s2, s3, s4, s5, s6, s7, s8, s9, s10, s11, s12] at hg
               all_goals try (exfalso; first | omega | exact absurd trivial hg | (simp at hg; done); done)
               all_goals first | (refine oQ (Q_bin rfl rfl rfl) rfl rfl ?_) | skip
               all_goals first | refine oQ (Q_pick_t rfl (by with_reducible rfl) rfl rfl) rfl rfl ?_ | refine oQ (Q_pick_f rfl (by with_reducible rfl) rfl rfl) rfl rfl ?_
               all_goals refine oN ?_
               all_goals (
                first | refine cT rfl ?_ | refine cF rfl ?_ | refine CW_cond rfl (fun hc => ?_) (fun hc => ?_)
                all_goals try simp only [s1, s2, s3, s4, s5, s6, s7, s8, s9, s10, s11, s12] at hc
                all_goals try (exfalso; first | omega | (simp at hc; done); done)
                all_goals first
                  | (
                   refine CW_skip ?_)
                  | (
                   refine CW_exit ?_))
               all_goals first
                 | with_reducible refine tR ?_
                 | with_reducible refine tE ?_
                 | (
                  with_reducible refine tN ?_
                  refine CW_block ?_
                  refine CW_region ?_
                  refine oM rfl rfl ?_
                  first | refine oQ (Q_binu rfl rfl rfl (by omega)) rfl rfl ?_ | refine oQ (Q_bin rfl rfl rfl) rfl rfl ?_
                  refine oA rfl rfl ?_
                  refine OW_nil ?_
                  all_goals first | with_reducible refine bN ?_ | with_reducible refine bE ?_ | with_reducible refine bR ?_ | refine bX rfl ?_)
               all_goals first
                 | with_reducible refine tR ?_
                 | with_reducible refine tE ?_
                 | (
                  with_reducible refine tN ?_
                  refine RW_succ ?_
                  refine CW_seq ?_
                  refine cR ?_
                  iterate 2 refine oM rfl rfl ?_
                  first | refine oQ (Q_len rfl rfl rfl rfl) rfl rfl ?_ | refine oQ (Q_len0 rfl rfl rfl rfl) rfl rfl ?_
                  refine oQ (Q_bin rfl rfl rfl) rfl rfl ?_
                  refine oM rfl rfl ?_
                  all_goals first | refine oT rfl rfl ?_ | refine o1 rfl rfl rfl ?_ | refine o0 rfl rfl rfl ?_ | refine ogP1 rfl rfl rfl (fun hg => ?_) (fun hg => ?_) | refine ogP0 rfl rfl rfl (fun hg => ?_) (fun hg => ?_)
                  all_goals try simp only [s1, s2, s3, s4, s5, s6, s7, s8, s9, s10, s11, s12] at hg
                  all_goals try (exfalso; first | omega | exact absurd trivial hg | (simp at hg; done); done)
                  all_goals first | (refine oM rfl rfl ?_) | skip
                  all_goals first | refine oT rfl rfl ?_ | refine o1 rfl rfl rfl ?_ | refine o0 rfl rfl rfl ?_ | refine ogP1 rfl rfl rfl (fun hg => ?_) (fun hg => ?_) | refine ogP0 rfl rfl rfl (fun hg => ?_) (fun hg => ?_)
                  all_goals try simp only [s1, s2, s3, s4, s5, s6, s7, s8, s9, s10, s11, s12] at hg
                  all_goals try (exfalso; first | omega | exact absurd trivial hg | (simp at hg; done); done)
                  all_goals first | (refine oM rfl rfl ?_) | skip
                  all_goals first | refine oT rfl rfl ?_ | refine o1 rfl rfl rfl ?_ | refine o0 rfl rfl rfl ?_ | refine ogP1 rfl rfl rfl (fun hg => ?_) (fun hg => ?_) | refine ogP0 rfl rfl rfl (fun hg => ?_) (fun hg => ?_)
                  all_goals try simp only [s1, s2, s3, s4, s5, s6, s7, s8, s9, s10, s11, s12] at hg
                  all_goals try (exfalso; first | omega | exact absurd trivial hg | (simp at hg; done); done)
                  all_goals first | refine oQ (Is0 rfl rfl rfl rfl rfl rfl) rfl rfl ?_ | refine oQ (Is1 rfl rfl rfl rfl rfl rfl) rfl rfl ?_ | skip
                  all_goals first | refine oT rfl rfl ?_ | refine o1 rfl rfl rfl ?_ | refine o0 rfl rfl rfl ?_ | refine ogP1 rfl rfl rfl (fun hg => ?_) (fun hg => ?_) | refine ogP0 rfl rfl rfl (fun hg => ?_) (fun hg => ?_)
                  all_goals try simp only [s1, s2, s3, s4, s5, s6, s7, s8, s9, s10, s11, s12] at hg
                  all_goals try (exfalso; first | omega | exact absurd trivial hg | (simp at hg; done); done)
                  all_goals first | (refine oQ (Q_ldv rfl rfl rfl rfl rfl rfl) rfl rfl ?_) | skip
                  all_goals first | refine oT rfl rfl ?_ | refine o1 rfl rfl rfl ?_ | refine o0 rfl rfl rfl ?_ | refine ogP1 rfl rfl rfl (fun hg => ?_) (fun hg => ?_) | refine ogP0 rfl rfl rfl (fun hg => ?_) (fun hg => ?_)
                  all_goals try simp only [s1, s2, s3, s4, s5, s6, s7, s8, s9, s10, s11, s12] at hg
                  all_goals try (exfalso; first | omega | exact absurd trivial hg | (simp at hg; done); done)
                  all_goals first | (refine oM rfl rfl ?_) | skip
                  all_goals first | refine oT rfl rfl ?_ | refine o1 rfl rfl rfl ?_ | refine o0 rfl rfl rfl ?_ | refine ogP1 rfl rfl rfl (fun hg => ?_) (fun hg => ?_) | refine ogP0 rfl rfl rfl (fun hg => ?_) (fun hg => ?_)
                  all_goals try simp only [s1, s2, s3, s4, s5, s6, s7, s8, s9, s10, s11, s12] at hg
                  all_goals try (exfalso; first | omega | exact absurd trivial hg | (simp at hg; done); done)
                  all_goals first | refine oQ (Is0 rfl rfl rfl rfl rfl rfl) rfl rfl ?_ | refine oQ (Is1 rfl rfl rfl rfl rfl rfl) rfl rfl ?_ | skip
                  all_goals first | refine oT rfl rfl ?_ | refine o1 rfl rfl rfl ?_ | refine o0 rfl rfl rfl ?_ | refine ogP1 rfl rfl rfl (fun hg => ?_) (fun hg => ?_) | refine ogP0 rfl rfl rfl (fun hg => ?_) (fun hg => ?_)
                  all_goals try simp only [s1, s2, s3, s4, s5, s6, s7, s8, s9, s10, s11, s12] at hg
                  all_goals try (exfalso; first | omega | exact absurd trivial hg | (simp at hg; done); done)
                  all_goals first | refine oQ (Q_ldc rfl rfl rfl rfl rfl) rfl rfl ?_ | refine oQ (Ld rfl rfl rfl rfl) rfl rfl ?_ | skip
                  all_goals first | refine oT rfl rfl ?_ | refine o1 rfl rfl rfl ?_ | refine o0 rfl rfl rfl ?_ | refine ogP1 rfl rfl rfl (fun hg => ?_) (fun hg => ?_) | refine ogP0 rfl rfl rfl (fun hg => ?_) (fun hg => ?_)
                  all_goals try simp only [s1, s2, s3, s4, s5, s6, s7, s8, s9, s10, s11, s12] at hg
                  all_goals try (exfalso; first | omega | exact absurd trivial hg | (simp at hg; done); done)
                  all_goals first | (refine oQ (Q_bin rfl rfl rfl) rfl rfl ?_) | skip
                  all_goals first | refine oQ (Q_pick_t rfl (by with_reducible rfl) rfl rfl) rfl rfl ?_ | refine oQ (Q_pick_f rfl (by with_reducible rfl) rfl rfl) rfl rfl ?_
                  all_goals refine oN ?_
                  all_goals (
                   first | refine cT rfl ?_ | refine cF rfl ?_ | refine CW_cond rfl (fun hc => ?_) (fun hc => ?_)
                   all_goals try simp only [s1, s2, s3, s4, s5, s6, s7, s8, s9, s10, s11, s12] at hc
                   all_goals try (exfalso; first | omega | (simp at hc; done); done)
                   all_goals first
                     | (
                      refine CW_skip ?_)
                     | (
                      refine CW_exit ?_))
                  all_goals first
                    | with_reducible refine tR ?_
                    | with_reducible refine tE ?_
                    | (
                     with_reducible refine tN ?_
                     refine CW_block ?_
                     refine CW_region ?_
                     refine oM rfl rfl ?_
                     first | refine oQ (Q_binu rfl rfl rfl (by omega)) rfl rfl ?_ | refine oQ (Q_bin rfl rfl rfl) rfl rfl ?_
                     refine oA rfl rfl ?_
                     refine OW_nil ?_
                     all_goals first | with_reducible refine bN ?_ | with_reducible refine bE ?_ | with_reducible refine bR ?_ | refine bX rfl ?_)
                  all_goals first
                    | with_reducible refine tR ?_
                    | with_reducible refine tE ?_
                    | (
                     with_reducible refine tN ?_
                     refine RW_succ ?_
                     refine CW_seq ?_
                     refine cR ?_
                     iterate 2 refine oM rfl rfl ?_
                     first | refine oQ (Q_len rfl rfl rfl rfl) rfl rfl ?_ | refine oQ (Q_len0 rfl rfl rfl rfl) rfl rfl ?_
                     refine oQ (Q_bin rfl rfl rfl) rfl rfl ?_
                     refine oM rfl rfl ?_
                     all_goals first | refine oT rfl rfl ?_ | refine o1 rfl rfl rfl ?_ | refine o0 rfl rfl rfl ?_ | refine ogP1 rfl rfl rfl (fun hg => ?_) (fun hg => ?_) | refine ogP0 rfl rfl rfl (fun hg => ?_) (fun hg => ?_)
                     all_goals try simp only [s1, s2, s3, s4, s5, s6, s7, s8, s9, s10, s11, s12] at hg
                     all_goals try (exfalso; first | omega | exact absurd trivial hg | (simp at hg; done); done)
                     all_goals first | (refine oM rfl rfl ?_) | skip
                     all_goals first | refine oT rfl rfl ?_ | refine o1 rfl rfl rfl ?_ | refine o0 rfl rfl rfl ?_ | refine ogP1 rfl rfl rfl (fun hg => ?_) (fun hg => ?_) | refine ogP0 rfl rfl rfl (fun hg => ?_) (fun hg => ?_)
                     all_goals try simp only [s1, s2, s3, s4, s5, s6, s7, s8, s9, s10, s11, s12] at hg
                     all_goals try (exfalso; first | omega | exact absurd trivial hg | (simp at hg; done); done)
                     all_goals first | (refine oM rfl rfl ?_) | skip
                     all_goals first | refine oT rfl rfl ?_ | refine o1 rfl rfl rfl ?_ | refine o0 rfl rfl rfl ?_ | refine ogP1 rfl rfl rfl (fun hg => ?_) (fun hg => ?_) | refine ogP0 rfl rfl rfl (fun hg => ?_) (fun hg => ?_)
                     all_goals try simp only [s1, s2, s3, s4, s5, s6, s7, s8, s9, s10, s11, s12] at hg
                     all_goals try (exfalso; first | omega | exact absurd trivial hg | (simp at hg; done); done)
                     all_goals first | refine oQ (Is0 rfl rfl rfl rfl rfl rfl) rfl rfl ?_ | refine oQ (Is1 rfl rfl rfl rfl rfl rfl) rfl rfl ?_ | skip
                     all_goals first | refine oT rfl rfl ?_ | refine o1 rfl rfl rfl ?_ | refine o0 rfl rfl rfl ?_ | refine ogP1 rfl rfl rfl (fun hg => ?_) (fun hg => ?_) | refine ogP0 rfl rfl rfl (fun hg => ?_) (fun hg => ?_)
                     all_goals try simp only [s1, s2, s3, s4, s5, s6, s7, s8, s9, s10, s11, s12] at hg
                     all_goals try (exfalso; first | omega | exact absurd trivial hg | (simp at hg; done); done)
                     all_goals first | (refine oQ (Q_ldv rfl rfl rfl rfl rfl rfl) rfl rfl ?_) | skip
                     all_goals first | refine oT rfl rfl ?_ | refine o1 rfl rfl rfl ?_ | refine o0 rfl rfl rfl ?_ | refine ogP1 rfl rfl rfl (fun hg => ?_) (fun hg => ?_) | refine ogP0 rfl rfl rfl (fun hg => ?_) (fun hg => ?_)
                     all_goals try simp only [s1, s2, s3, s4, s5, s6, s7, s8, s9, s10, s11, s12] at hg
                     all_goals try (exfalso; first | omega | exact absurd trivial hg | (simp at hg; done); done)
                     all_goals first | (refine oM rfl rfl ?_) | skip
                     all_goals first | refine oT rfl rfl ?_ | refine o1 rfl rfl rfl ?_ | refine o0 rfl rfl rfl ?_ | refine ogP1 rfl rfl rfl (fun hg => ?_) (fun hg => ?_) | refine ogP0 rfl rfl rfl (fun hg => ?_) (fun hg => ?_)
                     all_goals try simp only [s1, s2, s3, s4, s5, s6, s7, s8, s9, s10, s11, s12] at hg
                     all_goals try (exfalso; first | omega | exact absurd trivial hg | (simp at hg; done); done)
                     all_goals first | refine oQ (Is0 rfl rfl rfl rfl rfl rfl) rfl rfl ?_ | refine oQ (Is1 rfl rfl rfl rfl rfl rfl) rfl rfl ?_ | skip
                     all_goals first | refine oT rfl rfl ?_ | refine o1 rfl rfl rfl ?_ | refine o0 rfl rfl rfl ?_ | refine ogP1 rfl rfl rfl (fun hg => ?_) (fun hg => ?_) | refine ogP0 rfl rfl rfl (fun hg => ?_) (fun hg => ?_)
                     all_goals try simp only [s1, s2, s3, s4, s5, s6, s7, s8, s9, s10, s11, s12] at hg
                     all_goals try (exfalso; first | omega | exact absurd trivial hg | (simp at hg; done); done)
                     all_goals first | refine oQ (Q_ldc rfl rfl rfl rfl rfl) rfl rfl ?_ | refine oQ (Ld rfl rfl rfl rfl) rfl rfl ?_ | skip
                     all_goals first | refine oT rfl rfl ?_ | refine o1 rfl rfl rfl ?_ | refine o0 rfl rfl rfl ?_ | refine ogP1 rfl rfl rfl (fun hg => ?_) (fun hg => ?_) | refine ogP0 rfl rfl rfl (fun hg => ?_) (fun hg => ?_)
                     all_goals try simp only [s1, s2, s3, s4, s5, s6, s7, s8, s9, s10, s11, s12] at hg
                     all_goals try (exfalso; first | omega | exact absurd trivial hg | (simp at hg; done); done)
                     all_goals first | (refine oQ (Q_bin rfl rfl rfl) rfl rfl ?_) | skip
                     all_goals first | refine oQ (Q_pick_t rfl (by with_reducible rfl) rfl rfl) rfl rfl ?_ | refine oQ (Q_pick_f rfl (by with_reducible rfl) rfl rfl) rfl rfl ?_
                     all_goals refine oN ?_
                     all_goals (
                      first | refine cT rfl ?_ | refine cF rfl ?_ | refine CW_cond rfl (fun hc => ?_) (fun hc => ?_)
                      all_goals try simp only [s1, s2, s3, s4, s5, s6, s7, s8, s9, s10, s11, s12] at hc
                      all_goals try (exfalso; first | omega | (simp at hc; done); done)
                      all_goals first
                        | (
                         refine CW_skip ?_)
                        | (
                         refine CW_exit ?_))
                     all_goals first
                       | with_reducible refine tR ?_
                       | with_reducible refine tE ?_
                       | (
                        with_reducible refine tN ?_
                        refine CW_block ?_
                        refine CW_region ?_
                        refine oM rfl rfl ?_
                        first | refine oQ (Q_binu rfl rfl rfl (by omega)) rfl rfl ?_ | refine oQ (Q_bin rfl rfl rfl) rfl rfl ?_
                        refine oA rfl rfl ?_
                        refine OW_nil ?_
                        all_goals first | with_reducible refine bN ?_ | with_reducible refine bE ?_ | with_reducible refine bR ?_ | refine bX rfl ?_)
                     all_goals first
                       | with_reducible refine tR ?_
                       | with_reducible refine tE ?_
                       | (
                        with_reducible refine tN ?_
                        exfalso; first | omega | (simp at hc; done) | (simp_all; done))))))
         all_goals first | with_reducible refine bN ?_ | with_reducible refine bE ?_ | with_reducible refine bR ?_ | refine bX rfl ?_
         all_goals with_reducible refine tN ?_
         all_goals (
          first
            | (
             refine ⟨0, ?_, View.mk' [] rfl (by simp only [wfB, List.all_cons, List.all_nil, ids_bots]; rfl) rfl ?_ ?_⟩
             · refine ⟨by omega, by omega, hcw, fun z hz1 hz2 => ?_, fun hz => ?_⟩
               · (have e : z = 0 ∨ z = 1 ∨ z = 2 := by omega); rcases e with rfl | rfl | rfl <;> first | (exfalso; omega) | (first | (rw [← g0]; assumption) | (rw [← g1]; assumption) | (rw [← g2]; assumption))
               · first | (exfalso; omega) | (first | (rw [← g0]; assumption) | (rw [← g1]; assumption) | (rw [← g2]; assumption))
             all_goals (repeat' first | exact vFn | refine vFc rfl ?_ | exact vHn | refine vHc rfl ?_ | refine vFc (congrArg (fun z => some (V.int z)) ?_) ?_ | refine vHc (congrArg (fun z => some (Blk.ints _ z)) ?_) ?_ | refine vFc (congrArg (fun z => some (V.bool z)) ?_) ?_ | refine vFs rfl rfl ?_ ?_ | refine vHc (by rw [ren_bots]; rfl) ?_)
             all_goals omega
             done)
            | (
             refine ⟨1, ?_, View.mk' [] rfl (by simp only [wfB, List.all_cons, List.all_nil, ids_bots]; rfl) rfl ?_ ?_⟩
             · refine ⟨by omega, by omega, hcw, fun z hz1 hz2 => ?_, fun hz => ?_⟩
               · (have e : z = 0 ∨ z = 1 ∨ z = 2 := by omega); rcases e with rfl | rfl | rfl <;> first | (exfalso; omega) | (first | (rw [← g0]; assumption) | (rw [← g1]; assumption) | (rw [← g2]; assumption))
               · first | (exfalso; omega) | (first | (rw [← g0]; assumption) | (rw [← g1]; assumption) | (rw [← g2]; assumption))
             all_goals (repeat' first | exact vFn | refine vFc rfl ?_ | exact vHn | refine vHc rfl ?_ | refine vFc (congrArg (fun z => some (V.int z)) ?_) ?_ | refine vHc (congrArg (fun z => some (Blk.ints _ z)) ?_) ?_ | refine vFc (congrArg (fun z => some (V.bool z)) ?_) ?_ | refine vFs rfl rfl ?_ ?_ | refine vHc (by rw [ren_bots]; rfl) ?_)
             all_goals omega
             done)
            | (
             refine ⟨2, ?_, View.mk' [] rfl (by simp only [wfB, List.all_cons, List.all_nil, ids_bots]; rfl) rfl ?_ ?_⟩
             · refine ⟨by omega, by omega, hcw, fun z hz1 hz2 => ?_, fun hz => ?_⟩
               · (have e : z = 0 ∨ z = 1 ∨ z = 2 := by omega); rcases e with rfl | rfl | rfl <;> first | (exfalso; omega) | (first | (rw [← g0]; assumption) | (rw [← g1]; assumption) | (rw [← g2]; assumption))
               · first | (exfalso; omega) | (first | (rw [← g0]; assumption) | (rw [← g1]; assumption) | (rw [← g2]; assumption))
             all_goals (repeat' first | exact vFn | refine vFc rfl ?_ | exact vHn | refine vHc rfl ?_ | refine vFc (congrArg (fun z => some (V.int z)) ?_) ?_ | refine vHc (congrArg (fun z => some (Blk.ints _ z)) ?_) ?_ | refine vFc (congrArg (fun z => some (V.bool z)) ?_) ?_ | refine vFs rfl rfl ?_ ?_ | refine vHc (by rw [ren_bots]; rfl) ?_)
             all_goals omega
             done)
            | (
             refine ⟨3, ?_, View.mk' [] rfl (by simp only [wfB, List.all_cons, List.all_nil, ids_bots]; rfl) rfl ?_ ?_⟩
             · refine ⟨by omega, by omega, hcw, fun z hz1 hz2 => ?_, fun hz => ?_⟩
               · (have e : z = 0 ∨ z = 1 ∨ z = 2 := by omega); rcases e with rfl | rfl | rfl <;> first | (exfalso; omega) | (first | (rw [← g0]; assumption) | (rw [← g1]; assumption) | (rw [← g2]; assumption))
               · first | (exfalso; omega) | (first | (rw [← g0]; assumption) | (rw [← g1]; assumption) | (rw [← g2]; assumption))
             all_goals (repeat' first | exact vFn | refine vFc rfl ?_ | exact vHn | refine vHc rfl ?_ | refine vFc (congrArg (fun z => some (V.int z)) ?_) ?_ | refine vHc (congrArg (fun z => some (Blk.ints _ z)) ?_) ?_ | refine vFc (congrArg (fun z => some (V.bool z)) ?_) ?_ | refine vFs rfl rfl ?_ ?_ | refine vHc (by rw [ren_bots]; rfl) ?_)
             all_goals omega
             done))))
       rintro i ⟨hi1, hi2, hcw, hi3, hi4⟩
       try dsimp only
       rw [hN] at hi1 hi3 ⊢
       refine CW_seq ?_
       refine cR ?_
       iterate 2 refine oM rfl rfl ?_
       first | refine oQ (Q_len rfl rfl rfl rfl) rfl rfl ?_ | refine oQ (Q_len0 rfl rfl rfl rfl) rfl rfl ?_
       refine oQ (Q_bin rfl rfl rfl) rfl rfl ?_
       refine oN ?_
       first | refine cT rfl ?_ | refine cF rfl ?_ | refine CW_cond rfl (fun hc => ?_) (fun hc => ?_)
       all_goals try simp only [s1, s2, s3, s4, s5, s6, s7, s8, s9, s10, s11, s12] at hc
       all_goals try (exfalso; first | omega | (simp at hc; done); done)
       all_goals first
         | (
          refine CW_exit ?_)
         | (
          refine CW_skip ?_)
       all_goals first
         | with_reducible refine tR ?_
         | with_reducible refine tE ?_
         | (
          with_reducible refine tN ?_
          refine CW_cut (ι := RS) (fun x => rdB p x.A 3 3 ∧ RedI p (fun i => (M.drop (i * 3)).take 3) 3 3 (rw3 p x.A N2 c 3 3) (N2 + 1) (c + 1)) (fun x => ⟨[(0, .int p), (5, .slice 5 0 3 kO), (8, .int (N2 : Int)), (9, .int c)], [(0, .vals 103 [.slice 1 0 3 c0, .slice 1 3 3 c1, .slice 1 6 3 c2]), (1, .ints t M), (2, .ints 2 ((x.A 0) ++ (x.S 0))), (3, .ints 2 ((x.A 1) ++ (x.S 1))), (4, .ints 2 ((x.A 2) ++ (x.S 2))), (5, .vals 103 ([.slice 2 0 3 (x.K 0), .slice 3 0 3 (x.K 1), .slice 4 0 3 (x.K 2)] ++ List.replicate (kO - 3) .bot))], 6⟩) ?_ ?_
          · (
           have hii : i = 0 ∨ i = 1 ∨ i = 2 := by omega
           have hi0 : (A i).getD c 0 ≠ 0 := hi4 (by omega)
           rw [hN2]
           obtain ⟨i2, hi22⟩ : ∃ z, z = i := ⟨i, rfl⟩
           rcases hii with rfl | rfl | rfl
           all_goals try (exfalso; omega; done)
           all_goals (
            refine CW_any (fun i => List.elem i [13, 14, 15]) 16 rfl lateOk (by decide +kernel) (fun hst => ?_)
            refine aP 0 hst rfl rfl (by decide +kernel) (PX_move rfl rfl) rfl rfl ?_
            refine aP 1 hst rfl rfl (by decide +kernel) (PX_move rfl rfl) rfl rfl ?_
            refine aP 2 hst rfl rfl (by decide +kernel) (PX_move rfl rfl) rfl rfl ?_
            refine aP 3 hst rfl rfl (by decide +kernel) (PX_move rfl rfl) rfl rfl ?_
            refine aP 4 hst rfl rfl (by decide +kernel) (PX_move rfl rfl) rfl rfl ?_
            refine aP 5 hst rfl rfl (by decide +kernel) (PX_move rfl rfl) rfl rfl ?_
            first | refine aQ 6 hst rfl rfl (by decide +kernel) (QX_of (Is0 rfl rfl rfl rfl rfl rfl) NE_ix) rfl rfl ?_ | refine aQ 6 hst rfl rfl (by decide +kernel) (QX_of (Is1 rfl rfl rfl rfl rfl rfl) NE_ix) rfl rfl ?_
            refine aQ 7 hst rfl rfl (by decide +kernel) (QX_of (Q_ldv rfl rfl rfl rfl rfl rfl) NE_load) rfl rfl ?_
            refine aP 8 hst rfl rfl (by decide +kernel) (PX_move rfl rfl) rfl rfl ?_
            refine aP 9 hst rfl rfl (by decide +kernel) (PX_move rfl rfl) rfl rfl ?_
            first | refine aQ 10 hst rfl rfl (by decide +kernel) (QX_of (Is0 rfl rfl rfl rfl rfl rfl) NE_ix) rfl rfl ?_ | refine aQ 10 hst rfl rfl (by decide +kernel) (QX_of (Is1 rfl rfl rfl rfl rfl rfl) NE_ix) rfl rfl ?_
            refine aQ 11 hst rfl rfl (by decide +kernel) (QX_of (Q_ldv rfl rfl rfl rfl rfl rfl) NE_load) rfl rfl ?_
            first | refine aQ 12 hst rfl rfl (by decide +kernel) (QX_of (Is0 rfl rfl rfl rfl rfl rfl) NE_ix) rfl rfl ?_ | refine aQ 12 hst rfl rfl (by decide +kernel) (QX_of (Is1 rfl rfl rfl rfl rfl rfl) NE_ix) rfl rfl ?_
            refine AW_last [13, 14, 15] rfl (by decide +kernel) rfl ?_
            first | refine oStvB rfl rfl rfl rfl rfl rfl rfl (by first | omega | (dsimp only; omega) | (simp; omega) | (simp; done)) rfl rfl ?_ | refine oStv rfl rfl rfl rfl rfl rfl rfl (by first | omega | (dsimp only; omega) | (simp; omega) | (simp; done)) rfl rfl ?_
            first | refine oQ (Is0 rfl rfl rfl rfl rfl rfl) rfl rfl ?_ | refine oQ (Is1 rfl rfl rfl rfl rfl rfl) rfl rfl ?_
            first | refine oStvB rfl rfl rfl rfl rfl rfl rfl (by first | omega | (dsimp only; omega) | (simp; omega) | (simp; done)) rfl rfl ?_ | refine oStv rfl rfl rfl rfl rfl rfl rfl (by first | omega | (dsimp only; omega) | (simp; omega) | (simp; done)) rfl rfl ?_
            refine OW_nil (npN ?_)
            all_goals with_reducible refine tN ?_
            all_goals (
             first
               | (
                refine ⟨⟨0, c, fun j => match j with | 0 => A 0 | 1 => A 1 | _ => A 2, fun j => match j with | 0 => K 0 | 1 => K 1 | _ => K 2, fun j => match j with | 0 => S 0 | 1 => S 1 | _ => S 2⟩, ?_, View.mk' [] rfl (by simp only [wfB, List.all_cons, List.all_nil, ids_bots]; rfl) rfl ?_ ?_⟩
                · refine ⟨fun z hz => ?_, ?_⟩
                  · (have e : z = 0 ∨ z = 1 ∨ z = 2 := by omega); rcases e with rfl | rfl | rfl <;> first | exact hA 0 (by omega) | exact hA 1 (by omega) | exact hA 2 (by omega)
                  · refine rd_step hp hR hA hi1 (by omega) hcw hi0 rfl (fun z hz hne => ?_)
                    (have e : z = 0 ∨ z = 1 ∨ z = 2 := by omega); rcases e with rfl | rfl | rfl <;> first | rfl | (exact absurd rfl hne)
                all_goals (repeat' first | exact vFn | refine vFc rfl ?_ | exact vHn | refine vHc rfl ?_ | refine vFc (congrArg (fun z => some (V.int z)) ?_) ?_ | refine vHc (congrArg (fun z => some (Blk.ints _ z)) ?_) ?_ | refine vFc (congrArg (fun z => some (V.bool z)) ?_) ?_ | refine vFs rfl rfl ?_ ?_ | refine vHc (by rw [ren_bots]; rfl) ?_)
                all_goals omega
                done)
               | (
                refine ⟨⟨0, c, fun j => match j with | 0 => A 1 | 1 => A 0 | _ => A 2, fun j => match j with | 0 => K 1 | 1 => K 0 | _ => K 2, fun j => match j with | 0 => S 1 | 1 => S 0 | _ => S 2⟩, ?_, View.mk' [] rfl (by simp only [wfB, List.all_cons, List.all_nil, ids_bots]; rfl) rfl ?_ ?_⟩
                · refine ⟨fun z hz => ?_, ?_⟩
                  · (have e : z = 0 ∨ z = 1 ∨ z = 2 := by omega); rcases e with rfl | rfl | rfl <;> first | exact hA 0 (by omega) | exact hA 1 (by omega) | exact hA 2 (by omega)
                  · refine rd_step hp hR hA hi1 (by omega) hcw hi0 rfl (fun z hz hne => ?_)
                    (have e : z = 0 ∨ z = 1 ∨ z = 2 := by omega); rcases e with rfl | rfl | rfl <;> first | rfl | (exact absurd rfl hne)
                all_goals (repeat' first | exact vFn | refine vFc rfl ?_ | exact vHn | refine vHc rfl ?_ | refine vFc (congrArg (fun z => some (V.int z)) ?_) ?_ | refine vHc (congrArg (fun z => some (Blk.ints _ z)) ?_) ?_ | refine vFc (congrArg (fun z => some (V.bool z)) ?_) ?_ | refine vFs rfl rfl ?_ ?_ | refine vHc (by rw [ren_bots]; rfl) ?_)
                all_goals omega
                done)
               | (
                refine ⟨⟨0, c, fun j => match j with | 0 => A 2 | 1 => A 1 | _ => A 0, fun j => match j with | 0 => K 2 | 1 => K 1 | _ => K 0, fun j => match j with | 0 => S 2 | 1 => S 1 | _ => S 0⟩, ?_, View.mk' [] rfl (by simp only [wfB, List.all_cons, List.all_nil, ids_bots]; rfl) rfl ?_ ?_⟩
                · refine ⟨fun z hz => ?_, ?_⟩
                  · (have e : z = 0 ∨ z = 1 ∨ z = 2 := by omega); rcases e with rfl | rfl | rfl <;> first | exact hA 0 (by omega) | exact hA 1 (by omega) | exact hA 2 (by omega)
                  · refine rd_step hp hR hA hi1 (by omega) hcw hi0 rfl (fun z hz hne => ?_)
                    (have e : z = 0 ∨ z = 1 ∨ z = 2 := by omega); rcases e with rfl | rfl | rfl <;> first | rfl | (exact absurd rfl hne)
                all_goals (repeat' first | exact vFn | refine vFc rfl ?_ | exact vHn | refine vHc rfl ?_ | refine vFc (congrArg (fun z => some (V.int z)) ?_) ?_ | refine vHc (congrArg (fun z => some (Blk.ints _ z)) ?_) ?_ | refine vFc (congrArg (fun z => some (V.bool z)) ?_) ?_ | refine vFs rfl rfl ?_ ?_ | refine vHc (by rw [ren_bots]; rfl) ?_)
                all_goals omega
                done)
               | (
                refine ⟨⟨0, c, fun j => match j with | 0 => A 0 | 1 => A 2 | _ => A 1, fun j => match j with | 0 => K 0 | 1 => K 2 | _ => K 1, fun j => match j with | 0 => S 0 | 1 => S 2 | _ => S 1⟩, ?_, View.mk' [] rfl (by simp only [wfB, List.all_cons, List.all_nil, ids_bots]; rfl) rfl ?_ ?_⟩
                · refine ⟨fun z hz => ?_, ?_⟩
                  · (have e : z = 0 ∨ z = 1 ∨ z = 2 := by omega); rcases e with rfl | rfl | rfl <;> first | exact hA 0 (by omega) | exact hA 1 (by omega) | exact hA 2 (by omega)
                  · refine rd_step hp hR hA hi1 (by omega) hcw hi0 rfl (fun z hz hne => ?_)
                    (have e : z = 0 ∨ z = 1 ∨ z = 2 := by omega); rcases e with rfl | rfl | rfl <;> first | rfl | (exact absurd rfl hne)
                all_goals (repeat' first | exact vFn | refine vFc rfl ?_ | exact vHn | refine vHc rfl ?_ | refine vFc (congrArg (fun z => some (V.int z)) ?_) ?_ | refine vHc (congrArg (fun z => some (Blk.ints _ z)) ?_) ?_ | refine vFc (congrArg (fun z => some (V.bool z)) ?_) ?_ | refine vFs rfl rfl ?_ ?_ | refine vHc (by rw [ren_bots]; rfl) ?_)
                all_goals omega
                done)
               | (
                refine ⟨⟨0, c, fun j => match j with | 0 => A 0 | 1 => A 1 | _ => A 2, fun j => match j with | 0 => K 0 | 1 => K 1 | _ => K 2, fun j => match j with | 0 => S 0 | 1 => S 1 | _ => S 2⟩, ?_, View.mk' [(2, 3), (3, 2)] rfl (by simp only [wfB, List.all_cons, List.all_nil, ids_bots]; rfl) rfl ?_ ?_⟩
                · refine ⟨fun z hz => ?_, ?_⟩
                  · (have e : z = 0 ∨ z = 1 ∨ z = 2 := by omega); rcases e with rfl | rfl | rfl <;> first | exact hA 0 (by omega) | exact hA 1 (by omega) | exact hA 2 (by omega)
                  · refine rd_step hp hR hA hi1 (by omega) hcw hi0 rfl (fun z hz hne => ?_)
                    (have e : z = 0 ∨ z = 1 ∨ z = 2 := by omega); rcases e with rfl | rfl | rfl <;> first | rfl | (exact absurd rfl hne)
                all_goals (repeat' first | exact vFn | refine vFc rfl ?_ | exact vHn | refine vHc rfl ?_ | refine vFc (congrArg (fun z => some (V.int z)) ?_) ?_ | refine vHc (congrArg (fun z => some (Blk.ints _ z)) ?_) ?_ | refine vFc (congrArg (fun z => some (V.bool z)) ?_) ?_ | refine vFs rfl rfl ?_ ?_ | refine vHc (by rw [ren_bots]; rfl) ?_)
                all_goals omega
                done)
               | (
                refine ⟨⟨0, c, fun j => match j with | 0 => A 1 | 1 => A 0 | _ => A 2, fun j => match j with | 0 => K 1 | 1 => K 0 | _ => K 2, fun j => match j with | 0 => S 1 | 1 => S 0 | _ => S 2⟩, ?_, View.mk' [(2, 3), (3, 2)] rfl (by simp only [wfB, List.all_cons, List.all_nil, ids_bots]; rfl) rfl ?_ ?_⟩
                · refine ⟨fun z hz => ?_, ?_⟩
                  · (have e : z = 0 ∨ z = 1 ∨ z = 2 := by omega); rcases e with rfl | rfl | rfl <;> first | exact hA 0 (by omega) | exact hA 1 (by omega) | exact hA 2 (by omega)
                  · refine rd_step hp hR hA hi1 (by omega) hcw hi0 rfl (fun z hz hne => ?_)
                    (have e : z = 0 ∨ z = 1 ∨ z = 2 := by omega); rcases e with rfl | rfl | rfl <;> first | rfl | (exact absurd rfl hne)
                all_goals (repeat' first | exact vFn | refine vFc rfl ?_ | exact vHn | refine vHc rfl ?_ | refine vFc (congrArg (fun z => some (V.int z)) ?_) ?_ | refine vHc (congrArg (fun z => some (Blk.ints _ z)) ?_) ?_ | refine vFc (congrArg (fun z => some (V.bool z)) ?_) ?_ | refine vFs rfl rfl ?_ ?_ | refine vHc (by rw [ren_bots]; rfl) ?_)
                all_goals omega
                done)
               | (
                refine ⟨⟨0, c, fun j => match j with | 0 => A 2 | 1 => A 1 | _ => A 0, fun j => match j with | 0 => K 2 | 1 => K 1 | _ => K 0, fun j => match j with | 0 => S 2 | 1 => S 1 | _ => S 0⟩, ?_, View.mk' [(2, 3), (3, 2)] rfl (by simp only [wfB, List.all_cons, List.all_nil, ids_bots]; rfl) rfl ?_ ?_⟩
                · refine ⟨fun z hz => ?_, ?_⟩
                  · (have e : z = 0 ∨ z = 1 ∨ z = 2 := by omega); rcases e with rfl | rfl | rfl <;> first | exact hA 0 (by omega) | exact hA 1 (by omega) | exact hA 2 (by omega)
                  · refine rd_step hp hR hA hi1 (by omega) hcw hi0 rfl (fun z hz hne => ?_)
                    (have e : z = 0 ∨ z = 1 ∨ z = 2 := by omega); rcases e with rfl | rfl | rfl <;> first | rfl | (exact absurd rfl hne)
                all_goals (repeat' first | exact vFn | refine vFc rfl ?_ | exact vHn | refine vHc rfl ?_ | refine vFc (congrArg (fun z => some (V.int z)) ?_) ?_ | refine vHc (congrArg (fun z => some (Blk.ints _ z)) ?_) ?_ | refine vFc (congrArg (fun z => some (V.bool z)) ?_) ?_ | refine vFs rfl rfl ?_ ?_ | refine vHc (by rw [ren_bots]; rfl) ?_)
                all_goals omega
                done)
               | (
                refine ⟨⟨0, c, fun j => match j with | 0 => A 0 | 1 => A 2 | _ => A 1, fun j => match j with | 0 => K 0 | 1 => K 2 | _ => K 1, fun j => match j with | 0 => S 0 | 1 => S 2 | _ => S 1⟩, ?_, View.mk' [(2, 3), (3, 2)] rfl (by simp only [wfB, List.all_cons, List.all_nil, ids_bots]; rfl) rfl ?_ ?_⟩
                · refine ⟨fun z hz => ?_, ?_⟩
                  · (have e : z = 0 ∨ z = 1 ∨ z = 2 := by omega); rcases e with rfl | rfl | rfl <;> first | exact hA 0 (by omega) | exact hA 1 (by omega) | exact hA 2 (by omega)
                  · refine rd_step hp hR hA hi1 (by omega) hcw hi0 rfl (fun z hz hne => ?_)
                    (have e : z = 0 ∨ z = 1 ∨ z = 2 := by omega); rcases e with rfl | rfl | rfl <;> first | rfl | (exact absurd rfl hne)
                all_goals (repeat' first | exact vFn | refine vFc rfl ?_ | exact vHn | refine vHc rfl ?_ | refine vFc (congrArg (fun z => some (V.int z)) ?_) ?_ | refine vHc (congrArg (fun z => some (Blk.ints _ z)) ?_) ?_ | refine vFc (congrArg (fun z => some (V.bool z)) ?_) ?_ | refine vFs rfl rfl ?_ ?_ | refine vHc (by rw [ren_bots]; rfl) ?_)
                all_goals omega
                done)
               | (
                refine ⟨⟨0, c, fun j => match j with | 0 => A 0 | 1 => A 1 | _ => A 2, fun j => match j with | 0 => K 0 | 1 => K 1 | _ => K 2, fun j => match j with | 0 => S 0 | 1 => S 1 | _ => S 2⟩, ?_, View.mk' [(2, 4), (4, 2)] rfl (by simp only [wfB, List.all_cons, List.all_nil, ids_bots]; rfl) rfl ?_ ?_⟩
                · refine ⟨fun z hz => ?_, ?_⟩
                  · (have e : z = 0 ∨ z = 1 ∨ z = 2 := by omega); rcases e with rfl | rfl | rfl <;> first | exact hA 0 (by omega) | exact hA 1 (by omega) | exact hA 2 (by omega)
                  · refine rd_step hp hR hA hi1 (by omega) hcw hi0 rfl (fun z hz hne => ?_)
                    (have e : z = 0 ∨ z = 1 ∨ z = 2 := by omega); rcases e with rfl | rfl | rfl <;> first | rfl | (exact absurd rfl hne)
                all_goals (repeat' first | exact vFn | refine vFc rfl ?_ | exact vHn | refine vHc rfl ?_ | refine vFc (congrArg (fun z => some (V.int z)) ?_) ?_ | refine vHc (congrArg (fun z => some (Blk.ints _ z)) ?_) ?_ | refine vFc (congrArg (fun z => some (V.bool z)) ?_) ?_ | refine vFs rfl rfl ?_ ?_ | refine vHc (by rw [ren_bots]; rfl) ?_)
                all_goals omega
                done)
               | (
                refine ⟨⟨0, c, fun j => match j with | 0 => A 1 | 1 => A 0 | _ => A 2, fun j => match j with | 0 => K 1 | 1 => K 0 | _ => K 2, fun j => match j with | 0 => S 1 | 1 => S 0 | _ => S 2⟩, ?_, View.mk' [(2, 4), (4, 2)] rfl (by simp only [wfB, List.all_cons, List.all_nil, ids_bots]; rfl) rfl ?_ ?_⟩
                · refine ⟨fun z hz => ?_, ?_⟩
                  · (have e : z = 0 ∨ z = 1 ∨ z = 2 := by omega); rcases e with rfl | rfl | rfl <;> first | exact hA 0 (by omega) | exact hA 1 (by omega) | exact hA 2 (by omega)
                  · refine rd_step hp hR hA hi1 (by omega) hcw hi0 rfl (fun z hz hne => ?_)
                    (have e : z = 0 ∨ z = 1 ∨ z = 2 := by omega); rcases e with rfl | rfl | rfl <;> first | rfl | (exact absurd rfl hne)
                all_goals (repeat' first | exact vFn | refine vFc rfl ?_ | exact vHn | refine vHc rfl ?_ | refine vFc (congrArg (fun z => some (V.int z)) ?_) ?_ | refine vHc (congrArg (fun z => some (Blk.ints _ z)) ?_) ?_ | refine vFc (congrArg (fun z => some (V.bool z)) ?_) ?_ | refine vFs rfl rfl ?_ ?_ | refine vHc (by rw [ren_bots]; rfl) ?_)
                all_goals omega
                done)
               | (
                refine ⟨⟨0, c, fun j => match j with | 0 => A 2 | 1 => A 1 | _ => A 0, fun j => match j with | 0 => K 2 | 1 => K 1 | _ => K 0, fun j => match j with | 0 => S 2 | 1 => S 1 | _ => S 0⟩, ?_, View.mk' [(2, 4), (4, 2)] rfl (by simp only [wfB, List.all_cons, List.all_nil, ids_bots]; rfl) rfl ?_ ?_⟩
                · refine ⟨fun z hz => ?_, ?_⟩
                  · (have e : z = 0 ∨ z = 1 ∨ z = 2 := by omega); rcases e with rfl | rfl | rfl <;> first | exact hA 0 (by omega) | exact hA 1 (by omega) | exact hA 2 (by omega)
                  · refine rd_step hp hR hA hi1 (by omega) hcw hi0 rfl (fun z hz hne => ?_)
                    (have e : z = 0 ∨ z = 1 ∨ z = 2 := by omega); rcases e with rfl | rfl | rfl <;> first | rfl | (exact absurd rfl hne)
                all_goals (repeat' first | exact vFn | refine vFc rfl ?_ | exact vHn | refine vHc rfl ?_ | refine vFc (congrArg (fun z => some (V.int z)) ?_) ?_ | refine vHc (congrArg (fun z => some (Blk.ints _ z)) ?_) ?_ | refine vFc (congrArg (fun z => some (V.bool z)) ?_) ?_ | refine vFs rfl rfl ?_ ?_ | refine vHc (by rw [ren_bots]; rfl) ?_)
                all_goals omega
                done)
               | (
                refine ⟨⟨0, c, fun j => match j with | 0 => A 0 | 1 => A 2 | _ => A 1, fun j => match j with | 0 => K 0 | 1 => K 2 | _ => K 1, fun j => match j with | 0 => S 0 | 1 => S 2 | _ => S 1⟩, ?_, View.mk' [(2, 4), (4, 2)] rfl (by simp only [wfB, List.all_cons, List.all_nil, ids_bots]; rfl) rfl ?_ ?_⟩
                · refine ⟨fun z hz => ?_, ?_⟩
                  · (have e : z = 0 ∨ z = 1 ∨ z = 2 := by omega); rcases e with rfl | rfl | rfl <;> first | exact hA 0 (by omega) | exact hA 1 (by omega) | exact hA 2 (by omega)
                  · refine rd_step hp hR hA hi1 (by omega) hcw hi0 rfl (fun z hz hne => ?_)
                    (have e : z = 0 ∨ z = 1 ∨ z = 2 := by omega); rcases e with rfl | rfl | rfl <;> first | rfl | (exact absurd rfl hne)
                all_goals (repeat' first | exact vFn | refine vFc rfl ?_ | exact vHn | refine vHc rfl ?_ | refine vFc (congrArg (fun z => some (V.int z)) ?_) ?_ | refine vHc (congrArg (fun z => some (Blk.ints _ z)) ?_) ?_ | refine vFc (congrArg (fun z => some (V.bool z)) ?_) ?_ | refine vFs rfl rfl ?_ ?_ | refine vHc (by rw [ren_bots]; rfl) ?_)
                all_goals omega
                done)
               | (
                refine ⟨⟨0, c, fun j => match j with | 0 => A 0 | 1 => A 1 | _ => A 2, fun j => match j with | 0 => K 0 | 1 => K 1 | _ => K 2, fun j => match j with | 0 => S 0 | 1 => S 1 | _ => S 2⟩, ?_, View.mk' [(3, 4), (4, 3)] rfl (by simp only [wfB, List.all_cons, List.all_nil, ids_bots]; rfl) rfl ?_ ?_⟩
                · refine ⟨fun z hz => ?_, ?_⟩
                  · (have e : z = 0 ∨ z = 1 ∨ z = 2 := by omega); rcases e with rfl | rfl | rfl <;> first | exact hA 0 (by omega) | exact hA 1 (by omega) | exact hA 2 (by omega)
                  · refine rd_step hp hR hA hi1 (by omega) hcw hi0 rfl (fun z hz hne => ?_)
                    (have e : z = 0 ∨ z = 1 ∨ z = 2 := by omega); rcases e with rfl | rfl | rfl <;> first | rfl | (exact absurd rfl hne)
                all_goals (repeat' first | exact vFn | refine vFc rfl ?_ | exact vHn | refine vHc rfl ?_ | refine vFc (congrArg (fun z => some (V.int z)) ?_) ?_ | refine vHc (congrArg (fun z => some (Blk.ints _ z)) ?_) ?_ | refine vFc (congrArg (fun z => some (V.bool z)) ?_) ?_ | refine vFs rfl rfl ?_ ?_ | refine vHc (by rw [ren_bots]; rfl) ?_)
                all_goals omega
                done)
               | (
                refine ⟨⟨0, c, fun j => match j with | 0 => A 1 | 1 => A 0 | _ => A 2, fun j => match j with | 0 => K 1 | 1 => K 0 | _ => K 2, fun j => match j with | 0 => S 1 | 1 => S 0 | _ => S 2⟩, ?_, View.mk' [(3, 4), (4, 3)] rfl (by simp only [wfB, List.all_cons, List.all_nil, ids_bots]; rfl) rfl ?_ ?_⟩
                · refine ⟨fun z hz => ?_, ?_⟩
                  · (have e : z = 0 ∨ z = 1 ∨ z = 2 := by omega); rcases e with rfl | rfl | rfl <;> first | exact hA 0 (by omega) | exact hA 1 (by omega) | exact hA 2 (by omega)
                  · refine rd_step hp hR hA hi1 (by omega) hcw hi0 rfl (fun z hz hne => ?_)
                    (have e : z = 0 ∨ z = 1 ∨ z = 2 := by omega); rcases e with rfl | rfl | rfl <;> first | rfl | (exact absurd rfl hne)
                all_goals (repeat' first | exact vFn | refine vFc rfl ?_ | exact vHn | refine vHc rfl ?_ | refine vFc (congrArg (fun z => some (V.int z)) ?_) ?_ | refine vHc (congrArg (fun z => some (Blk.ints _ z)) ?_) ?_ | refine vFc (congrArg (fun z => some (V.bool z)) ?_) ?_ | refine vFs rfl rfl ?_ ?_ | refine vHc (by rw [ren_bots]; rfl) ?_)
                all_goals omega
                done)
               | (
                refine ⟨⟨0, c, fun j => match j with | 0 => A 2 | 1 => A 1 | _ => A 0, fun j => match j with | 0 => K 2 | 1 => K 1 | _ => K 0, fun j => match j with | 0 => S 2 | 1 => S 1 | _ => S 0⟩, ?_, View.mk' [(3, 4), (4, 3)] rfl (by simp only [wfB, List.all_cons, List.all_nil, ids_bots]; rfl) rfl ?_ ?_⟩
                · refine ⟨fun z hz => ?_, ?_⟩
                  · (have e : z = 0 ∨ z = 1 ∨ z = 2 := by omega); rcases e with rfl | rfl | rfl <;> first | exact hA 0 (by omega) | exact hA 1 (by omega) | exact hA 2 (by omega)
                  · refine rd_step hp hR hA hi1 (by omega) hcw hi0 rfl (fun z hz hne => ?_)
                    (have e : z = 0 ∨ z = 1 ∨ z = 2 := by omega); rcases e with rfl | rfl | rfl <;> first | rfl | (exact absurd rfl hne)
                all_goals (repeat' first | exact vFn | refine vFc rfl ?_ | exact vHn | refine vHc rfl ?_ | refine vFc (congrArg (fun z => some (V.int z)) ?_) ?_ | refine vHc (congrArg (fun z => some (Blk.ints _ z)) ?_) ?_ | refine vFc (congrArg (fun z => some (V.bool z)) ?_) ?_ | refine vFs rfl rfl ?_ ?_ | refine vHc (by rw [ren_bots]; rfl) ?_)
                all_goals omega
                done)
               | (
                refine ⟨⟨0, c, fun j => match j with | 0 => A 0 | 1 => A 2 | _ => A 1, fun j => match j with | 0 => K 0 | 1 => K 2 | _ => K 1, fun j => match j with | 0 => S 0 | 1 => S 2 | _ => S 1⟩, ?_, View.mk' [(3, 4), (4, 3)] rfl (by simp only [wfB, List.all_cons, List.all_nil, ids_bots]; rfl) rfl ?_ ?_⟩
                · refine ⟨fun z hz => ?_, ?_⟩
                  · (have e : z = 0 ∨ z = 1 ∨ z = 2 := by omega); rcases e with rfl | rfl | rfl <;> first | exact hA 0 (by omega) | exact hA 1 (by omega) | exact hA 2 (by omega)
                  · refine rd_step hp hR hA hi1 (by omega) hcw hi0 rfl (fun z hz hne => ?_)
                    (have e : z = 0 ∨ z = 1 ∨ z = 2 := by omega); rcases e with rfl | rfl | rfl <;> first | rfl | (exact absurd rfl hne)
                all_goals (repeat' first | exact vFn | refine vFc rfl ?_ | exact vHn | refine vHc rfl ?_ | refine vFc (congrArg (fun z => some (V.int z)) ?_) ?_ | refine vHc (congrArg (fun z => some (Blk.ints _ z)) ?_) ?_ | refine vFc (congrArg (fun z => some (V.bool z)) ?_) ?_ | refine vFs rfl rfl ?_ ?_ | refine vHc (by rw [ren_bots]; rfl) ?_)
                all_goals omega
                done))))
          rintro ⟨cn', c', A', K', S'⟩ ⟨hA', hR'⟩
          dsimp only at hA' hR' ⊢
          have m0 := (hA' 0 (by omega)).1
          have m1 := (hA' 1 (by omega)).1
          have m2 := (hA' 2 (by omega)).1
          have hN2m : N2 < 3 := by omega
          obtain ⟨N3, hN3⟩ : ∃ z, z = N2 := ⟨N2, rfl⟩
          obtain ⟨N4, hN4⟩ : ∃ z, z = N2 := ⟨N2, rfl⟩
          have hn0 := fun (i : Nat) (hi : (A' i).length = 3) => normal_con p 2 (A' i ++ S' i) 3 (K' i) (by simp; omega) hp (by decide)
          have hno : ∀ i, (A' i).length = 3 → Con Try.prog [] 89 [.int p, .slice 0 0 3 (K' i)] [(0, .ints 2 (A' i ++ S' i))] (fun r H' => r = .bool (facP p (A' i) != 0) ∧ H' = [(0, .ints 2 (normL p (A' i) ++ S' i))]) := fun i hi => by
            have := hn0 i hi
            rwa [show (A' i ++ S' i).take 3 = A' i by rw [← hi, List.take_left], show (A' i ++ S' i).drop 3 = S' i by rw [← hi, List.drop_left]] at this
          clear hn0
          rw [hN2] at hN3 hN4 hR' hN2m
          subst hN2
          refine cR ?_
          iterate 3 refine oM rfl rfl ?_
          first | refine oQ (Is0 rfl rfl rfl rfl rfl rfl) rfl rfl ?_ | refine oQ (Is1 rfl rfl rfl rfl rfl rfl) rfl rfl ?_
          refine oQ (Q_ldv rfl rfl rfl rfl rfl rfl) rfl rfl ?_
          first | (refine oCall (hno 0 m0) [(0, 2)] 0 rfl rfl (Fits.mk' (vHc rfl vHn) rfl rfl (by simp)) rfl rfl ?_; rintro r H1 ⟨rfl, rfl⟩; refine ⟨.bool (facP p (A' 0) != 0), [(2, .ints 2 (normL p (A' 0) ++ S' 0))], rfl, rfl, rfl, ?_⟩) | (refine oCall (hno 1 m1) [(0, 3)] 0 rfl rfl (Fits.mk' (vHc rfl vHn) rfl rfl (by simp)) rfl rfl ?_; rintro r H1 ⟨rfl, rfl⟩; refine ⟨.bool (facP p (A' 1) != 0), [(3, .ints 2 (normL p (A' 1) ++ S' 1))], rfl, rfl, rfl, ?_⟩) | (refine oCall (hno 2 m2) [(0, 4)] 0 rfl rfl (Fits.mk' (vHc rfl vHn) rfl rfl (by simp)) rfl rfl ?_; rintro r H1 ⟨rfl, rfl⟩; refine ⟨.bool (facP p (A' 2) != 0), [(4, .ints 2 (normL p (A' 2) ++ S' 2))], rfl, rfl, rfl, ?_⟩)
          refine oN ?_
          refine CW_seq ?_
          refine cR ?_
          refine oM rfl rfl ?_
          first | refine oQ (Q_len rfl rfl rfl rfl) rfl rfl ?_ | refine oQ (Q_len0 rfl rfl rfl rfl) rfl rfl ?_
          refine oM rfl rfl ?_
          refine oN ?_
          refine CW_block ?_
          refine CW_loop (ι := Nat) (fun z => z ≤ 3) (fun z => ⟨[(0, .int p), (5, .slice 5 0 3 kO), (8, .int (N3 : Int)), (9, .int c), (83, .slice 5 0 3 kO), (84, .int 3), (85, .int z)], [(0, .vals 103 [.slice 1 0 3 c0, .slice 1 3 3 c1, .slice 1 6 3 c2]), (1, .ints t M), (2, .ints 2 ((rw3 p A' N3 c 3 z 0) ++ (S' 0))), (3, .ints 2 ((rw3 p A' N3 c 3 z 1) ++ (S' 1))), (4, .ints 2 ((rw3 p A' N3 c 3 z 2) ++ (S' 2))), (5, .vals 103 ([.slice 2 0 3 (K' 0), .slice 3 0 3 (K' 1), .slice 4 0 3 (K' 2)] ++ List.replicate (kO - 3) .bot))], 6⟩) (fun z => 3 - z) 0 ?_ ?_ ?_
          all_goals subst hN3
          · first | trivial | omega | (simp; done) | (simp; omega)
          · refine View.mk' [] rfl (by simp only [wfB, List.all_cons, List.all_nil, ids_bots]; rfl) rfl ?_ ?_
            repeat' first | exact vFn | refine vFc rfl ?_ | exact vHn | refine vHc rfl ?_ | refine vFc (congrArg (fun z => some (V.int z)) ?_) ?_ | refine vHc (congrArg (fun z => some (Blk.ints _ z)) ?_) ?_ | refine vFc (congrArg (fun z => some (V.bool z)) ?_) ?_ | refine vFs rfl rfl ?_ ?_ | refine vHc (by rw [ren_bots]; rfl) ?_
          intro z hz
          have hzz : z = 0 ∨ z = 1 ∨ z = 2 ∨ z = 3 := by omega
          have hN4m : N4 < 3 := by omega
          have w0 := (rw3_bd (c := c) (k := z) (show 0 < p by omega) hN4m hA' 0 (by omega)).1
          have w1 := (rw3_bd (c := c) (k := z) (show 0 < p by omega) hN4m hA' 1 (by omega)).1
          have w2 := (rw3_bd (c := c) (k := z) (show 0 < p by omega) hN4m hA' 2 (by omega)).1
          have t2 : z < 3 → (rw3 p A' N4 c 3 z z ++ S' z).getD c 0 = 0 → z ≠ N4 → ∀ j, rw3 p A' N4 c 3 (z + 1) j = rw3 p A' N4 c 3 z j := fun a b d j => rw3_zero a hA' (by rw [rw3_at d, getD_app (by rw [(hA' z a).1]; exact hcw)] at b; exact b)
          rw [hN4] at t2 w0 w1 w2
          obtain ⟨k4, hk4⟩ : ∃ y, y = z := ⟨z, rfl⟩
          rcases hzz with rfl | rfl | rfl | rfl
          all_goals (
           refine cR ?_
           refine oQ (Q_bin rfl rfl rfl) rfl rfl ?_
           refine oN ?_
           refine CW_seq ?_
           first | refine cT rfl ?_ | refine cF rfl ?_ | refine CW_cond rfl (fun hc => ?_) (fun hc => ?_)
           all_goals try simp only [s1, s2, s3, s4, s5, s6, s7, s8, s9, s10, s11, s12] at hc
           all_goals try (exfalso; first | omega | (simp at hc; done); done)
           all_goals first
             | (
              refine CW_skip ?_)
             | (
              refine CW_exit ?_)
           all_goals first
             | with_reducible refine tR ?_
             | with_reducible refine tE ?_
             | (
              with_reducible refine tN ?_
              refine CW_seq ?_
              refine CW_block ?_
              refine cR ?_
              refine oM rfl rfl ?_
              first | refine oQ (Is0 rfl rfl rfl rfl rfl rfl) rfl rfl ?_ | refine oQ (Is1 rfl rfl rfl rfl rfl rfl) rfl rfl ?_
              refine oQ (Q_ldv rfl rfl rfl rfl rfl rfl) rfl rfl ?_
              iterate 2 refine oA rfl rfl ?_
              refine oN ?_
              refine cR ?_
              iterate 2 refine oM rfl rfl ?_
              first | refine oQ (Is0 rfl rfl rfl rfl rfl rfl) rfl rfl ?_ | refine oQ (Is1 rfl rfl rfl rfl rfl rfl) rfl rfl ?_
              first | refine oQ (Q_ldc rfl rfl rfl rfl rfl) rfl rfl ?_ | refine oQ (Ld rfl rfl rfl rfl) rfl rfl ?_
              refine oA rfl rfl ?_
              refine oN ?_
              refine cR ?_
              iterate 2 refine oM rfl rfl ?_
              refine oQ (Q_bin rfl rfl rfl) rfl rfl ?_
              refine oM rfl rfl ?_
              all_goals first | refine oT rfl rfl ?_ | refine o1 rfl rfl rfl ?_ | refine o0 rfl rfl rfl ?_ | refine ogP1 rfl rfl rfl (fun hg => ?_) (fun hg => ?_) | refine ogP0 rfl rfl rfl (fun hg => ?_) (fun hg => ?_)
              all_goals try simp only [s1, s2, s3, s4, s5, s6, s7, s8, s9, s10, s11, s12] at hg
              all_goals try (exfalso; first | omega | exact absurd trivial hg | (simp at hg; done); done)
              all_goals first | (refine oM rfl rfl ?_) | skip
              all_goals first | refine oT rfl rfl ?_ | refine o1 rfl rfl rfl ?_ | refine o0 rfl rfl rfl ?_ | refine ogP1 rfl rfl rfl (fun hg => ?_) (fun hg => ?_) | refine ogP0 rfl rfl rfl (fun hg => ?_) (fun hg => ?_)
              all_goals try simp only [s1, s2, s3, s4, s5, s6, s7, s8, s9, s10, s11, s12] at hg
              all_goals try (exfalso; first | omega | exact absurd trivial hg | (simp at hg; done); done)
              all_goals first | (refine oQ (Q_bin rfl rfl rfl) rfl rfl ?_) | skip
              all_goals first | refine oQ (Q_pick_t rfl (by with_reducible rfl) rfl rfl) rfl rfl ?_ | refine oQ (Q_pick_f rfl (by with_reducible rfl) rfl rfl) rfl rfl ?_
              all_goals refine oN ?_
              all_goals (
               first | refine cT rfl ?_ | refine cF rfl ?_ | refine CW_cond rfl (fun hc => ?_) (fun hc => ?_)
               all_goals try simp only [s1, s2, s3, s4, s5, s6, s7, s8, s9, s10, s11, s12] at hc
               all_goals try (exfalso; first | omega | (simp at hc; done); done)
               all_goals first
                 | (
                  refine CW_skip ?_)
                 | (
                  refine cR ?_
                  refine oM rfl rfl ?_
                  first | refine oQ (Q_len rfl rfl rfl rfl) rfl rfl ?_ | refine oQ (Q_len0 rfl rfl rfl rfl) rfl rfl ?_
                  refine oM rfl rfl ?_
                  refine oN ?_
                  refine CW_block ?_
                  have hk4m : k4 < 3 := by omega
                  have hN4m : N4 < 3 := by omega
                  have hne : k4 ≠ N4 := by omega
                  have q0 := (hA' k4 hk4m).2
                  have q1 := fun y (hy : y < 3) => rw4_get (N := N4) (c := c) (s := S' k4) hk4m hA' hy
                  have q2 := fun y (hy : y < 3) => rw4_getN (c := c) (k := k4) (s := S' N4) hN4m hne.symm hA' hy
                  have q3 := fun y (hy : y < 3) => rw4_set (N := N4) (c := c) (s := S' k4) hk4m hA' hy
                  have q4 := fun y (hy : y = 3) (i : Nat) => rw4_end (N := N4) (c := c) (i := i) hne hk4m hA' hy
                  have q5 := fun (i : Nat) => rw4_zero (p := p) (A := A') (c := c) (w := 3) (i := i) hne
                  have q7 := fun y => normL_bd (show 0 < p by omega) (A' N4) y
                  have q8 := fun y (hy : y ≤ 3) => rw4_len (N := N4) (c := c) (i := k4) hN4m hk4m hk4m hA' hy
                  have q9 := fun y (hy : y ≤ 3) => rw4_len (N := N4) (c := c) (i := N4) hN4m hk4m hN4m hA' hy
                  have q6 : rw3 p A' N4 c 3 k4 k4 = A' k4 := rw3_at hne
                  refine CW_loop (ι := Nat) (fun y => y ≤ 3) (fun y => ⟨[(0, .int p), (5, .slice 5 0 3 kO), (8, .int (N4 : Int)), (9, .int c), (12, .slice (k4 + 2) 0 3 (K' k4)), (13, .int ((A' k4).getD c 0)), (83, .slice 5 0 3 kO), (84, .int 3), (85, .int (k4 : Int)), (102, .int 3), (103, .int y)], [(0, .vals 103 [.slice 1 0 3 c0, .slice 1 3 3 c1, .slice 1 6 3 c2]), (1, .ints t M), (2, .ints 2 ((rw4 p A' N4 c 3 k4 y 0) ++ (S' 0))), (3, .ints 2 ((rw4 p A' N4 c 3 k4 y 1) ++ (S' 1))), (4, .ints 2 ((rw4 p A' N4 c 3 k4 y 2) ++ (S' 2))), (5, .vals 103 ([.slice 2 0 3 (K' 0), .slice 3 0 3 (K' 1), .slice 4 0 3 (K' 2)] ++ List.replicate (kO - 3) .bot))], 6⟩) (fun y => 3 - y) 0 ?_ ?_ ?_
                  all_goals (subst hN4; subst hk4)
                  · first | trivial | omega | (simp; done) | (simp; omega)
                  · refine View.mk' [] rfl (by simp only [wfB, List.all_cons, List.all_nil, ids_bots]; rfl) rfl ?_ ?_
                    repeat' first | exact vFn | refine vFc rfl ?_ | exact vHn | refine vHc rfl ?_ | refine vFc (congrArg (fun z => some (V.int z)) ?_) ?_ | refine vHc (congrArg (fun z => some (Blk.ints _ z)) ?_) ?_ | refine vFc (congrArg (fun z => some (V.bool z)) ?_) ?_ | refine vFs rfl rfl ?_ ?_ | refine vHc (by rw [ren_bots]; rfl) ?_
                    all_goals first | rfl | exact (congrArg (· ++ _) (q5 _)) | exact (congrArg (· ++ _) (q5 _)).symm | (rw [getD_app (by omega), q6]) | (rw [getD_app (by omega)]; exact congrArg (fun z => List.getD z c 0) q6)
                  intro y hy
                  have e8 := q8 y hy
                  have e9 := q9 y hy
                  have b1 := q0 y
                  have b2 := q0 c
                  have b3 := q7 y
                  refine cR ?_
                  refine oQ (Q_bin rfl rfl rfl) rfl rfl ?_
                  refine oN ?_
                  refine CW_seq ?_
                  first | refine cT rfl ?_ | refine cF rfl ?_ | refine CW_cond rfl (fun hc => ?_) (fun hc => ?_)
                  all_goals try simp only [s1, s2, s3, s4, s5, s6, s7, s8, s9, s10, s11, s12] at hc
                  all_goals try (exfalso; first | omega | (simp at hc; done); done)
                  all_goals first
                    | (
                     refine CW_skip ?_)
                    | (
                     refine CW_exit ?_)
                  all_goals first
                    | with_reducible refine tR ?_
                    | with_reducible refine tE ?_
                    | (
                     with_reducible refine tN ?_
                     refine CW_seq ?_
                     refine CW_block ?_
                     refine cR ?_
                     refine oM rfl rfl ?_
                     refine oA rfl rfl ?_
                     refine oN ?_
                     refine CW_any (fun i => List.elem i [19]) 20 rfl lateOk (by decide +kernel) (fun hst => ?_)
                     refine aP 0 hst rfl rfl (by decide +kernel) (PX_move rfl rfl) rfl rfl ?_
                     refine aP 1 hst rfl rfl (by decide +kernel) (PX_move rfl rfl) rfl rfl ?_
                     refine aP 2 hst rfl rfl (by decide +kernel) (PX_move rfl rfl) rfl rfl ?_
                     refine aP 3 hst rfl rfl (by decide +kernel) (PX_move rfl rfl) rfl rfl ?_
                     first | refine aQ 4 hst rfl rfl (by decide +kernel) (QX_of (Is0 rfl rfl rfl rfl rfl rfl) NE_ix) rfl rfl ?_ | refine aQ 4 hst rfl rfl (by decide +kernel) (QX_of (Is1 rfl rfl rfl rfl rfl rfl) NE_ix) rfl rfl ?_
                     have hy3 : y < 3 := by omega
                     refine aQ 5 hst rfl rfl (by decide +kernel) (QX_of (Ld rfl rfl rfl rfl) NE_load) rfl rfl ?_
                     rw [q1 y hy3]
                     refine aP 6 hst rfl rfl (by decide +kernel) (PX_move rfl rfl) rfl rfl ?_
                     refine aP 7 hst rfl rfl (by decide +kernel) (PX_move rfl rfl) rfl rfl ?_
                     refine aP 8 hst rfl rfl (by decide +kernel) (PX_move rfl rfl) rfl rfl ?_
                     first | refine aQ 9 hst rfl rfl (by decide +kernel) (QX_of (Is0 rfl rfl rfl rfl rfl rfl) NE_ix) rfl rfl ?_ | refine aQ 9 hst rfl rfl (by decide +kernel) (QX_of (Is1 rfl rfl rfl rfl rfl rfl) NE_ix) rfl rfl ?_
                     refine aQ 10 hst rfl rfl (by decide +kernel) (QX_of (Q_ldv rfl rfl rfl rfl rfl rfl) NE_load) rfl rfl ?_
                     refine aP 11 hst rfl rfl (by decide +kernel) (PX_move rfl rfl) rfl rfl ?_
                     first | refine aQ 12 hst rfl rfl (by decide +kernel) (QX_of (Is0 rfl rfl rfl rfl rfl rfl) NE_ix) rfl rfl ?_ | refine aQ 12 hst rfl rfl (by decide +kernel) (QX_of (Is1 rfl rfl rfl rfl rfl rfl) NE_ix) rfl rfl ?_
                     refine aQ 13 hst rfl rfl (by decide +kernel) (QX_of (Ld rfl rfl rfl rfl) NE_load) rfl rfl ?_
                     rw [q2 y hy3]
                     refine aMul 14 hst rfl rfl (by decide +kernel) 12 12 rfl rfl (by omega) (by omega) (by decide) rfl (fun z120 hz120 hl120 hu120 => ?_)
                     first | refine aQ 15 hst rfl rfl (by decide +kernel) (QX_of (Q_binu rfl rfl rfl (by omega)) NE_bin) rfl rfl ?_ | refine aQ 15 hst rfl rfl (by decide +kernel) (QX_of (Q_bin rfl rfl rfl) NE_bin) rfl rfl ?_
                     refine aP 16 hst rfl rfl (by decide +kernel) (PX_move rfl rfl) rfl rfl ?_
                     refine aQ 17 hst rfl rfl (by decide +kernel) (QX_call0 (mod_con _ _ (by omega) (by omega)) rfl rfl rfl) rfl rfl ?_
                     first | refine aQ 18 hst rfl rfl (by decide +kernel) (QX_of (Is0 rfl rfl rfl rfl rfl rfl) NE_ix) rfl rfl ?_ | refine aQ 18 hst rfl rfl (by decide +kernel) (QX_of (Is1 rfl rfl rfl rfl rfl rfl) NE_ix) rfl rfl ?_
                     refine AW_last [19] rfl (by decide +kernel) rfl ?_
                     refine oS rfl rfl rfl rfl rfl ?_
                     refine OW_nil (npN ?_)
                     all_goals first | with_reducible refine bN ?_ | with_reducible refine bE ?_ | with_reducible refine bR ?_ | refine bX rfl ?_
                     all_goals with_reducible refine tN ?_
                     all_goals (
                      refine CW_region ?_
                      first | refine oQ (Q_binu rfl rfl rfl (by omega)) rfl rfl ?_ | refine oQ (Q_bin rfl rfl rfl) rfl rfl ?_
                      refine oM rfl rfl ?_
                      refine OW_nil ?_))
                  all_goals first
                    | with_reducible refine tR ?_
                    | with_reducible refine tE ?_
                    | (
                     with_reducible refine tN ?_
                     refine ⟨y + 1, ?_, ?_, View.mk' [] rfl (by simp only [wfB, List.all_cons, List.all_nil, ids_bots]; rfl) rfl ?_ ?_⟩
                     · omega
                     · omega
                     all_goals (repeat' first | exact vFn | refine vFc rfl ?_ | exact vHn | refine vHc rfl ?_ | refine vFc (congrArg (fun z => some (V.int z)) ?_) ?_ | refine vHc (congrArg (fun z => some (Blk.ints _ z)) ?_) ?_ | refine vFc (congrArg (fun z => some (V.bool z)) ?_) ?_ | refine vFs rfl rfl ?_ ?_ | refine vHc (by rw [ren_bots]; rfl) ?_)
                     all_goals first | rfl | omega | (subst hz120; exact q3 y hy3) | (subst hz120; exact (q3 y hy3).symm))
                  all_goals first | with_reducible refine bN ?_ | with_reducible refine bE ?_ | with_reducible refine bR ?_ | refine bX rfl ?_))
              all_goals first | with_reducible refine bN ?_ | with_reducible refine bE ?_ | with_reducible refine bR ?_ | refine bX rfl ?_
              all_goals with_reducible refine tN ?_
              all_goals (
               refine CW_region ?_
               first | refine oQ (Q_binu rfl rfl rfl (by omega)) rfl rfl ?_ | refine oQ (Q_bin rfl rfl rfl) rfl rfl ?_
               refine oM rfl rfl ?_
               refine OW_nil ?_))
           all_goals first
             | with_reducible refine tR ?_
             | with_reducible refine tE ?_
             | (
              with_reducible refine tN ?_
              first
                | (
                 refine ⟨0 + 1, ?_, ?_, View.mk' [] rfl (by simp only [wfB, List.all_cons, List.all_nil, ids_bots]; rfl) rfl ?_ ?_⟩
                 · omega
                 · omega
                 all_goals (repeat' first | exact vFn | refine vFc rfl ?_ | exact vHn | refine vHc rfl ?_ | refine vFc (congrArg (fun z => some (V.int z)) ?_) ?_ | refine vHc (congrArg (fun z => some (Blk.ints _ z)) ?_) ?_ | refine vFc (congrArg (fun z => some (V.bool z)) ?_) ?_ | refine vFs rfl rfl ?_ ?_ | refine vHc (by rw [ren_bots]; rfl) ?_)
                 all_goals first | rfl | omega | exact congrArg (· ++ _) (q4 y (by omega) _) | exact (congrArg (· ++ _) (q4 y (by omega) _)).symm | exact congrArg (· ++ _) (t2 (by decide) (by assumption) (by decide) _) | exact (congrArg (· ++ _) (t2 (by decide) (by assumption) (by decide) _)).symm
                 done)
                | (
                 refine ⟨1 + 1, ?_, ?_, View.mk' [] rfl (by simp only [wfB, List.all_cons, List.all_nil, ids_bots]; rfl) rfl ?_ ?_⟩
                 · omega
                 · omega
                 all_goals (repeat' first | exact vFn | refine vFc rfl ?_ | exact vHn | refine vHc rfl ?_ | refine vFc (congrArg (fun z => some (V.int z)) ?_) ?_ | refine vHc (congrArg (fun z => some (Blk.ints _ z)) ?_) ?_ | refine vFc (congrArg (fun z => some (V.bool z)) ?_) ?_ | refine vFs rfl rfl ?_ ?_ | refine vHc (by rw [ren_bots]; rfl) ?_)
                 all_goals first | rfl | omega | exact congrArg (· ++ _) (q4 y (by omega) _) | exact (congrArg (· ++ _) (q4 y (by omega) _)).symm | exact congrArg (· ++ _) (t2 (by decide) (by assumption) (by decide) _) | exact (congrArg (· ++ _) (t2 (by decide) (by assumption) (by decide) _)).symm
                 done)
                | (
                 refine ⟨2 + 1, ?_, ?_, View.mk' [] rfl (by simp only [wfB, List.all_cons, List.all_nil, ids_bots]; rfl) rfl ?_ ?_⟩
                 · omega
                 · omega
                 all_goals (repeat' first | exact vFn | refine vFc rfl ?_ | exact vHn | refine vHc rfl ?_ | refine vFc (congrArg (fun z => some (V.int z)) ?_) ?_ | refine vHc (congrArg (fun z => some (Blk.ints _ z)) ?_) ?_ | refine vFc (congrArg (fun z => some (V.bool z)) ?_) ?_ | refine vFs rfl rfl ?_ ?_ | refine vHc (by rw [ren_bots]; rfl) ?_)
                 all_goals first | rfl | omega | exact congrArg (· ++ _) (q4 y (by omega) _) | exact (congrArg (· ++ _) (q4 y (by omega) _)).symm | exact congrArg (· ++ _) (t2 (by decide) (by assumption) (by decide) _) | exact (congrArg (· ++ _) (t2 (by decide) (by assumption) (by decide) _)).symm
                 done)))
          all_goals first | with_reducible refine bN ?_ | with_reducible refine bE ?_ | with_reducible refine bR ?_ | refine bX rfl ?_
          all_goals with_reducible refine tN ?_
          all_goals (
           refine CW_region ?_
           refine oM rfl rfl ?_
           first | refine oQ (Q_binu rfl rfl rfl (by omega)) rfl rfl ?_ | refine oQ (Q_bin rfl rfl rfl) rfl rfl ?_
           refine oA rfl rfl ?_
           refine OW_nil ?_))
       all_goals first | with_reducible refine bN ?_ | with_reducible refine bE ?_ | with_reducible refine bR ?_ | refine bX rfl ?_
       all_goals with_reducible refine tN ?_
       all_goals (
        refine CW_region ?_
        refine oM rfl rfl ?_
        first | refine oQ (Q_binu rfl rfl rfl (by omega)) rfl rfl ?_ | refine oQ (Q_bin rfl rfl rfl) rfl rfl ?_
        refine oA rfl rfl ?_
        refine OW_nil ?_))
    all_goals first
      | with_reducible refine tR ?_
      | with_reducible refine tE ?_
      | (
       with_reducible refine tN ?_
       first
         | (
          refine ⟨⟨0, c + 1, A, K, S⟩, ?_, ?_, View.mk' [] rfl (by simp only [wfB, List.all_cons, List.all_nil, ids_bots]; rfl) rfl ?_ ?_⟩
          · try dsimp only
            refine ⟨by omega, by omega, by omega, ?_, ?_⟩
            · first | exact hA | exact rw3_bd (by omega) (by omega) hA'
            · first | exact RedI_skip hR (fun k a b => hi3 k a (by omega)) | exact hR'
          · (try dsimp only); omega
          all_goals (repeat' first | exact vFn | refine vFc rfl ?_ | exact vHn | refine vHc rfl ?_ | refine vFc (congrArg (fun z => some (V.int z)) ?_) ?_ | refine vHc (congrArg (fun z => some (Blk.ints _ z)) ?_) ?_ | refine vFc (congrArg (fun z => some (V.bool z)) ?_) ?_ | refine vFs rfl rfl ?_ ?_ | refine vHc (by rw [ren_bots]; rfl) ?_)
          all_goals first | rfl | omega
          done)
         | (
          refine ⟨⟨1, c + 1, A, K, S⟩, ?_, ?_, View.mk' [] rfl (by simp only [wfB, List.all_cons, List.all_nil, ids_bots]; rfl) rfl ?_ ?_⟩
          · try dsimp only
            refine ⟨by omega, by omega, by omega, ?_, ?_⟩
            · first | exact hA | exact rw3_bd (by omega) (by omega) hA'
            · first | exact RedI_skip hR (fun k a b => hi3 k a (by omega)) | exact hR'
          · (try dsimp only); omega
          all_goals (repeat' first | exact vFn | refine vFc rfl ?_ | exact vHn | refine vHc rfl ?_ | refine vFc (congrArg (fun z => some (V.int z)) ?_) ?_ | refine vHc (congrArg (fun z => some (Blk.ints _ z)) ?_) ?_ | refine vFc (congrArg (fun z => some (V.bool z)) ?_) ?_ | refine vFs rfl rfl ?_ ?_ | refine vHc (by rw [ren_bots]; rfl) ?_)
          all_goals first | rfl | omega
          done)
         | (
          refine ⟨⟨2, c + 1, A, K, S⟩, ?_, ?_, View.mk' [] rfl (by simp only [wfB, List.all_cons, List.all_nil, ids_bots]; rfl) rfl ?_ ?_⟩
          · try dsimp only
            refine ⟨by omega, by omega, by omega, ?_, ?_⟩
            · first | exact hA | exact rw3_bd (by omega) (by omega) hA'
            · first | exact RedI_skip hR (fun k a b => hi3 k a (by omega)) | exact hR'
          · (try dsimp only); omega
          all_goals (repeat' first | exact vFn | refine vFc rfl ?_ | exact vHn | refine vHc rfl ?_ | refine vFc (congrArg (fun z => some (V.int z)) ?_) ?_ | refine vHc (congrArg (fun z => some (Blk.ints _ z)) ?_) ?_ | refine vFc (congrArg (fun z => some (V.bool z)) ?_) ?_ | refine vFs rfl rfl ?_ ?_ | refine vHc (by rw [ren_bots]; rfl) ?_)
          all_goals first | rfl | omega
          done)
         | (
          refine ⟨⟨0 + 1, c + 1, rw3 p A' 0 c 3 3, K', S'⟩, ?_, ?_, View.mk' [] rfl (by simp only [wfB, List.all_cons, List.all_nil, ids_bots]; rfl) rfl ?_ ?_⟩
          · try dsimp only
            refine ⟨by omega, by omega, by omega, ?_, ?_⟩
            · first | exact hA | exact rw3_bd (by omega) (by omega) hA'
            · first | exact RedI_skip hR (fun k a b => hi3 k a (by omega)) | exact hR'
          · (try dsimp only); omega
          all_goals (repeat' first | exact vFn | refine vFc rfl ?_ | exact vHn | refine vHc rfl ?_ | refine vFc (congrArg (fun z => some (V.int z)) ?_) ?_ | refine vHc (congrArg (fun z => some (Blk.ints _ z)) ?_) ?_ | refine vFc (congrArg (fun z => some (V.bool z)) ?_) ?_ | refine vFs rfl rfl ?_ ?_ | refine vHc (by rw [ren_bots]; rfl) ?_)
          all_goals first | rfl | omega
          done)
         | (
          refine ⟨⟨1 + 1, c + 1, rw3 p A' 1 c 3 3, K', S'⟩, ?_, ?_, View.mk' [] rfl (by simp only [wfB, List.all_cons, List.all_nil, ids_bots]; rfl) rfl ?_ ?_⟩
          · try dsimp only
            refine ⟨by omega, by omega, by omega, ?_, ?_⟩
            · first | exact hA | exact rw3_bd (by omega) (by omega) hA'
            · first | exact RedI_skip hR (fun k a b => hi3 k a (by omega)) | exact hR'
          · (try dsimp only); omega
          all_goals (repeat' first | exact vFn | refine vFc rfl ?_ | exact vHn | refine vHc rfl ?_ | refine vFc (congrArg (fun z => some (V.int z)) ?_) ?_ | refine vHc (congrArg (fun z => some (Blk.ints _ z)) ?_) ?_ | refine vFc (congrArg (fun z => some (V.bool z)) ?_) ?_ | refine vFs rfl rfl ?_ ?_ | refine vHc (by rw [ren_bots]; rfl) ?_)
          all_goals first | rfl | omega
          done)
         | (
          refine ⟨⟨2 + 1, c + 1, rw3 p A' 2 c 3 3, K', S'⟩, ?_, ?_, View.mk' [] rfl (by simp only [wfB, List.all_cons, List.all_nil, ids_bots]; rfl) rfl ?_ ?_⟩
          · try dsimp only
            refine ⟨by omega, by omega, by omega, ?_, ?_⟩
            · first | exact hA | exact rw3_bd (by omega) (by omega) hA'
            · first | exact RedI_skip hR (fun k a b => hi3 k a (by omega)) | exact hR'
          · (try dsimp only); omega
          all_goals (repeat' first | exact vFn | refine vFc rfl ?_ | exact vHn | refine vHc rfl ?_ | refine vFc (congrArg (fun z => some (V.int z)) ?_) ?_ | refine vHc (congrArg (fun z => some (Blk.ints _ z)) ?_) ?_ | refine vFc (congrArg (fun z => some (V.bool z)) ?_) ?_ | refine vFs rfl rfl ?_ ?_ | refine vHc (by rw [ren_bots]; rfl) ?_)
          all_goals first | rfl | omega
          done)))
   all_goals first | with_reducible refine bN ?_ | with_reducible refine bE ?_ | with_reducible refine bR ?_ | refine bX rfl ?_
   all_goals with_reducible refine tN ?_
   all_goals (
    refine cR ?_
    iterate 2 refine oM rfl rfl ?_
    refine oQ (Q_slsH rfl rfl rfl rfl rfl (by first | omega | (dsimp only; omega) | (simp; omega) | (simp; done))) rfl rfl ?_
    refine oA rfl rfl ?_
    refine oN ?_
    refine CW_ret ?_))
  all_goals (
   have e := RedI_end hp hR (by omega) (by omega)
   first | exact exitH (r0 := .slice 5 0 0 kO) (H0 := [(0, .vals 103 [.slice 1 0 3 c0, .slice 1 3 3 c1, .slice 1 6 3 c2]), (1, .ints t M), (2, .ints 2 ((A 0) ++ (S 0))), (3, .ints 2 ((A 1) ++ (S 1))), (4, .ints 2 ((A 2) ++ (S 2))), (5, .vals 103 ([.slice 2 0 3 (K 0), .slice 3 0 3 (K 1), .slice 4 0 3 (K 2)] ++ List.replicate (kO - 3) .bot))]) (.inr rfl) [] 6 (.cons (.tmp rfl rfl) .nil) rfl rfl rfl (vHc rfl (vHc rfl (vHc rfl (vHc rfl (vHc rfl (vHc (by rw [ren_bots]; rfl) vHn)))))) (by simp only [wfB, List.all_cons, List.all_nil, ids_bots]; rfl) rfl ⟨kO, A, K, S, by rw [e], hA, ⟨c, h2, by omega, by rw [e]; exact hR⟩, rfl⟩ | exact exitH (r0 := .slice 5 0 1 kO) (H0 := [(0, .vals 103 [.slice 1 0 3 c0, .slice 1 3 3 c1, .slice 1 6 3 c2]), (1, .ints t M), (2, .ints 2 ((A 0) ++ (S 0))), (3, .ints 2 ((A 1) ++ (S 1))), (4, .ints 2 ((A 2) ++ (S 2))), (5, .vals 103 ([.slice 2 0 3 (K 0), .slice 3 0 3 (K 1), .slice 4 0 3 (K 2)] ++ List.replicate (kO - 3) .bot))]) (.inr rfl) [] 6 (.cons (.tmp rfl rfl) .nil) rfl rfl rfl (vHc rfl (vHc rfl (vHc rfl (vHc rfl (vHc rfl (vHc (by rw [ren_bots]; rfl) vHn)))))) (by simp only [wfB, List.all_cons, List.all_nil, ids_bots]; rfl) rfl ⟨kO, A, K, S, by rw [e], hA, ⟨c, h2, by omega, by rw [e]; exact hR⟩, rfl⟩ | exact exitH (r0 := .slice 5 0 2 kO) (H0 := [(0, .vals 103 [.slice 1 0 3 c0, .slice 1 3 3 c1, .slice 1 6 3 c2]), (1, .ints t M), (2, .ints 2 ((A 0) ++ (S 0))), (3, .ints 2 ((A 1) ++ (S 1))), (4, .ints 2 ((A 2) ++ (S 2))), (5, .vals 103 ([.slice 2 0 3 (K 0), .slice 3 0 3 (K 1), .slice 4 0 3 (K 2)] ++ List.replicate (kO - 3) .bot))]) (.inr rfl) [] 6 (.cons (.tmp rfl rfl) .nil) rfl rfl rfl (vHc rfl (vHc rfl (vHc rfl (vHc rfl (vHc rfl (vHc (by rw [ren_bots]; rfl) vHn)))))) (by simp only [wfB, List.all_cons, List.all_nil, ids_bots]; rfl) rfl ⟨kO, A, K, S, by rw [e], hA, ⟨c, h2, by omega, by rw [e]; exact hR⟩, rfl⟩ | exact exitH (r0 := .slice 5 0 3 kO) (H0 := [(0, .vals 103 [.slice 1 0 3 c0, .slice 1 3 3 c1, .slice 1 6 3 c2]), (1, .ints t M), (2, .ints 2 ((A 0) ++ (S 0))), (3, .ints 2 ((A 1) ++ (S 1))), (4, .ints 2 ((A 2) ++ (S 2))), (5, .vals 103 ([.slice 2 0 3 (K 0), .slice 3 0 3 (K 1), .slice 4 0 3 (K 2)] ++ List.replicate (kO - 3) .bot))]) (.inr rfl) [] 6 (.cons (.tmp rfl rfl) .nil) rfl rfl rfl (vHc rfl (vHc rfl (vHc rfl (vHc rfl (vHc rfl (vHc (by rw [ren_bots]; rfl) vHn)))))) (by simp only [wfB, List.all_cons, List.all_nil, ids_bots]; rfl) rfl ⟨kO, A, K, S, by rw [e], hA, ⟨c, h2, by omega, by rw [e]; exact hR⟩, rfl⟩)
end Go.Proofs.Ytoiolpgmilobnaa
namespace Go.Proofs.Ytoiolpgmilobnaa
set_option maxRecDepth 10000
set_option linter.unusedSimpArgs false
set_option linter.unusedVariables false
attribute [local irreducible] CW OW QW QOp Con thenP inBlockP AW QX RW AX
theorem l01LessB_con (p : Int) (t t' : TypeId) (R S : List Int) (n k k' : Nat) (m : Int) (hp : primeB p = true) (hR : n ≤ R.length) (hS : n ≤ S.length) (h9 : n ≤ 1000) (bR : ∀ j, j < n → 0 ≤ R.getD j 0 ∧ R.getD j 0 ≤ 12) (bS : ∀ j, j < n → 0 ≤ S.getD j 0 ∧ S.getD j 0 ≤ 12) (bm : 0 ≤ m ∧ m ≤ 12) : Con Try.prog [] 120 [.int p, .slice 0 0 n k, .slice 1 0 n k', .int m] [(0, .ints t R), (1, .ints t' S)] (fun v H' => ∃ k2 sp, n ≤ k2 ∧ k2 ≤ n + sp.length ∧ v = .slice 2 0 n k2 ∧ H' = [(0, .ints t R), (1, .ints t' S), (2, .ints 2 (lsL p R S m n ++ sp))]) := by
  have hb := prime_bd hp
  refine conW tab_ok [(0, .int p), (1, .slice 0 0 n k), (2, .slice 1 0 n k'), (3, .int m)] 2 [0, 1] [0, 1] Try.func120 rfl rfl rfl rfl rfl rfl rfl rfl rfl ?_
  refine cR ?_
  refine oA rfl rfl ?_
  refine oN ?_
  refine cR ?_
  refine oBsl (zl := []) (r := []) rfl rfl rfl rfl (.inl ⟨rfl, rfl⟩) rfl rfl rfl rfl rfl rfl ?_
  refine oA rfl rfl ?_
  refine oN ?_
  refine CW_seq ?_
  refine cR ?_
  refine oA rfl rfl ?_
  refine oN ?_
  refine CW_block ?_
  refine CW_loop (ι := Nat × Nat × List Int) (fun x => x.1 ≤ n ∧ x.1 ≤ x.2.1 ∧ x.2.1 ≤ x.1 + x.2.2.length) (fun x => ⟨[(0, .int p), (1, .slice 0 0 n k), (2, .slice 1 0 n k'), (3, .int m), (9, .slice 2 0 x.1 x.2.1), (10, .int x.1)], [(0, .ints t R), (1, .ints t' S), (2, .ints 2 (lsL p R S m x.1 ++ x.2.2))], 3⟩) (fun x => n - x.1) (0, 0, []) ?_ ?_ ?_
  · exact ⟨Nat.zero_le _, Nat.le_refl _, Nat.le_refl _⟩
  · refine View.mk' [] rfl rfl rfl ?_ ?_
    repeat' first | exact vFn | refine vFc rfl ?_ | exact vHn | refine vHc rfl ?_ | refine vFc (congrArg (fun z => some (V.int z)) ?_) ?_ | refine vHc (congrArg (fun z => some (Blk.ints _ z)) ?_) ?_ | refine vFc (congrArg (fun z => some (V.bool z)) ?_) ?_ | refine vFs rfl rfl ?_ ?_
  rintro ⟨i, kk, sp⟩ ⟨hi, hi2, hi3⟩
  dsimp only at hi hi2 hi3 ⊢
  have b1 := bR i
  have b2 := bS i
  have hlen : (lsL p R S m i).length = i * 1 := by rw [lsL_len]; omega
  refine CW_seq ?_
  refine cR ?_
  iterate 2 refine oM rfl rfl ?_
  first | refine oQ (Q_len rfl rfl rfl rfl) rfl rfl ?_ | refine oQ (Q_len0 rfl rfl rfl rfl) rfl rfl ?_
  refine oQ (Q_bin rfl rfl rfl) rfl rfl ?_
  refine oN ?_
  first | refine cT rfl ?_ | refine cF rfl ?_ | refine CW_cond rfl (fun hc => ?_) (fun hc => ?_)
  all_goals try simp only [s1, s2, s3, s4, s5, s6, s7, s8, s9, s10, s11, s12] at hc
  all_goals first
    | (
     refine CW_skip ?_)
    | (
     refine CW_exit ?_)
  all_goals first
    | with_reducible refine tR ?_
    | with_reducible refine tE ?_
    | (
     with_reducible refine tN ?_
     refine CW_seq ?_
     refine CW_block ?_
     refine CW_any (fun i => List.elem i [15, 16]) 17 rfl lateOk (by decide +kernel) (fun hst => ?_)
     refine aP 0 hst rfl rfl (by decide +kernel) (PX_move rfl rfl) rfl rfl ?_
     refine aP 1 hst rfl rfl (by decide +kernel) (PX_move rfl rfl) rfl rfl ?_
     refine aP 2 hst rfl rfl (by decide +kernel) (PX_move rfl rfl) rfl rfl ?_
     refine aP 3 hst rfl rfl (by decide +kernel) (PX_move rfl rfl) rfl rfl ?_
     first | refine aQ 4 hst rfl rfl (by decide +kernel) (QX_of (Is0 rfl rfl rfl rfl rfl rfl) NE_ix) rfl rfl ?_ | refine aQ 4 hst rfl rfl (by decide +kernel) (QX_of (Is1 rfl rfl rfl rfl rfl rfl) NE_ix) rfl rfl ?_
     refine aQ 5 hst rfl rfl (by decide +kernel) (QX_of (Ld rfl rfl rfl rfl) NE_load) rfl rfl ?_
     refine aP 6 hst rfl rfl (by decide +kernel) (PX_move rfl rfl) rfl rfl ?_
     refine aP 7 hst rfl rfl (by decide +kernel) (PX_move rfl rfl) rfl rfl ?_
     refine aP 8 hst rfl rfl (by decide +kernel) (PX_move rfl rfl) rfl rfl ?_
     first | refine aQ 9 hst rfl rfl (by decide +kernel) (QX_of (Is0 rfl rfl rfl rfl rfl rfl) NE_ix) rfl rfl ?_ | refine aQ 9 hst rfl rfl (by decide +kernel) (QX_of (Is1 rfl rfl rfl rfl rfl rfl) NE_ix) rfl rfl ?_
     refine aQ 10 hst rfl rfl (by decide +kernel) (QX_of (Ld rfl rfl rfl rfl) NE_load) rfl rfl ?_
     refine aMul 11 hst rfl rfl (by decide +kernel) 12 12 rfl rfl (by omega) (by omega) (by decide) rfl (fun z29 hz29 hl29 hu29 => ?_)
     first | refine aQ 12 hst rfl rfl (by decide +kernel) (QX_of (Q_binu rfl rfl rfl (by omega)) NE_bin) rfl rfl ?_ | refine aQ 12 hst rfl rfl (by decide +kernel) (QX_of (Q_bin rfl rfl rfl) NE_bin) rfl rfl ?_
     subst hz29
     refine aQ 13 hst rfl rfl (by decide +kernel) (QX_call0 (l01Mod_con (R.getD i 0 - m * S.getD i 0) p (by omega) (by omega)) rfl rfl rfl) rfl rfl ?_
     refine AW_one (i := 14) (by decide +kernel) ?_
     refine gBsl (zl := []) rfl rfl rfl rfl rfl rfl (.inl ⟨rfl, rfl⟩) rfl rfl rfl rfl rfl rfl ?_
     refine AW_last [15, 16] rfl (by decide +kernel) rfl ?_
     refine oApp (sz := 1) (by_ := 8) rfl rfl rfl rfl rfl rfl ⟨by decide, rfl, .inl ⟨rfl, rfl⟩⟩ rfl rfl rfl rfl rfl rfl hlen rfl (by omega) hi2 (by omega) (by omega) rfl rfl (fun k2 sp2 h1 h2 => ?_)
     refine oA rfl rfl ?_
     refine OW_nil (npN ?_)
     all_goals first | with_reducible refine bN ?_ | with_reducible refine bE ?_ | with_reducible refine bR ?_ | refine bX rfl ?_
     all_goals with_reducible refine tN ?_
     all_goals (
      refine CW_region ?_
      refine oM rfl rfl ?_
      first | refine oQ (Q_binu rfl rfl rfl (by omega)) rfl rfl ?_ | refine oQ (Q_bin rfl rfl rfl) rfl rfl ?_
      refine oA rfl rfl ?_
      refine OW_nil ?_))
  all_goals first
    | with_reducible refine tR ?_
    | with_reducible refine tE ?_
    | (
     with_reducible refine tN ?_
     refine ⟨(i + 1, k2, sp2), ?_, ?_, View.mk' [(2, 4)] rfl rfl rfl ?_ ?_⟩
     · exact ⟨by omega, by simpa using h1, by simpa using h2⟩
     · omega
     all_goals (repeat' first | exact vFn | refine vFc rfl ?_ | exact vHn | refine vHc rfl ?_ | refine vFc (congrArg (fun z => some (V.int z)) ?_) ?_ | refine vHc (congrArg (fun z => some (Blk.ints _ z)) ?_) ?_ | refine vFc (congrArg (fun z => some (V.bool z)) ?_) ?_ | refine vFs rfl rfl ?_ ?_)
     all_goals dsimp only
     all_goals (rw [lsL_snoc]; rfl))
  all_goals first | with_reducible refine bN ?_ | with_reducible refine bE ?_ | with_reducible refine bR ?_ | refine bX rfl ?_
  all_goals with_reducible refine tN ?_
  all_goals (
   refine cR ?_
   refine oM rfl rfl ?_
   refine oA rfl rfl ?_
   refine oN ?_
   refine CW_ret ?_)
  all_goals (
   have e : i = n := by omega
   subst e
   exact exitH (r0 := .slice 2 0 i kk) (H0 := [(0, .ints t R), (1, .ints t' S), (2, .ints 2 (lsL p R S m i ++ sp))]) (.inr rfl) [] 3 (.cons (.tmp rfl rfl) .nil) rfl rfl rfl (vHc rfl (vHc rfl (vHc rfl vHn))) rfl rfl ⟨kk, sp, hi2, hi3, rfl, rfl⟩)
theorem lsL_app (p : Int) {r s : List Int} (a b : List Int) (k : Int) {w : Nat} (hr : r.length = w) (hs : s.length = w) : lsL p (r ++ a) (s ++ b) k w = lsL p r s k w := by
  unfold lsL
  refine List.map_congr_left fun j hj => ?_
  have hj : j < w := by simpa using hj
  rw [getD_app (by omega), getD_app (by omega)]
theorem lessw_con {p : Int} (hp : primeB p = true) (t t' : TypeId) (w : Nat) (r s a b : List Int) (k k' : Nat) (m : Int) (h9 : w ≤ 1000) (hr : rwB p w r) (hs : rwB p w s) (hm : 0 ≤ m ∧ m < p) : Con Try.prog [] 120 [.int p, .slice 0 0 w k, .slice 1 0 w k', .int m] [(0, .ints t (r ++ a)), (1, .ints t' (s ++ b))] (fun v H' => ∃ k2 sp, w ≤ k2 ∧ k2 ≤ w + sp.length ∧ v = .slice 2 0 w k2 ∧ H' = [(0, .ints t (r ++ a)), (1, .ints t' (s ++ b)), (2, .ints 2 (lsL p r s m w ++ sp))]) := by
  have hb := prime_bd hp
  have := l01LessB_con p t t' (r ++ a) (s ++ b) w k k' m hp (by rw [List.length_append, hr.1]; omega) (by rw [List.length_append, hs.1]; omega) h9 (fun j hj => by rw [getD_app (by rw [hr.1]; exact hj)]; have := hr.2 j; omega) (fun j hj => by rw [getD_app (by rw [hs.1]; exact hj)]; have := hs.2 j; omega) (by omega)
  rwa [lsL_app p a b m hr.1 hs.1] at this
theorem leadw_con (t : TypeId) (w : Nat) (r a : List Int) (k : Nat) (h9 : w ≤ 1000) (hr : r.length = w) (v : Int) (hv : ldI r = v) : ConQ Try.prog [] 121 [.slice 0 0 w k] [(0, .ints t (r ++ a))] (.int v) := by
  have := l01Lead_con t (r ++ a) w k (by rw [List.length_append]; omega) (by omega)
  rwa [show (r ++ a).take w = r by rw [← hr, List.take_left], hv] at this
theorem normw_con {p : Int} (hp : primeB p = true) (t : TypeId) (w : Nat) (r a : List Int) (k : Nat) (h9 : w ≤ 1000) (hr : r.length = w) : Con Try.prog [] 122 [.int p, .slice 0 0 w k] [(0, .ints t (r ++ a))]
    (fun v H' => ∃ k' sp, w ≤ k' ∧ k' ≤ w + sp.length ∧ v = .tuple [.slice 1 0 w k', .bool (facP p r != 0)] ∧ H' = [(0, .ints t (r ++ a)), (1, .ints 2 (normL p r ++ sp))]) := by
  have := l01Norm_con p t (r ++ a) w k (by rw [List.length_append]; omega) hp (by omega)
  rwa [show (r ++ a).take w = r by rw [← hr, List.take_left]] at this
end Go.Proofs.Ytoiolpgmilobnaa
namespace Go.Proofs.Ytoiolpgmilobnaa
set_option maxRecDepth 10000
set_option linter.unusedSimpArgs false
set_option linter.unusedVariables false
set_option maxHeartbeats 4000000
/-- the reference's list of rows -/
structure ES where
  i : Nat
  r : Nat
  kO : Nat
  E : Nat → List Int
  K : Nat → Nat
  S : Nat → List Int
  P : Nat → Nat
attribute [local irreducible] CW OW QW QOp Con thenP inBlockP AW QX RW AX
theorem echelon33_con (p : Int) (M : Nat → List Int) (k c0 c1 c2 : Nat) (hp : primeB p = true) (hM : ∀ i, i < 3 → rwB p 3 (M i)) : Con Try.prog [] 77 [.int p, .slice 0 0 3 k] [(0, .vals 103 [.slice 1 0 3 c0, .slice 2 0 3 c1, .slice 3 0 3 c2]), (1, .ints 2 (M 0)), (2, .ints 2 (M 1)), (3, .ints 2 (M 2))] (fun v H' => ∃ kO : Nat, v = .slice 4 0 (rkI p M 3 3) kO ∧ H' = [(0, .vals 103 [.slice 1 0 3 c0, .slice 2 0 3 c1, .slice 3 0 3 c2]), (1, .ints 2 (M 0)), (2, .ints 2 (M 1)), (3, .ints 2 (M 2))]) := by
  have hpb := prime_bd hp
  have hp0 : 0 < p := by omega
  have ho : ∀ i c, i < 3 → Con Try.prog [] 119 [.slice 0 0 3 c] [(0, .ints 2 (M i))] (fun v H' => ∃ k2 sp, 3 ≤ k2 ∧ k2 ≤ 3 + sp.length ∧ v = .slice 1 0 3 k2 ∧ H' = [(0, .ints 2 (M i)), (1, .ints 2 (M i ++ sp))]) := fun i c hi => by
    have := own64_con 2 (M i) 0 3 c (by rw [(hM i hi).1]; omega) (by decide)
    rwa [List.drop_zero, List.take_of_length_le (by rw [(hM i hi).1]; omega)] at this
  refine conW tab_ok [(0, .int p), (1, .slice 0 0 3 k)] 4 [0, 1, 2, 3] [0, 1, 2, 3] Try.func77 rfl rfl rfl rfl rfl rfl rfl rfl rfl ?_
  refine cR ?_
  refine oA rfl rfl ?_
  refine oN ?_
  refine cR ?_
  refine oBslv (r := []) rfl rfl rfl rfl rfl rfl rfl rfl rfl rfl rfl rfl rfl ?_
  refine oA rfl rfl ?_
  refine oN ?_
  refine CW_seq ?_
  refine cR ?_
  refine oA rfl rfl ?_
  refine oN ?_
  refine CW_block ?_
  refine CW_loop (ι := ES) (fun x => x.i ≤ 3 ∧ x.r ≤ x.i ∧ (∀ k, k < x.r → rwB p 3 (x.E k)) ∧ EcI p M x.i 3 x.E x.r x.P) (fun x => match x.r with | 0 => ⟨[(0, .int p), (1, .slice 0 0 3 k), (5, .slice 4 0 0 x.kO), (6, .int x.i)], [(0, .vals 103 [.slice 1 0 3 c0, .slice 2 0 3 c1, .slice 3 0 3 c2]), (1, .ints 2 (M 0)), (2, .ints 2 (M 1)), (3, .ints 2 (M 2)), (4, .vals 103 ([] ++ List.replicate (x.kO - 0) .bot))], 5⟩ | 1 => ⟨[(0, .int p), (1, .slice 0 0 3 k), (5, .slice 4 0 1 x.kO), (6, .int x.i)], [(0, .vals 103 [.slice 1 0 3 c0, .slice 2 0 3 c1, .slice 3 0 3 c2]), (1, .ints 2 (M 0)), (2, .ints 2 (M 1)), (3, .ints 2 (M 2)), (5, .ints 2 (x.E 0 ++ x.S 0)), (4, .vals 103 ([.slice 5 0 3 (x.K 0)] ++ List.replicate (x.kO - 1) .bot))], 6⟩ | 2 => ⟨[(0, .int p), (1, .slice 0 0 3 k), (5, .slice 4 0 2 x.kO), (6, .int x.i)], [(0, .vals 103 [.slice 1 0 3 c0, .slice 2 0 3 c1, .slice 3 0 3 c2]), (1, .ints 2 (M 0)), (2, .ints 2 (M 1)), (3, .ints 2 (M 2)), (5, .ints 2 (x.E 0 ++ x.S 0)), (6, .ints 2 (x.E 1 ++ x.S 1)), (4, .vals 103 ([.slice 5 0 3 (x.K 0), .slice 6 0 3 (x.K 1)] ++ List.replicate (x.kO - 2) .bot))], 7⟩ | _ => ⟨[(0, .int p), (1, .slice 0 0 3 k), (5, .slice 4 0 3 x.kO), (6, .int x.i)], [(0, .vals 103 [.slice 1 0 3 c0, .slice 2 0 3 c1, .slice 3 0 3 c2]), (1, .ints 2 (M 0)), (2, .ints 2 (M 1)), (3, .ints 2 (M 2)), (5, .ints 2 (x.E 0 ++ x.S 0)), (6, .ints 2 (x.E 1 ++ x.S 1)), (7, .ints 2 (x.E 2 ++ x.S 2)), (4, .vals 103 ([.slice 5 0 3 (x.K 0), .slice 6 0 3 (x.K 1), .slice 7 0 3 (x.K 2)] ++ List.replicate (x.kO - 3) .bot))], 8⟩) (fun x => 3 - x.i) ⟨0, 0, 0, fun _ => [], fun _ => 0, fun _ => [], fun _ => 0⟩ ?_ ?_ ?_
  · exact ⟨Nat.zero_le _, Nat.le_refl _, fun k hk => absurd hk (Nat.not_lt_zero _), EcI_start p M _ _ _⟩
  · refine View.mk' [] rfl (by simp only [wfB, List.all_cons, List.all_nil, ids_bots]; rfl) rfl ?_ ?_
    repeat' first | exact vFn | refine vFc rfl ?_ | exact vHn | refine vHc rfl ?_ | refine vFc (congrArg (fun z => some (V.int z)) ?_) ?_ | refine vHc (congrArg (fun z => some (Blk.ints _ z)) ?_) ?_ | refine vFc (congrArg (fun z => some (V.bool z)) ?_) ?_ | refine vFs rfl rfl ?_ ?_ | refine vHc (by rw [ren_bots]; rfl) ?_
  rintro ⟨i, r, kO, E, K, S, P⟩ ⟨h1, h2, hE, hEc⟩
  dsimp only at h1 h2 hE hEc ⊢
  have hP : ∀ k, k < r → P k < 3 := fun k hk => EcI_lt hp hEc hk
  have hld : ∀ k, k < r → ConQ Try.prog [] 121 [.slice 0 0 3 (K k)] [(0, .ints 2 (E k ++ S k))] (.int (P k)) := fun k hk => leadw_con 2 3 (E k) (S k) (K k) (by decide) (hE k hk).1 _ (EcI_ld hp hEc hk (hE k hk))
  have hel : ∀ k, k < r → (E k).length = 3 := fun k hk => (hE k hk).1
  have hrr : r = 0 ∨ r = 1 ∨ r = 2 ∨ r = 3 := by omega
  obtain ⟨r2, hr2⟩ : ∃ z, z = r := ⟨r, rfl⟩
  obtain ⟨r3, hr3⟩ : ∃ z, z = r := ⟨r, rfl⟩
  obtain ⟨r4, hr4⟩ : ∃ z, z = r := ⟨r, rfl⟩
  obtain ⟨r5, hr5⟩ : ∃ z, z = r := ⟨r, rfl⟩
  rcases hrr with rfl | rfl | rfl | rfl
  all_goals (
   refine CW_seq ?_
   refine cR ?_
   iterate 2 refine oM rfl rfl ?_
   first | refine oQ (Q_len rfl rfl rfl rfl) rfl rfl ?_ | refine oQ (Q_len0 rfl rfl rfl rfl) rfl rfl ?_
   refine oQ (Q_bin rfl rfl rfl) rfl rfl ?_
   refine oN ?_
   first | refine cT rfl ?_ | refine cF rfl ?_ | refine CW_cond rfl (fun hc => ?_) (fun hc => ?_)
   all_goals try simp only [s1, s2, s3, s4, s5, s6, s7, s8, s9, s10, s11, s12] at hc
   all_goals try (exfalso; first | omega | (simp at hc; done); done)
   all_goals first
     | (
      refine CW_skip ?_)
     | (
      refine CW_exit ?_)
   all_goals first
     | with_reducible refine tR ?_
     | with_reducible refine tE ?_
     | (
      with_reducible refine tN ?_
      refine CW_seq ?_
      refine CW_block ?_
      refine CW_cut (ι := Nat × List Int) (fun x => i < 3 ∧ 3 ≤ x.1 ∧ x.1 ≤ 3 + x.2.length) (fun x => match r2 with | 0 => ⟨[(0, .int p), (1, .slice 0 0 3 k), (5, .slice 4 0 0 kO), (6, .int i), (7, .slice 5 0 3 x.1)], [(0, .vals 103 [.slice 1 0 3 c0, .slice 2 0 3 c1, .slice 3 0 3 c2]), (1, .ints 2 (M 0)), (2, .ints 2 (M 1)), (3, .ints 2 (M 2)), (4, .vals 103 ([] ++ List.replicate (kO - 0) .bot)), (5, .ints 2 (rdc p E P 3 (M i) 0 ++ x.2))], 6⟩ | 1 => ⟨[(0, .int p), (1, .slice 0 0 3 k), (5, .slice 4 0 1 kO), (6, .int i), (7, .slice 6 0 3 x.1)], [(0, .vals 103 [.slice 1 0 3 c0, .slice 2 0 3 c1, .slice 3 0 3 c2]), (1, .ints 2 (M 0)), (2, .ints 2 (M 1)), (3, .ints 2 (M 2)), (5, .ints 2 (E 0 ++ S 0)), (4, .vals 103 ([.slice 5 0 3 (K 0)] ++ List.replicate (kO - 1) .bot)), (6, .ints 2 (rdc p E P 3 (M i) 0 ++ x.2))], 7⟩ | _ => ⟨[(0, .int p), (1, .slice 0 0 3 k), (5, .slice 4 0 2 kO), (6, .int i), (7, .slice 7 0 3 x.1)], [(0, .vals 103 [.slice 1 0 3 c0, .slice 2 0 3 c1, .slice 3 0 3 c2]), (1, .ints 2 (M 0)), (2, .ints 2 (M 1)), (3, .ints 2 (M 2)), (5, .ints 2 (E 0 ++ S 0)), (6, .ints 2 (E 1 ++ S 1)), (4, .vals 103 ([.slice 5 0 3 (K 0), .slice 6 0 3 (K 1)] ++ List.replicate (kO - 2) .bot)), (7, .ints 2 (rdc p E P 3 (M i) 0 ++ x.2))], 8⟩) ?_ ?_
      · (
       subst hr2
       have him : i < 3 := by omega
       have hii : i = 0 ∨ i = 1 ∨ i = 2 := by omega
       rcases hii with rfl | rfl | rfl
       all_goals (
        refine CW_region ?_
        iterate 2 refine oM rfl rfl ?_
        first | refine oQ (Is0 rfl rfl rfl rfl rfl rfl) rfl rfl ?_ | refine oQ (Is1 rfl rfl rfl rfl rfl rfl) rfl rfl ?_
        refine oQ (Q_ldv rfl rfl rfl rfl rfl rfl) rfl rfl ?_
        first
          | (refine oCall (ho 0 c0 (by omega)) [(0, 1)] 2 rfl rfl (Fits.mk' (vHc rfl vHn) rfl rfl (by simp)) rfl rfl ?_; rintro v1 H1 ⟨ko, so, hko1, hko2, rfl, rfl⟩; first | refine ⟨.slice 6 0 3 ko, [(1, .ints 2 (M 0)), (6, .ints 2 (M 0 ++ so))], rfl, rfl, rfl, ?_⟩ | refine ⟨.slice 7 0 3 ko, [(1, .ints 2 (M 0)), (7, .ints 2 (M 0 ++ so))], rfl, rfl, rfl, ?_⟩ | refine ⟨.slice 8 0 3 ko, [(1, .ints 2 (M 0)), (8, .ints 2 (M 0 ++ so))], rfl, rfl, rfl, ?_⟩)
          | (refine oCall (ho 1 c1 (by omega)) [(0, 2)] 2 rfl rfl (Fits.mk' (vHc rfl vHn) rfl rfl (by simp)) rfl rfl ?_; rintro v1 H1 ⟨ko, so, hko1, hko2, rfl, rfl⟩; first | refine ⟨.slice 6 0 3 ko, [(2, .ints 2 (M 1)), (6, .ints 2 (M 1 ++ so))], rfl, rfl, rfl, ?_⟩ | refine ⟨.slice 7 0 3 ko, [(2, .ints 2 (M 1)), (7, .ints 2 (M 1 ++ so))], rfl, rfl, rfl, ?_⟩ | refine ⟨.slice 8 0 3 ko, [(2, .ints 2 (M 1)), (8, .ints 2 (M 1 ++ so))], rfl, rfl, rfl, ?_⟩)
          | (refine oCall (ho 2 c2 (by omega)) [(0, 3)] 2 rfl rfl (Fits.mk' (vHc rfl vHn) rfl rfl (by simp)) rfl rfl ?_; rintro v1 H1 ⟨ko, so, hko1, hko2, rfl, rfl⟩; first | refine ⟨.slice 6 0 3 ko, [(3, .ints 2 (M 2)), (6, .ints 2 (M 2 ++ so))], rfl, rfl, rfl, ?_⟩ | refine ⟨.slice 7 0 3 ko, [(3, .ints 2 (M 2)), (7, .ints 2 (M 2 ++ so))], rfl, rfl, rfl, ?_⟩ | refine ⟨.slice 8 0 3 ko, [(3, .ints 2 (M 2)), (8, .ints 2 (M 2 ++ so))], rfl, rfl, rfl, ?_⟩)
        refine oA rfl rfl ?_
        refine OW_nil ?_
        all_goals with_reducible refine tN ?_
        all_goals (
         first
           | (
            refine ⟨(ko, so), ?_, View.mk' [(5, 6)] rfl (by simp only [wfB, List.all_cons, List.all_nil, ids_bots]; rfl) rfl ?_ ?_⟩
            · exact ⟨him, hko1, hko2⟩
            all_goals (repeat' first | exact vFn | refine vFc rfl ?_ | exact vHn | refine vHc rfl ?_ | refine vFc (congrArg (fun z => some (V.int z)) ?_) ?_ | refine vHc (congrArg (fun z => some (Blk.ints _ z)) ?_) ?_ | refine vFc (congrArg (fun z => some (V.bool z)) ?_) ?_ | refine vFs rfl rfl ?_ ?_ | refine vHc (by rw [ren_bots]; rfl) ?_)
            done)
           | (
            refine ⟨(ko, so), ?_, View.mk' [(6, 7)] rfl (by simp only [wfB, List.all_cons, List.all_nil, ids_bots]; rfl) rfl ?_ ?_⟩
            · exact ⟨him, hko1, hko2⟩
            all_goals (repeat' first | exact vFn | refine vFc rfl ?_ | exact vHn | refine vHc rfl ?_ | refine vFc (congrArg (fun z => some (V.int z)) ?_) ?_ | refine vHc (congrArg (fun z => some (Blk.ints _ z)) ?_) ?_ | refine vFc (congrArg (fun z => some (V.bool z)) ?_) ?_ | refine vFs rfl rfl ?_ ?_ | refine vHc (by rw [ren_bots]; rfl) ?_)
            done)
           | (
            refine ⟨(ko, so), ?_, View.mk' [(7, 8)] rfl (by simp only [wfB, List.all_cons, List.all_nil, ids_bots]; rfl) rfl ?_ ?_⟩
            · exact ⟨him, hko1, hko2⟩
            all_goals (repeat' first | exact vFn | refine vFc rfl ?_ | exact vHn | refine vHc rfl ?_ | refine vFc (congrArg (fun z => some (V.int z)) ?_) ?_ | refine vHc (congrArg (fun z => some (Blk.ints _ z)) ?_) ?_ | refine vFc (congrArg (fun z => some (V.bool z)) ?_) ?_ | refine vFs rfl rfl ?_ ?_ | refine vHc (by rw [ren_bots]; rfl) ?_)
            done))))
      rintro ⟨ko, so⟩ ⟨him, hko1, hko2⟩
      subst hr2
      dsimp only at hko1 hko2 ⊢
      have hMi := hM i him
      have hrd := fun k => rdc_B (E := E) (P := P) hp0 hMi k
      have d0 := (hrd 0).1
      have d1 := (hrd 1).1
      have d2 := (hrd 2).1
      have hls : ∀ k (a : List Int) (ka : Nat), k < 3 → rwB p 3 (E k) → Con Try.prog [] 120 [.int p, .slice 0 0 3 ka, .slice 1 0 3 (K k), .int ((rdc p E P 3 (M i) k).getD (P k) 0)] [(0, .ints 2 (rdc p E P 3 (M i) k ++ a)), (1, .ints 2 (E k ++ S k))] (fun v H' => ∃ k2 sp, 3 ≤ k2 ∧ k2 ≤ 3 + sp.length ∧ v = .slice 2 0 3 k2 ∧ H' = [(0, .ints 2 (rdc p E P 3 (M i) k ++ a)), (1, .ints 2 (E k ++ S k)), (2, .ints 2 (rdc p E P 3 (M i) (k + 1) ++ sp))]) := fun k a ka hk hek => lessw_con hp 2 2 3 _ _ a (S k) ka (K k) _ (by decide) (hrd k) hek ((hrd k).2 _)
      refine CW_cut (ι := Nat × List Int) (fun x => 3 ≤ x.1 ∧ x.1 ≤ 3 + x.2.length) (fun x => match r3 with | 0 => ⟨[(0, .int p), (1, .slice 0 0 3 k), (5, .slice 4 0 0 kO), (6, .int i), (7, .slice 5 0 3 x.1)], [(0, .vals 103 [.slice 1 0 3 c0, .slice 2 0 3 c1, .slice 3 0 3 c2]), (1, .ints 2 (M 0)), (2, .ints 2 (M 1)), (3, .ints 2 (M 2)), (4, .vals 103 ([] ++ List.replicate (kO - 0) .bot)), (5, .ints 2 (rdc p E P 3 (M i) r3 ++ x.2))], 6⟩ | 1 => ⟨[(0, .int p), (1, .slice 0 0 3 k), (5, .slice 4 0 1 kO), (6, .int i), (7, .slice 6 0 3 x.1)], [(0, .vals 103 [.slice 1 0 3 c0, .slice 2 0 3 c1, .slice 3 0 3 c2]), (1, .ints 2 (M 0)), (2, .ints 2 (M 1)), (3, .ints 2 (M 2)), (5, .ints 2 (E 0 ++ S 0)), (4, .vals 103 ([.slice 5 0 3 (K 0)] ++ List.replicate (kO - 1) .bot)), (6, .ints 2 (rdc p E P 3 (M i) r3 ++ x.2))], 7⟩ | _ => ⟨[(0, .int p), (1, .slice 0 0 3 k), (5, .slice 4 0 2 kO), (6, .int i), (7, .slice 7 0 3 x.1)], [(0, .vals 103 [.slice 1 0 3 c0, .slice 2 0 3 c1, .slice 3 0 3 c2]), (1, .ints 2 (M 0)), (2, .ints 2 (M 1)), (3, .ints 2 (M 2)), (5, .ints 2 (E 0 ++ S 0)), (6, .ints 2 (E 1 ++ S 1)), (4, .vals 103 ([.slice 5 0 3 (K 0), .slice 6 0 3 (K 1)] ++ List.replicate (kO - 2) .bot)), (7, .ints 2 (rdc p E P 3 (M i) r3 ++ x.2))], 8⟩) ?_ ?_
      · (
       subst hr3
       all_goals (
        refine cR ?_
        refine oA rfl rfl ?_
        refine oN ?_
        refine CW_block ?_
        refine CW_rounds 4 ?_
        refine RW_succ ?_
        refine CW_seq ?_
        refine cR ?_
        iterate 2 refine oM rfl rfl ?_
        first | refine oQ (Q_len rfl rfl rfl rfl) rfl rfl ?_ | refine oQ (Q_len0 rfl rfl rfl rfl) rfl rfl ?_
        refine oQ (Q_bin rfl rfl rfl) rfl rfl ?_
        refine oN ?_
        first | refine cT rfl ?_ | refine cF rfl ?_ | refine CW_cond rfl (fun hc => ?_) (fun hc => ?_)
        all_goals try simp only [s1, s2, s3, s4, s5, s6, s7, s8, s9, s10, s11, s12] at hc
        all_goals try (exfalso; first | omega | (simp at hc; done); done)
        all_goals first
          | (
           refine CW_skip ?_)
          | (
           refine CW_exit ?_)
        all_goals first
          | with_reducible refine tR ?_
          | with_reducible refine tE ?_
          | (
           with_reducible refine tN ?_
           refine CW_seq ?_
           refine CW_block ?_
           refine CW_any (fun _ => false) 16 rfl lateOk (by decide +kernel) (fun hst => ?_)
           refine aP 0 hst rfl rfl (by decide +kernel) (PX_move rfl rfl) rfl rfl ?_
           refine aP 1 hst rfl rfl (by decide +kernel) (PX_move rfl rfl) rfl rfl ?_
           refine aP 2 hst rfl rfl (by decide +kernel) (PX_move rfl rfl) rfl rfl ?_
           refine aP 3 hst rfl rfl (by decide +kernel) (PX_move rfl rfl) rfl rfl ?_
           first | refine aQ 4 hst rfl rfl (by decide +kernel) (QX_of (Is0 rfl rfl rfl rfl rfl rfl) NE_ix) rfl rfl ?_ | refine aQ 4 hst rfl rfl (by decide +kernel) (QX_of (Is1 rfl rfl rfl rfl rfl rfl) NE_ix) rfl rfl ?_
           refine aQ 5 hst rfl rfl (by decide +kernel) (QX_of (Q_ldv rfl rfl rfl rfl rfl rfl) NE_load) rfl rfl ?_
           refine aP 6 hst rfl rfl (by decide +kernel) (PX_move rfl rfl) rfl rfl ?_
           refine aP 7 hst rfl rfl (by decide +kernel) (PX_move rfl rfl) rfl rfl ?_
           refine aP 8 hst rfl rfl (by decide +kernel) (PX_move rfl rfl) rfl rfl ?_
           first | refine aQ 9 hst rfl rfl (by decide +kernel) (QX_of (Is0 rfl rfl rfl rfl rfl rfl) NE_ix) rfl rfl ?_ | refine aQ 9 hst rfl rfl (by decide +kernel) (QX_of (Is1 rfl rfl rfl rfl rfl rfl) NE_ix) rfl rfl ?_
           refine aQ 10 hst rfl rfl (by decide +kernel) (QX_of (Q_ldv rfl rfl rfl rfl rfl rfl) NE_load) rfl rfl ?_
           first
             | refine aQ 11 hst rfl rfl (by decide +kernel) (QX_call (hld 0 (by omega)) [(0, 5)] rfl rfl (Fits.mk' (vHc rfl vHn) rfl rfl (by simp)) rfl rfl rfl) rfl rfl ?_
             | refine aQ 11 hst rfl rfl (by decide +kernel) (QX_call (hld 1 (by omega)) [(0, 6)] rfl rfl (Fits.mk' (vHc rfl vHn) rfl rfl (by simp)) rfl rfl rfl) rfl rfl ?_
           ((try have pp0 := hP 0 (by omega)); (try have pp1 := hP 1 (by omega)))
           first
             | refine aQ 12 hst rfl rfl (by decide +kernel) (QX_of (Is0 rfl rfl rfl rfl rfl rfl) NE_ix) rfl rfl ?_
             | refine aQ 12 hst rfl rfl (by decide +kernel) (QX_of (Is1 rfl rfl rfl rfl rfl rfl) NE_ix) rfl rfl ?_
           ((try have pp0 := hP 0 (by omega)); (try have pp1 := hP 1 (by omega)))
           refine aQ 13 hst rfl rfl (by decide +kernel) (QX_of (Ld rfl rfl rfl rfl) NE_load) rfl rfl ?_
           rw [getD_app (by omega)]
           refine AW_one (i := 14) (by decide +kernel) ?_
           first
             | (refine gCall rfl rfl (hls 0 so ko (by omega) (hE 0 (by omega))) [(0, 6), (1, 5)] 3 rfl rfl (Fits.mk' (vHc rfl (vHc rfl vHn)) rfl rfl (by simp)) rfl rfl rfl ?_; rintro v1 H1 ⟨kl0, sl0, hkl0, hkm0, rfl, rfl⟩; refine ⟨.slice 9 0 3 kl0, [(6, .ints 2 (rdc p E P 3 (M i) 0 ++ so)), (5, .ints 2 (E 0 ++ S 0)), (9, .ints 2 (rdc p E P 3 (M i) 1 ++ sl0))], rfl, keep_pre _ _, rfl, rfl, ?_⟩)
             | (refine gCall rfl rfl (hls 0 so ko (by omega) (hE 0 (by omega))) [(0, 7), (1, 5)] 3 rfl rfl (Fits.mk' (vHc rfl (vHc rfl vHn)) rfl rfl (by simp)) rfl rfl rfl ?_; rintro v1 H1 ⟨kl0, sl0, hkl0, hkm0, rfl, rfl⟩; refine ⟨.slice 10 0 3 kl0, [(7, .ints 2 (rdc p E P 3 (M i) 0 ++ so)), (5, .ints 2 (E 0 ++ S 0)), (10, .ints 2 (rdc p E P 3 (M i) 1 ++ sl0))], rfl, keep_pre _ _, rfl, rfl, ?_⟩)
             | (refine gCall rfl rfl (hls 1 sl0 kl0 (by omega) (hE 1 (by omega))) [(0, 10), (1, 6)] 3 rfl rfl (Fits.mk' (vHc rfl (vHc rfl vHn)) rfl rfl (by simp)) rfl rfl rfl ?_; rintro v1 H1 ⟨kl1, sl1, hkl1, hkm1, rfl, rfl⟩; refine ⟨.slice 13 0 3 kl1, [(10, .ints 2 (rdc p E P 3 (M i) 1 ++ sl0)), (6, .ints 2 (E 1 ++ S 1)), (13, .ints 2 (rdc p E P 3 (M i) 2 ++ sl1))], rfl, keep_pre _ _, rfl, rfl, ?_⟩)
           refine aQ 15 hst rfl rfl (by decide +kernel) (QX_of (Q_assign rfl rfl) NE_assign) rfl rfl ?_
           refine AW_done (by decide +kernel) ?_
           all_goals first | with_reducible refine bN ?_ | with_reducible refine bE ?_ | with_reducible refine bR ?_ | refine bX rfl ?_
           all_goals with_reducible refine tN ?_
           all_goals (
            refine CW_region ?_
            refine oM rfl rfl ?_
            first | refine oQ (Q_binu rfl rfl rfl (by omega)) rfl rfl ?_ | refine oQ (Q_bin rfl rfl rfl) rfl rfl ?_
            refine oA rfl rfl ?_
            refine OW_nil ?_))
        all_goals first
          | with_reducible refine tR ?_
          | with_reducible refine tE ?_
          | (
           with_reducible refine tN ?_
           refine RW_succ ?_
           refine CW_seq ?_
           refine cR ?_
           iterate 2 refine oM rfl rfl ?_
           first | refine oQ (Q_len rfl rfl rfl rfl) rfl rfl ?_ | refine oQ (Q_len0 rfl rfl rfl rfl) rfl rfl ?_
           refine oQ (Q_bin rfl rfl rfl) rfl rfl ?_
           refine oN ?_
           first | refine cT rfl ?_ | refine cF rfl ?_ | refine CW_cond rfl (fun hc => ?_) (fun hc => ?_)
           all_goals try simp only [s1, s2, s3, s4, s5, s6, s7, s8, s9, s10, s11, s12] at hc
           all_goals try (exfalso; first | omega | (simp at hc; done); done)
           all_goals first
             | (
              refine CW_skip ?_)
             | (
              refine CW_exit ?_)
           all_goals first
             | with_reducible refine tR ?_
             | with_reducible refine tE ?_
             | (
              with_reducible refine tN ?_
              refine CW_seq ?_
              refine CW_block ?_
              refine CW_any (fun _ => false) 16 rfl lateOk (by decide +kernel) (fun hst => ?_)
              refine aP 0 hst rfl rfl (by decide +kernel) (PX_move rfl rfl) rfl rfl ?_
              refine aP 1 hst rfl rfl (by decide +kernel) (PX_move rfl rfl) rfl rfl ?_
              refine aP 2 hst rfl rfl (by decide +kernel) (PX_move rfl rfl) rfl rfl ?_
              refine aP 3 hst rfl rfl (by decide +kernel) (PX_move rfl rfl) rfl rfl ?_
              first | refine aQ 4 hst rfl rfl (by decide +kernel) (QX_of (Is0 rfl rfl rfl rfl rfl rfl) NE_ix) rfl rfl ?_ | refine aQ 4 hst rfl rfl (by decide +kernel) (QX_of (Is1 rfl rfl rfl rfl rfl rfl) NE_ix) rfl rfl ?_
              refine aQ 5 hst rfl rfl (by decide +kernel) (QX_of (Q_ldv rfl rfl rfl rfl rfl rfl) NE_load) rfl rfl ?_
              refine aP 6 hst rfl rfl (by decide +kernel) (PX_move rfl rfl) rfl rfl ?_
              refine aP 7 hst rfl rfl (by decide +kernel) (PX_move rfl rfl) rfl rfl ?_
              refine aP 8 hst rfl rfl (by decide +kernel) (PX_move rfl rfl) rfl rfl ?_
              first | refine aQ 9 hst rfl rfl (by decide +kernel) (QX_of (Is0 rfl rfl rfl rfl rfl rfl) NE_ix) rfl rfl ?_ | refine aQ 9 hst rfl rfl (by decide +kernel) (QX_of (Is1 rfl rfl rfl rfl rfl rfl) NE_ix) rfl rfl ?_
              refine aQ 10 hst rfl rfl (by decide +kernel) (QX_of (Q_ldv rfl rfl rfl rfl rfl rfl) NE_load) rfl rfl ?_
              first
                | refine aQ 11 hst rfl rfl (by decide +kernel) (QX_call (hld 0 (by omega)) [(0, 5)] rfl rfl (Fits.mk' (vHc rfl vHn) rfl rfl (by simp)) rfl rfl rfl) rfl rfl ?_
                | refine aQ 11 hst rfl rfl (by decide +kernel) (QX_call (hld 1 (by omega)) [(0, 6)] rfl rfl (Fits.mk' (vHc rfl vHn) rfl rfl (by simp)) rfl rfl rfl) rfl rfl ?_
              ((try have pp0 := hP 0 (by omega)); (try have pp1 := hP 1 (by omega)))
              first
                | refine aQ 12 hst rfl rfl (by decide +kernel) (QX_of (Is0 rfl rfl rfl rfl rfl rfl) NE_ix) rfl rfl ?_
                | refine aQ 12 hst rfl rfl (by decide +kernel) (QX_of (Is1 rfl rfl rfl rfl rfl rfl) NE_ix) rfl rfl ?_
              ((try have pp0 := hP 0 (by omega)); (try have pp1 := hP 1 (by omega)))
              refine aQ 13 hst rfl rfl (by decide +kernel) (QX_of (Ld rfl rfl rfl rfl) NE_load) rfl rfl ?_
              rw [getD_app (by omega)]
              refine AW_one (i := 14) (by decide +kernel) ?_
              first
                | (refine gCall rfl rfl (hls 0 so ko (by omega) (hE 0 (by omega))) [(0, 6), (1, 5)] 3 rfl rfl (Fits.mk' (vHc rfl (vHc rfl vHn)) rfl rfl (by simp)) rfl rfl rfl ?_; rintro v1 H1 ⟨kl0, sl0, hkl0, hkm0, rfl, rfl⟩; refine ⟨.slice 9 0 3 kl0, [(6, .ints 2 (rdc p E P 3 (M i) 0 ++ so)), (5, .ints 2 (E 0 ++ S 0)), (9, .ints 2 (rdc p E P 3 (M i) 1 ++ sl0))], rfl, keep_pre _ _, rfl, rfl, ?_⟩)
                | (refine gCall rfl rfl (hls 0 so ko (by omega) (hE 0 (by omega))) [(0, 7), (1, 5)] 3 rfl rfl (Fits.mk' (vHc rfl (vHc rfl vHn)) rfl rfl (by simp)) rfl rfl rfl ?_; rintro v1 H1 ⟨kl0, sl0, hkl0, hkm0, rfl, rfl⟩; refine ⟨.slice 10 0 3 kl0, [(7, .ints 2 (rdc p E P 3 (M i) 0 ++ so)), (5, .ints 2 (E 0 ++ S 0)), (10, .ints 2 (rdc p E P 3 (M i) 1 ++ sl0))], rfl, keep_pre _ _, rfl, rfl, ?_⟩)
                | (refine gCall rfl rfl (hls 1 sl0 kl0 (by omega) (hE 1 (by omega))) [(0, 10), (1, 6)] 3 rfl rfl (Fits.mk' (vHc rfl (vHc rfl vHn)) rfl rfl (by simp)) rfl rfl rfl ?_; rintro v1 H1 ⟨kl1, sl1, hkl1, hkm1, rfl, rfl⟩; refine ⟨.slice 13 0 3 kl1, [(10, .ints 2 (rdc p E P 3 (M i) 1 ++ sl0)), (6, .ints 2 (E 1 ++ S 1)), (13, .ints 2 (rdc p E P 3 (M i) 2 ++ sl1))], rfl, keep_pre _ _, rfl, rfl, ?_⟩)
              refine aQ 15 hst rfl rfl (by decide +kernel) (QX_of (Q_assign rfl rfl) NE_assign) rfl rfl ?_
              refine AW_done (by decide +kernel) ?_
              all_goals first | with_reducible refine bN ?_ | with_reducible refine bE ?_ | with_reducible refine bR ?_ | refine bX rfl ?_
              all_goals with_reducible refine tN ?_
              all_goals (
               refine CW_region ?_
               refine oM rfl rfl ?_
               first | refine oQ (Q_binu rfl rfl rfl (by omega)) rfl rfl ?_ | refine oQ (Q_bin rfl rfl rfl) rfl rfl ?_
               refine oA rfl rfl ?_
               refine OW_nil ?_))
           all_goals first
             | with_reducible refine tR ?_
             | with_reducible refine tE ?_
             | (
              with_reducible refine tN ?_
              refine RW_succ ?_
              refine CW_seq ?_
              refine cR ?_
              iterate 2 refine oM rfl rfl ?_
              first | refine oQ (Q_len rfl rfl rfl rfl) rfl rfl ?_ | refine oQ (Q_len0 rfl rfl rfl rfl) rfl rfl ?_
              refine oQ (Q_bin rfl rfl rfl) rfl rfl ?_
              refine oN ?_
              first | refine cT rfl ?_ | refine cF rfl ?_ | refine CW_cond rfl (fun hc => ?_) (fun hc => ?_)
              all_goals try simp only [s1, s2, s3, s4, s5, s6, s7, s8, s9, s10, s11, s12] at hc
              all_goals try (exfalso; first | omega | (simp at hc; done); done)
              all_goals first
                | (
                 refine CW_skip ?_)
                | (
                 refine CW_exit ?_)
              all_goals first
                | with_reducible refine tR ?_
                | with_reducible refine tE ?_
                | (
                 with_reducible refine tN ?_
                 refine CW_seq ?_
                 refine CW_block ?_
                 refine CW_any (fun _ => false) 16 rfl lateOk (by decide +kernel) (fun hst => ?_)
                 refine aP 0 hst rfl rfl (by decide +kernel) (PX_move rfl rfl) rfl rfl ?_
                 refine aP 1 hst rfl rfl (by decide +kernel) (PX_move rfl rfl) rfl rfl ?_
                 refine aP 2 hst rfl rfl (by decide +kernel) (PX_move rfl rfl) rfl rfl ?_
                 refine aP 3 hst rfl rfl (by decide +kernel) (PX_move rfl rfl) rfl rfl ?_
                 first | refine aQ 4 hst rfl rfl (by decide +kernel) (QX_of (Is0 rfl rfl rfl rfl rfl rfl) NE_ix) rfl rfl ?_ | refine aQ 4 hst rfl rfl (by decide +kernel) (QX_of (Is1 rfl rfl rfl rfl rfl rfl) NE_ix) rfl rfl ?_
                 refine aQ 5 hst rfl rfl (by decide +kernel) (QX_of (Q_ldv rfl rfl rfl rfl rfl rfl) NE_load) rfl rfl ?_
                 refine aP 6 hst rfl rfl (by decide +kernel) (PX_move rfl rfl) rfl rfl ?_
                 refine aP 7 hst rfl rfl (by decide +kernel) (PX_move rfl rfl) rfl rfl ?_
                 refine aP 8 hst rfl rfl (by decide +kernel) (PX_move rfl rfl) rfl rfl ?_
                 first | refine aQ 9 hst rfl rfl (by decide +kernel) (QX_of (Is0 rfl rfl rfl rfl rfl rfl) NE_ix) rfl rfl ?_ | refine aQ 9 hst rfl rfl (by decide +kernel) (QX_of (Is1 rfl rfl rfl rfl rfl rfl) NE_ix) rfl rfl ?_
                 refine aQ 10 hst rfl rfl (by decide +kernel) (QX_of (Q_ldv rfl rfl rfl rfl rfl rfl) NE_load) rfl rfl ?_
                 first
                   | refine aQ 11 hst rfl rfl (by decide +kernel) (QX_call (hld 0 (by omega)) [(0, 5)] rfl rfl (Fits.mk' (vHc rfl vHn) rfl rfl (by simp)) rfl rfl rfl) rfl rfl ?_
                   | refine aQ 11 hst rfl rfl (by decide +kernel) (QX_call (hld 1 (by omega)) [(0, 6)] rfl rfl (Fits.mk' (vHc rfl vHn) rfl rfl (by simp)) rfl rfl rfl) rfl rfl ?_
                 ((try have pp0 := hP 0 (by omega)); (try have pp1 := hP 1 (by omega)))
                 first
                   | refine aQ 12 hst rfl rfl (by decide +kernel) (QX_of (Is0 rfl rfl rfl rfl rfl rfl) NE_ix) rfl rfl ?_
                   | refine aQ 12 hst rfl rfl (by decide +kernel) (QX_of (Is1 rfl rfl rfl rfl rfl rfl) NE_ix) rfl rfl ?_
                 ((try have pp0 := hP 0 (by omega)); (try have pp1 := hP 1 (by omega)))
                 refine aQ 13 hst rfl rfl (by decide +kernel) (QX_of (Ld rfl rfl rfl rfl) NE_load) rfl rfl ?_
                 rw [getD_app (by omega)]
                 refine AW_one (i := 14) (by decide +kernel) ?_
                 first
                   | (refine gCall rfl rfl (hls 0 so ko (by omega) (hE 0 (by omega))) [(0, 6), (1, 5)] 3 rfl rfl (Fits.mk' (vHc rfl (vHc rfl vHn)) rfl rfl (by simp)) rfl rfl rfl ?_; rintro v1 H1 ⟨kl0, sl0, hkl0, hkm0, rfl, rfl⟩; refine ⟨.slice 9 0 3 kl0, [(6, .ints 2 (rdc p E P 3 (M i) 0 ++ so)), (5, .ints 2 (E 0 ++ S 0)), (9, .ints 2 (rdc p E P 3 (M i) 1 ++ sl0))], rfl, keep_pre _ _, rfl, rfl, ?_⟩)
                   | (refine gCall rfl rfl (hls 0 so ko (by omega) (hE 0 (by omega))) [(0, 7), (1, 5)] 3 rfl rfl (Fits.mk' (vHc rfl (vHc rfl vHn)) rfl rfl (by simp)) rfl rfl rfl ?_; rintro v1 H1 ⟨kl0, sl0, hkl0, hkm0, rfl, rfl⟩; refine ⟨.slice 10 0 3 kl0, [(7, .ints 2 (rdc p E P 3 (M i) 0 ++ so)), (5, .ints 2 (E 0 ++ S 0)), (10, .ints 2 (rdc p E P 3 (M i) 1 ++ sl0))], rfl, keep_pre _ _, rfl, rfl, ?_⟩)
                   | (refine gCall rfl rfl (hls 1 sl0 kl0 (by omega) (hE 1 (by omega))) [(0, 10), (1, 6)] 3 rfl rfl (Fits.mk' (vHc rfl (vHc rfl vHn)) rfl rfl (by simp)) rfl rfl rfl ?_; rintro v1 H1 ⟨kl1, sl1, hkl1, hkm1, rfl, rfl⟩; refine ⟨.slice 13 0 3 kl1, [(10, .ints 2 (rdc p E P 3 (M i) 1 ++ sl0)), (6, .ints 2 (E 1 ++ S 1)), (13, .ints 2 (rdc p E P 3 (M i) 2 ++ sl1))], rfl, keep_pre _ _, rfl, rfl, ?_⟩)
                 refine aQ 15 hst rfl rfl (by decide +kernel) (QX_of (Q_assign rfl rfl) NE_assign) rfl rfl ?_
                 refine AW_done (by decide +kernel) ?_
                 all_goals first | with_reducible refine bN ?_ | with_reducible refine bE ?_ | with_reducible refine bR ?_ | refine bX rfl ?_
                 all_goals with_reducible refine tN ?_
                 all_goals (
                  refine CW_region ?_
                  refine oM rfl rfl ?_
                  first | refine oQ (Q_binu rfl rfl rfl (by omega)) rfl rfl ?_ | refine oQ (Q_bin rfl rfl rfl) rfl rfl ?_
                  refine oA rfl rfl ?_
                  refine OW_nil ?_))
              all_goals first
                | with_reducible refine tR ?_
                | with_reducible refine tE ?_
                | (
                 with_reducible refine tN ?_
                 refine RW_succ ?_
                 refine CW_seq ?_
                 refine cR ?_
                 iterate 2 refine oM rfl rfl ?_
                 first | refine oQ (Q_len rfl rfl rfl rfl) rfl rfl ?_ | refine oQ (Q_len0 rfl rfl rfl rfl) rfl rfl ?_
                 refine oQ (Q_bin rfl rfl rfl) rfl rfl ?_
                 refine oN ?_
                 first | refine cT rfl ?_ | refine cF rfl ?_ | refine CW_cond rfl (fun hc => ?_) (fun hc => ?_)
                 all_goals try simp only [s1, s2, s3, s4, s5, s6, s7, s8, s9, s10, s11, s12] at hc
                 all_goals try (exfalso; first | omega | (simp at hc; done); done)
                 all_goals first
                   | (
                    refine CW_skip ?_)
                   | (
                    refine CW_exit ?_)
                 all_goals first
                   | with_reducible refine tR ?_
                   | with_reducible refine tE ?_
                   | (
                    with_reducible refine tN ?_
                    refine CW_seq ?_
                    refine CW_block ?_
                    refine CW_any (fun _ => false) 16 rfl lateOk (by decide +kernel) (fun hst => ?_)
                    refine aP 0 hst rfl rfl (by decide +kernel) (PX_move rfl rfl) rfl rfl ?_
                    refine aP 1 hst rfl rfl (by decide +kernel) (PX_move rfl rfl) rfl rfl ?_
                    refine aP 2 hst rfl rfl (by decide +kernel) (PX_move rfl rfl) rfl rfl ?_
                    refine aP 3 hst rfl rfl (by decide +kernel) (PX_move rfl rfl) rfl rfl ?_
                    first | refine aQ 4 hst rfl rfl (by decide +kernel) (QX_of (Is0 rfl rfl rfl rfl rfl rfl) NE_ix) rfl rfl ?_ | refine aQ 4 hst rfl rfl (by decide +kernel) (QX_of (Is1 rfl rfl rfl rfl rfl rfl) NE_ix) rfl rfl ?_
                    refine aQ 5 hst rfl rfl (by decide +kernel) (QX_of (Q_ldv rfl rfl rfl rfl rfl rfl) NE_load) rfl rfl ?_
                    refine aP 6 hst rfl rfl (by decide +kernel) (PX_move rfl rfl) rfl rfl ?_
                    refine aP 7 hst rfl rfl (by decide +kernel) (PX_move rfl rfl) rfl rfl ?_
                    refine aP 8 hst rfl rfl (by decide +kernel) (PX_move rfl rfl) rfl rfl ?_
                    first | refine aQ 9 hst rfl rfl (by decide +kernel) (QX_of (Is0 rfl rfl rfl rfl rfl rfl) NE_ix) rfl rfl ?_ | refine aQ 9 hst rfl rfl (by decide +kernel) (QX_of (Is1 rfl rfl rfl rfl rfl rfl) NE_ix) rfl rfl ?_
                    refine aQ 10 hst rfl rfl (by decide +kernel) (QX_of (Q_ldv rfl rfl rfl rfl rfl rfl) NE_load) rfl rfl ?_
                    first
                      | refine aQ 11 hst rfl rfl (by decide +kernel) (QX_call (hld 0 (by omega)) [(0, 5)] rfl rfl (Fits.mk' (vHc rfl vHn) rfl rfl (by simp)) rfl rfl rfl) rfl rfl ?_
                      | refine aQ 11 hst rfl rfl (by decide +kernel) (QX_call (hld 1 (by omega)) [(0, 6)] rfl rfl (Fits.mk' (vHc rfl vHn) rfl rfl (by simp)) rfl rfl rfl) rfl rfl ?_
                    ((try have pp0 := hP 0 (by omega)); (try have pp1 := hP 1 (by omega)))
                    first
                      | refine aQ 12 hst rfl rfl (by decide +kernel) (QX_of (Is0 rfl rfl rfl rfl rfl rfl) NE_ix) rfl rfl ?_
                      | refine aQ 12 hst rfl rfl (by decide +kernel) (QX_of (Is1 rfl rfl rfl rfl rfl rfl) NE_ix) rfl rfl ?_
                    ((try have pp0 := hP 0 (by omega)); (try have pp1 := hP 1 (by omega)))
                    refine aQ 13 hst rfl rfl (by decide +kernel) (QX_of (Ld rfl rfl rfl rfl) NE_load) rfl rfl ?_
                    rw [getD_app (by omega)]
                    refine AW_one (i := 14) (by decide +kernel) ?_
                    first
                      | (refine gCall rfl rfl (hls 0 so ko (by omega) (hE 0 (by omega))) [(0, 6), (1, 5)] 3 rfl rfl (Fits.mk' (vHc rfl (vHc rfl vHn)) rfl rfl (by simp)) rfl rfl rfl ?_; rintro v1 H1 ⟨kl0, sl0, hkl0, hkm0, rfl, rfl⟩; refine ⟨.slice 9 0 3 kl0, [(6, .ints 2 (rdc p E P 3 (M i) 0 ++ so)), (5, .ints 2 (E 0 ++ S 0)), (9, .ints 2 (rdc p E P 3 (M i) 1 ++ sl0))], rfl, keep_pre _ _, rfl, rfl, ?_⟩)
                      | (refine gCall rfl rfl (hls 0 so ko (by omega) (hE 0 (by omega))) [(0, 7), (1, 5)] 3 rfl rfl (Fits.mk' (vHc rfl (vHc rfl vHn)) rfl rfl (by simp)) rfl rfl rfl ?_; rintro v1 H1 ⟨kl0, sl0, hkl0, hkm0, rfl, rfl⟩; refine ⟨.slice 10 0 3 kl0, [(7, .ints 2 (rdc p E P 3 (M i) 0 ++ so)), (5, .ints 2 (E 0 ++ S 0)), (10, .ints 2 (rdc p E P 3 (M i) 1 ++ sl0))], rfl, keep_pre _ _, rfl, rfl, ?_⟩)
                      | (refine gCall rfl rfl (hls 1 sl0 kl0 (by omega) (hE 1 (by omega))) [(0, 10), (1, 6)] 3 rfl rfl (Fits.mk' (vHc rfl (vHc rfl vHn)) rfl rfl (by simp)) rfl rfl rfl ?_; rintro v1 H1 ⟨kl1, sl1, hkl1, hkm1, rfl, rfl⟩; refine ⟨.slice 13 0 3 kl1, [(10, .ints 2 (rdc p E P 3 (M i) 1 ++ sl0)), (6, .ints 2 (E 1 ++ S 1)), (13, .ints 2 (rdc p E P 3 (M i) 2 ++ sl1))], rfl, keep_pre _ _, rfl, rfl, ?_⟩)
                    refine aQ 15 hst rfl rfl (by decide +kernel) (QX_of (Q_assign rfl rfl) NE_assign) rfl rfl ?_
                    refine AW_done (by decide +kernel) ?_
                    all_goals first | with_reducible refine bN ?_ | with_reducible refine bE ?_ | with_reducible refine bR ?_ | refine bX rfl ?_
                    all_goals with_reducible refine tN ?_
                    all_goals (
                     refine CW_region ?_
                     refine oM rfl rfl ?_
                     first | refine oQ (Q_binu rfl rfl rfl (by omega)) rfl rfl ?_ | refine oQ (Q_bin rfl rfl rfl) rfl rfl ?_
                     refine oA rfl rfl ?_
                     refine OW_nil ?_))
                 all_goals first
                   | with_reducible refine tR ?_
                   | with_reducible refine tE ?_
                   | (
                    with_reducible refine tN ?_
                    exfalso; first | omega | (simp at hc; done) | (simp_all; done)))))
        all_goals first | with_reducible refine bN ?_ | with_reducible refine bE ?_ | with_reducible refine bR ?_ | refine bX rfl ?_
        all_goals with_reducible refine tN ?_
        all_goals (
         first
           | (
            refine ⟨(ko, so), ?_, View.mk' [] rfl (by simp only [wfB, List.all_cons, List.all_nil, ids_bots]; rfl) rfl ?_ ?_⟩
            · first | exact ⟨hko1, hko2⟩ | exact ⟨hkl0, hkm0⟩ | exact ⟨hkl1, hkm1⟩
            all_goals (repeat' first | exact vFn | refine vFc rfl ?_ | exact vHn | refine vHc rfl ?_ | refine vFc (congrArg (fun z => some (V.int z)) ?_) ?_ | refine vHc (congrArg (fun z => some (Blk.ints _ z)) ?_) ?_ | refine vFc (congrArg (fun z => some (V.bool z)) ?_) ?_ | refine vFs rfl rfl ?_ ?_ | refine vHc (by rw [ren_bots]; rfl) ?_)
            done)
           | (
            refine ⟨(kl0, sl0), ?_, View.mk' [] rfl (by simp only [wfB, List.all_cons, List.all_nil, ids_bots]; rfl) rfl ?_ ?_⟩
            · first | exact ⟨hko1, hko2⟩ | exact ⟨hkl0, hkm0⟩ | exact ⟨hkl1, hkm1⟩
            all_goals (repeat' first | exact vFn | refine vFc rfl ?_ | exact vHn | refine vHc rfl ?_ | refine vFc (congrArg (fun z => some (V.int z)) ?_) ?_ | refine vHc (congrArg (fun z => some (Blk.ints _ z)) ?_) ?_ | refine vFc (congrArg (fun z => some (V.bool z)) ?_) ?_ | refine vFs rfl rfl ?_ ?_ | refine vHc (by rw [ren_bots]; rfl) ?_)
            done)
           | (
            refine ⟨(kl1, sl1), ?_, View.mk' [] rfl (by simp only [wfB, List.all_cons, List.all_nil, ids_bots]; rfl) rfl ?_ ?_⟩
            · first | exact ⟨hko1, hko2⟩ | exact ⟨hkl0, hkm0⟩ | exact ⟨hkl1, hkm1⟩
            all_goals (repeat' first | exact vFn | refine vFc rfl ?_ | exact vHn | refine vHc rfl ?_ | refine vFc (congrArg (fun z => some (V.int z)) ?_) ?_ | refine vHc (congrArg (fun z => some (Blk.ints _ z)) ?_) ?_ | refine vFc (congrArg (fun z => some (V.bool z)) ?_) ?_ | refine vFs rfl rfl ?_ ?_ | refine vHc (by rw [ren_bots]; rfl) ?_)
            done)
           | (
            refine ⟨(ko, so), ?_, View.mk' [(6, 9)] rfl (by simp only [wfB, List.all_cons, List.all_nil, ids_bots]; rfl) rfl ?_ ?_⟩
            · first | exact ⟨hko1, hko2⟩ | exact ⟨hkl0, hkm0⟩ | exact ⟨hkl1, hkm1⟩
            all_goals (repeat' first | exact vFn | refine vFc rfl ?_ | exact vHn | refine vHc rfl ?_ | refine vFc (congrArg (fun z => some (V.int z)) ?_) ?_ | refine vHc (congrArg (fun z => some (Blk.ints _ z)) ?_) ?_ | refine vFc (congrArg (fun z => some (V.bool z)) ?_) ?_ | refine vFs rfl rfl ?_ ?_ | refine vHc (by rw [ren_bots]; rfl) ?_)
            done)
           | (
            refine ⟨(kl0, sl0), ?_, View.mk' [(6, 9)] rfl (by simp only [wfB, List.all_cons, List.all_nil, ids_bots]; rfl) rfl ?_ ?_⟩
            · first | exact ⟨hko1, hko2⟩ | exact ⟨hkl0, hkm0⟩ | exact ⟨hkl1, hkm1⟩
            all_goals (repeat' first | exact vFn | refine vFc rfl ?_ | exact vHn | refine vHc rfl ?_ | refine vFc (congrArg (fun z => some (V.int z)) ?_) ?_ | refine vHc (congrArg (fun z => some (Blk.ints _ z)) ?_) ?_ | refine vFc (congrArg (fun z => some (V.bool z)) ?_) ?_ | refine vFs rfl rfl ?_ ?_ | refine vHc (by rw [ren_bots]; rfl) ?_)
            done)
           | (
            refine ⟨(kl1, sl1), ?_, View.mk' [(6, 9)] rfl (by simp only [wfB, List.all_cons, List.all_nil, ids_bots]; rfl) rfl ?_ ?_⟩
            · first | exact ⟨hko1, hko2⟩ | exact ⟨hkl0, hkm0⟩ | exact ⟨hkl1, hkm1⟩
            all_goals (repeat' first | exact vFn | refine vFc rfl ?_ | exact vHn | refine vHc rfl ?_ | refine vFc (congrArg (fun z => some (V.int z)) ?_) ?_ | refine vHc (congrArg (fun z => some (Blk.ints _ z)) ?_) ?_ | refine vFc (congrArg (fun z => some (V.bool z)) ?_) ?_ | refine vFs rfl rfl ?_ ?_ | refine vHc (by rw [ren_bots]; rfl) ?_)
            done)
           | (
            refine ⟨(ko, so), ?_, View.mk' [(7, 13)] rfl (by simp only [wfB, List.all_cons, List.all_nil, ids_bots]; rfl) rfl ?_ ?_⟩
            · first | exact ⟨hko1, hko2⟩ | exact ⟨hkl0, hkm0⟩ | exact ⟨hkl1, hkm1⟩
            all_goals (repeat' first | exact vFn | refine vFc rfl ?_ | exact vHn | refine vHc rfl ?_ | refine vFc (congrArg (fun z => some (V.int z)) ?_) ?_ | refine vHc (congrArg (fun z => some (Blk.ints _ z)) ?_) ?_ | refine vFc (congrArg (fun z => some (V.bool z)) ?_) ?_ | refine vFs rfl rfl ?_ ?_ | refine vHc (by rw [ren_bots]; rfl) ?_)
            done)
           | (
            refine ⟨(kl0, sl0), ?_, View.mk' [(7, 13)] rfl (by simp only [wfB, List.all_cons, List.all_nil, ids_bots]; rfl) rfl ?_ ?_⟩
            · first | exact ⟨hko1, hko2⟩ | exact ⟨hkl0, hkm0⟩ | exact ⟨hkl1, hkm1⟩
            all_goals (repeat' first | exact vFn | refine vFc rfl ?_ | exact vHn | refine vHc rfl ?_ | refine vFc (congrArg (fun z => some (V.int z)) ?_) ?_ | refine vHc (congrArg (fun z => some (Blk.ints _ z)) ?_) ?_ | refine vFc (congrArg (fun z => some (V.bool z)) ?_) ?_ | refine vFs rfl rfl ?_ ?_ | refine vHc (by rw [ren_bots]; rfl) ?_)
            done)
           | (
            refine ⟨(kl1, sl1), ?_, View.mk' [(7, 13)] rfl (by simp only [wfB, List.all_cons, List.all_nil, ids_bots]; rfl) rfl ?_ ?_⟩
            · first | exact ⟨hko1, hko2⟩ | exact ⟨hkl0, hkm0⟩ | exact ⟨hkl1, hkm1⟩
            all_goals (repeat' first | exact vFn | refine vFc rfl ?_ | exact vHn | refine vHc rfl ?_ | refine vFc (congrArg (fun z => some (V.int z)) ?_) ?_ | refine vHc (congrArg (fun z => some (Blk.ints _ z)) ?_) ?_ | refine vFc (congrArg (fun z => some (V.bool z)) ?_) ?_ | refine vFs rfl rfl ?_ ?_ | refine vHc (by rw [ren_bots]; rfl) ?_)
            done))))
      rintro ⟨ka, sa⟩ ⟨hka1, hka2⟩
      obtain ⟨R', hR'⟩ : ∃ z, z = rdc p E P 3 (M i) r3 := ⟨_, rfl⟩
      rw [← hR']
      have hRB : rwB p 3 R' := by rw [hR']; exact hrd _
      subst hr3
      dsimp only at hka1 hka2 ⊢
      refine cR ?_
      refine oM rfl rfl ?_
      first
        | refine oQ (Q_call (leadw_con 2 3 R' sa ka (by decide) hRB.1 _ rfl) [(0, 5)] rfl rfl (Fits.mk' (vHc rfl vHn) rfl rfl (by simp)) rfl rfl) rfl rfl ?_
        | refine oQ (Q_call (leadw_con 2 3 R' sa ka (by decide) hRB.1 _ rfl) [(0, 6)] rfl rfl (Fits.mk' (vHc rfl vHn) rfl rfl (by simp)) rfl rfl) rfl rfl ?_
        | refine oQ (Q_call (leadw_con 2 3 R' sa ka (by decide) hRB.1 _ rfl) [(0, 7)] rfl rfl (Fits.mk' (vHc rfl vHn) rfl rfl (by simp)) rfl rfl) rfl rfl ?_
      refine oA rfl rfl ?_
      refine oN ?_
      refine CW_seq ?_
      refine cR ?_
      refine oM rfl rfl ?_
      refine oQ (Q_bin rfl rfl rfl) rfl rfl ?_
      refine oN ?_
      first | refine cT rfl ?_ | refine cF rfl ?_ | refine CW_cond rfl (fun hc => ?_) (fun hc => ?_)
      all_goals try simp only [s1, s2, s3, s4, s5, s6, s7, s8, s9, s10, s11, s12] at hc
      all_goals try (exfalso; first | omega | (simp at hc; done); done)
      all_goals first
        | (
         refine CW_exit ?_)
        | (
         refine CW_skip ?_)
      all_goals first
        | with_reducible refine tR ?_
        | with_reducible refine tE ?_
        | (
         with_reducible refine tN ?_
         refine CW_cut (ι := Nat × Nat × List Int) (fun x => x.1 < 3 ∧ (∀ j, j < x.1 → R'.getD j 0 = 0) ∧ R'.getD x.1 0 ≠ 0) (fun x => match r4 with | 0 => ⟨[(0, .int p), (1, .slice 0 0 3 k), (5, .slice 4 0 0 kO), (6, .int i), (7, .slice 5 0 3 x.2.1), (9, .int (x.1 : Int))], [(0, .vals 103 [.slice 1 0 3 c0, .slice 2 0 3 c1, .slice 3 0 3 c2]), (1, .ints 2 (M 0)), (2, .ints 2 (M 1)), (3, .ints 2 (M 2)), (4, .vals 103 ([] ++ List.replicate (kO - 0) .bot)), (5, .ints 2 (normL p R' ++ x.2.2))], 6⟩ | 1 => ⟨[(0, .int p), (1, .slice 0 0 3 k), (5, .slice 4 0 1 kO), (6, .int i), (7, .slice 6 0 3 x.2.1), (9, .int (x.1 : Int))], [(0, .vals 103 [.slice 1 0 3 c0, .slice 2 0 3 c1, .slice 3 0 3 c2]), (1, .ints 2 (M 0)), (2, .ints 2 (M 1)), (3, .ints 2 (M 2)), (5, .ints 2 (E 0 ++ S 0)), (4, .vals 103 ([.slice 5 0 3 (K 0)] ++ List.replicate (kO - 1) .bot)), (6, .ints 2 (normL p R' ++ x.2.2))], 7⟩ | _ => ⟨[(0, .int p), (1, .slice 0 0 3 k), (5, .slice 4 0 2 kO), (6, .int i), (7, .slice 7 0 3 x.2.1), (9, .int (x.1 : Int))], [(0, .vals 103 [.slice 1 0 3 c0, .slice 2 0 3 c1, .slice 3 0 3 c2]), (1, .ints 2 (M 0)), (2, .ints 2 (M 1)), (3, .ints 2 (M 2)), (5, .ints 2 (E 0 ++ S 0)), (6, .ints 2 (E 1 ++ S 1)), (4, .vals 103 ([.slice 5 0 3 (K 0), .slice 6 0 3 (K 1)] ++ List.replicate (kO - 2) .bot)), (7, .ints 2 (normL p R' ++ x.2.2))], 8⟩) ?_ ?_
         · (
          subst hr4
          all_goals (
           refine CW_region ?_
           iterate 2 refine oM rfl rfl ?_
           first
             | (refine oCall (normw_con hp 2 3 R' sa ka (by decide) hRB.1) [(0, 5)] 2 rfl rfl (Fits.mk' (vHc rfl vHn) rfl rfl (by simp)) rfl rfl ?_; rintro v1 H1 ⟨kn, sn, hkn1, hkn2, rfl, rfl⟩; refine ⟨.tuple [.slice 7 0 3 kn, .bool (facP p R' != 0)], [(5, .ints 2 (R' ++ sa)), (7, .ints 2 (normL p R' ++ sn))], rfl, rfl, rfl, ?_⟩)
             | (refine oCall (normw_con hp 2 3 R' sa ka (by decide) hRB.1) [(0, 6)] 2 rfl rfl (Fits.mk' (vHc rfl vHn) rfl rfl (by simp)) rfl rfl ?_; rintro v1 H1 ⟨kn, sn, hkn1, hkn2, rfl, rfl⟩; refine ⟨.tuple [.slice 8 0 3 kn, .bool (facP p R' != 0)], [(6, .ints 2 (R' ++ sa)), (8, .ints 2 (normL p R' ++ sn))], rfl, rfl, rfl, ?_⟩)
             | (refine oCall (normw_con hp 2 3 R' sa ka (by decide) hRB.1) [(0, 7)] 2 rfl rfl (Fits.mk' (vHc rfl vHn) rfl rfl (by simp)) rfl rfl ?_; rintro v1 H1 ⟨kn, sn, hkn1, hkn2, rfl, rfl⟩; refine ⟨.tuple [.slice 9 0 3 kn, .bool (facP p R' != 0)], [(7, .ints 2 (R' ++ sa)), (9, .ints 2 (normL p R' ++ sn))], rfl, rfl, rfl, ?_⟩)
           refine oM rfl rfl ?_
           iterate 2 refine oQ (Q_extract rfl rfl) rfl rfl ?_
           refine oA rfl rfl ?_
           refine OW_nil ?_
           all_goals with_reducible refine tN ?_
           all_goals (
            first
              | (
               refine ⟨((ldI R').toNat, kn, sn), ?_, View.mk' [(5, 7)] rfl (by simp only [wfB, List.all_cons, List.all_nil, ids_bots]; rfl) rfl ?_ ?_⟩
               · have hla := ldI_at (l := R') (by omega)
                 exact ⟨by rw [← hRB.1]; exact hla.1, hla.2⟩
               all_goals (repeat' first | exact vFn | refine vFc rfl ?_ | exact vHn | refine vHc rfl ?_ | refine vFc (congrArg (fun z => some (V.int z)) ?_) ?_ | refine vHc (congrArg (fun z => some (Blk.ints _ z)) ?_) ?_ | refine vFc (congrArg (fun z => some (V.bool z)) ?_) ?_ | refine vFs rfl rfl ?_ ?_ | refine vHc (by rw [ren_bots]; rfl) ?_)
               all_goals first | rfl | (dsimp only; omega)
               done)
              | (
               refine ⟨((ldI R').toNat, kn, sn), ?_, View.mk' [(6, 8)] rfl (by simp only [wfB, List.all_cons, List.all_nil, ids_bots]; rfl) rfl ?_ ?_⟩
               · have hla := ldI_at (l := R') (by omega)
                 exact ⟨by rw [← hRB.1]; exact hla.1, hla.2⟩
               all_goals (repeat' first | exact vFn | refine vFc rfl ?_ | exact vHn | refine vHc rfl ?_ | refine vFc (congrArg (fun z => some (V.int z)) ?_) ?_ | refine vHc (congrArg (fun z => some (Blk.ints _ z)) ?_) ?_ | refine vFc (congrArg (fun z => some (V.bool z)) ?_) ?_ | refine vFs rfl rfl ?_ ?_ | refine vHc (by rw [ren_bots]; rfl) ?_)
               all_goals first | rfl | (dsimp only; omega)
               done)
              | (
               refine ⟨((ldI R').toNat, kn, sn), ?_, View.mk' [(7, 9)] rfl (by simp only [wfB, List.all_cons, List.all_nil, ids_bots]; rfl) rfl ?_ ?_⟩
               · have hla := ldI_at (l := R') (by omega)
                 exact ⟨by rw [← hRB.1]; exact hla.1, hla.2⟩
               all_goals (repeat' first | exact vFn | refine vFc rfl ?_ | exact vHn | refine vHc rfl ?_ | refine vFc (congrArg (fun z => some (V.int z)) ?_) ?_ | refine vHc (congrArg (fun z => some (Blk.ints _ z)) ?_) ?_ | refine vFc (congrArg (fun z => some (V.bool z)) ?_) ?_ | refine vFs rfl rfl ?_ ?_ | refine vHc (by rw [ren_bots]; rfl) ?_)
               all_goals first | rfl | (dsimp only; omega)
               done))))
         rintro ⟨a, kn, sn⟩ ⟨ha, ha0, ha1⟩
         subst hr4
         dsimp only at ha ha0 ha1 ⊢
         have hN := rwB_no hp0 hRB
         have hl2 : ∀ k, rwB p 3 (E k) → Con Try.prog [] 120 [.int p, .slice 0 0 3 (K k), .slice 1 0 3 kn, .int ((E k).getD a 0)] [(0, .ints 2 (E k ++ S k)), (1, .ints 2 (normL p R' ++ sn))] (fun v H' => ∃ k2 sp, 3 ≤ k2 ∧ k2 ≤ 3 + sp.length ∧ v = .slice 2 0 3 k2 ∧ H' = [(0, .ints 2 (E k ++ S k)), (1, .ints 2 (normL p R' ++ sn)), (2, .ints 2 (lsL p (E k) (normL p R') ((E k).getD a 0) 3 ++ sp))]) := fun k hek => lessw_con hp 2 2 3 _ _ (S k) sn (K k) kn _ (by decide) hek hN (hek.2 _)
         (try have f0 := hel 0 (by omega))
         (try have f1 := hel 1 (by omega))
         refine cR ?_
         refine oBslv (r := []) rfl rfl rfl rfl rfl rfl rfl rfl rfl rfl rfl rfl rfl ?_
         iterate 2 refine oA rfl rfl ?_
         refine oN ?_
         refine CW_seq ?_
         refine cR ?_
         refine oA rfl rfl ?_
         refine oN ?_
         refine CW_block ?_
         refine CW_rounds 4 ?_
         refine RW_succ ?_
         refine CW_seq ?_
         refine cR ?_
         iterate 2 refine oM rfl rfl ?_
         first | refine oQ (Q_len rfl rfl rfl rfl) rfl rfl ?_ | refine oQ (Q_len0 rfl rfl rfl rfl) rfl rfl ?_
         refine oQ (Q_bin rfl rfl rfl) rfl rfl ?_
         refine oN ?_
         first | refine cT rfl ?_ | refine cF rfl ?_ | refine CW_cond rfl (fun hc => ?_) (fun hc => ?_)
         all_goals try simp only [s1, s2, s3, s4, s5, s6, s7, s8, s9, s10, s11, s12] at hc
         all_goals try (exfalso; first | omega | (simp at hc; done); done)
         all_goals first
           | (
            refine CW_skip ?_)
           | (
            refine CW_exit ?_)
         all_goals first
           | with_reducible refine tR ?_
           | with_reducible refine tE ?_
           | (
            with_reducible refine tN ?_
            refine CW_seq ?_
            refine CW_block ?_
            refine CW_seq ?_
            refine cR ?_
            refine oM rfl rfl ?_
            refine oQ (Q_not rfl) rfl rfl ?_
            refine oM rfl rfl ?_
            all_goals first | refine oT rfl rfl ?_ | refine o1 rfl rfl rfl ?_ | refine o0 rfl rfl rfl ?_ | refine ogP1 rfl rfl rfl (fun hg => ?_) (fun hg => ?_) | refine ogP0 rfl rfl rfl (fun hg => ?_) (fun hg => ?_)
            all_goals try simp only [s1, s2, s3, s4, s5, s6, s7, s8, s9, s10, s11, s12] at hg
            all_goals try (exfalso; first | omega | exact absurd trivial hg | (simp at hg; done); done)
            all_goals first | (refine oM rfl rfl ?_) | skip
            all_goals first | refine oT rfl rfl ?_ | refine o1 rfl rfl rfl ?_ | refine o0 rfl rfl rfl ?_ | refine ogP1 rfl rfl rfl (fun hg => ?_) (fun hg => ?_) | refine ogP0 rfl rfl rfl (fun hg => ?_) (fun hg => ?_)
            all_goals try simp only [s1, s2, s3, s4, s5, s6, s7, s8, s9, s10, s11, s12] at hg
            all_goals try (exfalso; first | omega | exact absurd trivial hg | (simp at hg; done); done)
            all_goals first | (refine oM rfl rfl ?_) | skip
            all_goals first | refine oT rfl rfl ?_ | refine o1 rfl rfl rfl ?_ | refine o0 rfl rfl rfl ?_ | refine ogP1 rfl rfl rfl (fun hg => ?_) (fun hg => ?_) | refine ogP0 rfl rfl rfl (fun hg => ?_) (fun hg => ?_)
            all_goals try simp only [s1, s2, s3, s4, s5, s6, s7, s8, s9, s10, s11, s12] at hg
            all_goals try (exfalso; first | omega | exact absurd trivial hg | (simp at hg; done); done)
            all_goals first | refine oQ (Is0 rfl rfl rfl rfl rfl rfl) rfl rfl ?_ | refine oQ (Is1 rfl rfl rfl rfl rfl rfl) rfl rfl ?_ | skip
            all_goals first | refine oT rfl rfl ?_ | refine o1 rfl rfl rfl ?_ | refine o0 rfl rfl rfl ?_ | refine ogP1 rfl rfl rfl (fun hg => ?_) (fun hg => ?_) | refine ogP0 rfl rfl rfl (fun hg => ?_) (fun hg => ?_)
            all_goals try simp only [s1, s2, s3, s4, s5, s6, s7, s8, s9, s10, s11, s12] at hg
            all_goals try (exfalso; first | omega | exact absurd trivial hg | (simp at hg; done); done)
            all_goals first | (refine oQ (Q_ldv rfl rfl rfl rfl rfl rfl) rfl rfl ?_) | skip
            all_goals first | refine oT rfl rfl ?_ | refine o1 rfl rfl rfl ?_ | refine o0 rfl rfl rfl ?_ | refine ogP1 rfl rfl rfl (fun hg => ?_) (fun hg => ?_) | refine ogP0 rfl rfl rfl (fun hg => ?_) (fun hg => ?_)
            all_goals try simp only [s1, s2, s3, s4, s5, s6, s7, s8, s9, s10, s11, s12] at hg
            all_goals try (exfalso; first | omega | exact absurd trivial hg | (simp at hg; done); done)
            all_goals first | refine oQ (Q_call (hld 0 (by omega)) [(0, 5)] rfl rfl (Fits.mk' (vHc rfl vHn) rfl rfl (by simp)) rfl rfl) rfl rfl ?_ | refine oQ (Q_call (hld 1 (by omega)) [(0, 6)] rfl rfl (Fits.mk' (vHc rfl vHn) rfl rfl (by simp)) rfl rfl) rfl rfl ?_ | skip
            all_goals first | refine oT rfl rfl ?_ | refine o1 rfl rfl rfl ?_ | refine o0 rfl rfl rfl ?_ | refine ogP1 rfl rfl rfl (fun hg => ?_) (fun hg => ?_) | refine ogP0 rfl rfl rfl (fun hg => ?_) (fun hg => ?_)
            all_goals try simp only [s1, s2, s3, s4, s5, s6, s7, s8, s9, s10, s11, s12] at hg
            all_goals try (exfalso; first | omega | exact absurd trivial hg | (simp at hg; done); done)
            all_goals first | (refine oM rfl rfl ?_) | skip
            all_goals first | refine oT rfl rfl ?_ | refine o1 rfl rfl rfl ?_ | refine o0 rfl rfl rfl ?_ | refine ogP1 rfl rfl rfl (fun hg => ?_) (fun hg => ?_) | refine ogP0 rfl rfl rfl (fun hg => ?_) (fun hg => ?_)
            all_goals try simp only [s1, s2, s3, s4, s5, s6, s7, s8, s9, s10, s11, s12] at hg
            all_goals try (exfalso; first | omega | exact absurd trivial hg | (simp at hg; done); done)
            all_goals first | (refine oQ (Q_bin rfl rfl rfl) rfl rfl ?_) | skip
            all_goals first | refine oQ (Q_pick_t rfl (by with_reducible rfl) rfl rfl) rfl rfl ?_ | refine oQ (Q_pick_f rfl (by with_reducible rfl) rfl rfl) rfl rfl ?_
            all_goals refine oN ?_
            all_goals (
             first | refine cT rfl ?_ | refine cF rfl ?_ | refine CW_cond rfl (fun hc => ?_) (fun hc => ?_)
             all_goals try simp only [s1, s2, s3, s4, s5, s6, s7, s8, s9, s10, s11, s12] at hc
             all_goals try (exfalso; first | omega | (simp at hc; done); done)
             all_goals first
               | (
                refine CW_skip ?_)
               | (
                refine cR ?_
                iterate 2 refine oM rfl rfl ?_
                refine oBslv rfl rfl rfl rfl rfl rfl rfl rfl rfl rfl rfl rfl rfl ?_
                first | refine oAppV (by_ := 24) (A := []) (sp := []) rfl rfl rfl rfl rfl rfl rfl rfl rfl rfl rfl rfl rfl rfl rfl rfl rfl rfl (by first | rfl | omega | (simp; omega)) (by omega) (by omega) rfl rfl (fun kO hkO => ?_) | refine oAppV (by_ := 24) rfl rfl rfl rfl rfl rfl rfl rfl rfl rfl rfl rfl rfl rfl rfl rfl rfl rfl (by first | rfl | omega | (simp; omega)) (by omega) (by omega) rfl rfl (fun kO hkO => ?_)
                refine oA rfl rfl ?_
                refine oN ?_
                refine CW_region ?_
                refine oA rfl rfl ?_
                refine OW_nil ?_))
            all_goals with_reducible refine tN ?_
            all_goals (
             refine CW_any (fun i => List.elem i [16, 17]) 18 rfl lateOk (by decide +kernel) (fun hst => ?_)
             refine aP 0 hst rfl rfl (by decide +kernel) (PX_move rfl rfl) rfl rfl ?_
             refine aP 1 hst rfl rfl (by decide +kernel) (PX_move rfl rfl) rfl rfl ?_
             refine aP 2 hst rfl rfl (by decide +kernel) (PX_move rfl rfl) rfl rfl ?_
             refine aP 3 hst rfl rfl (by decide +kernel) (PX_move rfl rfl) rfl rfl ?_
             first | refine aQ 4 hst rfl rfl (by decide +kernel) (QX_of (Is0 rfl rfl rfl rfl rfl rfl) NE_ix) rfl rfl ?_ | refine aQ 4 hst rfl rfl (by decide +kernel) (QX_of (Is1 rfl rfl rfl rfl rfl rfl) NE_ix) rfl rfl ?_
             refine aQ 5 hst rfl rfl (by decide +kernel) (QX_of (Q_ldv rfl rfl rfl rfl rfl rfl) NE_load) rfl rfl ?_
             refine aP 6 hst rfl rfl (by decide +kernel) (PX_move rfl rfl) rfl rfl ?_
             refine aP 7 hst rfl rfl (by decide +kernel) (PX_move rfl rfl) rfl rfl ?_
             refine aP 8 hst rfl rfl (by decide +kernel) (PX_move rfl rfl) rfl rfl ?_
             first | refine aQ 9 hst rfl rfl (by decide +kernel) (QX_of (Is0 rfl rfl rfl rfl rfl rfl) NE_ix) rfl rfl ?_ | refine aQ 9 hst rfl rfl (by decide +kernel) (QX_of (Is1 rfl rfl rfl rfl rfl rfl) NE_ix) rfl rfl ?_
             refine aQ 10 hst rfl rfl (by decide +kernel) (QX_of (Q_ldv rfl rfl rfl rfl rfl rfl) NE_load) rfl rfl ?_
             refine aP 11 hst rfl rfl (by decide +kernel) (PX_move rfl rfl) rfl rfl ?_
             first | refine aQ 12 hst rfl rfl (by decide +kernel) (QX_of (Is0 rfl rfl rfl rfl rfl rfl) NE_ix) rfl rfl ?_ | refine aQ 12 hst rfl rfl (by decide +kernel) (QX_of (Is1 rfl rfl rfl rfl rfl rfl) NE_ix) rfl rfl ?_
             refine aQ 13 hst rfl rfl (by decide +kernel) (QX_of (Ld rfl rfl rfl rfl) NE_load) rfl rfl ?_
             rw [getD_app (by omega)]
             refine AW_one (i := 14) (by decide +kernel) ?_
             first
               | (refine gCall rfl rfl (hl2 0 (hE 0 (by omega))) [(0, 5), (1, 6)] 3 rfl rfl (Fits.mk' (vHc rfl (vHc rfl vHn)) rfl rfl (by simp)) rfl rfl rfl ?_; rintro v1 H1 ⟨km0, sm0, hm0, hn0, rfl, rfl⟩; refine ⟨.slice 12 0 3 km0, [(5, .ints 2 (E 0 ++ S 0)), (6, .ints 2 (normL p R' ++ sn)), (12, .ints 2 (lsL p (E 0) (normL p R') ((E 0).getD a 0) 3 ++ sm0))], rfl, keep_pre _ _, rfl, rfl, ?_⟩)
               | (refine gCall rfl rfl (hl2 0 (hE 0 (by omega))) [(0, 5), (1, 6)] 3 rfl rfl (Fits.mk' (vHc rfl (vHc rfl vHn)) rfl rfl (by simp)) rfl rfl rfl ?_; rintro v1 H1 ⟨km0, sm0, hm0, hn0, rfl, rfl⟩; refine ⟨.slice 10 0 3 km0, [(5, .ints 2 (E 0 ++ S 0)), (6, .ints 2 (normL p R' ++ sn)), (10, .ints 2 (lsL p (E 0) (normL p R') ((E 0).getD a 0) 3 ++ sm0))], rfl, keep_pre _ _, rfl, rfl, ?_⟩)
               | (refine gCall rfl rfl (hl2 0 (hE 0 (by omega))) [(0, 5), (1, 7)] 3 rfl rfl (Fits.mk' (vHc rfl (vHc rfl vHn)) rfl rfl (by simp)) rfl rfl rfl ?_; rintro v1 H1 ⟨km0, sm0, hm0, hn0, rfl, rfl⟩; refine ⟨.slice 13 0 3 km0, [(5, .ints 2 (E 0 ++ S 0)), (7, .ints 2 (normL p R' ++ sn)), (13, .ints 2 (lsL p (E 0) (normL p R') ((E 0).getD a 0) 3 ++ sm0))], rfl, keep_pre _ _, rfl, rfl, ?_⟩)
               | (refine gCall rfl rfl (hl2 1 (hE 1 (by omega))) [(0, 6), (1, 7)] 3 rfl rfl (Fits.mk' (vHc rfl (vHc rfl vHn)) rfl rfl (by simp)) rfl rfl rfl ?_; rintro v1 H1 ⟨km1, sm1, hm1, hn1, rfl, rfl⟩; refine ⟨.slice 18 0 3 km1, [(6, .ints 2 (E 1 ++ S 1)), (7, .ints 2 (normL p R' ++ sn)), (18, .ints 2 (lsL p (E 1) (normL p R') ((E 1).getD a 0) 3 ++ sm1))], rfl, keep_pre _ _, rfl, rfl, ?_⟩)
               | (refine gCall rfl rfl (hl2 0 (hE 0 (by omega))) [(0, 5), (1, 7)] 3 rfl rfl (Fits.mk' (vHc rfl (vHc rfl vHn)) rfl rfl (by simp)) rfl rfl rfl ?_; rintro v1 H1 ⟨km0, sm0, hm0, hn0, rfl, rfl⟩; refine ⟨.slice 11 0 3 km0, [(5, .ints 2 (E 0 ++ S 0)), (7, .ints 2 (normL p R' ++ sn)), (11, .ints 2 (lsL p (E 0) (normL p R') ((E 0).getD a 0) 3 ++ sm0))], rfl, keep_pre _ _, rfl, rfl, ?_⟩)
               | (refine gCall rfl rfl (hl2 1 (hE 1 (by omega))) [(0, 6), (1, 7)] 3 rfl rfl (Fits.mk' (vHc rfl (vHc rfl vHn)) rfl rfl (by simp)) rfl rfl rfl ?_; rintro v1 H1 ⟨km1, sm1, hm1, hn1, rfl, rfl⟩; refine ⟨.slice 18 0 3 km1, [(6, .ints 2 (E 1 ++ S 1)), (7, .ints 2 (normL p R' ++ sn)), (18, .ints 2 (lsL p (E 1) (normL p R') ((E 1).getD a 0) 3 ++ sm1))], rfl, keep_pre _ _, rfl, rfl, ?_⟩)
               | (refine gCall rfl rfl (hl2 0 (hE 0 (by omega))) [(0, 5), (1, 7)] 3 rfl rfl (Fits.mk' (vHc rfl (vHc rfl vHn)) rfl rfl (by simp)) rfl rfl rfl ?_; rintro v1 H1 ⟨km0, sm0, hm0, hn0, rfl, rfl⟩; refine ⟨.slice 11 0 3 km0, [(5, .ints 2 (E 0 ++ S 0)), (7, .ints 2 (normL p R' ++ sn)), (11, .ints 2 (lsL p (E 0) (normL p R') ((E 0).getD a 0) 3 ++ sm0))], rfl, keep_pre _ _, rfl, rfl, ?_⟩)
               | (refine gCall rfl rfl (hl2 1 (hE 1 (by omega))) [(0, 6), (1, 7)] 3 rfl rfl (Fits.mk' (vHc rfl (vHc rfl vHn)) rfl rfl (by simp)) rfl rfl rfl ?_; rintro v1 H1 ⟨km1, sm1, hm1, hn1, rfl, rfl⟩; refine ⟨.slice 16 0 3 km1, [(6, .ints 2 (E 1 ++ S 1)), (7, .ints 2 (normL p R' ++ sn)), (16, .ints 2 (lsL p (E 1) (normL p R') ((E 1).getD a 0) 3 ++ sm1))], rfl, keep_pre _ _, rfl, rfl, ?_⟩)
             refine AW_one (i := 15) (by decide +kernel) ?_
             refine gBslv rfl rfl rfl rfl rfl rfl rfl rfl rfl rfl rfl rfl rfl rfl rfl ?_
             refine AW_last [16, 17] rfl (by decide +kernel) rfl ?_
             first | refine oAppV (by_ := 24) (A := []) (sp := []) rfl rfl rfl rfl rfl rfl rfl rfl rfl rfl rfl rfl rfl rfl rfl rfl rfl rfl (by first | rfl | omega | (simp; omega)) (by omega) (by omega) rfl rfl (fun kO hkO => ?_) | refine oAppV (by_ := 24) rfl rfl rfl rfl rfl rfl rfl rfl rfl rfl rfl rfl rfl rfl rfl rfl rfl rfl (by first | rfl | omega | (simp; omega)) (by omega) (by omega) rfl rfl (fun kO hkO => ?_)
             refine oA rfl rfl ?_
             refine OW_nil (npN ?_))
            all_goals first | with_reducible refine bN ?_ | with_reducible refine bE ?_ | with_reducible refine bR ?_ | refine bX rfl ?_
            all_goals with_reducible refine tN ?_
            all_goals (
             refine CW_region ?_
             refine oM rfl rfl ?_
             first | refine oQ (Q_binu rfl rfl rfl (by omega)) rfl rfl ?_ | refine oQ (Q_bin rfl rfl rfl) rfl rfl ?_
             refine oA rfl rfl ?_
             refine OW_nil ?_))
         all_goals first
           | with_reducible refine tR ?_
           | with_reducible refine tE ?_
           | (
            with_reducible refine tN ?_
            refine RW_succ ?_
            refine CW_seq ?_
            refine cR ?_
            iterate 2 refine oM rfl rfl ?_
            first | refine oQ (Q_len rfl rfl rfl rfl) rfl rfl ?_ | refine oQ (Q_len0 rfl rfl rfl rfl) rfl rfl ?_
            refine oQ (Q_bin rfl rfl rfl) rfl rfl ?_
            refine oN ?_
            first | refine cT rfl ?_ | refine cF rfl ?_ | refine CW_cond rfl (fun hc => ?_) (fun hc => ?_)
            all_goals try simp only [s1, s2, s3, s4, s5, s6, s7, s8, s9, s10, s11, s12] at hc
            all_goals try (exfalso; first | omega | (simp at hc; done); done)
            all_goals first
              | (
               refine CW_skip ?_)
              | (
               refine CW_exit ?_)
            all_goals first
              | with_reducible refine tR ?_
              | with_reducible refine tE ?_
              | (
               with_reducible refine tN ?_
               refine CW_seq ?_
               refine CW_block ?_
               refine CW_seq ?_
               refine cR ?_
               refine oM rfl rfl ?_
               refine oQ (Q_not rfl) rfl rfl ?_
               refine oM rfl rfl ?_
               all_goals first | refine oT rfl rfl ?_ | refine o1 rfl rfl rfl ?_ | refine o0 rfl rfl rfl ?_ | refine ogP1 rfl rfl rfl (fun hg => ?_) (fun hg => ?_) | refine ogP0 rfl rfl rfl (fun hg => ?_) (fun hg => ?_)
               all_goals try simp only [s1, s2, s3, s4, s5, s6, s7, s8, s9, s10, s11, s12] at hg
               all_goals try (exfalso; first | omega | exact absurd trivial hg | (simp at hg; done); done)
               all_goals first | (refine oM rfl rfl ?_) | skip
               all_goals first | refine oT rfl rfl ?_ | refine o1 rfl rfl rfl ?_ | refine o0 rfl rfl rfl ?_ | refine ogP1 rfl rfl rfl (fun hg => ?_) (fun hg => ?_) | refine ogP0 rfl rfl rfl (fun hg => ?_) (fun hg => ?_)
               all_goals try simp only [s1, s2, s3, s4, s5, s6, s7, s8, s9, s10, s11, s12] at hg
               all_goals try (exfalso; first | omega | exact absurd trivial hg | (simp at hg; done); done)
               all_goals first | (refine oM rfl rfl ?_) | skip
               all_goals first | refine oT rfl rfl ?_ | refine o1 rfl rfl rfl ?_ | refine o0 rfl rfl rfl ?_ | refine ogP1 rfl rfl rfl (fun hg => ?_) (fun hg => ?_) | refine ogP0 rfl rfl rfl (fun hg => ?_) (fun hg => ?_)
               all_goals try simp only [s1, s2, s3, s4, s5, s6, s7, s8, s9, s10, s11, s12] at hg
               all_goals try (exfalso; first | omega | exact absurd trivial hg | (simp at hg; done); done)
               all_goals first | refine oQ (Is0 rfl rfl rfl rfl rfl rfl) rfl rfl ?_ | refine oQ (Is1 rfl rfl rfl rfl rfl rfl) rfl rfl ?_ | skip
               all_goals first | refine oT rfl rfl ?_ | refine o1 rfl rfl rfl ?_ | refine o0 rfl rfl rfl ?_ | refine ogP1 rfl rfl rfl (fun hg => ?_) (fun hg => ?_) | refine ogP0 rfl rfl rfl (fun hg => ?_) (fun hg => ?_)
               all_goals try simp only [s1, s2, s3, s4, s5, s6, s7, s8, s9, s10, s11, s12] at hg
               all_goals try (exfalso; first | omega | exact absurd trivial hg | (simp at hg; done); done)
               all_goals first | (refine oQ (Q_ldv rfl rfl rfl rfl rfl rfl) rfl rfl ?_) | skip
               all_goals first | refine oT rfl rfl ?_ | refine o1 rfl rfl rfl ?_ | refine o0 rfl rfl rfl ?_ | refine ogP1 rfl rfl rfl (fun hg => ?_) (fun hg => ?_) | refine ogP0 rfl rfl rfl (fun hg => ?_) (fun hg => ?_)
               all_goals try simp only [s1, s2, s3, s4, s5, s6, s7, s8, s9, s10, s11, s12] at hg
               all_goals try (exfalso; first | omega | exact absurd trivial hg | (simp at hg; done); done)
               all_goals first | refine oQ (Q_call (hld 0 (by omega)) [(0, 5)] rfl rfl (Fits.mk' (vHc rfl vHn) rfl rfl (by simp)) rfl rfl) rfl rfl ?_ | refine oQ (Q_call (hld 1 (by omega)) [(0, 6)] rfl rfl (Fits.mk' (vHc rfl vHn) rfl rfl (by simp)) rfl rfl) rfl rfl ?_ | skip
               all_goals first | refine oT rfl rfl ?_ | refine o1 rfl rfl rfl ?_ | refine o0 rfl rfl rfl ?_ | refine ogP1 rfl rfl rfl (fun hg => ?_) (fun hg => ?_) | refine ogP0 rfl rfl rfl (fun hg => ?_) (fun hg => ?_)
               all_goals try simp only [s1, s2, s3, s4, s5, s6, s7, s8, s9, s10, s11, s12] at hg
               all_goals try (exfalso; first | omega | exact absurd trivial hg | (simp at hg; done); done)
               all_goals first | (refine oM rfl rfl ?_) | skip
               all_goals first | refine oT rfl rfl ?_ | refine o1 rfl rfl rfl ?_ | refine o0 rfl rfl rfl ?_ | refine ogP1 rfl rfl rfl (fun hg => ?_) (fun hg => ?_) | refine ogP0 rfl rfl rfl (fun hg => ?_) (fun hg => ?_)
               all_goals try simp only [s1, s2, s3, s4, s5, s6, s7, s8, s9, s10, s11, s12] at hg
               all_goals try (exfalso; first | omega | exact absurd trivial hg | (simp at hg; done); done)
               all_goals first | (refine oQ (Q_bin rfl rfl rfl) rfl rfl ?_) | skip
               all_goals first | refine oQ (Q_pick_t rfl (by with_reducible rfl) rfl rfl) rfl rfl ?_ | refine oQ (Q_pick_f rfl (by with_reducible rfl) rfl rfl) rfl rfl ?_
               all_goals refine oN ?_
               all_goals (
                first | refine cT rfl ?_ | refine cF rfl ?_ | refine CW_cond rfl (fun hc => ?_) (fun hc => ?_)
                all_goals try simp only [s1, s2, s3, s4, s5, s6, s7, s8, s9, s10, s11, s12] at hc
                all_goals try (exfalso; first | omega | (simp at hc; done); done)
                all_goals first
                  | (
                   refine CW_skip ?_)
                  | (
                   refine cR ?_
                   iterate 2 refine oM rfl rfl ?_
                   refine oBslv rfl rfl rfl rfl rfl rfl rfl rfl rfl rfl rfl rfl rfl ?_
                   first | refine oAppV (by_ := 24) (A := []) (sp := []) rfl rfl rfl rfl rfl rfl rfl rfl rfl rfl rfl rfl rfl rfl rfl rfl rfl rfl (by first | rfl | omega | (simp; omega)) (by omega) (by omega) rfl rfl (fun kO hkO => ?_) | refine oAppV (by_ := 24) rfl rfl rfl rfl rfl rfl rfl rfl rfl rfl rfl rfl rfl rfl rfl rfl rfl rfl (by first | rfl | omega | (simp; omega)) (by omega) (by omega) rfl rfl (fun kO hkO => ?_)
                   refine oA rfl rfl ?_
                   refine oN ?_
                   refine CW_region ?_
                   refine oA rfl rfl ?_
                   refine OW_nil ?_))
               all_goals with_reducible refine tN ?_
               all_goals (
                refine CW_any (fun i => List.elem i [16, 17]) 18 rfl lateOk (by decide +kernel) (fun hst => ?_)
                refine aP 0 hst rfl rfl (by decide +kernel) (PX_move rfl rfl) rfl rfl ?_
                refine aP 1 hst rfl rfl (by decide +kernel) (PX_move rfl rfl) rfl rfl ?_
                refine aP 2 hst rfl rfl (by decide +kernel) (PX_move rfl rfl) rfl rfl ?_
                refine aP 3 hst rfl rfl (by decide +kernel) (PX_move rfl rfl) rfl rfl ?_
                first | refine aQ 4 hst rfl rfl (by decide +kernel) (QX_of (Is0 rfl rfl rfl rfl rfl rfl) NE_ix) rfl rfl ?_ | refine aQ 4 hst rfl rfl (by decide +kernel) (QX_of (Is1 rfl rfl rfl rfl rfl rfl) NE_ix) rfl rfl ?_
                refine aQ 5 hst rfl rfl (by decide +kernel) (QX_of (Q_ldv rfl rfl rfl rfl rfl rfl) NE_load) rfl rfl ?_
                refine aP 6 hst rfl rfl (by decide +kernel) (PX_move rfl rfl) rfl rfl ?_
                refine aP 7 hst rfl rfl (by decide +kernel) (PX_move rfl rfl) rfl rfl ?_
                refine aP 8 hst rfl rfl (by decide +kernel) (PX_move rfl rfl) rfl rfl ?_
                first | refine aQ 9 hst rfl rfl (by decide +kernel) (QX_of (Is0 rfl rfl rfl rfl rfl rfl) NE_ix) rfl rfl ?_ | refine aQ 9 hst rfl rfl (by decide +kernel) (QX_of (Is1 rfl rfl rfl rfl rfl rfl) NE_ix) rfl rfl ?_
                refine aQ 10 hst rfl rfl (by decide +kernel) (QX_of (Q_ldv rfl rfl rfl rfl rfl rfl) NE_load) rfl rfl ?_
                refine aP 11 hst rfl rfl (by decide +kernel) (PX_move rfl rfl) rfl rfl ?_
                first | refine aQ 12 hst rfl rfl (by decide +kernel) (QX_of (Is0 rfl rfl rfl rfl rfl rfl) NE_ix) rfl rfl ?_ | refine aQ 12 hst rfl rfl (by decide +kernel) (QX_of (Is1 rfl rfl rfl rfl rfl rfl) NE_ix) rfl rfl ?_
                refine aQ 13 hst rfl rfl (by decide +kernel) (QX_of (Ld rfl rfl rfl rfl) NE_load) rfl rfl ?_
                rw [getD_app (by omega)]
                refine AW_one (i := 14) (by decide +kernel) ?_
                first
                  | (refine gCall rfl rfl (hl2 0 (hE 0 (by omega))) [(0, 5), (1, 6)] 3 rfl rfl (Fits.mk' (vHc rfl (vHc rfl vHn)) rfl rfl (by simp)) rfl rfl rfl ?_; rintro v1 H1 ⟨km0, sm0, hm0, hn0, rfl, rfl⟩; refine ⟨.slice 12 0 3 km0, [(5, .ints 2 (E 0 ++ S 0)), (6, .ints 2 (normL p R' ++ sn)), (12, .ints 2 (lsL p (E 0) (normL p R') ((E 0).getD a 0) 3 ++ sm0))], rfl, keep_pre _ _, rfl, rfl, ?_⟩)
                  | (refine gCall rfl rfl (hl2 0 (hE 0 (by omega))) [(0, 5), (1, 6)] 3 rfl rfl (Fits.mk' (vHc rfl (vHc rfl vHn)) rfl rfl (by simp)) rfl rfl rfl ?_; rintro v1 H1 ⟨km0, sm0, hm0, hn0, rfl, rfl⟩; refine ⟨.slice 10 0 3 km0, [(5, .ints 2 (E 0 ++ S 0)), (6, .ints 2 (normL p R' ++ sn)), (10, .ints 2 (lsL p (E 0) (normL p R') ((E 0).getD a 0) 3 ++ sm0))], rfl, keep_pre _ _, rfl, rfl, ?_⟩)
                  | (refine gCall rfl rfl (hl2 0 (hE 0 (by omega))) [(0, 5), (1, 7)] 3 rfl rfl (Fits.mk' (vHc rfl (vHc rfl vHn)) rfl rfl (by simp)) rfl rfl rfl ?_; rintro v1 H1 ⟨km0, sm0, hm0, hn0, rfl, rfl⟩; refine ⟨.slice 13 0 3 km0, [(5, .ints 2 (E 0 ++ S 0)), (7, .ints 2 (normL p R' ++ sn)), (13, .ints 2 (lsL p (E 0) (normL p R') ((E 0).getD a 0) 3 ++ sm0))], rfl, keep_pre _ _, rfl, rfl, ?_⟩)
                  | (refine gCall rfl rfl (hl2 1 (hE 1 (by omega))) [(0, 6), (1, 7)] 3 rfl rfl (Fits.mk' (vHc rfl (vHc rfl vHn)) rfl rfl (by simp)) rfl rfl rfl ?_; rintro v1 H1 ⟨km1, sm1, hm1, hn1, rfl, rfl⟩; refine ⟨.slice 18 0 3 km1, [(6, .ints 2 (E 1 ++ S 1)), (7, .ints 2 (normL p R' ++ sn)), (18, .ints 2 (lsL p (E 1) (normL p R') ((E 1).getD a 0) 3 ++ sm1))], rfl, keep_pre _ _, rfl, rfl, ?_⟩)
                  | (refine gCall rfl rfl (hl2 0 (hE 0 (by omega))) [(0, 5), (1, 7)] 3 rfl rfl (Fits.mk' (vHc rfl (vHc rfl vHn)) rfl rfl (by simp)) rfl rfl rfl ?_; rintro v1 H1 ⟨km0, sm0, hm0, hn0, rfl, rfl⟩; refine ⟨.slice 11 0 3 km0, [(5, .ints 2 (E 0 ++ S 0)), (7, .ints 2 (normL p R' ++ sn)), (11, .ints 2 (lsL p (E 0) (normL p R') ((E 0).getD a 0) 3 ++ sm0))], rfl, keep_pre _ _, rfl, rfl, ?_⟩)
                  | (refine gCall rfl rfl (hl2 1 (hE 1 (by omega))) [(0, 6), (1, 7)] 3 rfl rfl (Fits.mk' (vHc rfl (vHc rfl vHn)) rfl rfl (by simp)) rfl rfl rfl ?_; rintro v1 H1 ⟨km1, sm1, hm1, hn1, rfl, rfl⟩; refine ⟨.slice 18 0 3 km1, [(6, .ints 2 (E 1 ++ S 1)), (7, .ints 2 (normL p R' ++ sn)), (18, .ints 2 (lsL p (E 1) (normL p R') ((E 1).getD a 0) 3 ++ sm1))], rfl, keep_pre _ _, rfl, rfl, ?_⟩)
                  | (refine gCall rfl rfl (hl2 0 (hE 0 (by omega))) [(0, 5), (1, 7)] 3 rfl rfl (Fits.mk' (vHc rfl (vHc rfl vHn)) rfl rfl (by simp)) rfl rfl rfl ?_; rintro v1 H1 ⟨km0, sm0, hm0, hn0, rfl, rfl⟩; refine ⟨.slice 11 0 3 km0, [(5, .ints 2 (E 0 ++ S 0)), (7, .ints 2 (normL p R' ++ sn)), (11, .ints 2 (lsL p (E 0) (normL p R') ((E 0).getD a 0) 3 ++ sm0))], rfl, keep_pre _ _, rfl, rfl, ?_⟩)
                  | (refine gCall rfl rfl (hl2 1 (hE 1 (by omega))) [(0, 6), (1, 7)] 3 rfl rfl (Fits.mk' (vHc rfl (vHc rfl vHn)) rfl rfl (by simp)) rfl rfl rfl ?_; rintro v1 H1 ⟨km1, sm1, hm1, hn1, rfl, rfl⟩; refine ⟨.slice 16 0 3 km1, [(6, .ints 2 (E 1 ++ S 1)), (7, .ints 2 (normL p R' ++ sn)), (16, .ints 2 (lsL p (E 1) (normL p R') ((E 1).getD a 0) 3 ++ sm1))], rfl, keep_pre _ _, rfl, rfl, ?_⟩)
                refine AW_one (i := 15) (by decide +kernel) ?_
                refine gBslv rfl rfl rfl rfl rfl rfl rfl rfl rfl rfl rfl rfl rfl rfl rfl ?_
                refine AW_last [16, 17] rfl (by decide +kernel) rfl ?_
                first | refine oAppV (by_ := 24) (A := []) (sp := []) rfl rfl rfl rfl rfl rfl rfl rfl rfl rfl rfl rfl rfl rfl rfl rfl rfl rfl (by first | rfl | omega | (simp; omega)) (by omega) (by omega) rfl rfl (fun kO hkO => ?_) | refine oAppV (by_ := 24) rfl rfl rfl rfl rfl rfl rfl rfl rfl rfl rfl rfl rfl rfl rfl rfl rfl rfl (by first | rfl | omega | (simp; omega)) (by omega) (by omega) rfl rfl (fun kO hkO => ?_)
                refine oA rfl rfl ?_
                refine OW_nil (npN ?_))
               all_goals first | with_reducible refine bN ?_ | with_reducible refine bE ?_ | with_reducible refine bR ?_ | refine bX rfl ?_
               all_goals with_reducible refine tN ?_
               all_goals (
                refine CW_region ?_
                refine oM rfl rfl ?_
                first | refine oQ (Q_binu rfl rfl rfl (by omega)) rfl rfl ?_ | refine oQ (Q_bin rfl rfl rfl) rfl rfl ?_
                refine oA rfl rfl ?_
                refine OW_nil ?_))
            all_goals first
              | with_reducible refine tR ?_
              | with_reducible refine tE ?_
              | (
               with_reducible refine tN ?_
               refine RW_succ ?_
               refine CW_seq ?_
               refine cR ?_
               iterate 2 refine oM rfl rfl ?_
               first | refine oQ (Q_len rfl rfl rfl rfl) rfl rfl ?_ | refine oQ (Q_len0 rfl rfl rfl rfl) rfl rfl ?_
               refine oQ (Q_bin rfl rfl rfl) rfl rfl ?_
               refine oN ?_
               first | refine cT rfl ?_ | refine cF rfl ?_ | refine CW_cond rfl (fun hc => ?_) (fun hc => ?_)
               all_goals try simp only [s1, s2, s3, s4, s5, s6, s7, s8, s9, s10, s11, s12] at hc
               all_goals try (exfalso; first | omega | (simp at hc; done); done)
               all_goals first
                 | (
                  refine CW_skip ?_)
                 | (
                  refine CW_exit ?_)
               all_goals first
                 | with_reducible refine tR ?_
                 | with_reducible refine tE ?_
                 | (
                  with_reducible refine tN ?_
                  refine CW_seq ?_
                  refine CW_block ?_
                  refine CW_seq ?_
                  refine cR ?_
                  refine oM rfl rfl ?_
                  refine oQ (Q_not rfl) rfl rfl ?_
                  refine oM rfl rfl ?_
                  all_goals first | refine oT rfl rfl ?_ | refine o1 rfl rfl rfl ?_ | refine o0 rfl rfl rfl ?_ | refine ogP1 rfl rfl rfl (fun hg => ?_) (fun hg => ?_) | refine ogP0 rfl rfl rfl (fun hg => ?_) (fun hg => ?_)
                  all_goals try simp only [s1, s2, s3, s4, s5, s6, s7, s8, s9, s10, s11, s12] at hg
                  all_goals try (exfalso; first | omega | exact absurd trivial hg | (simp at hg; done); done)
                  all_goals first | (refine oM rfl rfl ?_) | skip
                  all_goals first | refine oT rfl rfl ?_ | refine o1 rfl rfl rfl ?_ | refine o0 rfl rfl rfl ?_ | refine ogP1 rfl rfl rfl (fun hg => ?_) (fun hg => ?_) | refine ogP0 rfl rfl rfl (fun hg => ?_) (fun hg => ?_)
                  all_goals try simp only [s1, s2, s3, s4, s5, s6, s7, s8, s9, s10, s11, s12] at hg
                  all_goals try (exfalso; first | omega | exact absurd trivial hg | (simp at hg; done); done)
                  all_goals first | (refine oM rfl rfl ?_) | skip
                  all_goals first | refine oT rfl rfl ?_ | refine o1 rfl rfl rfl ?_ | refine o0 rfl rfl rfl ?_ | refine ogP1 rfl rfl rfl (fun hg => ?_) (fun hg => ?_) | refine ogP0 rfl rfl rfl (fun hg => ?_) (fun hg => ?_)
                  all_goals try simp only [s1, s2, s3, s4, s5, s6, s7, s8, s9, s10, s11, s12] at hg
                  all_goals try (exfalso; first | omega | exact absurd trivial hg | (simp at hg; done); done)
                  all_goals first | refine oQ (Is0 rfl rfl rfl rfl rfl rfl) rfl rfl ?_ | refine oQ (Is1 rfl rfl rfl rfl rfl rfl) rfl rfl ?_ | skip
                  all_goals first | refine oT rfl rfl ?_ | refine o1 rfl rfl rfl ?_ | refine o0 rfl rfl rfl ?_ | refine ogP1 rfl rfl rfl (fun hg => ?_) (fun hg => ?_) | refine ogP0 rfl rfl rfl (fun hg => ?_) (fun hg => ?_)
                  all_goals try simp only [s1, s2, s3, s4, s5, s6, s7, s8, s9, s10, s11, s12] at hg
                  all_goals try (exfalso; first | omega | exact absurd trivial hg | (simp at hg; done); done)
                  all_goals first | (refine oQ (Q_ldv rfl rfl rfl rfl rfl rfl) rfl rfl ?_) | skip
                  all_goals first | refine oT rfl rfl ?_ | refine o1 rfl rfl rfl ?_ | refine o0 rfl rfl rfl ?_ | refine ogP1 rfl rfl rfl (fun hg => ?_) (fun hg => ?_) | refine ogP0 rfl rfl rfl (fun hg => ?_) (fun hg => ?_)
                  all_goals try simp only [s1, s2, s3, s4, s5, s6, s7, s8, s9, s10, s11, s12] at hg
                  all_goals try (exfalso; first | omega | exact absurd trivial hg | (simp at hg; done); done)
                  all_goals first | refine oQ (Q_call (hld 0 (by omega)) [(0, 5)] rfl rfl (Fits.mk' (vHc rfl vHn) rfl rfl (by simp)) rfl rfl) rfl rfl ?_ | refine oQ (Q_call (hld 1 (by omega)) [(0, 6)] rfl rfl (Fits.mk' (vHc rfl vHn) rfl rfl (by simp)) rfl rfl) rfl rfl ?_ | skip
                  all_goals first | refine oT rfl rfl ?_ | refine o1 rfl rfl rfl ?_ | refine o0 rfl rfl rfl ?_ | refine ogP1 rfl rfl rfl (fun hg => ?_) (fun hg => ?_) | refine ogP0 rfl rfl rfl (fun hg => ?_) (fun hg => ?_)
                  all_goals try simp only [s1, s2, s3, s4, s5, s6, s7, s8, s9, s10, s11, s12] at hg
                  all_goals try (exfalso; first | omega | exact absurd trivial hg | (simp at hg; done); done)
                  all_goals first | (refine oM rfl rfl ?_) | skip
                  all_goals first | refine oT rfl rfl ?_ | refine o1 rfl rfl rfl ?_ | refine o0 rfl rfl rfl ?_ | refine ogP1 rfl rfl rfl (fun hg => ?_) (fun hg => ?_) | refine ogP0 rfl rfl rfl (fun hg => ?_) (fun hg => ?_)
                  all_goals try simp only [s1, s2, s3, s4, s5, s6, s7, s8, s9, s10, s11, s12] at hg
                  all_goals try (exfalso; first | omega | exact absurd trivial hg | (simp at hg; done); done)
                  all_goals first | (refine oQ (Q_bin rfl rfl rfl) rfl rfl ?_) | skip
                  all_goals first | refine oQ (Q_pick_t rfl (by with_reducible rfl) rfl rfl) rfl rfl ?_ | refine oQ (Q_pick_f rfl (by with_reducible rfl) rfl rfl) rfl rfl ?_
                  all_goals refine oN ?_
                  all_goals (
                   first | refine cT rfl ?_ | refine cF rfl ?_ | refine CW_cond rfl (fun hc => ?_) (fun hc => ?_)
                   all_goals try simp only [s1, s2, s3, s4, s5, s6, s7, s8, s9, s10, s11, s12] at hc
                   all_goals try (exfalso; first | omega | (simp at hc; done); done)
                   all_goals first
                     | (
                      refine CW_skip ?_)
                     | (
                      refine cR ?_
                      iterate 2 refine oM rfl rfl ?_
                      refine oBslv rfl rfl rfl rfl rfl rfl rfl rfl rfl rfl rfl rfl rfl ?_
                      first | refine oAppV (by_ := 24) (A := []) (sp := []) rfl rfl rfl rfl rfl rfl rfl rfl rfl rfl rfl rfl rfl rfl rfl rfl rfl rfl (by first | rfl | omega | (simp; omega)) (by omega) (by omega) rfl rfl (fun kO hkO => ?_) | refine oAppV (by_ := 24) rfl rfl rfl rfl rfl rfl rfl rfl rfl rfl rfl rfl rfl rfl rfl rfl rfl rfl (by first | rfl | omega | (simp; omega)) (by omega) (by omega) rfl rfl (fun kO hkO => ?_)
                      refine oA rfl rfl ?_
                      refine oN ?_
                      refine CW_region ?_
                      refine oA rfl rfl ?_
                      refine OW_nil ?_))
                  all_goals with_reducible refine tN ?_
                  all_goals (
                   refine CW_any (fun i => List.elem i [16, 17]) 18 rfl lateOk (by decide +kernel) (fun hst => ?_)
                   refine aP 0 hst rfl rfl (by decide +kernel) (PX_move rfl rfl) rfl rfl ?_
                   refine aP 1 hst rfl rfl (by decide +kernel) (PX_move rfl rfl) rfl rfl ?_
                   refine aP 2 hst rfl rfl (by decide +kernel) (PX_move rfl rfl) rfl rfl ?_
                   refine aP 3 hst rfl rfl (by decide +kernel) (PX_move rfl rfl) rfl rfl ?_
                   first | refine aQ 4 hst rfl rfl (by decide +kernel) (QX_of (Is0 rfl rfl rfl rfl rfl rfl) NE_ix) rfl rfl ?_ | refine aQ 4 hst rfl rfl (by decide +kernel) (QX_of (Is1 rfl rfl rfl rfl rfl rfl) NE_ix) rfl rfl ?_
                   refine aQ 5 hst rfl rfl (by decide +kernel) (QX_of (Q_ldv rfl rfl rfl rfl rfl rfl) NE_load) rfl rfl ?_
                   refine aP 6 hst rfl rfl (by decide +kernel) (PX_move rfl rfl) rfl rfl ?_
                   refine aP 7 hst rfl rfl (by decide +kernel) (PX_move rfl rfl) rfl rfl ?_
                   refine aP 8 hst rfl rfl (by decide +kernel) (PX_move rfl rfl) rfl rfl ?_
                   first | refine aQ 9 hst rfl rfl (by decide +kernel) (QX_of (Is0 rfl rfl rfl rfl rfl rfl) NE_ix) rfl rfl ?_ | refine aQ 9 hst rfl rfl (by decide +kernel) (QX_of (Is1 rfl rfl rfl rfl rfl rfl) NE_ix) rfl rfl ?_
                   refine aQ 10 hst rfl rfl (by decide +kernel) (QX_of (Q_ldv rfl rfl rfl rfl rfl rfl) NE_load) rfl rfl ?_
                   refine aP 11 hst rfl rfl (by decide +kernel) (PX_move rfl rfl) rfl rfl ?_
                   first | refine aQ 12 hst rfl rfl (by decide +kernel) (QX_of (Is0 rfl rfl rfl rfl rfl rfl) NE_ix) rfl rfl ?_ | refine aQ 12 hst rfl rfl (by decide +kernel) (QX_of (Is1 rfl rfl rfl rfl rfl rfl) NE_ix) rfl rfl ?_
                   refine aQ 13 hst rfl rfl (by decide +kernel) (QX_of (Ld rfl rfl rfl rfl) NE_load) rfl rfl ?_
                   rw [getD_app (by omega)]
                   refine AW_one (i := 14) (by decide +kernel) ?_
                   first
                     | (refine gCall rfl rfl (hl2 0 (hE 0 (by omega))) [(0, 5), (1, 6)] 3 rfl rfl (Fits.mk' (vHc rfl (vHc rfl vHn)) rfl rfl (by simp)) rfl rfl rfl ?_; rintro v1 H1 ⟨km0, sm0, hm0, hn0, rfl, rfl⟩; refine ⟨.slice 12 0 3 km0, [(5, .ints 2 (E 0 ++ S 0)), (6, .ints 2 (normL p R' ++ sn)), (12, .ints 2 (lsL p (E 0) (normL p R') ((E 0).getD a 0) 3 ++ sm0))], rfl, keep_pre _ _, rfl, rfl, ?_⟩)
                     | (refine gCall rfl rfl (hl2 0 (hE 0 (by omega))) [(0, 5), (1, 6)] 3 rfl rfl (Fits.mk' (vHc rfl (vHc rfl vHn)) rfl rfl (by simp)) rfl rfl rfl ?_; rintro v1 H1 ⟨km0, sm0, hm0, hn0, rfl, rfl⟩; refine ⟨.slice 10 0 3 km0, [(5, .ints 2 (E 0 ++ S 0)), (6, .ints 2 (normL p R' ++ sn)), (10, .ints 2 (lsL p (E 0) (normL p R') ((E 0).getD a 0) 3 ++ sm0))], rfl, keep_pre _ _, rfl, rfl, ?_⟩)
                     | (refine gCall rfl rfl (hl2 0 (hE 0 (by omega))) [(0, 5), (1, 7)] 3 rfl rfl (Fits.mk' (vHc rfl (vHc rfl vHn)) rfl rfl (by simp)) rfl rfl rfl ?_; rintro v1 H1 ⟨km0, sm0, hm0, hn0, rfl, rfl⟩; refine ⟨.slice 13 0 3 km0, [(5, .ints 2 (E 0 ++ S 0)), (7, .ints 2 (normL p R' ++ sn)), (13, .ints 2 (lsL p (E 0) (normL p R') ((E 0).getD a 0) 3 ++ sm0))], rfl, keep_pre _ _, rfl, rfl, ?_⟩)
                     | (refine gCall rfl rfl (hl2 1 (hE 1 (by omega))) [(0, 6), (1, 7)] 3 rfl rfl (Fits.mk' (vHc rfl (vHc rfl vHn)) rfl rfl (by simp)) rfl rfl rfl ?_; rintro v1 H1 ⟨km1, sm1, hm1, hn1, rfl, rfl⟩; refine ⟨.slice 18 0 3 km1, [(6, .ints 2 (E 1 ++ S 1)), (7, .ints 2 (normL p R' ++ sn)), (18, .ints 2 (lsL p (E 1) (normL p R') ((E 1).getD a 0) 3 ++ sm1))], rfl, keep_pre _ _, rfl, rfl, ?_⟩)
                     | (refine gCall rfl rfl (hl2 0 (hE 0 (by omega))) [(0, 5), (1, 7)] 3 rfl rfl (Fits.mk' (vHc rfl (vHc rfl vHn)) rfl rfl (by simp)) rfl rfl rfl ?_; rintro v1 H1 ⟨km0, sm0, hm0, hn0, rfl, rfl⟩; refine ⟨.slice 11 0 3 km0, [(5, .ints 2 (E 0 ++ S 0)), (7, .ints 2 (normL p R' ++ sn)), (11, .ints 2 (lsL p (E 0) (normL p R') ((E 0).getD a 0) 3 ++ sm0))], rfl, keep_pre _ _, rfl, rfl, ?_⟩)
                     | (refine gCall rfl rfl (hl2 1 (hE 1 (by omega))) [(0, 6), (1, 7)] 3 rfl rfl (Fits.mk' (vHc rfl (vHc rfl vHn)) rfl rfl (by simp)) rfl rfl rfl ?_; rintro v1 H1 ⟨km1, sm1, hm1, hn1, rfl, rfl⟩; refine ⟨.slice 18 0 3 km1, [(6, .ints 2 (E 1 ++ S 1)), (7, .ints 2 (normL p R' ++ sn)), (18, .ints 2 (lsL p (E 1) (normL p R') ((E 1).getD a 0) 3 ++ sm1))], rfl, keep_pre _ _, rfl, rfl, ?_⟩)
                     | (refine gCall rfl rfl (hl2 0 (hE 0 (by omega))) [(0, 5), (1, 7)] 3 rfl rfl (Fits.mk' (vHc rfl (vHc rfl vHn)) rfl rfl (by simp)) rfl rfl rfl ?_; rintro v1 H1 ⟨km0, sm0, hm0, hn0, rfl, rfl⟩; refine ⟨.slice 11 0 3 km0, [(5, .ints 2 (E 0 ++ S 0)), (7, .ints 2 (normL p R' ++ sn)), (11, .ints 2 (lsL p (E 0) (normL p R') ((E 0).getD a 0) 3 ++ sm0))], rfl, keep_pre _ _, rfl, rfl, ?_⟩)
                     | (refine gCall rfl rfl (hl2 1 (hE 1 (by omega))) [(0, 6), (1, 7)] 3 rfl rfl (Fits.mk' (vHc rfl (vHc rfl vHn)) rfl rfl (by simp)) rfl rfl rfl ?_; rintro v1 H1 ⟨km1, sm1, hm1, hn1, rfl, rfl⟩; refine ⟨.slice 16 0 3 km1, [(6, .ints 2 (E 1 ++ S 1)), (7, .ints 2 (normL p R' ++ sn)), (16, .ints 2 (lsL p (E 1) (normL p R') ((E 1).getD a 0) 3 ++ sm1))], rfl, keep_pre _ _, rfl, rfl, ?_⟩)
                   refine AW_one (i := 15) (by decide +kernel) ?_
                   refine gBslv rfl rfl rfl rfl rfl rfl rfl rfl rfl rfl rfl rfl rfl rfl rfl ?_
                   refine AW_last [16, 17] rfl (by decide +kernel) rfl ?_
                   first | refine oAppV (by_ := 24) (A := []) (sp := []) rfl rfl rfl rfl rfl rfl rfl rfl rfl rfl rfl rfl rfl rfl rfl rfl rfl rfl (by first | rfl | omega | (simp; omega)) (by omega) (by omega) rfl rfl (fun kO hkO => ?_) | refine oAppV (by_ := 24) rfl rfl rfl rfl rfl rfl rfl rfl rfl rfl rfl rfl rfl rfl rfl rfl rfl rfl (by first | rfl | omega | (simp; omega)) (by omega) (by omega) rfl rfl (fun kO hkO => ?_)
                   refine oA rfl rfl ?_
                   refine OW_nil (npN ?_))
                  all_goals first | with_reducible refine bN ?_ | with_reducible refine bE ?_ | with_reducible refine bR ?_ | refine bX rfl ?_
                  all_goals with_reducible refine tN ?_
                  all_goals (
                   refine CW_region ?_
                   refine oM rfl rfl ?_
                   first | refine oQ (Q_binu rfl rfl rfl (by omega)) rfl rfl ?_ | refine oQ (Q_bin rfl rfl rfl) rfl rfl ?_
                   refine oA rfl rfl ?_
                   refine OW_nil ?_))
               all_goals first
                 | with_reducible refine tR ?_
                 | with_reducible refine tE ?_
                 | (
                  with_reducible refine tN ?_
                  refine RW_succ ?_
                  refine CW_seq ?_
                  refine cR ?_
                  iterate 2 refine oM rfl rfl ?_
                  first | refine oQ (Q_len rfl rfl rfl rfl) rfl rfl ?_ | refine oQ (Q_len0 rfl rfl rfl rfl) rfl rfl ?_
                  refine oQ (Q_bin rfl rfl rfl) rfl rfl ?_
                  refine oN ?_
                  first | refine cT rfl ?_ | refine cF rfl ?_ | refine CW_cond rfl (fun hc => ?_) (fun hc => ?_)
                  all_goals try simp only [s1, s2, s3, s4, s5, s6, s7, s8, s9, s10, s11, s12] at hc
                  all_goals try (exfalso; first | omega | (simp at hc; done); done)
                  all_goals first
                    | (
                     refine CW_skip ?_)
                    | (
                     refine CW_exit ?_)
                  all_goals first
                    | with_reducible refine tR ?_
                    | with_reducible refine tE ?_
                    | (
                     with_reducible refine tN ?_
                     refine CW_seq ?_
                     refine CW_block ?_
                     refine CW_seq ?_
                     refine cR ?_
                     refine oM rfl rfl ?_
                     refine oQ (Q_not rfl) rfl rfl ?_
                     refine oM rfl rfl ?_
                     all_goals first | refine oT rfl rfl ?_ | refine o1 rfl rfl rfl ?_ | refine o0 rfl rfl rfl ?_ | refine ogP1 rfl rfl rfl (fun hg => ?_) (fun hg => ?_) | refine ogP0 rfl rfl rfl (fun hg => ?_) (fun hg => ?_)
                     all_goals try simp only [s1, s2, s3, s4, s5, s6, s7, s8, s9, s10, s11, s12] at hg
                     all_goals try (exfalso; first | omega | exact absurd trivial hg | (simp at hg; done); done)
                     all_goals first | (refine oM rfl rfl ?_) | skip
                     all_goals first | refine oT rfl rfl ?_ | refine o1 rfl rfl rfl ?_ | refine o0 rfl rfl rfl ?_ | refine ogP1 rfl rfl rfl (fun hg => ?_) (fun hg => ?_) | refine ogP0 rfl rfl rfl (fun hg => ?_) (fun hg => ?_)
                     all_goals try simp only [s1, s2, s3, s4, s5, s6, s7, s8, s9, s10, s11, s12] at hg
                     all_goals try (exfalso; first | omega | exact absurd trivial hg | (simp at hg; done); done)
                     all_goals first | (refine oM rfl rfl ?_) | skip
                     all_goals first | refine oT rfl rfl ?_ | refine o1 rfl rfl rfl ?_ | refine o0 rfl rfl rfl ?_ | refine ogP1 rfl rfl rfl (fun hg => ?_) (fun hg => ?_) | refine ogP0 rfl rfl rfl (fun hg => ?_) (fun hg => ?_)
                     all_goals try simp only [s1, s2, s3, s4, s5, s6, s7, s8, s9, s10, s11, s12] at hg
                     all_goals try (exfalso; first | omega | exact absurd trivial hg | (simp at hg; done); done)
                     all_goals first | refine oQ (Is0 rfl rfl rfl rfl rfl rfl) rfl rfl ?_ | refine oQ (Is1 rfl rfl rfl rfl rfl rfl) rfl rfl ?_ | skip
                     all_goals first | refine oT rfl rfl ?_ | refine o1 rfl rfl rfl ?_ | refine o0 rfl rfl rfl ?_ | refine ogP1 rfl rfl rfl (fun hg => ?_) (fun hg => ?_) | refine ogP0 rfl rfl rfl (fun hg => ?_) (fun hg => ?_)
                     all_goals try simp only [s1, s2, s3, s4, s5, s6, s7, s8, s9, s10, s11, s12] at hg
                     all_goals try (exfalso; first | omega | exact absurd trivial hg | (simp at hg; done); done)
                     all_goals first | (refine oQ (Q_ldv rfl rfl rfl rfl rfl rfl) rfl rfl ?_) | skip
                     all_goals first | refine oT rfl rfl ?_ | refine o1 rfl rfl rfl ?_ | refine o0 rfl rfl rfl ?_ | refine ogP1 rfl rfl rfl (fun hg => ?_) (fun hg => ?_) | refine ogP0 rfl rfl rfl (fun hg => ?_) (fun hg => ?_)
                     all_goals try simp only [s1, s2, s3, s4, s5, s6, s7, s8, s9, s10, s11, s12] at hg
                     all_goals try (exfalso; first | omega | exact absurd trivial hg | (simp at hg; done); done)
                     all_goals first | refine oQ (Q_call (hld 0 (by omega)) [(0, 5)] rfl rfl (Fits.mk' (vHc rfl vHn) rfl rfl (by simp)) rfl rfl) rfl rfl ?_ | refine oQ (Q_call (hld 1 (by omega)) [(0, 6)] rfl rfl (Fits.mk' (vHc rfl vHn) rfl rfl (by simp)) rfl rfl) rfl rfl ?_ | skip
                     all_goals first | refine oT rfl rfl ?_ | refine o1 rfl rfl rfl ?_ | refine o0 rfl rfl rfl ?_ | refine ogP1 rfl rfl rfl (fun hg => ?_) (fun hg => ?_) | refine ogP0 rfl rfl rfl (fun hg => ?_) (fun hg => ?_)
                     all_goals try simp only [s1, s2, s3, s4, s5, s6, s7, s8, s9, s10, s11, s12] at hg
                     all_goals try (exfalso; first | omega | exact absurd trivial hg | (simp at hg; done); done)
                     all_goals first | (refine oM rfl rfl ?_) | skip
                     all_goals first | refine oT rfl rfl ?_ | refine o1 rfl rfl rfl ?_ | refine o0 rfl rfl rfl ?_ | refine ogP1 rfl rfl rfl (fun hg => ?_) (fun hg => ?_) | refine ogP0 rfl rfl rfl (fun hg => ?_) (fun hg => ?_)
                     all_goals try simp only [s1, s2, s3, s4, s5, s6, s7, s8, s9, s10, s11, s12] at hg
                     all_goals try (exfalso; first | omega | exact absurd trivial hg | (simp at hg; done); done)
                     all_goals first | (refine oQ (Q_bin rfl rfl rfl) rfl rfl ?_) | skip
                     all_goals first | refine oQ (Q_pick_t rfl (by with_reducible rfl) rfl rfl) rfl rfl ?_ | refine oQ (Q_pick_f rfl (by with_reducible rfl) rfl rfl) rfl rfl ?_
                     all_goals refine oN ?_
                     all_goals (
                      first | refine cT rfl ?_ | refine cF rfl ?_ | refine CW_cond rfl (fun hc => ?_) (fun hc => ?_)
                      all_goals try simp only [s1, s2, s3, s4, s5, s6, s7, s8, s9, s10, s11, s12] at hc
                      all_goals try (exfalso; first | omega | (simp at hc; done); done)
                      all_goals first
                        | (
                         refine CW_skip ?_)
                        | (
                         refine cR ?_
                         iterate 2 refine oM rfl rfl ?_
                         refine oBslv rfl rfl rfl rfl rfl rfl rfl rfl rfl rfl rfl rfl rfl ?_
                         first | refine oAppV (by_ := 24) (A := []) (sp := []) rfl rfl rfl rfl rfl rfl rfl rfl rfl rfl rfl rfl rfl rfl rfl rfl rfl rfl (by first | rfl | omega | (simp; omega)) (by omega) (by omega) rfl rfl (fun kO hkO => ?_) | refine oAppV (by_ := 24) rfl rfl rfl rfl rfl rfl rfl rfl rfl rfl rfl rfl rfl rfl rfl rfl rfl rfl (by first | rfl | omega | (simp; omega)) (by omega) (by omega) rfl rfl (fun kO hkO => ?_)
                         refine oA rfl rfl ?_
                         refine oN ?_
                         refine CW_region ?_
                         refine oA rfl rfl ?_
                         refine OW_nil ?_))
                     all_goals with_reducible refine tN ?_
                     all_goals (
                      refine CW_any (fun i => List.elem i [16, 17]) 18 rfl lateOk (by decide +kernel) (fun hst => ?_)
                      refine aP 0 hst rfl rfl (by decide +kernel) (PX_move rfl rfl) rfl rfl ?_
                      refine aP 1 hst rfl rfl (by decide +kernel) (PX_move rfl rfl) rfl rfl ?_
                      refine aP 2 hst rfl rfl (by decide +kernel) (PX_move rfl rfl) rfl rfl ?_
                      refine aP 3 hst rfl rfl (by decide +kernel) (PX_move rfl rfl) rfl rfl ?_
                      first | refine aQ 4 hst rfl rfl (by decide +kernel) (QX_of (Is0 rfl rfl rfl rfl rfl rfl) NE_ix) rfl rfl ?_ | refine aQ 4 hst rfl rfl (by decide +kernel) (QX_of (Is1 rfl rfl rfl rfl rfl rfl) NE_ix) rfl rfl ?_
                      refine aQ 5 hst rfl rfl (by decide +kernel) (QX_of (Q_ldv rfl rfl rfl rfl rfl rfl) NE_load) rfl rfl ?_
                      refine aP 6 hst rfl rfl (by decide +kernel) (PX_move rfl rfl) rfl rfl ?_
                      refine aP 7 hst rfl rfl (by decide +kernel) (PX_move rfl rfl) rfl rfl ?_
                      refine aP 8 hst rfl rfl (by decide +kernel) (PX_move rfl rfl) rfl rfl ?_
                      first | refine aQ 9 hst rfl rfl (by decide +kernel) (QX_of (Is0 rfl rfl rfl rfl rfl rfl) NE_ix) rfl rfl ?_ | refine aQ 9 hst rfl rfl (by decide +kernel) (QX_of (Is1 rfl rfl rfl rfl rfl rfl) NE_ix) rfl rfl ?_
                      refine aQ 10 hst rfl rfl (by decide +kernel) (QX_of (Q_ldv rfl rfl rfl rfl rfl rfl) NE_load) rfl rfl ?_
                      refine aP 11 hst rfl rfl (by decide +kernel) (PX_move rfl rfl) rfl rfl ?_
                      first | refine aQ 12 hst rfl rfl (by decide +kernel) (QX_of (Is0 rfl rfl rfl rfl rfl rfl) NE_ix) rfl rfl ?_ | refine aQ 12 hst rfl rfl (by decide +kernel) (QX_of (Is1 rfl rfl rfl rfl rfl rfl) NE_ix) rfl rfl ?_
                      refine aQ 13 hst rfl rfl (by decide +kernel) (QX_of (Ld rfl rfl rfl rfl) NE_load) rfl rfl ?_
                      rw [getD_app (by omega)]
                      refine AW_one (i := 14) (by decide +kernel) ?_
                      first
                        | (refine gCall rfl rfl (hl2 0 (hE 0 (by omega))) [(0, 5), (1, 6)] 3 rfl rfl (Fits.mk' (vHc rfl (vHc rfl vHn)) rfl rfl (by simp)) rfl rfl rfl ?_; rintro v1 H1 ⟨km0, sm0, hm0, hn0, rfl, rfl⟩; refine ⟨.slice 12 0 3 km0, [(5, .ints 2 (E 0 ++ S 0)), (6, .ints 2 (normL p R' ++ sn)), (12, .ints 2 (lsL p (E 0) (normL p R') ((E 0).getD a 0) 3 ++ sm0))], rfl, keep_pre _ _, rfl, rfl, ?_⟩)
                        | (refine gCall rfl rfl (hl2 0 (hE 0 (by omega))) [(0, 5), (1, 6)] 3 rfl rfl (Fits.mk' (vHc rfl (vHc rfl vHn)) rfl rfl (by simp)) rfl rfl rfl ?_; rintro v1 H1 ⟨km0, sm0, hm0, hn0, rfl, rfl⟩; refine ⟨.slice 10 0 3 km0, [(5, .ints 2 (E 0 ++ S 0)), (6, .ints 2 (normL p R' ++ sn)), (10, .ints 2 (lsL p (E 0) (normL p R') ((E 0).getD a 0) 3 ++ sm0))], rfl, keep_pre _ _, rfl, rfl, ?_⟩)
                        | (refine gCall rfl rfl (hl2 0 (hE 0 (by omega))) [(0, 5), (1, 7)] 3 rfl rfl (Fits.mk' (vHc rfl (vHc rfl vHn)) rfl rfl (by simp)) rfl rfl rfl ?_; rintro v1 H1 ⟨km0, sm0, hm0, hn0, rfl, rfl⟩; refine ⟨.slice 13 0 3 km0, [(5, .ints 2 (E 0 ++ S 0)), (7, .ints 2 (normL p R' ++ sn)), (13, .ints 2 (lsL p (E 0) (normL p R') ((E 0).getD a 0) 3 ++ sm0))], rfl, keep_pre _ _, rfl, rfl, ?_⟩)
                        | (refine gCall rfl rfl (hl2 1 (hE 1 (by omega))) [(0, 6), (1, 7)] 3 rfl rfl (Fits.mk' (vHc rfl (vHc rfl vHn)) rfl rfl (by simp)) rfl rfl rfl ?_; rintro v1 H1 ⟨km1, sm1, hm1, hn1, rfl, rfl⟩; refine ⟨.slice 18 0 3 km1, [(6, .ints 2 (E 1 ++ S 1)), (7, .ints 2 (normL p R' ++ sn)), (18, .ints 2 (lsL p (E 1) (normL p R') ((E 1).getD a 0) 3 ++ sm1))], rfl, keep_pre _ _, rfl, rfl, ?_⟩)
                        | (refine gCall rfl rfl (hl2 0 (hE 0 (by omega))) [(0, 5), (1, 7)] 3 rfl rfl (Fits.mk' (vHc rfl (vHc rfl vHn)) rfl rfl (by simp)) rfl rfl rfl ?_; rintro v1 H1 ⟨km0, sm0, hm0, hn0, rfl, rfl⟩; refine ⟨.slice 11 0 3 km0, [(5, .ints 2 (E 0 ++ S 0)), (7, .ints 2 (normL p R' ++ sn)), (11, .ints 2 (lsL p (E 0) (normL p R') ((E 0).getD a 0) 3 ++ sm0))], rfl, keep_pre _ _, rfl, rfl, ?_⟩)
                        | (refine gCall rfl rfl (hl2 1 (hE 1 (by omega))) [(0, 6), (1, 7)] 3 rfl rfl (Fits.mk' (vHc rfl (vHc rfl vHn)) rfl rfl (by simp)) rfl rfl rfl ?_; rintro v1 H1 ⟨km1, sm1, hm1, hn1, rfl, rfl⟩; refine ⟨.slice 18 0 3 km1, [(6, .ints 2 (E 1 ++ S 1)), (7, .ints 2 (normL p R' ++ sn)), (18, .ints 2 (lsL p (E 1) (normL p R') ((E 1).getD a 0) 3 ++ sm1))], rfl, keep_pre _ _, rfl, rfl, ?_⟩)
                        | (refine gCall rfl rfl (hl2 0 (hE 0 (by omega))) [(0, 5), (1, 7)] 3 rfl rfl (Fits.mk' (vHc rfl (vHc rfl vHn)) rfl rfl (by simp)) rfl rfl rfl ?_; rintro v1 H1 ⟨km0, sm0, hm0, hn0, rfl, rfl⟩; refine ⟨.slice 11 0 3 km0, [(5, .ints 2 (E 0 ++ S 0)), (7, .ints 2 (normL p R' ++ sn)), (11, .ints 2 (lsL p (E 0) (normL p R') ((E 0).getD a 0) 3 ++ sm0))], rfl, keep_pre _ _, rfl, rfl, ?_⟩)
                        | (refine gCall rfl rfl (hl2 1 (hE 1 (by omega))) [(0, 6), (1, 7)] 3 rfl rfl (Fits.mk' (vHc rfl (vHc rfl vHn)) rfl rfl (by simp)) rfl rfl rfl ?_; rintro v1 H1 ⟨km1, sm1, hm1, hn1, rfl, rfl⟩; refine ⟨.slice 16 0 3 km1, [(6, .ints 2 (E 1 ++ S 1)), (7, .ints 2 (normL p R' ++ sn)), (16, .ints 2 (lsL p (E 1) (normL p R') ((E 1).getD a 0) 3 ++ sm1))], rfl, keep_pre _ _, rfl, rfl, ?_⟩)
                      refine AW_one (i := 15) (by decide +kernel) ?_
                      refine gBslv rfl rfl rfl rfl rfl rfl rfl rfl rfl rfl rfl rfl rfl rfl rfl ?_
                      refine AW_last [16, 17] rfl (by decide +kernel) rfl ?_
                      first | refine oAppV (by_ := 24) (A := []) (sp := []) rfl rfl rfl rfl rfl rfl rfl rfl rfl rfl rfl rfl rfl rfl rfl rfl rfl rfl (by first | rfl | omega | (simp; omega)) (by omega) (by omega) rfl rfl (fun kO hkO => ?_) | refine oAppV (by_ := 24) rfl rfl rfl rfl rfl rfl rfl rfl rfl rfl rfl rfl rfl rfl rfl rfl rfl rfl (by first | rfl | omega | (simp; omega)) (by omega) (by omega) rfl rfl (fun kO hkO => ?_)
                      refine oA rfl rfl ?_
                      refine OW_nil (npN ?_))
                     all_goals first | with_reducible refine bN ?_ | with_reducible refine bE ?_ | with_reducible refine bR ?_ | refine bX rfl ?_
                     all_goals with_reducible refine tN ?_
                     all_goals (
                      refine CW_region ?_
                      refine oM rfl rfl ?_
                      first | refine oQ (Q_binu rfl rfl rfl (by omega)) rfl rfl ?_ | refine oQ (Q_bin rfl rfl rfl) rfl rfl ?_
                      refine oA rfl rfl ?_
                      refine OW_nil ?_))
                  all_goals first
                    | with_reducible refine tR ?_
                    | with_reducible refine tE ?_
                    | (
                     with_reducible refine tN ?_
                     exfalso; first | omega | (simp at hc; done) | (simp_all; done)))))
         all_goals first | with_reducible refine bN ?_ | with_reducible refine bE ?_ | with_reducible refine bR ?_ | refine bX rfl ?_
         all_goals with_reducible refine tN ?_
         all_goals (
          refine CW_seq ?_
          refine cR ?_
          refine oM rfl rfl ?_
          refine oQ (Q_not rfl) rfl rfl ?_
          refine oN ?_
          first | refine cT rfl ?_ | refine cF rfl ?_ | refine CW_cond rfl (fun hc => ?_) (fun hc => ?_)
          all_goals try simp only [s1, s2, s3, s4, s5, s6, s7, s8, s9, s10, s11, s12] at hc
          all_goals try (exfalso; first | omega | (simp at hc; done); done)
          all_goals first
            | (
             refine CW_skip ?_)
            | (
             refine CW_region ?_
             iterate 2 refine oM rfl rfl ?_
             refine oBslv rfl rfl rfl rfl rfl rfl rfl rfl rfl rfl rfl rfl rfl ?_
             first | refine oAppV (by_ := 24) (A := []) (sp := []) rfl rfl rfl rfl rfl rfl rfl rfl rfl rfl rfl rfl rfl rfl rfl rfl rfl rfl (by first | rfl | omega | (simp; omega)) (by omega) (by omega) rfl rfl (fun kO hkO => ?_) | refine oAppV (by_ := 24) rfl rfl rfl rfl rfl rfl rfl rfl rfl rfl rfl rfl rfl rfl rfl rfl rfl rfl (by first | rfl | omega | (simp; omega)) (by omega) (by omega) rfl rfl (fun kO hkO => ?_)
             refine oA rfl rfl ?_
             refine OW_nil ?_)
          all_goals with_reducible refine tN ?_
          all_goals (
           refine CW_region ?_
           refine oM rfl rfl ?_
           refine oA rfl rfl ?_
           refine OW_nil ?_)))
      all_goals first | with_reducible refine bN ?_ | with_reducible refine bE ?_ | with_reducible refine bR ?_ | refine bX rfl ?_
      all_goals with_reducible refine tN ?_
      all_goals (
       refine CW_region ?_
       refine oM rfl rfl ?_
       first | refine oQ (Q_binu rfl rfl rfl (by omega)) rfl rfl ?_ | refine oQ (Q_bin rfl rfl rfl) rfl rfl ?_
       refine oA rfl rfl ?_
       refine OW_nil ?_))
   all_goals first
     | with_reducible refine tR ?_
     | with_reducible refine tE ?_
     | (
      with_reducible refine tN ?_
      first
        | (
         refine ⟨⟨i + 1, 0, kO, E, K, S, P⟩, ?_, ?_, View.mk' [] rfl (by simp only [wfB, List.all_cons, List.all_nil, ids_bots]; rfl) rfl ?_ ?_⟩
         · try dsimp only
           refine ⟨by omega, by omega, ?_, ?_⟩
           · first | exact hE | (intro z hz; (have e : z = 0 ∨ z = 1 ∨ z = 2 := by omega); rcases e with rfl | rfl | rfl <;> first | exact rwB_ls hp0 _ _ _ _ | exact hN | (exfalso; omega))
           · first
               | exact EcI_skip hp hEc hMi hE (by rw [← hR']; omega)
               | (refine EcI_put hp hEc hMi hE (by decide) ha (by rw [← hR']; exact ha0) (by rw [← hR']; exact ha1) ?_ ?_ ?_
                  · rw [← hR']; intro z hz; (have e : z = 0 ∨ z = 1 ∨ z = 2 := by omega); (rcases e with rfl | rfl | rfl <;> first | rfl | (exfalso; omega))
                  · first | (rw [← hR']; done) | (rw [← hR']; rfl)
                  · rw [← hR']; intro z hz hz2; (have e : z = 0 ∨ z = 1 ∨ z = 2 := by omega); (rcases e with rfl | rfl | rfl <;> first | rfl | (exfalso; omega)))
         · (try dsimp only); omega
         all_goals (repeat' first | exact vFn | refine vFc rfl ?_ | exact vHn | refine vHc rfl ?_ | refine vFc (congrArg (fun z => some (V.int z)) ?_) ?_ | refine vHc (congrArg (fun z => some (Blk.ints _ z)) ?_) ?_ | refine vFc (congrArg (fun z => some (V.bool z)) ?_) ?_ | refine vFs rfl rfl ?_ ?_ | refine vHc (by rw [ren_bots]; rfl) ?_)
         all_goals first | rfl | omega
         done)
        | (
         refine ⟨⟨i + 1, 1, kO, E, K, S, P⟩, ?_, ?_, View.mk' [] rfl (by simp only [wfB, List.all_cons, List.all_nil, ids_bots]; rfl) rfl ?_ ?_⟩
         · try dsimp only
           refine ⟨by omega, by omega, ?_, ?_⟩
           · first | exact hE | (intro z hz; (have e : z = 0 ∨ z = 1 ∨ z = 2 := by omega); rcases e with rfl | rfl | rfl <;> first | exact rwB_ls hp0 _ _ _ _ | exact hN | (exfalso; omega))
           · first
               | exact EcI_skip hp hEc hMi hE (by rw [← hR']; omega)
               | (refine EcI_put hp hEc hMi hE (by decide) ha (by rw [← hR']; exact ha0) (by rw [← hR']; exact ha1) ?_ ?_ ?_
                  · rw [← hR']; intro z hz; (have e : z = 0 ∨ z = 1 ∨ z = 2 := by omega); (rcases e with rfl | rfl | rfl <;> first | rfl | (exfalso; omega))
                  · first | (rw [← hR']; done) | (rw [← hR']; rfl)
                  · rw [← hR']; intro z hz hz2; (have e : z = 0 ∨ z = 1 ∨ z = 2 := by omega); (rcases e with rfl | rfl | rfl <;> first | rfl | (exfalso; omega)))
         · (try dsimp only); omega
         all_goals (repeat' first | exact vFn | refine vFc rfl ?_ | exact vHn | refine vHc rfl ?_ | refine vFc (congrArg (fun z => some (V.int z)) ?_) ?_ | refine vHc (congrArg (fun z => some (Blk.ints _ z)) ?_) ?_ | refine vFc (congrArg (fun z => some (V.bool z)) ?_) ?_ | refine vFs rfl rfl ?_ ?_ | refine vHc (by rw [ren_bots]; rfl) ?_)
         all_goals first | rfl | omega
         done)
        | (
         refine ⟨⟨i + 1, 2, kO, E, K, S, P⟩, ?_, ?_, View.mk' [] rfl (by simp only [wfB, List.all_cons, List.all_nil, ids_bots]; rfl) rfl ?_ ?_⟩
         · try dsimp only
           refine ⟨by omega, by omega, ?_, ?_⟩
           · first | exact hE | (intro z hz; (have e : z = 0 ∨ z = 1 ∨ z = 2 := by omega); rcases e with rfl | rfl | rfl <;> first | exact rwB_ls hp0 _ _ _ _ | exact hN | (exfalso; omega))
           · first
               | exact EcI_skip hp hEc hMi hE (by rw [← hR']; omega)
               | (refine EcI_put hp hEc hMi hE (by decide) ha (by rw [← hR']; exact ha0) (by rw [← hR']; exact ha1) ?_ ?_ ?_
                  · rw [← hR']; intro z hz; (have e : z = 0 ∨ z = 1 ∨ z = 2 := by omega); (rcases e with rfl | rfl | rfl <;> first | rfl | (exfalso; omega))
                  · first | (rw [← hR']; done) | (rw [← hR']; rfl)
                  · rw [← hR']; intro z hz hz2; (have e : z = 0 ∨ z = 1 ∨ z = 2 := by omega); (rcases e with rfl | rfl | rfl <;> first | rfl | (exfalso; omega)))
         · (try dsimp only); omega
         all_goals (repeat' first | exact vFn | refine vFc rfl ?_ | exact vHn | refine vHc rfl ?_ | refine vFc (congrArg (fun z => some (V.int z)) ?_) ?_ | refine vHc (congrArg (fun z => some (Blk.ints _ z)) ?_) ?_ | refine vFc (congrArg (fun z => some (V.bool z)) ?_) ?_ | refine vFs rfl rfl ?_ ?_ | refine vHc (by rw [ren_bots]; rfl) ?_)
         all_goals first | rfl | omega
         done)
        | (
         refine ⟨⟨i + 1, 0 + 1, kO, fun j => match j with | _ => normL p R', fun j => match j with | _ => kn, fun j => match j with | _ => sn, inP P 0 a⟩, ?_, ?_, View.mk' [(4, 8), (5, 5)] rfl (by simp only [wfB, List.all_cons, List.all_nil, ids_bots]; rfl) rfl ?_ ?_⟩
         · try dsimp only
           refine ⟨by omega, by omega, ?_, ?_⟩
           · first | exact hE | (intro z hz; (have e : z = 0 ∨ z = 1 ∨ z = 2 := by omega); rcases e with rfl | rfl | rfl <;> first | exact rwB_ls hp0 _ _ _ _ | exact hN | (exfalso; omega))
           · first
               | exact EcI_skip hp hEc hMi hE (by rw [← hR']; omega)
               | (refine EcI_put hp hEc hMi hE (by decide) ha (by rw [← hR']; exact ha0) (by rw [← hR']; exact ha1) ?_ ?_ ?_
                  · rw [← hR']; intro z hz; (have e : z = 0 ∨ z = 1 ∨ z = 2 := by omega); (rcases e with rfl | rfl | rfl <;> first | rfl | (exfalso; omega))
                  · first | (rw [← hR']; done) | (rw [← hR']; rfl)
                  · rw [← hR']; intro z hz hz2; (have e : z = 0 ∨ z = 1 ∨ z = 2 := by omega); (rcases e with rfl | rfl | rfl <;> first | rfl | (exfalso; omega)))
         · (try dsimp only); omega
         all_goals (repeat' first | exact vFn | refine vFc rfl ?_ | exact vHn | refine vHc rfl ?_ | refine vFc (congrArg (fun z => some (V.int z)) ?_) ?_ | refine vHc (congrArg (fun z => some (Blk.ints _ z)) ?_) ?_ | refine vFc (congrArg (fun z => some (V.bool z)) ?_) ?_ | refine vFs rfl rfl ?_ ?_ | refine vHc (by rw [ren_bots]; rfl) ?_)
         all_goals first | rfl | omega
         done)
        | (
         refine ⟨⟨i + 1, 1 + 1, kO, fun j => match j with | 0 => normL p R' | _ => lsL p (E 0) (normL p R') ((E 0).getD a 0) 3, fun j => match j with | 0 => kn | _ => km0, fun j => match j with | 0 => sn | _ => sm0, inP P 0 a⟩, ?_, ?_, View.mk' [(4, 14), (5, 6), (6, 12)] rfl (by simp only [wfB, List.all_cons, List.all_nil, ids_bots]; rfl) rfl ?_ ?_⟩
         · try dsimp only
           refine ⟨by omega, by omega, ?_, ?_⟩
           · first | exact hE | (intro z hz; (have e : z = 0 ∨ z = 1 ∨ z = 2 := by omega); rcases e with rfl | rfl | rfl <;> first | exact rwB_ls hp0 _ _ _ _ | exact hN | (exfalso; omega))
           · first
               | exact EcI_skip hp hEc hMi hE (by rw [← hR']; omega)
               | (refine EcI_put hp hEc hMi hE (by decide) ha (by rw [← hR']; exact ha0) (by rw [← hR']; exact ha1) ?_ ?_ ?_
                  · rw [← hR']; intro z hz; (have e : z = 0 ∨ z = 1 ∨ z = 2 := by omega); (rcases e with rfl | rfl | rfl <;> first | rfl | (exfalso; omega))
                  · first | (rw [← hR']; done) | (rw [← hR']; rfl)
                  · rw [← hR']; intro z hz hz2; (have e : z = 0 ∨ z = 1 ∨ z = 2 := by omega); (rcases e with rfl | rfl | rfl <;> first | rfl | (exfalso; omega)))
         · (try dsimp only); omega
         all_goals (repeat' first | exact vFn | refine vFc rfl ?_ | exact vHn | refine vHc rfl ?_ | refine vFc (congrArg (fun z => some (V.int z)) ?_) ?_ | refine vHc (congrArg (fun z => some (Blk.ints _ z)) ?_) ?_ | refine vFc (congrArg (fun z => some (V.bool z)) ?_) ?_ | refine vFs rfl rfl ?_ ?_ | refine vHc (by rw [ren_bots]; rfl) ?_)
         all_goals first | rfl | omega
         done)
        | (
         refine ⟨⟨i + 1, 1 + 1, kO, fun j => match j with | 0 => lsL p (E 0) (normL p R') ((E 0).getD a 0) 3 | _ => normL p R', fun j => match j with | 0 => km0 | _ => kn, fun j => match j with | 0 => sm0 | _ => sn, inP P 1 a⟩, ?_, ?_, View.mk' [(4, 14), (5, 10), (6, 6)] rfl (by simp only [wfB, List.all_cons, List.all_nil, ids_bots]; rfl) rfl ?_ ?_⟩
         · try dsimp only
           refine ⟨by omega, by omega, ?_, ?_⟩
           · first | exact hE | (intro z hz; (have e : z = 0 ∨ z = 1 ∨ z = 2 := by omega); rcases e with rfl | rfl | rfl <;> first | exact rwB_ls hp0 _ _ _ _ | exact hN | (exfalso; omega))
           · first
               | exact EcI_skip hp hEc hMi hE (by rw [← hR']; omega)
               | (refine EcI_put hp hEc hMi hE (by decide) ha (by rw [← hR']; exact ha0) (by rw [← hR']; exact ha1) ?_ ?_ ?_
                  · rw [← hR']; intro z hz; (have e : z = 0 ∨ z = 1 ∨ z = 2 := by omega); (rcases e with rfl | rfl | rfl <;> first | rfl | (exfalso; omega))
                  · first | (rw [← hR']; done) | (rw [← hR']; rfl)
                  · rw [← hR']; intro z hz hz2; (have e : z = 0 ∨ z = 1 ∨ z = 2 := by omega); (rcases e with rfl | rfl | rfl <;> first | rfl | (exfalso; omega)))
         · (try dsimp only); omega
         all_goals (repeat' first | exact vFn | refine vFc rfl ?_ | exact vHn | refine vHc rfl ?_ | refine vFc (congrArg (fun z => some (V.int z)) ?_) ?_ | refine vHc (congrArg (fun z => some (Blk.ints _ z)) ?_) ?_ | refine vFc (congrArg (fun z => some (V.bool z)) ?_) ?_ | refine vFs rfl rfl ?_ ?_ | refine vHc (by rw [ren_bots]; rfl) ?_)
         all_goals first | rfl | omega
         done)
        | (
         refine ⟨⟨i + 1, 2 + 1, kO, fun j => match j with | 0 => normL p R' | 1 => lsL p (E 0) (normL p R') ((E 0).getD a 0) 3 | _ => lsL p (E 1) (normL p R') ((E 1).getD a 0) 3, fun j => match j with | 0 => kn | 1 => km0 | _ => km1, fun j => match j with | 0 => sn | 1 => sm0 | _ => sm1, inP P 0 a⟩, ?_, ?_, View.mk' [(4, 20), (5, 7), (6, 13), (7, 18)] rfl (by simp only [wfB, List.all_cons, List.all_nil, ids_bots]; rfl) rfl ?_ ?_⟩
         · try dsimp only
           refine ⟨by omega, by omega, ?_, ?_⟩
           · first | exact hE | (intro z hz; (have e : z = 0 ∨ z = 1 ∨ z = 2 := by omega); rcases e with rfl | rfl | rfl <;> first | exact rwB_ls hp0 _ _ _ _ | exact hN | (exfalso; omega))
           · first
               | exact EcI_skip hp hEc hMi hE (by rw [← hR']; omega)
               | (refine EcI_put hp hEc hMi hE (by decide) ha (by rw [← hR']; exact ha0) (by rw [← hR']; exact ha1) ?_ ?_ ?_
                  · rw [← hR']; intro z hz; (have e : z = 0 ∨ z = 1 ∨ z = 2 := by omega); (rcases e with rfl | rfl | rfl <;> first | rfl | (exfalso; omega))
                  · first | (rw [← hR']; done) | (rw [← hR']; rfl)
                  · rw [← hR']; intro z hz hz2; (have e : z = 0 ∨ z = 1 ∨ z = 2 := by omega); (rcases e with rfl | rfl | rfl <;> first | rfl | (exfalso; omega)))
         · (try dsimp only); omega
         all_goals (repeat' first | exact vFn | refine vFc rfl ?_ | exact vHn | refine vHc rfl ?_ | refine vFc (congrArg (fun z => some (V.int z)) ?_) ?_ | refine vHc (congrArg (fun z => some (Blk.ints _ z)) ?_) ?_ | refine vFc (congrArg (fun z => some (V.bool z)) ?_) ?_ | refine vFs rfl rfl ?_ ?_ | refine vHc (by rw [ren_bots]; rfl) ?_)
         all_goals first | rfl | omega
         done)
        | (
         refine ⟨⟨i + 1, 2 + 1, kO, fun j => match j with | 0 => lsL p (E 0) (normL p R') ((E 0).getD a 0) 3 | 1 => normL p R' | _ => lsL p (E 1) (normL p R') ((E 1).getD a 0) 3, fun j => match j with | 0 => km0 | 1 => kn | _ => km1, fun j => match j with | 0 => sm0 | 1 => sn | _ => sm1, inP P 1 a⟩, ?_, ?_, View.mk' [(4, 20), (5, 11), (6, 7), (7, 18)] rfl (by simp only [wfB, List.all_cons, List.all_nil, ids_bots]; rfl) rfl ?_ ?_⟩
         · try dsimp only
           refine ⟨by omega, by omega, ?_, ?_⟩
           · first | exact hE | (intro z hz; (have e : z = 0 ∨ z = 1 ∨ z = 2 := by omega); rcases e with rfl | rfl | rfl <;> first | exact rwB_ls hp0 _ _ _ _ | exact hN | (exfalso; omega))
           · first
               | exact EcI_skip hp hEc hMi hE (by rw [← hR']; omega)
               | (refine EcI_put hp hEc hMi hE (by decide) ha (by rw [← hR']; exact ha0) (by rw [← hR']; exact ha1) ?_ ?_ ?_
                  · rw [← hR']; intro z hz; (have e : z = 0 ∨ z = 1 ∨ z = 2 := by omega); (rcases e with rfl | rfl | rfl <;> first | rfl | (exfalso; omega))
                  · first | (rw [← hR']; done) | (rw [← hR']; rfl)
                  · rw [← hR']; intro z hz hz2; (have e : z = 0 ∨ z = 1 ∨ z = 2 := by omega); (rcases e with rfl | rfl | rfl <;> first | rfl | (exfalso; omega)))
         · (try dsimp only); omega
         all_goals (repeat' first | exact vFn | refine vFc rfl ?_ | exact vHn | refine vHc rfl ?_ | refine vFc (congrArg (fun z => some (V.int z)) ?_) ?_ | refine vHc (congrArg (fun z => some (Blk.ints _ z)) ?_) ?_ | refine vFc (congrArg (fun z => some (V.bool z)) ?_) ?_ | refine vFs rfl rfl ?_ ?_ | refine vHc (by rw [ren_bots]; rfl) ?_)
         all_goals first | rfl | omega
         done)
        | (
         refine ⟨⟨i + 1, 2 + 1, kO, fun j => match j with | 0 => lsL p (E 0) (normL p R') ((E 0).getD a 0) 3 | 1 => lsL p (E 1) (normL p R') ((E 1).getD a 0) 3 | _ => normL p R', fun j => match j with | 0 => km0 | 1 => km1 | _ => kn, fun j => match j with | 0 => sm0 | 1 => sm1 | _ => sn, inP P 2 a⟩, ?_, ?_, View.mk' [(4, 20), (5, 11), (6, 16), (7, 7)] rfl (by simp only [wfB, List.all_cons, List.all_nil, ids_bots]; rfl) rfl ?_ ?_⟩
         · try dsimp only
           refine ⟨by omega, by omega, ?_, ?_⟩
           · first | exact hE | (intro z hz; (have e : z = 0 ∨ z = 1 ∨ z = 2 := by omega); rcases e with rfl | rfl | rfl <;> first | exact rwB_ls hp0 _ _ _ _ | exact hN | (exfalso; omega))
           · first
               | exact EcI_skip hp hEc hMi hE (by rw [← hR']; omega)
               | (refine EcI_put hp hEc hMi hE (by decide) ha (by rw [← hR']; exact ha0) (by rw [← hR']; exact ha1) ?_ ?_ ?_
                  · rw [← hR']; intro z hz; (have e : z = 0 ∨ z = 1 ∨ z = 2 := by omega); (rcases e with rfl | rfl | rfl <;> first | rfl | (exfalso; omega))
                  · first | (rw [← hR']; done) | (rw [← hR']; rfl)
                  · rw [← hR']; intro z hz hz2; (have e : z = 0 ∨ z = 1 ∨ z = 2 := by omega); (rcases e with rfl | rfl | rfl <;> first | rfl | (exfalso; omega)))
         · (try dsimp only); omega
         all_goals (repeat' first | exact vFn | refine vFc rfl ?_ | exact vHn | refine vHc rfl ?_ | refine vFc (congrArg (fun z => some (V.int z)) ?_) ?_ | refine vHc (congrArg (fun z => some (Blk.ints _ z)) ?_) ?_ | refine vFc (congrArg (fun z => some (V.bool z)) ?_) ?_ | refine vFs rfl rfl ?_ ?_ | refine vHc (by rw [ren_bots]; rfl) ?_)
         all_goals first | rfl | omega
         done)))
  all_goals first | with_reducible refine bN ?_ | with_reducible refine bE ?_ | with_reducible refine bR ?_ | refine bX rfl ?_
  all_goals with_reducible refine tN ?_
  all_goals (
   refine cR ?_
   refine oM rfl rfl ?_
   refine oA rfl rfl ?_
   refine oN ?_
   refine CW_ret ?_)
  all_goals (
   have ei : i = 3 := by omega
   subst ei
   have e := EcI_end hp hEc
   first | exact exitH (r0 := .slice 4 0 0 kO) (H0 := [(0, .vals 103 [.slice 1 0 3 c0, .slice 2 0 3 c1, .slice 3 0 3 c2]), (1, .ints 2 (M 0)), (2, .ints 2 (M 1)), (3, .ints 2 (M 2))]) (.inr rfl) [] 5 (.cons (.tmp rfl rfl) .nil) rfl rfl rfl (vHc rfl (vHc rfl (vHc rfl (vHc rfl vHn)))) rfl rfl ⟨kO, by rw [e], rfl⟩ | exact exitH (r0 := .slice 4 0 1 kO) (H0 := [(0, .vals 103 [.slice 1 0 3 c0, .slice 2 0 3 c1, .slice 3 0 3 c2]), (1, .ints 2 (M 0)), (2, .ints 2 (M 1)), (3, .ints 2 (M 2))]) (.inr rfl) [] 5 (.cons (.tmp rfl rfl) .nil) rfl rfl rfl (vHc rfl (vHc rfl (vHc rfl (vHc rfl vHn)))) rfl rfl ⟨kO, by rw [e], rfl⟩ | exact exitH (r0 := .slice 4 0 2 kO) (H0 := [(0, .vals 103 [.slice 1 0 3 c0, .slice 2 0 3 c1, .slice 3 0 3 c2]), (1, .ints 2 (M 0)), (2, .ints 2 (M 1)), (3, .ints 2 (M 2))]) (.inr rfl) [] 5 (.cons (.tmp rfl rfl) .nil) rfl rfl rfl (vHc rfl (vHc rfl (vHc rfl (vHc rfl vHn)))) rfl rfl ⟨kO, by rw [e], rfl⟩ | exact exitH (r0 := .slice 4 0 3 kO) (H0 := [(0, .vals 103 [.slice 1 0 3 c0, .slice 2 0 3 c1, .slice 3 0 3 c2]), (1, .ints 2 (M 0)), (2, .ints 2 (M 1)), (3, .ints 2 (M 2))]) (.inr rfl) [] 5 (.cons (.tmp rfl rfl) .nil) rfl rfl rfl (vHc rfl (vHc rfl (vHc rfl (vHc rfl vHn)))) rfl rfl ⟨kO, by rw [e], rfl⟩)
end Go.Proofs.Ytoiolpgmilobnaa
