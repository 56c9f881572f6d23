/- What the last text of PolarTriangle needs, part 9: contracts of functions and plain mathematics. No conditions beyond those each theorem states. -/
import Derived.Test.YtoiolpgmilobnaaBPolarTriangleH
namespace Go.Proofs.Ytoiolpgmilobnaa
set_option maxRecDepth 10000
set_option linter.unusedSimpArgs false
set_option linter.unusedVariables false
theorem matV_B {p : Int} (hp : primeB p = true) {c : List Int} (hc6 : c.length = 6) : ∀ j, 0 ≤ (matV p c).getD j 0 ∧ (matV p c).getD j 0 < p := by
  have hb := prime_bd hp
  have hl := matV_length (p := p) hc6
  intro j
  by_cases hj : j < 9
  · have h := (mR_B hp hc6 (j / 3) (by omega)).2 (j % 3)
    have e : (mR p c (j / 3)).getD (j % 3) 0 = (matV p c).getD j 0 := by
      unfold mR
      have : j / 3 * 3 + j % 3 = j := by omega
      have h3 : j % 3 < 3 := by omega
      simp only [List.getD, List.getElem?_take, List.getElem?_drop, h3, if_true, this]
    rw [e] at h; exact h
  · have : (matV p c).getD j 0 = 0 := by simp [List.getD, show (matV p c).length ≤ j by omega]
    rw [this]; omega
attribute [local irreducible] CW OW QW QOp Con thenP inBlockP AW QX RW AX
theorem kind_con (p : Int) (c : List Int) (hp : primeB p = true) (hc6 : c.length = 6) (h1 : sm 13 c) : ConQ Try.prog [] 42 [.arr c, .int p] [] (.int (kdV p c)) := by
  have hml := matV_length (p := p) hc6
  refine conW tab_ok [(0, .arr c), (1, .int p)] 0 [] [] Try.func42 rfl rfl rfl rfl rfl rfl rfl rfl rfl ?_
  refine cR ?_
  refine oBox rfl rfl rfl rfl rfl rfl ?_
  refine oA rfl rfl ?_
  refine oN ?_
  refine cR ?_
  refine oQ (Q_ldw rfl rfl rfl rfl hc6) rfl rfl ?_
  refine oM rfl rfl ?_
  refine oQ (Q_call0 (matrix_con p c hp hc6 h1) rfl rfl rfl) rfl rfl ?_
  refine oAlloc rfl rfl rfl rfl rfl rfl rfl ?_
  first | refine oSw rfl rfl rfl rfl ?_ | refine oSa rfl rfl rfl rfl ?_
  refine oN ?_
  iterate 2 refine CW_seq ?_
  refine CW_any (fun _ => false) 10 rfl lateOk (by decide +kernel) (fun hst => ?_)
  refine aP 0 hst rfl rfl (by decide +kernel) (PX_move rfl rfl) rfl rfl ?_
  first | refine aQ 1 hst rfl rfl (by decide +kernel) (QX_of (Q_ixa0z 3 rfl rfl rfl rfl rfl rfl (by first | omega | (dsimp only; omega) | (simp; omega) | (simp; done))) NE_ix) rfl rfl ?_ | refine aQ 1 hst rfl rfl (by decide +kernel) (QX_of (Q_ixaz 3 rfl rfl rfl rfl rfl rfl (by first | omega | (dsimp only; omega) | (simp; omega) | (simp; done))) NE_ix) rfl rfl ?_
  refine aQ 2 hst rfl rfl (by decide +kernel) (QX_of (Q_slaF rfl rfl rfl rfl) NE_slice) rfl rfl ?_
  first | refine aQ 3 hst rfl rfl (by decide +kernel) (QX_of (Q_ixa0z 3 rfl rfl rfl rfl rfl rfl (by first | omega | (dsimp only; omega) | (simp; omega) | (simp; done))) NE_ix) rfl rfl ?_ | refine aQ 3 hst rfl rfl (by decide +kernel) (QX_of (Q_ixaz 3 rfl rfl rfl rfl rfl rfl (by first | omega | (dsimp only; omega) | (simp; omega) | (simp; done))) NE_ix) rfl rfl ?_
  refine aQ 4 hst rfl rfl (by decide +kernel) (QX_of (Q_slaF rfl rfl rfl rfl) NE_slice) rfl rfl ?_
  first | refine aQ 5 hst rfl rfl (by decide +kernel) (QX_of (Q_ixa0z 3 rfl rfl rfl rfl rfl rfl (by first | omega | (dsimp only; omega) | (simp; omega) | (simp; done))) NE_ix) rfl rfl ?_ | refine aQ 5 hst rfl rfl (by decide +kernel) (QX_of (Q_ixaz 3 rfl rfl rfl rfl rfl rfl (by first | omega | (dsimp only; omega) | (simp; omega) | (simp; done))) NE_ix) rfl rfl ?_
  refine aQ 6 hst rfl rfl (by decide +kernel) (QX_of (Q_slaF rfl rfl rfl rfl) NE_slice) rfl rfl ?_
  refine AW_one (i := 7) (by decide +kernel) ?_
  refine gBslv rfl rfl rfl rfl rfl rfl rfl rfl rfl rfl rfl rfl rfl rfl rfl ?_
  refine AW_one (i := 8) (by decide +kernel) ?_
  refine gCall rfl rfl (reduced33_con p 64 (matV p c) 3 3 3 3 hml hp (matV_B hp hc6)) [(0, 2), (1, 1)] 6 rfl rfl (Fits.mk' (vHc rfl (vHc rfl vHn)) rfl rfl (by simp)) rfl rfl rfl ?_
  rintro r H1 ⟨kO, A, K, S, rfl, hA, _, rfl⟩
  refine ⟨.slice 8 0 (rkI p (mR p c) 3 3) kO, [(2, .vals 103 [.slice 1 0 3 3, .slice 1 3 3 3, .slice 1 6 3 3]), (1, .ints 64 (matV p c)), (5, .ints 2 (A 0 ++ S 0)), (6, .ints 2 (A 1 ++ S 1)), (7, .ints 2 (A 2 ++ S 2)), (8, .vals 103 ([.slice 5 0 3 (K 0), .slice 6 0 3 (K 1), .slice 7 0 3 (K 2)] ++ List.replicate (kO - 3) .bot))], (by simp only [scM, List.all_cons, List.all_nil, ids_bots]; rfl), keep_pre _ _, rfl, (by simp only [List.map_cons, List.map_nil, ren_bots]; rfl), ?_⟩
  first | refine aQ 9 hst rfl rfl (by decide +kernel) (QX_of (Q_len rfl rfl rfl rfl) NE_len) rfl rfl ?_ | refine aQ 9 hst rfl rfl (by decide +kernel) (QX_of (Q_len0 rfl rfl rfl rfl) NE_len) rfl rfl ?_
  refine AW_done (by decide +kernel) ?_
  all_goals with_reducible refine tN ?_
  all_goals (
   refine CW_block ?_
   refine cR ?_
   refine oQ (Q_bin rfl rfl rfl) rfl rfl ?_
   refine oA rfl rfl ?_
   refine oN ?_
   first | refine cT rfl ?_ | refine cF rfl ?_ | refine CW_cond rfl (fun hc => ?_) (fun hc => ?_)
   all_goals try simp only [s1, s2, s3, s4, s5, s6, s7, s8, s9, s10, s11, s12] at hc
   all_goals first
     | (
      refine cR ?_
      refine oA rfl rfl ?_
      refine oN ?_
      refine CW_ret ?_)
     | (
      refine cR ?_
      refine oQ (Q_bin rfl rfl rfl) rfl rfl ?_
      refine oA rfl rfl ?_
      refine oN ?_
      first | refine cT rfl ?_ | refine cF rfl ?_ | refine CW_cond rfl (fun hc => ?_) (fun hc => ?_)
      all_goals try simp only [s1, s2, s3, s4, s5, s6, s7, s8, s9, s10, s11, s12] at hc
      all_goals first
        | (
         refine CW_skip ?_)
        | (
         refine CW_seq ?_
         refine cR ?_
         refine oQ (Q_ldw rfl rfl rfl rfl hc6) rfl rfl ?_
         refine oM rfl rfl ?_
         refine oCall (cpoints_con c p hp hc6 h1) [] 1 rfl rfl (Fits.mk' vHn rfl rfl (by first | (simp; done) | exact glOk rfl rfl rfl)) rfl rfl ?_
         rintro r H1 ⟨k, sp, hk, hsp, rfl, rfl⟩
         refine ⟨.slice 9 0 (ptsQ p c).length k, [(9, .ints 32 ((ptsQ p c).flatten ++ sp))], rfl, rfl, rfl, ?_⟩
         first | refine oQ (Q_len rfl rfl rfl rfl) rfl rfl ?_ | refine oQ (Q_len0 rfl rfl rfl rfl) rfl rfl ?_
         refine oQ (Q_bin rfl rfl rfl) rfl rfl ?_
         refine oN ?_
         first | refine cT rfl ?_ | refine cF rfl ?_ | refine CW_cond rfl (fun hc => ?_) (fun hc => ?_)
         all_goals try simp only [s1, s2, s3, s4, s5, s6, s7, s8, s9, s10, s11, s12] at hc
         all_goals first
           | (
            refine CW_skip ?_)
           | (
            refine cR ?_
            refine oA rfl rfl ?_
            refine oN ?_
            refine CW_ret ?_)
         all_goals first
           | with_reducible refine tR ?_
           | with_reducible refine tE ?_
           | (
            with_reducible refine tN ?_
            refine cR ?_
            refine oA rfl rfl ?_
            refine oN ?_
            refine CW_ret ?_)))
   all_goals first | with_reducible refine bN ?_ | with_reducible refine bE ?_ | with_reducible refine bR ?_ | refine bX rfl ?_)
  all_goals first
    | with_reducible refine tR ?_
    | with_reducible refine tE ?_
    | (
     with_reducible refine tN ?_
     refine cR ?_
     refine oA rfl rfl ?_
     refine oN ?_
     refine CW_ret ?_)
  all_goals (
   refine exitQ (.inr rfl) 0 (.cons (.tmp rfl rfl) .nil) ?_ rfl vHn rfl rfl
   refine congrArg V.int ?_
   unfold kdV
   first
     | (rw [if_pos (by omega)]; done)
     | (rw [if_neg (by omega), if_pos (by omega), if_pos (by omega)]; done)
     | (rw [if_neg (by omega), if_pos (by omega), if_neg (by omega)]; done)
     | (rw [if_neg (by omega), if_neg (by omega)]; done))
theorem l03Kind_con (p : Int) (c : List Int) (hp : primeB p = true) (hc6 : c.length = 6) (hpt : pointB p c = true) : ConQ Try.prog [] 40 [.int p, .arr c] [] (.int (kdV p c)) := by
  have h1 := pointB_mod hpt
  have hec := echelon33_con p (mR p c) 3 3 3 3 hp (mR_B hp hc6)
  rw [kd_ref hp hc6 hpt]
  refine conW tab_ok [(0, .int p), (1, .arr c)] 0 [] [] Try.func40 rfl rfl rfl rfl rfl rfl rfl rfl rfl ?_
  refine cR ?_
  refine oBox rfl rfl rfl rfl rfl rfl ?_
  refine oA rfl rfl ?_
  refine oN ?_
  refine CW_seq ?_
  refine cR ?_
  iterate 2 refine oM rfl rfl ?_
  refine oQ (Q_ldw rfl rfl rfl rfl hc6) rfl rfl ?_
  refine oCall (l03Rows_con p c hp hc6 h1) [] 4 rfl rfl (Fits.mk' vHn rfl rfl (by simp)) rfl rfl ?_
  rintro r H1 ⟨rfl, rfl⟩
  refine ⟨.slice 4 0 3 3, [(1, .ints 2 (mR p c 0)), (2, .ints 2 (mR p c 1)), (3, .ints 2 (mR p c 2)), (4, .vals 103 [.slice 1 0 3 3, .slice 2 0 3 3, .slice 3 0 3 3])], rfl, rfl, rfl, ?_⟩
  refine oCall hec [(0, 4), (1, 1), (2, 2), (3, 3)] 5 rfl rfl (Fits.mk' (vHc rfl (vHc rfl (vHc rfl (vHc rfl vHn)))) rfl rfl (by simp)) rfl rfl ?_
  rintro r H1 ⟨kO, rfl, rfl⟩
  refine ⟨.slice 9 0 (rkI p (mR p c) 3 3) kO, [(4, .vals 103 [.slice 1 0 3 3, .slice 2 0 3 3, .slice 3 0 3 3]), (1, .ints 2 (mR p c 0)), (2, .ints 2 (mR p c 1)), (3, .ints 2 (mR p c 2))], rfl, rfl, rfl, ?_⟩
  first | refine oQ (Q_len rfl rfl rfl rfl) rfl rfl ?_ | refine oQ (Q_len0 rfl rfl rfl rfl) rfl rfl ?_
  refine oA rfl rfl ?_
  refine oN ?_
  refine CW_block ?_
  refine cR ?_
  refine oM rfl rfl ?_
  refine oQ (Q_bin rfl rfl rfl) rfl rfl ?_
  refine oA rfl rfl ?_
  refine oN ?_
  first | refine cT rfl ?_ | refine cF rfl ?_ | refine CW_cond rfl (fun hc => ?_) (fun hc => ?_)
  all_goals try simp only [s1, s2, s3, s4, s5, s6, s7, s8, s9, s10, s11, s12] at hc
  all_goals first
    | (
     refine cR ?_
     refine oA rfl rfl ?_
     refine oN ?_
     refine CW_ret ?_)
    | (
     refine cR ?_
     refine oM rfl rfl ?_
     refine oQ (Q_bin rfl rfl rfl) rfl rfl ?_
     refine oA rfl rfl ?_
     refine oN ?_
     first | refine cT rfl ?_ | refine cF rfl ?_ | refine CW_cond rfl (fun hc => ?_) (fun hc => ?_)
     all_goals try simp only [s1, s2, s3, s4, s5, s6, s7, s8, s9, s10, s11, s12] at hc
     all_goals first
       | (
        refine cR ?_
        refine oA rfl rfl ?_
        refine oN ?_
        refine CW_ret ?_)
       | (
        refine cR ?_
        refine oM rfl rfl ?_
        refine oQ (Q_ldw rfl rfl rfl rfl hc6) rfl rfl ?_
        refine oCall (l03Points_con p c hp hc6 h1) [] 1 rfl rfl (Fits.mk' vHn rfl rfl (by first | (simp; done) | exact glOk rfl rfl rfl)) rfl rfl ?_
        rintro r H1 ⟨k, sp, hk, hsp, rfl, rfl⟩
        refine ⟨.slice 10 0 (ptsQ p c).length k, [(10, .ints 32 ((ptsQ p c).flatten ++ sp))], rfl, rfl, rfl, ?_⟩
        first | refine oQ (Q_len rfl rfl rfl rfl) rfl rfl ?_ | refine oQ (Q_len0 rfl rfl rfl rfl) rfl rfl ?_
        refine oQ (Q_bin rfl rfl rfl) rfl rfl ?_
        refine oA rfl rfl ?_
        refine oN ?_
        first | refine cT rfl ?_ | refine cF rfl ?_ | refine CW_cond rfl (fun hc => ?_) (fun hc => ?_)
        all_goals try simp only [s1, s2, s3, s4, s5, s6, s7, s8, s9, s10, s11, s12] at hc
        all_goals first
          | (
           refine CW_skip ?_)
          | (
           refine cR ?_
           refine oA rfl rfl ?_
           refine oN ?_
           refine CW_ret ?_)))
  all_goals first | with_reducible refine bN ?_ | with_reducible refine bE ?_ | with_reducible refine bR ?_ | refine bX rfl ?_
  all_goals first
    | with_reducible refine tR ?_
    | with_reducible refine tE ?_
    | (
     with_reducible refine tN ?_
     refine cR ?_
     refine oA rfl rfl ?_
     refine oN ?_
     refine CW_ret ?_)
  all_goals (
   refine exitQ (.inr rfl) 0 (.cons (.tmp rfl rfl) .nil) ?_ rfl vHn rfl rfl
   refine congrArg V.int ?_
   first
     | (rw [if_pos (by omega)]; done)
     | (rw [if_neg (by omega), if_pos (by omega)]; done)
     | (rw [if_neg (by omega), if_neg (by omega), if_pos (by omega)]; done)
     | (rw [if_neg (by omega), if_neg (by omega), if_neg (by omega)]; done))
end Go.Proofs.Ytoiolpgmilobnaa
namespace Go.Proofs.Ytoiolpgmilobnaa
set_option maxRecDepth 10000
set_option linter.unusedSimpArgs false
set_option linter.unusedVariables false
noncomputable def gdV (p : Int) (c : List Int) (b : Bool) : Int := if codeB p (b && pointB p c) = 0 then (if kdV p c = 0 then 0 else 5) else codeB p (b && pointB p c)
theorem gdV_code {p : Int} {c : List Int} {b : Bool} (h : ¬ codeB p (b && pointB p c) = 0) : gdV p c b = codeB p (b && pointB p c) := by unfold gdV; rw [if_neg h]
theorem gdV_five {p : Int} {c : List Int} {b : Bool} (h : codeB p (b && pointB p c) = 0) (hk : ¬ kdV p c = 0) : gdV p c b = 5 := by unfold gdV; rw [if_pos h, if_neg hk]
theorem gdV_zero {p : Int} {c : List Int} {b : Bool} (h : codeB p (b && pointB p c) = 0) (hk : kdV p c = 0) : gdV p c b = 0 := by unfold gdV; rw [if_pos h, if_pos hk]
theorem gdV_ok {p : Int} {c : List Int} {b : Bool} (h : gdV p c b = 0) : codeB p (b && pointB p c) = 0 ∧ kdV p c = 0 := by
  by_cases h0 : codeB p (b && pointB p c) = 0
  · by_cases h1 : kdV p c = 0
    · exact ⟨h0, h1⟩
    · rw [gdV_five h0 h1] at h; exact absurd h (by decide)
  · rw [gdV_code h0] at h; exact absurd h h0
theorem matV_12 {p : Int} (hp : primeB p = true) {c : List Int} (hc6 : c.length = 6) : ∀ x ∈ matV p c, 0 ≤ x ∧ x ≤ 12 := fun x hx => by
  obtain ⟨j, hj, e⟩ := List.mem_iff_getElem.1 hx
  have := matV_B hp hc6 j
  have hb := prime_bd hp
  simp only [List.getD, List.getElem?_eq_getElem hj, Option.getD_some, e] at this
  omega
theorem adjV_12 {p : Int} (hp : primeB p = true) {M : List Int} (hM : M.length = 9) : ∀ x ∈ adjV p M, 0 ≤ x ∧ x ≤ 12 := by
  match M, hM with
  | [a0, a1, a2, a3, a4, a5, a6, a7, a8], _ =>
    have hb := prime_bd hp
    have h : ∀ y : Int, 0 ≤ y % p ∧ y % p ≤ 12 := fun y => by
      have h1 := Int.emod_nonneg y (show p ≠ 0 by omega)
      have h2 := Int.emod_lt_of_pos y (show 0 < p by omega)
      omega
    intro x hx
    simp only [adjV, List.mem_cons, List.not_mem_nil, or_false] at hx
    rcases hx with rfl | rfl | rfl | rfl | rfl | rfl | rfl | rfl | rfl <;> exact h _
attribute [local simp] minT_len
attribute [local irreducible] CW OW QW QOp Con thenP inBlockP AW QX RW AX
end Go.Proofs.Ytoiolpgmilobnaa
namespace Go.Proofs.Ytoiolpgmilobnaa
set_option maxRecDepth 10000
set_option linter.unusedSimpArgs false
set_option linter.unusedVariables false
theorem sm_12 {l : List Int} (h : ∀ x ∈ l, 0 ≤ x ∧ x ≤ 12) : sm 13 l := fun x hx => by have := h x hx; omega
theorem poleX3 (p : Int) (c l : List Int) : (poleX p c l).length = 3 := by unfold poleX; rw [normL_length]; rfl
theorem point_pts {p : Int} {l : List Int} (h3 : l.length = 3) (h : pointB p l = true) : l ∈ allPts p := point_mem h3 h
attribute [local simp] normL_length poleX3
attribute [local irreducible] CW OW QW QOp Con thenP inBlockP AW QX RW AX
theorem image_con (p : Int) (M a : List Int) (hp : primeB p = true) (hM : M.length = 9) (ha3 : a.length = 3) (hms : sm 13 M) (h2 : sm 13 a) : ConQ Try.prog [] 93 [.int p, .arr M, .arr a] [] (.arr (normL p [dotV (M.take 3) a % p, dotV ((M.drop 3).take 3) a % p, dotV ((M.drop 6).take 3) a % p])) := by
  refine conW tab_ok [(0, .int p), (1, .arr M), (2, .arr a)] 0 [] [] Try.func93 rfl rfl rfl rfl rfl rfl rfl rfl rfl ?_
  refine cR ?_
  iterate 2 refine oBox rfl rfl rfl rfl rfl rfl ?_
  refine oAlloc rfl rfl rfl rfl rfl rfl rfl ?_
  refine oN ?_
  refine CW_seq ?_
  refine CW_any (fun i => List.elem i [17]) 18 rfl lateOk (by decide +kernel) (fun hst => ?_)
  refine aP 0 hst rfl rfl (by decide +kernel) (PX_move rfl rfl) rfl rfl ?_
  refine aP 1 hst rfl rfl (by decide +kernel) (PX_move rfl rfl) rfl rfl ?_
  first | refine aQ 2 hst rfl rfl (by decide +kernel) (QX_of (Q_ixa0z 3 rfl rfl rfl rfl rfl rfl (by first | omega | (dsimp only; omega) | (simp; omega) | (simp; done))) NE_ix) rfl rfl ?_ | refine aQ 2 hst rfl rfl (by decide +kernel) (QX_of (Q_ixaz 3 rfl rfl rfl rfl rfl rfl (by first | omega | (dsimp only; omega) | (simp; omega) | (simp; done))) NE_ix) rfl rfl ?_
  refine aQ 3 hst rfl rfl (by decide +kernel) (QX_of (Q_lda (n := 3) rfl rfl rfl rfl rfl (by first | omega | (dsimp only; omega) | (simp; omega) | (simp; done))) NE_load) rfl rfl ?_
  refine aQ 4 hst rfl rfl (by decide +kernel) (QX_of (Q_ldw rfl rfl rfl rfl ha3) NE_load) rfl rfl ?_
  refine aQ 5 hst rfl rfl (by decide +kernel) (QX_call0 (dot_con p (M.take 3) a hp (by rw [List.length_take]; omega) ha3 (sm_take hms 3) h2) rfl rfl rfl) rfl rfl ?_
  refine aP 6 hst rfl rfl (by decide +kernel) (PX_move rfl rfl) rfl rfl ?_
  first | refine aQ 7 hst rfl rfl (by decide +kernel) (QX_of (Q_ixa0z 3 rfl rfl rfl rfl rfl rfl (by first | omega | (dsimp only; omega) | (simp; omega) | (simp; done))) NE_ix) rfl rfl ?_ | refine aQ 7 hst rfl rfl (by decide +kernel) (QX_of (Q_ixaz 3 rfl rfl rfl rfl rfl rfl (by first | omega | (dsimp only; omega) | (simp; omega) | (simp; done))) NE_ix) rfl rfl ?_
  refine aQ 8 hst rfl rfl (by decide +kernel) (QX_of (Q_lda (n := 3) rfl rfl rfl rfl rfl (by first | omega | (dsimp only; omega) | (simp; omega) | (simp; done))) NE_load) rfl rfl ?_
  refine aQ 9 hst rfl rfl (by decide +kernel) (QX_of (Q_ldw rfl rfl rfl rfl ha3) NE_load) rfl rfl ?_
  refine aQ 10 hst rfl rfl (by decide +kernel) (QX_call0 (dot_con p ((M.drop 3).take 3) a hp (by rw [List.length_take, List.length_drop]; omega) ha3 (sm_take (sm_drop hms 3) 3) h2) rfl rfl rfl) rfl rfl ?_
  refine aP 11 hst rfl rfl (by decide +kernel) (PX_move rfl rfl) rfl rfl ?_
  first | refine aQ 12 hst rfl rfl (by decide +kernel) (QX_of (Q_ixa0z 3 rfl rfl rfl rfl rfl rfl (by first | omega | (dsimp only; omega) | (simp; omega) | (simp; done))) NE_ix) rfl rfl ?_ | refine aQ 12 hst rfl rfl (by decide +kernel) (QX_of (Q_ixaz 3 rfl rfl rfl rfl rfl rfl (by first | omega | (dsimp only; omega) | (simp; omega) | (simp; done))) NE_ix) rfl rfl ?_
  refine aQ 13 hst rfl rfl (by decide +kernel) (QX_of (Q_lda (n := 3) rfl rfl rfl rfl rfl (by first | omega | (dsimp only; omega) | (simp; omega) | (simp; done))) NE_load) rfl rfl ?_
  refine aQ 14 hst rfl rfl (by decide +kernel) (QX_of (Q_ldw rfl rfl rfl rfl ha3) NE_load) rfl rfl ?_
  refine aQ 15 hst rfl rfl (by decide +kernel) (QX_call0 (dot_con p ((M.drop 6).take 3) a hp (by rw [List.length_take, List.length_drop]; omega) ha3 (sm_take (sm_drop hms 6) 3) h2) rfl rfl rfl) rfl rfl ?_
  refine aQ 16 hst rfl rfl (by decide +kernel) (QX_call0 (pointOf_con p _ _ _ hp) rfl rfl rfl) rfl rfl ?_
  refine AW_last [17] rfl (by decide +kernel) rfl ?_
  first | refine oSw rfl rfl rfl rfl ?_ | refine oSa rfl rfl rfl rfl ?_
  refine OW_nil (npN ?_)
  all_goals with_reducible refine tN ?_
  all_goals (
   refine CW_ret ?_)
  all_goals (
   ((refine exitQ (.inr rfl) 0 (.cons (.arr rfl rfl rfl rfl (by first | omega | (dsimp only; omega) | (simp; omega) | (simp; done))) .nil) ?_ rfl vHn rfl rfl); rfl))
theorem pole_con (p : Int) (c l : List Int) (hp : primeB p = true) (hc6 : c.length = 6) (hl3 : l.length = 3) (h1 : sm 13 c) (h2 : sm 13 l) : ConQ Try.prog [] 50 [.arr c, .int p, .arr l] [] (.arr (poleX p c l)) := by
  have hml := matV_length (p := p) hc6
  refine conW tab_ok [(0, .arr c), (1, .int p), (2, .arr l)] 0 [] [] Try.func50 rfl rfl rfl rfl rfl rfl rfl rfl rfl ?_
  refine cR ?_
  iterate 2 refine oBox rfl rfl rfl rfl rfl rfl ?_
  refine oAlloc rfl rfl rfl rfl rfl rfl rfl ?_
  refine oN ?_
  refine CW_seq ?_
  refine CW_any (fun i => List.elem i [8]) 9 rfl lateOk (by decide +kernel) (fun hst => ?_)
  refine aP 0 hst rfl rfl (by decide +kernel) (PX_move rfl rfl) rfl rfl ?_
  refine aQ 1 hst rfl rfl (by decide +kernel) (QX_of (Q_ldw rfl rfl rfl rfl hc6) NE_load) rfl rfl ?_
  refine aP 2 hst rfl rfl (by decide +kernel) (PX_move rfl rfl) rfl rfl ?_
  refine aQ 3 hst rfl rfl (by decide +kernel) (QX_call0 (matrix_con p c hp hc6 h1) rfl rfl rfl) rfl rfl ?_
  refine aP 4 hst rfl rfl (by decide +kernel) (PX_move rfl rfl) rfl rfl ?_
  refine aQ 5 hst rfl rfl (by decide +kernel) (QX_call0 (adjoint_con p (matV p c) hp hml (matV_12 hp hc6)) rfl rfl rfl) rfl rfl ?_
  refine aQ 6 hst rfl rfl (by decide +kernel) (QX_of (Q_ldw rfl rfl rfl rfl hl3) NE_load) rfl rfl ?_
  refine aQ 7 hst rfl rfl (by decide +kernel) (QX_call0 (image_con p (adjV p (matV p c)) l hp (adjV_len p hml) hl3 (sm_12 (adjV_12 hp hml)) h2) rfl rfl rfl) rfl rfl ?_
  refine AW_last [8] rfl (by decide +kernel) rfl ?_
  first | refine oSw rfl rfl rfl rfl ?_ | refine oSa rfl rfl rfl rfl ?_
  refine OW_nil (npN ?_)
  all_goals with_reducible refine tN ?_
  all_goals (
   refine CW_ret ?_)
  all_goals (
   ((refine exitQ (.inr rfl) 0 (.cons (.arr rfl rfl rfl rfl (by first | omega | (dsimp only; omega) | (simp; omega) | (simp; done))) .nil) ?_ rfl vHn rfl rfl); rfl))
theorem good_one (p : Int) (c l : List Int) (hc6 : c.length = 6) (hl3 : l.length = 3) : ConQ Try.prog [] 43 [.int p, .arr c, .slice 0 0 1 1] [(0, .ints 32 l)] (.int (gdV p c (pointB p l))) := by
  refine conW tab_ok [(0, .int p), (1, .arr c), (2, .slice 0 0 1 1)] 1 [0] [0] Try.func43 rfl rfl rfl rfl rfl rfl rfl rfl rfl ?_
  refine cR ?_
  refine oBox rfl rfl rfl rfl rfl rfl ?_
  refine oA rfl rfl ?_
  refine oN ?_
  refine cR ?_
  refine oM rfl rfl ?_
  refine oQ (Q_ldw rfl rfl rfl rfl hc6) rfl rfl ?_
  refine oM rfl rfl ?_
  refine oQ (Q_call (l03Code_one p c l hc6 hl3) [] rfl rfl (Fits.mk' (vHc rfl vHn) rfl rfl (by first | (simp; done) | exact glOk rfl rfl rfl)) rfl rfl) rfl rfl ?_
  refine oA rfl rfl ?_
  refine oN ?_
  refine CW_seq ?_
  refine cR ?_
  refine oM rfl rfl ?_
  refine oQ (Q_bin rfl rfl rfl) rfl rfl ?_
  refine oM rfl rfl ?_
  all_goals first | refine oT rfl rfl ?_ | refine o1 rfl rfl rfl ?_ | refine o0 rfl rfl rfl ?_ | refine ogP1 rfl rfl rfl (fun hg => ?_) (fun hg => ?_) | refine ogP0 rfl rfl rfl (fun hg => ?_) (fun hg => ?_)
  all_goals try simp only [s1, s2, s3, s4, s5, s6, s7, s8, s9, s10, s11, s12] at hg
  all_goals first | (refine oM rfl rfl ?_) | skip
  all_goals first | refine oT rfl rfl ?_ | refine o1 rfl rfl rfl ?_ | refine o0 rfl rfl rfl ?_ | refine ogP1 rfl rfl rfl (fun hg => ?_) (fun hg => ?_) | refine ogP0 rfl rfl rfl (fun hg => ?_) (fun hg => ?_)
  all_goals try simp only [s1, s2, s3, s4, s5, s6, s7, s8, s9, s10, s11, s12] at hg
  all_goals first | (refine oQ (Q_ldw rfl rfl rfl rfl hc6) rfl rfl ?_) | skip
  all_goals first | refine oT rfl rfl ?_ | refine o1 rfl rfl rfl ?_ | refine o0 rfl rfl rfl ?_ | refine ogP1 rfl rfl rfl (fun hg => ?_) (fun hg => ?_) | refine ogP0 rfl rfl rfl (fun hg => ?_) (fun hg => ?_)
  all_goals try simp only [s1, s2, s3, s4, s5, s6, s7, s8, s9, s10, s11, s12] at hg
  all_goals first | ((have hc0 : codeB p (pointB p l && pointB p c) = 0 := hg); (have hcc := codeB_zero.1 hc0); (have hcb := Bool.and_eq_true_iff.1 hcc.2); refine oQ (Q_call0 (l03Kind_con p c hcc.1 hc6 hcb.2) rfl rfl rfl) rfl rfl ?_) | skip
  all_goals first | refine oT rfl rfl ?_ | refine o1 rfl rfl rfl ?_ | refine o0 rfl rfl rfl ?_ | refine ogP1 rfl rfl rfl (fun hg => ?_) (fun hg => ?_) | refine ogP0 rfl rfl rfl (fun hg => ?_) (fun hg => ?_)
  all_goals try simp only [s1, s2, s3, s4, s5, s6, s7, s8, s9, s10, s11, s12] at hg
  all_goals first | (refine oQ (Q_bin rfl rfl rfl) rfl rfl ?_) | skip
  all_goals first | refine oQ (Q_pick_t rfl (by with_reducible rfl) rfl rfl) rfl rfl ?_ | refine oQ (Q_pick_f rfl (by with_reducible rfl) rfl rfl) rfl rfl ?_
  all_goals refine oN ?_
  all_goals (
   first | refine cT rfl ?_ | refine cF rfl ?_ | refine CW_cond rfl (fun hc => ?_) (fun hc => ?_)
   all_goals try simp only [s1, s2, s3, s4, s5, s6, s7, s8, s9, s10, s11, s12] at hc
   all_goals first
     | (
      refine CW_skip ?_)
     | (
      refine CW_region ?_
      refine oA rfl rfl ?_
      refine OW_nil ?_))
  all_goals with_reducible refine tN ?_
  all_goals (
   refine cR ?_
   refine oM rfl rfl ?_
   refine oA rfl rfl ?_
   refine oN ?_
   refine CW_ret ?_)
  all_goals (
   refine exitQ (.inr rfl) 1 (.cons (.tmp rfl rfl) .nil) ?_ rfl (vHc rfl vHn) rfl rfl
   refine congrArg V.int ?_
   first
     | exact hc0.trans (gdV_zero hc0 (by assumption)).symm
     | exact (gdV_zero (by assumption) (by assumption)).symm
     | exact (gdV_five (by assumption) (by assumption)).symm
     | exact (gdV_code (by assumption)).symm)
theorem l03Pole_con (p : Int) (c l : List Int) (hp : primeB p = true) (hc6 : c.length = 6) (hl3 : l.length = 3) (hcp : pointB p c = true) (hlp : l ∈ allPts p) (hk : kdV p c = 0) : ConQ Try.prog [] 48 [.int p, .arr c, .arr l] [] (.arr (poleX p c l)) := by
  have hal := allPts_len hp
  have h3 : ∀ x ∈ (allPts p), x.length = 3 := fun x hx => allPts_three hx
  have hf3 := flat3 h3
  have hpn : ∀ x, (normL p (polX p c x)).length = 3 := fun x => by rw [normL_length]; rfl
  refine conW tab_ok [(0, .int p), (1, .arr c), (2, .arr l)] 0 [] [] Try.func48 rfl rfl rfl rfl rfl rfl rfl rfl rfl ?_
  refine cR ?_
  iterate 2 refine oBox rfl rfl rfl rfl rfl rfl ?_
  refine oAlloc rfl rfl rfl rfl rfl rfl rfl ?_
  refine oN ?_
  refine cR ?_
  refine oM rfl rfl ?_
  refine oCall (l01Points_con p hp) [] 1 rfl rfl (Fits.mk' vHn rfl rfl (by first | (simp; done) | exact glOk rfl rfl rfl)) rfl rfl ?_
  rintro r H1 ⟨k0, sp0, hk0, hsp0, rfl, rfl⟩
  refine ⟨.slice 3 0 (allPts p).length k0, [(3, .ints 32 ((allPts p).flatten ++ sp0))], rfl, rfl, rfl, ?_⟩
  refine oA rfl rfl ?_
  refine oN ?_
  refine CW_seq ?_
  refine cR ?_
  refine oA rfl rfl ?_
  refine oN ?_
  refine CW_block ?_
  refine CW_loop (ι := Nat) (fun i => i ≤ (allPts p).length ∧ ∀ j, j < i → ¬ (facP p (polX p c ((allPts p).getD j [])) ≠ 0 ∧ normL p (polX p c ((allPts p).getD j [])) = l)) (fun i => ⟨[(0, .int p), (4, .ptr 0 0), (5, .ptr 1 0), (6, .ptr 2 0), (7, .slice 3 0 (allPts p).length k0), (8, .int i)], [(0, .ints 25 c), (1, .ints 35 l), (2, .ints 32 [0, 0, 0]), (3, .ints 32 ((allPts p).flatten ++ sp0))], 4⟩) (fun i => (allPts p).length - i) 0 ?_ ?_ ?_
  · exact ⟨Nat.zero_le _, fun j h => absurd h (Nat.not_lt_zero _)⟩
  · refine View.mk' [] rfl rfl rfl ?_ ?_
    repeat' first | exact vFn | refine vFc rfl ?_ | exact vHn | refine vHc rfl ?_ | refine vFc (congrArg (fun z => some (V.int z)) ?_) ?_ | refine vHc (congrArg (fun z => some (Blk.ints _ z)) ?_) ?_ | refine vFc (congrArg (fun z => some (V.bool z)) ?_) ?_ | refine vFs rfl rfl ?_ ?_
  rintro i ⟨hi, hi2⟩
  have hmem := fun h : i < (allPts p).length => getD_mem h
  have h3i := fun h : i < (allPts p).length => h3 _ (getD_mem h)
  have hpi := hpn ((allPts p).getD i [])
  refine CW_seq ?_
  refine cR ?_
  iterate 2 refine oM rfl rfl ?_
  first | refine oQ (Q_len rfl rfl rfl rfl) rfl rfl ?_ | refine oQ (Q_len0 rfl rfl rfl rfl) rfl rfl ?_
  refine oQ (Q_bin rfl rfl rfl) rfl rfl ?_
  refine oN ?_
  first | refine cT rfl ?_ | refine cF rfl ?_ | refine CW_cond rfl (fun hc => ?_) (fun hc => ?_)
  all_goals try simp only [s1, s2, s3, s4, s5, s6, s7, s8, s9, s10, s11, s12] at hc
  all_goals try (exfalso; first | omega | (simp at hc; done); done)
  all_goals first
    | (
     refine CW_skip ?_)
    | (
     refine CW_exit ?_)
  all_goals first
    | with_reducible refine tR ?_
    | with_reducible refine tE ?_
    | (
     with_reducible refine tN ?_
     refine CW_seq ?_
     refine CW_block ?_
     refine CW_seq ?_
     refine CW_any (fun i => List.elem i [11, 12]) 13 rfl lateOk (by decide +kernel) (fun hst => ?_)
     refine aP 0 hst rfl rfl (by decide +kernel) (PX_move rfl rfl) rfl rfl ?_
     refine aQ 1 hst rfl rfl (by decide +kernel) (QX_of (Q_ldw rfl rfl rfl rfl hc6) NE_load) rfl rfl ?_
     refine aP 2 hst rfl rfl (by decide +kernel) (PX_move rfl rfl) rfl rfl ?_
     refine aP 3 hst rfl rfl (by decide +kernel) (PX_move rfl rfl) rfl rfl ?_
     (have h3i := h3i (by omega)); (have hmem := hmem (by omega)); refine aQ 4 hst rfl rfl (by decide +kernel) (QX_of (Q_ixs0z 3 rfl rfl rfl rfl rfl rfl (by omega)) NE_ix) rfl rfl ?_
     refine aQ 5 hst rfl rfl (by decide +kernel) (QX_of (Q_lda (n := 3) rfl rfl rfl rfl rfl (by rw [List.length_append, hf3]; omega)) NE_load) rfl rfl ?_; rw [flat_get h3 (show i < (allPts p).length by omega)]
     refine aQ 6 hst rfl rfl (by decide +kernel) (QX_call0 (l03Polar_con p c ((allPts p).getD i []) hp hc6 h3i (pointB_mod hcp) (allPts_sm hp hmem)) rfl rfl rfl) rfl rfl ?_
     refine aP 7 hst rfl rfl (by decide +kernel) (PX_move rfl rfl) rfl rfl ?_
     refine aExt 8 hst rfl rfl (by decide +kernel) rfl rfl rfl rfl ?_
     refine aExt 9 hst rfl rfl (by decide +kernel) rfl rfl rfl rfl ?_
     refine AW_one (i := 10) (by decide +kernel) ?_
     refine gAlloc rfl rfl rfl rfl rfl rfl rfl rfl rfl ?_
     refine AW_last [11, 12] rfl (by decide +kernel) rfl ?_
     first | refine oSw rfl rfl rfl rfl ?_ | refine oSa rfl rfl rfl rfl ?_
     refine oA rfl rfl ?_
     refine OW_nil (npN ?_)
     all_goals with_reducible refine tN ?_
     all_goals (
      refine cR ?_
      iterate 2 refine oM rfl rfl ?_
      all_goals first | refine oT rfl rfl ?_ | refine o1 rfl rfl rfl ?_ | refine o0 rfl rfl rfl ?_ | refine ogP1 rfl rfl rfl (fun hg => ?_) (fun hg => ?_) | refine ogP0 rfl rfl rfl (fun hg => ?_) (fun hg => ?_)
      all_goals try simp only [s1, s2, s3, s4, s5, s6, s7, s8, s9, s10, s11, s12] at hg
      all_goals first | (refine oQ (Q_ldw rfl rfl rfl rfl hpi) rfl rfl ?_) | skip
      all_goals first | refine oT rfl rfl ?_ | refine o1 rfl rfl rfl ?_ | refine o0 rfl rfl rfl ?_ | refine ogP1 rfl rfl rfl (fun hg => ?_) (fun hg => ?_) | refine ogP0 rfl rfl rfl (fun hg => ?_) (fun hg => ?_)
      all_goals try simp only [s1, s2, s3, s4, s5, s6, s7, s8, s9, s10, s11, s12] at hg
      all_goals first | (refine oQ (Q_ldw rfl rfl rfl rfl hl3) rfl rfl ?_) | skip
      all_goals first | refine oT rfl rfl ?_ | refine o1 rfl rfl rfl ?_ | refine o0 rfl rfl rfl ?_ | refine ogP1 rfl rfl rfl (fun hg => ?_) (fun hg => ?_) | refine ogP0 rfl rfl rfl (fun hg => ?_) (fun hg => ?_)
      all_goals try simp only [s1, s2, s3, s4, s5, s6, s7, s8, s9, s10, s11, s12] at hg
      all_goals first | (refine oQ (Q_arrb rfl rfl rfl rfl rfl rfl rfl rfl rfl hpi hl3) rfl rfl ?_) | skip
      all_goals first | refine oQ (Q_pick_t rfl (by with_reducible rfl) rfl rfl) rfl rfl ?_ | refine oQ (Q_pick_f rfl (by with_reducible rfl) rfl rfl) rfl rfl ?_
      all_goals refine oN ?_
      all_goals (
       first | refine cT rfl ?_ | refine cF rfl ?_ | refine CW_cond rfl (fun hc => ?_) (fun hc => ?_)
       all_goals try simp only [s1, s2, s3, s4, s5, s6, s7, s8, s9, s10, s11, s12] at hc
       all_goals try (exfalso; first | omega | (simp at hc; done); done)
       all_goals first
         | (
          refine CW_skip ?_)
         | (
          refine cR ?_
          iterate 2 refine oM rfl rfl ?_
          refine oQ (Q_ixs0z 3 rfl rfl rfl rfl rfl rfl (by omega)) rfl rfl ?_
          refine oQ (Q_lda (n := 3) rfl rfl rfl rfl rfl (by rw [List.length_append, hf3]; omega)) rfl rfl ?_; rw [flat_get h3 (show i < (allPts p).length by omega)]
          first | refine oSw rfl rfl rfl rfl ?_ | refine oSa rfl rfl rfl rfl ?_
          refine oN ?_
          refine CW_ret ?_)))
     all_goals first | with_reducible refine bN ?_ | with_reducible refine bE ?_ | with_reducible refine bR ?_ | refine bX rfl ?_
     all_goals first
       | with_reducible refine tR ?_
       | with_reducible refine tE ?_
       | (
        with_reducible refine tN ?_
        refine CW_region ?_
        refine oM rfl rfl ?_
        first | refine oQ (Q_binu rfl rfl rfl (by omega)) rfl rfl ?_ | refine oQ (Q_bin rfl rfl rfl) rfl rfl ?_
        refine oA rfl rfl ?_
        refine OW_nil ?_))
  all_goals first
    | with_reducible refine tR ?_
    | with_reducible refine tE ?_
    | (
     with_reducible refine tN ?_
     refine ⟨i + 1, ?_, ?_, View.mk' [] rfl rfl rfl ?_ ?_⟩
     · refine ⟨by omega, fun j hj => ?_⟩
       by_cases e : j = i
       · subst e
         rintro ⟨e1, e2⟩
         first
           | exact hc e2
           | (have hg' := (bne_fac hg).2 rfl; exact e1 hg')
           | simp_all
       · exact hi2 j (by omega)
     · omega
     all_goals (repeat' first | exact vFn | refine vFc rfl ?_ | exact vHn | refine vHc rfl ?_ | refine vFc (congrArg (fun z => some (V.int z)) ?_) ?_ | refine vHc (congrArg (fun z => some (Blk.ints _ z)) ?_) ?_ | refine vFc (congrArg (fun z => some (V.bool z)) ?_) ?_ | refine vFs rfl rfl ?_ ?_))
  all_goals first | with_reducible refine bN ?_ | with_reducible refine bE ?_ | with_reducible refine bR ?_ | refine bX rfl ?_
  all_goals first
    | with_reducible refine tR ?_
    | with_reducible refine tE ?_
    | (
     with_reducible refine tN ?_
     refine cR ?_
     refine oQ (Q_build rfl rfl rfl rfl rfl rfl rfl rfl) rfl rfl ?_
     first | refine oSw rfl rfl rfl rfl ?_ | refine oSa rfl rfl rfl rfl ?_
     refine oN ?_
     refine CW_ret ?_)
  all_goals (
   refine exitQ (.inr rfl) 0 (.cons (.arr rfl rfl rfl rfl (by first | omega | (dsimp only; omega) | (simp; omega) | (simp; done))) .nil) ?_ rfl vHn rfl rfl
   refine congrArg V.arr ?_
   first
     | exact (pole_uniq hp hc6 hk hmem hg hc).symm
     | exact (pole_uniq hp hc6 hk hmem ((bne_fac hg).1 rfl) hc).symm
     | (exfalso
        obtain ⟨e1, e2, e3⟩ := pole_ok hp hc6 hk hlp
        obtain ⟨j, hj, ej⟩ := List.mem_iff_getElem.1 e1
        have eg : (allPts p).getD j [] = poleX p c l := by simp [List.getD, List.getElem?_eq_getElem hj, ej]
        exact hi2 j (by omega) (by rw [eg]; exact ⟨e2, e3⟩)))
end Go.Proofs.Ytoiolpgmilobnaa
namespace Go.Proofs.Ytoiolpgmilobnaa
section
variable {c : Cx} {Q : Post} {F : Fr} {H : Hp} {n : Nat} {ops : Array Oper} {tl : Nat → Bool} {m : Nat} {listed : Array Bool} {d : Nat} {op : Op} {ty : TypeId} {pos : String} {af : Array Edge} {v : V}
theorem fill3 {l m q : List Int} (hl : l.length = 3) (hm : m.length = 3) (hq : q.length = 3) : fillI 3 (List.replicate (3 * 3) 0) [(0, V.arr l), (1, V.arr m), (2, V.arr q)] = some (l ++ m ++ q) := by
  match l, hl, m, hm, q, hq with
  | [_, _, _], _, [_, _, _], _, [_, _, _], _ => rfl
/-- a slice of three arrays of three numbers, in a drawn region -/
theorem gBsl3 {i0 : Nat} {t : TypeId} {ps : List (Nat × Operand)} {l q r : List Int} {i ie : TI} {e : Nat} (hl : l.length = 3) (hq : q.length = 3) (hr : r.length = 3) (hi : ops[i0]? = some ⟨some d, .buildSlice t 3 ps.toArray, ty, pos, af, none⟩) (htl : tl i0 = false) (ht : lkT c.T t = some i) (hd : i.d = .slice e) (he : lkT c.T e = some ie) (hs : ie.size = 3) (hz : ie.z = some (.arr [0, 0, 0]))
    (hp : evp c F ps = some [(0, .arr l), (1, .arr q), (2, .arr r)]) (hN : Nat.blt d c.N = true) (hn : Nat.blt n 1000 = true) (h : AW c ops tl Q m (listed.setIfInBounds i0 true) ⟨(d, .slice n 0 3 3) :: F, (n, .ints e (l ++ q ++ r)) :: H, n + 1⟩) : GStep c ops tl Q m listed ⟨F, H, n⟩ i0 :=
  gBsl hi htl ht hd he hs (.inr ⟨hz, rfl, by decide⟩) hp (fill3 hl hq hr) (by simp [okParts, hl, hq, hr]) (by decide) hN hn h
end
end Go.Proofs.Ytoiolpgmilobnaa
namespace Go.Proofs.Ytoiolpgmilobnaa
set_option maxRecDepth 10000
set_option linter.unusedSimpArgs false
set_option linter.unusedVariables false
def plr (p : Int) (c a : List Int) : List Int := normL p (polX p c a)
theorem plr3 (p : Int) (c a : List Int) : (plr p c a).length = 3 := by unfold plr; rw [normL_length]; rfl
theorem plr_sm {p : Int} (hp : primeB p = true) (c a : List Int) : sm 13 (plr p c a) := by
  have hb := prime_bd hp
  intro x hx
  unfold plr normL at hx
  obtain ⟨y, _, rfl⟩ := List.mem_map.1 hx
  have h1 := Int.emod_nonneg (y % p * facP p (polX p c a)) (show p ≠ 0 by omega)
  have h2 := Int.emod_lt_of_pos (y % p * facP p (polX p c a)) (show 0 < p by omega)
  omega
theorem polX3' (p : Int) (c a : List Int) : (polX p c a).length = 3 := rfl
def trO (p : Int) (l : List Int) : List (List Int) := (allPts p).filter fun m => onB p m l
theorem trO3 (p : Int) (l : List Int) : ∀ x ∈ trO p l, x.length = 3 := fun x hx => allPts_three (List.mem_filter.1 hx).1
theorem trO_len {p : Int} (hp : primeB p = true) (l : List Int) : (trO p l).length ≤ 100000 := by
  have h1 := List.length_filter_le (fun m => onB p m l) (allPts p)
  have h2 := allPts_len hp
  unfold trO; omega
def trB (p : Int) (c a : List Int) : List Int := ((trO p (plr p c a)).find? fun m => conV p c m != 0).getD zero3
theorem trB_eq {p : Int} {c a : List Int} {i : Nat} (hi : i < (trO p (plr p c a)).length) (h0 : ∀ j, j < i → conV p c ((trO p (plr p c a)).getD j []) = 0) (h : conV p c ((trO p (plr p c a)).getD i []) ≠ 0) : trB p c a = (trO p (plr p c a)).getD i [] := by
  have hg : ∀ j (hj : j < (trO p (plr p c a)).length), (trO p (plr p c a)).getD j [] = (trO p (plr p c a))[j] := fun j hj => by simp [List.getD, hj]
  have e : (trO p (plr p c a)).find? (fun m => conV p c m != 0) = some ((trO p (plr p c a)).getD i []) := by
    rw [List.find?_eq_some_iff_getElem]
    refine ⟨by simpa using h, i, hi, (hg i hi).symm, fun j hj => ?_⟩
    have := h0 j hj
    rw [hg j (by omega)] at this
    simp [this]
  unfold trB; rw [e]; rfl
noncomputable def trC (p : Int) (c a : List Int) : Int := if gdV p c (pointB p a) = 0 then (if conV p c a = 0 then 5 else 0) else gdV p c (pointB p a)
theorem trC_code {p : Int} {c a : List Int} (h : ¬ gdV p c (pointB p a) = 0) : trC p c a = gdV p c (pointB p a) := by unfold trC; rw [if_neg h]
theorem trC_five {p : Int} {c a : List Int} (h : gdV p c (pointB p a) = 0) (h2 : conV p c a = 0) : trC p c a = 5 := by unfold trC; rw [if_pos h, if_pos h2]
theorem trC_zero {p : Int} {c a : List Int} (h : gdV p c (pointB p a) = 0) (h2 : ¬ conV p c a = 0) : trC p c a = 0 := by unfold trC; rw [if_pos h, if_neg h2]
theorem trC_ok {p : Int} {c a : List Int} (h : trC p c a = 0) : gdV p c (pointB p a) = 0 ∧ ¬ conV p c a = 0 := by
  by_cases h0 : gdV p c (pointB p a) = 0
  · by_cases h1 : conV p c a = 0
    · rw [trC_five h0 h1] at h; exact absurd h (by decide)
    · exact ⟨h0, h1⟩
  · rw [trC_code h0] at h; exact absurd h h0
def trL (p : Int) (c a : List Int) : List (List Int) := [a, trB p c a, poleX p c (normL p (crossT a (trB p c a)))]
/-- what is known once the code is 0 -/
theorem tr_known {p : Int} {c a : List Int} (hc6 : c.length = 6) (ha3 : a.length = 3) (h : trC p c a = 0) : primeB p = true ∧ pointB p c = true ∧ pointB p a = true ∧ kdV p c = 0 ∧ conV p c a ≠ 0 ∧ ∃ i, i < (trO p (plr p c a)).length ∧ conV p c ((trO p (plr p c a)).getD i []) ≠ 0 := by
  obtain ⟨h0, h1⟩ := trC_ok h
  obtain ⟨h2, h3⟩ := gdV_ok h0
  have hcc := codeB_zero.1 h2
  have hcb := Bool.and_eq_true_iff.1 hcc.2
  obtain ⟨_, _, m, hm, ho, hne⟩ := tri_ex hcc.1 hc6 h3 (point_pts ha3 hcb.1) h1
  obtain ⟨i, hi, e⟩ := List.mem_iff_getElem.1 (show m ∈ trO p (plr p c a) from List.mem_filter.2 ⟨hm, ho⟩)
  exact ⟨hcc.1, hcb.2, hcb.1, h3, h1, i, hi, by simp [List.getD, List.getElem?_eq_getElem hi, e]; exact hne⟩
theorem tr_join {p : Int} {c a b : List Int} (hp : primeB p = true) (hc6 : c.length = 6) (hk : kdV p c = 0) (ha : a ∈ allPts p) (hne : conV p c a ≠ 0) (hb : b ∈ trO p (plr p c a)) : normL p (crossT a b) ∈ allPts p := by
  obtain ⟨_, h2, _⟩ := tri_ex hp hc6 hk ha hne
  obtain ⟨hb1, hb2⟩ := List.mem_filter.1 hb
  refine norm_mem hp rfl (cross_ne hp ha hb1 fun e => ?_)
  subst e
  have : onB p a (plr p c a) = true := hb2
  unfold plr at this
  rw [h2] at this
  exact absurd this (by decide)
theorem trL_flat (p : Int) (c a : List Int) : (trL p c a).flatten = a ++ trB p c a ++ poleX p c (normL p (crossT a (trB p c a))) := by simp [trL]
attribute [local simp] normL_length poleX3 plr3 polX3'
attribute [local irreducible] CW OW QW QOp Con thenP inBlockP AW QX RW AX
theorem pointsOn1_con (p : Int) (l m : List Int) (hp : primeB p = true) (hll : l.length = 3) (hls : sm 13 l) (hm : m ∈ allPts p) : ConQ Try.prog [] 101 [.arr m, .ptr 1000 0, .ptr 1001 0] [(1000, .ints 2 [p]), (1001, .ints 35 l)] (.bool (onB p m l)) := by
  have hm3 := allPts_three hm
  refine conW tab_ok [(0, .arr m), (1, .ptr 1000 0), (2, .ptr 1001 0)] 0 [1000, 1001] [1000, 1001] Try.func101 rfl rfl rfl rfl rfl rfl rfl rfl rfl ?_
  refine cR ?_
  refine oBox rfl rfl rfl rfl rfl rfl ?_
  refine oA rfl rfl ?_
  refine oN ?_
  refine cR ?_
  first | refine oQ (Q_ldc rfl rfl rfl rfl rfl) rfl rfl ?_ | refine oQ (Ld rfl rfl rfl rfl) rfl rfl ?_
  refine oQ (Q_ldw rfl rfl rfl rfl hm3) rfl rfl ?_
  refine oQ (Q_ldw rfl rfl rfl rfl hll) rfl rfl ?_
  refine oQ (Q_call0 (isOn_con p m l hp hm3 hll (allPts_sm hp hm) hls) rfl rfl rfl) rfl rfl ?_
  refine oA rfl rfl ?_
  refine oN ?_
  refine CW_ret ?_
  all_goals (
   ((refine exitQ (.inr rfl) 0 (.cons (.tmp rfl rfl) .nil) ?_ rfl (vHc rfl (vHc rfl vHn)) rfl rfl); rfl))
theorem pointsOn_con (p : Int) (l : List Int) (hp : primeB p = true) (hll : l.length = 3) (hls : sm 13 l) : Con Try.prog [] 58 [.int p, .arr l] [] (ownR 3 32 [] 0 (trO p l)) := by
  refine conW tab_ok [(0, .int p), (1, .arr l)] 0 [] [] Try.func58 rfl rfl rfl rfl rfl rfl rfl rfl rfl ?_
  refine cR ?_
  iterate 2 refine oBox rfl rfl rfl rfl rfl rfl ?_
  refine oA rfl rfl ?_
  refine oN ?_
  refine cR ?_
  first | refine oQ (Q_ldc rfl rfl rfl rfl rfl) rfl rfl ?_ | refine oQ (Ld rfl rfl rfl rfl) rfl rfl ?_
  refine oQ (Q_makeFunc rfl rfl) rfl rfl ?_
  refine oCall (pointsThat_2 101 2 [p] 35 l (fun m => onB p m l) p hp (fun m hm => pointsOn1_con p l m hp hll hls hm)) [(1000, 0), (1001, 1)] 1 rfl rfl (Fits.mk' (vHc rfl (vHc rfl vHn)) rfl rfl (by first | (simp; done) | exact glOk rfl rfl rfl)) rfl rfl ?_
  rintro r H1 ⟨k9, sp9, hk9, hs9, rfl, rfl⟩
  refine ⟨.slice 2 0 (trO p l).length k9, [(0, .ints 2 [p]), (1, .ints 35 l), (2, .ints 32 ((trO p l).flatten ++ sp9))], rfl, rfl, rfl, ?_⟩
  refine oA rfl rfl ?_
  refine oN ?_
  refine CW_ret ?_
  all_goals (
   exact exitH (r0 := .slice 0 0 (trO p l).length k9) (H0 := [(0, .ints 32 ((trO p l).flatten ++ sp9))]) (.inr rfl) [(0, 2)] 1 (.cons (.tmp rfl rfl) .nil) rfl rfl rfl (vHc rfl vHn) rfl rfl ⟨k9, sp9, hk9, hs9, rfl, rfl⟩)
theorem impl_PolarTriangle_con (p : Int) (c a : List Int) (hc6 : c.length = 6) (ha3 : a.length = 3) : Con Try.prog [] 23 [.int p, .arr c, .arr a] [] (listR 3 32 [] 0 (trC p c a) (trL p c a)) := by
  refine conW tab_ok [(0, .int p), (1, .arr c), (2, .arr a)] 0 [] [] Try.func23 rfl rfl rfl rfl rfl rfl rfl rfl rfl ?_
  refine cR ?_
  iterate 2 refine oBox rfl rfl rfl rfl rfl rfl ?_
  iterate 2 refine oA rfl rfl ?_
  refine oN ?_
  iterate 2 refine CW_seq ?_
  refine CW_any (fun _ => false) 9 rfl lateOk (by decide +kernel) (fun hst => ?_)
  refine aP 0 hst rfl rfl (by decide +kernel) (PX_move rfl rfl) rfl rfl ?_
  refine aP 1 hst rfl rfl (by decide +kernel) (PX_move rfl rfl) rfl rfl ?_
  refine aQ 2 hst rfl rfl (by decide +kernel) (QX_of (Q_ldw rfl rfl rfl rfl ha3) NE_load) rfl rfl ?_
  refine aQ 5 hst rfl rfl (by decide +kernel) (QX_of (Q_ldw rfl rfl rfl rfl hc6) NE_load) rfl rfl ?_
  refine AW_two (i := 3) (j := 6) (by decide +kernel) ?_ ?_
  all_goals first
    | (
     refine gBsl1 ha3 rfl rfl rfl rfl rfl rfl rfl rfl rfl rfl rfl rfl ?_
     refine aQ 4 hst rfl rfl (by decide +kernel) (QX_call (arePoints_one p a ha3) [(0, 2)] rfl rfl (Fits.mk' (vHc rfl vHn) rfl rfl (by first | (simp; done) | exact glOk rfl rfl rfl)) rfl rfl rfl) rfl rfl ?_
     refine AW_one (i := 6) (by decide +kernel) ?_
     refine gBsl1 hc6 rfl rfl rfl rfl rfl rfl rfl rfl rfl rfl rfl rfl ?_
     refine aQ 7 hst rfl rfl (by decide +kernel) (QX_call (conicsCode_one p (pointB p a) c hc6) [(0, 3)] rfl rfl (Fits.mk' (vHc rfl vHn) rfl rfl (by first | (simp; done) | exact glOk rfl rfl rfl)) rfl rfl rfl) rfl rfl ?_
     refine aQ 8 hst rfl rfl (by decide +kernel) (QX_of (Q_assign rfl rfl) NE_assign) rfl rfl ?_
     refine AW_done (by decide +kernel) ?_)
    | (
     refine gBsl1 hc6 rfl rfl rfl rfl rfl rfl rfl rfl rfl rfl rfl rfl ?_
     refine AW_one (i := 3) (by decide +kernel) ?_
     refine gBsl1 ha3 rfl rfl rfl rfl rfl rfl rfl rfl rfl rfl rfl rfl ?_
     refine aQ 4 hst rfl rfl (by decide +kernel) (QX_call (arePoints_one p a ha3) [(0, 3)] rfl rfl (Fits.mk' (vHc rfl vHn) rfl rfl (by first | (simp; done) | exact glOk rfl rfl rfl)) rfl rfl rfl) rfl rfl ?_
     refine aQ 7 hst rfl rfl (by decide +kernel) (QX_call (conicsCode_one p (pointB p a) c hc6) [(0, 2)] rfl rfl (Fits.mk' (vHc rfl vHn) rfl rfl (by first | (simp; done) | exact glOk rfl rfl rfl)) rfl rfl rfl) rfl rfl ?_
     refine aQ 8 hst rfl rfl (by decide +kernel) (QX_of (Q_assign rfl rfl) NE_assign) rfl rfl ?_
     refine AW_done (by decide +kernel) ?_)
  all_goals with_reducible refine tN ?_
  all_goals (
   refine cR ?_
   refine oM rfl rfl ?_
   refine oQ (Q_bin rfl rfl rfl) rfl rfl ?_
   refine oN ?_
   first | refine cT rfl ?_ | refine cF rfl ?_ | refine CW_cond rfl (fun hc => ?_) (fun hc => ?_)
   all_goals try simp only [s1, s2, s3, s4, s5, s6, s7, s8, s9, s10, s11, s12] at hc
   all_goals try (exfalso; first | omega | (simp at hc; done); done)
   all_goals first
     | (
      refine CW_skip ?_)
     | (
      refine cR ?_
      refine oM rfl rfl ?_
      iterate 2 refine oA rfl rfl ?_
      refine oN ?_
      refine CW_ret ?_))
  all_goals first
    | with_reducible refine tR ?_
    | with_reducible refine tE ?_
    | (
     with_reducible refine tN ?_
     refine CW_seq ?_
     refine cR ?_
     refine oQ (Q_ldw rfl rfl rfl rfl hc6) rfl rfl ?_
     refine oM rfl rfl ?_
     (have hc0 : codeB p (pointB p a && pointB p c) = 0 := by assumption)
     (have hcc := codeB_zero.1 hc0)
     (have hcb := Bool.and_eq_true_iff.1 hcc.2)
     refine oQ (Q_call0 (kind_con p c hcc.1 hc6 (sm_point hcb.2)) rfl rfl rfl) rfl rfl ?_
     refine oQ (Q_bin rfl rfl rfl) rfl rfl ?_
     refine oM rfl rfl ?_
     all_goals first | refine oT rfl rfl ?_ | refine o1 rfl rfl rfl ?_ | refine o0 rfl rfl rfl ?_ | refine ogP1 rfl rfl rfl (fun hg => ?_) (fun hg => ?_) | refine ogP0 rfl rfl rfl (fun hg => ?_) (fun hg => ?_)
     all_goals try simp only [s1, s2, s3, s4, s5, s6, s7, s8, s9, s10, s11, s12] at hg
     all_goals first | (refine oQ (Q_ldw rfl rfl rfl rfl hc6) rfl rfl ?_) | skip
     all_goals first | refine oT rfl rfl ?_ | refine o1 rfl rfl rfl ?_ | refine o0 rfl rfl rfl ?_ | refine ogP1 rfl rfl rfl (fun hg => ?_) (fun hg => ?_) | refine ogP0 rfl rfl rfl (fun hg => ?_) (fun hg => ?_)
     all_goals try simp only [s1, s2, s3, s4, s5, s6, s7, s8, s9, s10, s11, s12] at hg
     all_goals first | (refine oM rfl rfl ?_) | skip
     all_goals first | refine oT rfl rfl ?_ | refine o1 rfl rfl rfl ?_ | refine o0 rfl rfl rfl ?_ | refine ogP1 rfl rfl rfl (fun hg => ?_) (fun hg => ?_) | refine ogP0 rfl rfl rfl (fun hg => ?_) (fun hg => ?_)
     all_goals try simp only [s1, s2, s3, s4, s5, s6, s7, s8, s9, s10, s11, s12] at hg
     all_goals first | (refine oQ (Q_ldw rfl rfl rfl rfl ha3) rfl rfl ?_) | skip
     all_goals first | refine oT rfl rfl ?_ | refine o1 rfl rfl rfl ?_ | refine o0 rfl rfl rfl ?_ | refine ogP1 rfl rfl rfl (fun hg => ?_) (fun hg => ?_) | refine ogP0 rfl rfl rfl (fun hg => ?_) (fun hg => ?_)
     all_goals try simp only [s1, s2, s3, s4, s5, s6, s7, s8, s9, s10, s11, s12] at hg
     all_goals first | (refine oQ (Q_call0 (conAt_con c p a hcc.1 hc6 ha3 (sm_point hcb.2) (sm_point hcb.1)) rfl rfl rfl) rfl rfl ?_) | skip
     all_goals first | refine oT rfl rfl ?_ | refine o1 rfl rfl rfl ?_ | refine o0 rfl rfl rfl ?_ | refine ogP1 rfl rfl rfl (fun hg => ?_) (fun hg => ?_) | refine ogP0 rfl rfl rfl (fun hg => ?_) (fun hg => ?_)
     all_goals try simp only [s1, s2, s3, s4, s5, s6, s7, s8, s9, s10, s11, s12] at hg
     all_goals first | (refine oQ (Q_bin rfl rfl rfl) rfl rfl ?_) | skip
     all_goals first | refine oQ (Q_pick_t rfl (by with_reducible rfl) rfl rfl) rfl rfl ?_ | refine oQ (Q_pick_f rfl (by with_reducible rfl) rfl rfl) rfl rfl ?_
     all_goals refine oN ?_
     all_goals (
      first | refine cT rfl ?_ | refine cF rfl ?_ | refine CW_cond rfl (fun hc => ?_) (fun hc => ?_)
      all_goals try simp only [s1, s2, s3, s4, s5, s6, s7, s8, s9, s10, s11, s12] at hc
      all_goals try (exfalso; first | omega | (simp at hc; done); done)
      all_goals first
        | (
         refine CW_skip ?_)
        | (
         refine cR ?_
         iterate 2 refine oA rfl rfl ?_
         refine oN ?_
         refine CW_ret ?_))
     all_goals first
       | with_reducible refine tR ?_
       | with_reducible refine tE ?_
       | (
        with_reducible refine tN ?_
        refine cR ?_
        refine oQ (Q_ldw rfl rfl rfl rfl hc6) rfl rfl ?_
        refine oM rfl rfl ?_
        refine oQ (Q_ldw rfl rfl rfl rfl ha3) rfl rfl ?_
        refine oQ (Q_call0 (polar_con p c a hcc.1 hc6 ha3 (sm_point hcb.2) (sm_point hcb.1)) rfl rfl rfl) rfl rfl ?_
        refine oM rfl rfl ?_
        iterate 2 refine oQ (Q_extract rfl rfl) rfl rfl ?_
        refine oAlloc rfl rfl rfl rfl rfl rfl rfl ?_
        first | refine oSw rfl rfl rfl rfl ?_ | refine oSa rfl rfl rfl rfl ?_
        refine oA rfl rfl ?_
        refine oN ?_
        refine CW_seq ?_
        refine cR ?_
        refine oM rfl rfl ?_
        refine oQ (Q_ldw rfl rfl rfl rfl (plr3 p c a)) rfl rfl ?_
        (have hk0 : kdV p c = 0 := by assumption)
        (have hz : trC p c a = 0 := trC_zero (gdV_zero hc0 hk0) (by assumption))
        refine oCall (pointsOn_con p (plr p c a) hcc.1 (plr3 p c a) (plr_sm hcc.1 c a)) [] 1 rfl rfl (Fits.mk' vHn rfl rfl (by first | (simp; done) | exact glOk rfl rfl rfl)) rfl rfl ?_
        rintro r H1 ⟨k9, sp9, hk9, hs9, rfl, rfl⟩
        refine ⟨.slice 5 0 (trO p (plr p c a)).length k9, [(5, .ints 32 ((trO p (plr p c a)).flatten ++ sp9))], rfl, rfl, rfl, ?_⟩
        first | refine oQ (Q_len rfl rfl rfl rfl) rfl rfl ?_ | refine oQ (Q_len0 rfl rfl rfl rfl) rfl rfl ?_
        refine oM rfl rfl ?_
        refine oN ?_
        refine CW_block ?_
        obtain ⟨_, _, _, _, hne, i9, hi9, hc9⟩ := tr_known hc6 ha3 hz
        have hn9 := trO_len hcc.1 (plr p c a)
        have h3 := trO3 p (plr p c a)
        have hf3 := flat3 h3
        refine CW_loop (ι := Nat) (fun i => i ≤ (trO p (plr p c a)).length ∧ ∀ j, j < i → conV p c ((trO p (plr p c a)).getD j []) = 0) (fun i => ⟨[(0, .int p), (4, .ptr 0 0), (5, .ptr 1 0), (44, .slice 2 0 (trO p (plr p c a)).length k9), (45, .int (trO p (plr p c a)).length), (46, .int i)], [(0, .ints 25 c), (1, .ints 32 a), (2, .ints 32 ((trO p (plr p c a)).flatten ++ sp9))], 3⟩) (fun i => (trO p (plr p c a)).length - i) 0 ?_ ?_ ?_
        · exact ⟨Nat.zero_le _, fun j h => absurd h (Nat.not_lt_zero _)⟩
        · refine View.mk' [(2, 5)] rfl rfl rfl ?_ ?_
          repeat' first | exact vFn | refine vFc rfl ?_ | exact vHn | refine vHc rfl ?_ | refine vFc (congrArg (fun z => some (V.int z)) ?_) ?_ | refine vHc (congrArg (fun z => some (Blk.ints _ z)) ?_) ?_ | refine vFc (congrArg (fun z => some (V.bool z)) ?_) ?_ | refine vFs rfl rfl ?_ ?_
        rintro i ⟨hi, hi2⟩
        have hmem := fun h : i < (trO p (plr p c a)).length => getD_mem h
        have h3i := fun h : i < (trO p (plr p c a)).length => h3 _ (getD_mem h)
        refine cR ?_
        refine oQ (Q_bin rfl rfl rfl) rfl rfl ?_
        refine oN ?_
        refine CW_seq ?_
        first | refine cT rfl ?_ | refine cF rfl ?_ | refine CW_cond rfl (fun hc => ?_) (fun hc => ?_)
        all_goals try simp only [s1, s2, s3, s4, s5, s6, s7, s8, s9, s10, s11, s12] at hc
        all_goals try (exfalso; first | omega | (simp at hc; done); done)
        all_goals first
          | (
           refine CW_skip ?_)
          | (
           refine CW_exit ?_)
        all_goals first
          | with_reducible refine tR ?_
          | with_reducible refine tE ?_
          | (
           with_reducible refine tN ?_
           refine CW_seq ?_
           refine CW_block ?_
           refine cR ?_
           (have h3i := h3i (by omega)); (have hmem := hmem (by omega)); refine oQ (Q_ixs0z 3 rfl rfl rfl rfl rfl rfl (by omega)) rfl rfl ?_
           refine oQ (Q_lda (n := 3) rfl rfl rfl rfl rfl (by rw [List.length_append, hf3]; omega)) rfl rfl ?_; rw [flat_get h3 (show i < (trO p (plr p c a)).length by omega)]
           refine oAlloc rfl rfl rfl rfl rfl rfl rfl ?_
           first | refine oSw rfl rfl rfl rfl ?_ | refine oSa rfl rfl rfl rfl ?_
           refine oN ?_
           refine cR ?_
           refine oQ (Q_ldw rfl rfl rfl rfl hc6) rfl rfl ?_
           refine oM rfl rfl ?_
           (have hb1 := (List.mem_filter.1 hmem).1)
           refine oQ (Q_ldw rfl rfl rfl rfl h3i) rfl rfl ?_
           refine oQ (Q_call0 (conAt_con c p ((trO p (plr p c a)).getD i []) hcc.1 hc6 h3i (sm_point hcb.2) (allPts_sm hcc.1 hb1)) rfl rfl rfl) rfl rfl ?_
           refine oQ (Q_bin rfl rfl rfl) rfl rfl ?_
           refine oN ?_
           first | refine cT rfl ?_ | refine cF rfl ?_ | refine CW_cond rfl (fun hc => ?_) (fun hc => ?_)
           all_goals try simp only [s1, s2, s3, s4, s5, s6, s7, s8, s9, s10, s11, s12] at hc
           all_goals try (exfalso; first | omega | (simp at hc; done); done)
           all_goals first
             | (
              refine CW_skip ?_)
             | (
              refine CW_seq ?_
              refine CW_any (fun _ => false) 12 rfl lateOk (by decide +kernel) (fun hst => ?_)
              refine aQ 0 hst rfl rfl (by decide +kernel) (QX_of (Q_ldw rfl rfl rfl rfl ha3) NE_load) rfl rfl ?_
              refine aQ 1 hst rfl rfl (by decide +kernel) (QX_of (Q_ldw rfl rfl rfl rfl h3i) NE_load) rfl rfl ?_
              refine aQ 2 hst rfl rfl (by decide +kernel) (QX_of (Q_ldw rfl rfl rfl rfl hc6) NE_load) rfl rfl ?_
              refine aP 3 hst rfl rfl (by decide +kernel) (PX_move rfl rfl) rfl rfl ?_
              refine aP 4 hst rfl rfl (by decide +kernel) (PX_move rfl rfl) rfl rfl ?_
              refine aQ 5 hst rfl rfl (by decide +kernel) (QX_of (Q_ldw rfl rfl rfl rfl ha3) NE_load) rfl rfl ?_
              refine aQ 6 hst rfl rfl (by decide +kernel) (QX_of (Q_ldw rfl rfl rfl rfl h3i) NE_load) rfl rfl ?_
              (have hjm := tr_join hcc.1 hc6 hk0 (point_pts ha3 hcb.1) hne hmem)
              refine aQ 7 hst rfl rfl (by decide +kernel) (QX_call0 (join_con p a ((trO p (plr p c a)).getD i []) hcc.1 ha3 h3i (sm_point hcb.1) (allPts_sm hcc.1 hb1)) rfl rfl rfl) rfl rfl ?_
              refine aQ 8 hst rfl rfl (by decide +kernel) (QX_call0 (pole_con p c (normL p (crossT a ((trO p (plr p c a)).getD i []))) hcc.1 hc6 (allPts_three hjm) (sm_point hcb.2) (allPts_sm hcc.1 hjm)) rfl rfl rfl) rfl rfl ?_
              refine AW_one (i := 9) (by decide +kernel) ?_
              refine gBsl3 ha3 h3i (poleX3 _ _ _) rfl rfl rfl rfl rfl rfl rfl rfl rfl rfl ?_
              refine aQ 10 hst rfl rfl (by decide +kernel) (QX_of (Q_assign rfl rfl) NE_assign) rfl rfl ?_
              refine aQ 11 hst rfl rfl (by decide +kernel) (QX_of (Q_assign rfl rfl) NE_assign) rfl rfl ?_
              refine AW_done (by decide +kernel) ?_
              all_goals with_reducible refine tN ?_
              all_goals (
               refine CW_ret ?_))
           all_goals first | with_reducible refine bN ?_ | with_reducible refine bE ?_ | with_reducible refine bR ?_ | refine bX rfl ?_
           all_goals first
             | with_reducible refine tR ?_
             | with_reducible refine tE ?_
             | (
              with_reducible refine tN ?_
              refine CW_region ?_
              first | refine oQ (Q_binu rfl rfl rfl (by omega)) rfl rfl ?_ | refine oQ (Q_bin rfl rfl rfl) rfl rfl ?_
              refine oM rfl rfl ?_
              refine OW_nil ?_))
        all_goals first
          | with_reducible refine tR ?_
          | with_reducible refine tE ?_
          | (
           with_reducible refine tN ?_
           refine ⟨i + 1, ?_, ?_, View.mk' [] rfl rfl rfl ?_ ?_⟩
           · refine ⟨by omega, fun j hj => ?_⟩
             by_cases e : j = i
             · subst e; first | exact hc | exact Decidable.not_not.1 hc
             · exact hi2 j (by omega)
           · omega
           all_goals (repeat' first | exact vFn | refine vFc rfl ?_ | exact vHn | refine vHc rfl ?_ | refine vFc (congrArg (fun z => some (V.int z)) ?_) ?_ | refine vHc (congrArg (fun z => some (Blk.ints _ z)) ?_) ?_ | refine vFc (congrArg (fun z => some (V.bool z)) ?_) ?_ | refine vFs rfl rfl ?_ ?_))
        all_goals first | with_reducible refine bN ?_ | with_reducible refine bE ?_ | with_reducible refine bR ?_ | refine bX rfl ?_
        all_goals first
          | with_reducible refine tR ?_
          | with_reducible refine tE ?_
          | (
           with_reducible refine tN ?_
           refine cR ?_
           iterate 2 refine oA rfl rfl ?_
           refine oN ?_
           refine CW_ret ?_)))
  all_goals (
   first
     | (have h1 : ¬ codeB p (pointB p a && pointB p c) = 0 := by assumption
        have h2 := gdV_code h1
        have h4 := trC_code (p := p) (c := c) (a := a) (by rw [h2]; exact h1)
        exact exitH (r0 := .tuple [.nilsl, .int (codeB p (pointB p a && pointB p c))]) (H0 := []) (.inr rfl) [] 0 (.cons (.tmp rfl rfl) (.cons (.tmp rfl rfl) .nil)) rfl rfl rfl vHn rfl rfl (listR_no (by rw [h4, h2]; exact h1) (by rw [h4, h2]) rfl))
     | (have h1 : ¬ kdV p c = 0 := by assumption
        have h2 := gdV_five hc0 h1
        have h4 := trC_code (p := p) (c := c) (a := a) (by rw [h2]; decide)
        exact exitH (r0 := .tuple [.nilsl, .int 5]) (H0 := []) (.inr rfl) [] 0 (.cons (.tmp rfl rfl) (.cons (.tmp rfl rfl) .nil)) rfl rfl rfl vHn rfl rfl (listR_no (by rw [h4, h2]; decide) (by rw [h4, h2]) rfl))
     | (have h4 := trC_five (p := p) (c := c) (a := a) (gdV_zero hc0 (by assumption)) (by assumption)
        exact exitH (r0 := .tuple [.nilsl, .int 5]) (H0 := []) (.inr rfl) [] 0 (.cons (.tmp rfl rfl) (.cons (.tmp rfl rfl) .nil)) rfl rfl rfl vHn rfl rfl (listR_no (by rw [h4]; decide) (by rw [h4]) rfl))
     | (have e := trB_eq (show i < (trO p (plr p c a)).length by omega) hi2 hc
        exact exitH (r0 := .tuple [.slice 0 0 3 3, .int 0]) (H0 := [(0, .ints 32 ((trL p c a).flatten ++ []))]) (.inr rfl) [(0, 4)] 1 (.cons (.tmp rfl rfl) (.cons (.tmp rfl rfl) .nil)) rfl rfl rfl (vHc (by rw [trL_flat, e, List.append_nil]; rfl) vHn) rfl rfl (listR_ok hz (k := 3) (sp := []) (by show 3 ≤ 3; omega) (by show 3 * 3 ≤ 3 * 3 + 0; omega) rfl rfl))
     | (exfalso; exact hc9 (hi2 i9 (by omega))))
end Go.Proofs.Ytoiolpgmilobnaa
namespace Go.Proofs.Ytoiolpgmilobnaa
set_option maxRecDepth 10000
set_option linter.unusedSimpArgs false
set_option linter.unusedVariables false
theorem pt_all {p : Int} {a : List Int} (h : pointB p a = true) : ∀ u ∈ a, 0 ≤ u ∧ u < p := by
  intro u hu
  have := List.all_eq_true.1 (pointB_mod h) u hu
  simp only [Bool.and_eq_true, decide_eq_true_eq] at this
  omega
theorem trB3 (p : Int) (c a : List Int) : (trB p c a).length = 3 := by
  unfold trB
  cases hf : (trO p (plr p c a)).find? (fun m => conV p c m != 0) with
  | none => rfl
  | some x => exact trO3 p _ x (List.mem_of_find?_eq_some hf)
theorem trL3 {p : Int} {c a : List Int} (ha : a.length = 3) : ∀ x ∈ trL p c a, x.length = 3 := by
  intro x hx
  simp only [trL, List.mem_cons, List.not_mem_nil, or_false] at hx
  rcases hx with rfl | rfl | rfl
  · exact ha
  · exact trB3 ..
  · exact poleX3 ..
attribute [local simp] normL_length poleX3 plr3 polX3'
attribute [local irreducible] CW OW QW QOp Con thenP inBlockP AW QX RW AX
theorem spec_PolarTriangle_con (p : Int) (c a : List Int) (hc6 : c.length = 6) (ha3 : a.length = 3) : Con Try.prog [] 21 [.int p, .arr c, .arr a] [] (listR 3 32 [] 0 (trC p c a) (trL p c a)) := by
  refine conW tab_ok [(0, .int p), (1, .arr c), (2, .arr a)] 0 [] [] Try.func21 rfl rfl rfl rfl rfl rfl rfl rfl rfl ?_
  refine cR ?_
  iterate 2 refine oBox rfl rfl rfl rfl rfl rfl ?_
  iterate 2 refine oA rfl rfl ?_
  refine oN ?_
  refine cR ?_
  refine oM rfl rfl ?_
  refine oQ (Q_ldw rfl rfl rfl rfl hc6) rfl rfl ?_
  refine oQ (Q_ldw rfl rfl rfl rfl ha3) rfl rfl ?_
  refine oBsl1 ha3 rfl rfl rfl rfl rfl rfl rfl rfl rfl rfl ?_
  refine oQ (Q_call (good_one p c a hc6 ha3) [(0, 2)] rfl rfl (Fits.mk' (vHc rfl vHn) rfl rfl (by first | (simp; done) | exact glOk rfl rfl rfl)) rfl rfl) rfl rfl ?_
  refine oA rfl rfl ?_
  refine oN ?_
  refine CW_seq ?_
  refine cR ?_
  refine oM rfl rfl ?_
  refine oQ (Q_bin rfl rfl rfl) rfl rfl ?_
  refine oM rfl rfl ?_
  all_goals first | refine oT rfl rfl ?_ | refine o1 rfl rfl rfl ?_ | refine o0 rfl rfl rfl ?_ | refine ogP1 rfl rfl rfl (fun hg => ?_) (fun hg => ?_) | refine ogP0 rfl rfl rfl (fun hg => ?_) (fun hg => ?_)
  all_goals try simp only [s1, s2, s3, s4, s5, s6, s7, s8, s9, s10, s11, s12] at hg
  all_goals first | (refine oM rfl rfl ?_) | skip
  all_goals first | refine oT rfl rfl ?_ | refine o1 rfl rfl rfl ?_ | refine o0 rfl rfl rfl ?_ | refine ogP1 rfl rfl rfl (fun hg => ?_) (fun hg => ?_) | refine ogP0 rfl rfl rfl (fun hg => ?_) (fun hg => ?_)
  all_goals try simp only [s1, s2, s3, s4, s5, s6, s7, s8, s9, s10, s11, s12] at hg
  all_goals first | (refine oQ (Q_ldw rfl rfl rfl rfl hc6) rfl rfl ?_) | skip
  all_goals first | refine oT rfl rfl ?_ | refine o1 rfl rfl rfl ?_ | refine o0 rfl rfl rfl ?_ | refine ogP1 rfl rfl rfl (fun hg => ?_) (fun hg => ?_) | refine ogP0 rfl rfl rfl (fun hg => ?_) (fun hg => ?_)
  all_goals try simp only [s1, s2, s3, s4, s5, s6, s7, s8, s9, s10, s11, s12] at hg
  all_goals first | (refine oQ (Q_ldw rfl rfl rfl rfl ha3) rfl rfl ?_) | skip
  all_goals first | refine oT rfl rfl ?_ | refine o1 rfl rfl rfl ?_ | refine o0 rfl rfl rfl ?_ | refine ogP1 rfl rfl rfl (fun hg => ?_) (fun hg => ?_) | refine ogP0 rfl rfl rfl (fun hg => ?_) (fun hg => ?_)
  all_goals try simp only [s1, s2, s3, s4, s5, s6, s7, s8, s9, s10, s11, s12] at hg
  all_goals first | ((have h00 : gdV p c (pointB p a) = 0 := hg); (have hcc := codeB_zero.1 (gdV_ok h00).1); (have hcb := Bool.and_eq_true_iff.1 hcc.2); refine oQ (Q_call0 (l03At_con p c a hcc.1 hc6 ha3 (pointB_mod hcb.2) (pt_all hcb.1)) rfl rfl rfl) rfl rfl ?_) | skip
  all_goals first | refine oT rfl rfl ?_ | refine o1 rfl rfl rfl ?_ | refine o0 rfl rfl rfl ?_ | refine ogP1 rfl rfl rfl (fun hg => ?_) (fun hg => ?_) | refine ogP0 rfl rfl rfl (fun hg => ?_) (fun hg => ?_)
  all_goals try simp only [s1, s2, s3, s4, s5, s6, s7, s8, s9, s10, s11, s12] at hg
  all_goals first | (refine oQ (Q_bin rfl rfl rfl) rfl rfl ?_) | skip
  all_goals first | refine oQ (Q_pick_t rfl (by with_reducible rfl) rfl rfl) rfl rfl ?_ | refine oQ (Q_pick_f rfl (by with_reducible rfl) rfl rfl) rfl rfl ?_
  all_goals refine oN ?_
  all_goals (
   first | refine cT rfl ?_ | refine cF rfl ?_ | refine CW_cond rfl (fun hc => ?_) (fun hc => ?_)
   all_goals try simp only [s1, s2, s3, s4, s5, s6, s7, s8, s9, s10, s11, s12] at hc
   all_goals try (exfalso; first | omega | contradiction | (simp at hc; done); done)
   all_goals first
     | (
      refine CW_skip ?_)
     | (
      refine CW_region ?_
      refine oA rfl rfl ?_
      refine OW_nil ?_))
  all_goals with_reducible refine tN ?_
  all_goals (
   refine CW_seq ?_
   refine cR ?_
   refine oM rfl rfl ?_
   refine oQ (Q_bin rfl rfl rfl) rfl rfl ?_
   refine oN ?_
   first | refine cT rfl ?_ | refine cF rfl ?_ | refine CW_cond rfl (fun hc => ?_) (fun hc => ?_)
   all_goals try simp only [s1, s2, s3, s4, s5, s6, s7, s8, s9, s10, s11, s12] at hc
   all_goals try (exfalso; first | omega | contradiction | (simp at hc; done); done)
   all_goals first
     | (
      refine CW_skip ?_)
     | (
      refine cR ?_
      refine oM rfl rfl ?_
      iterate 2 refine oA rfl rfl ?_
      refine oN ?_
      refine CW_ret ?_)
   all_goals first
     | with_reducible refine tR ?_
     | with_reducible refine tE ?_
     | (
      with_reducible refine tN ?_
      refine cR ?_
      refine oM rfl rfl ?_
      refine oQ (Q_ldw rfl rfl rfl rfl hc6) rfl rfl ?_
      refine oQ (Q_ldw rfl rfl rfl rfl ha3) rfl rfl ?_
      (have h00 : gdV p c (pointB p a) = 0 := by assumption)
      (have hz : trC p c a = 0 := trC_zero h00 (by assumption))
      (have hk0 := (gdV_ok h00).2)
      (have hcc := codeB_zero.1 (gdV_ok h00).1)
      (have hcb := Bool.and_eq_true_iff.1 hcc.2)
      refine oQ (Q_call0 (l03Polar_con p c a hcc.1 hc6 ha3 (pointB_mod hcb.2) (sm_point hcb.1)) rfl rfl rfl) rfl rfl ?_
      refine oM rfl rfl ?_
      iterate 2 refine oQ (Q_extract rfl rfl) rfl rfl ?_
      refine oAlloc rfl rfl rfl rfl rfl rfl rfl ?_
      first | refine oSw rfl rfl rfl rfl ?_ | refine oSa rfl rfl rfl rfl ?_
      refine oA rfl rfl ?_
      refine oN ?_
      refine cR ?_
      refine oM rfl rfl ?_
      refine oQ (Q_ldw rfl rfl rfl rfl (plr3 p c a)) rfl rfl ?_
      refine oCall (l01PointsOn_con p (plr p c a) hcc.1 (plr3 p c a) (plr_sm hcc.1 c a)) [] 1 rfl rfl (Fits.mk' vHn rfl rfl (by first | (simp; done) | exact glOk rfl rfl rfl)) rfl rfl ?_
      rintro r H1 ⟨k9, sp9, hk9, hs9, rfl, rfl⟩
      refine ⟨.slice 4 0 (trO p (plr p c a)).length k9, [(4, .ints 32 ((trO p (plr p c a)).flatten ++ sp9))], rfl, rfl, rfl, ?_⟩
      refine oA rfl rfl ?_
      refine oN ?_
      refine cR ?_
      refine oA rfl rfl ?_
      refine oN ?_
      refine CW_seq ?_
      refine CW_block ?_
      obtain ⟨_, _, _, _, hne, i9, hi9, hc9⟩ := tr_known hc6 ha3 hz
      have hn9 := trO_len hcc.1 (plr p c a)
      have h3 := trO3 p (plr p c a)
      have hf3 := flat3 h3
      refine CW_loop (ι := Nat) (fun i => i ≤ i9 ∧ ∀ j, j < i → conV p c ((trO p (plr p c a)).getD j []) = 0) (fun i => ⟨[(0, .int p), (4, .ptr 0 0), (5, .ptr 1 0), (11, .slice 2 0 (trO p (plr p c a)).length k9), (12, .int i)], [(0, .ints 25 c), (1, .ints 32 a), (2, .ints 32 ((trO p (plr p c a)).flatten ++ sp9))], 3⟩) (fun i => i9 - i) 0 ?_ ?_ ?_
      · exact ⟨Nat.zero_le _, fun j h => absurd h (Nat.not_lt_zero _)⟩
      · refine View.mk' [(2, 4)] rfl rfl rfl ?_ ?_
        repeat' first | exact vFn | refine vFc rfl ?_ | exact vHn | refine vHc rfl ?_ | refine vFc (congrArg (fun z => some (V.int z)) ?_) ?_ | refine vHc (congrArg (fun z => some (Blk.ints _ z)) ?_) ?_ | refine vFc (congrArg (fun z => some (V.bool z)) ?_) ?_ | refine vFs rfl rfl ?_ ?_
      rintro i ⟨hi, hi2⟩
      have hmem := getD_mem (show i < (trO p (plr p c a)).length by omega)
      have h3i := h3 _ hmem
      have hb1 := (List.mem_filter.1 hmem).1
      have hjm := tr_join hcc.1 hc6 hk0 (point_pts ha3 hcb.1) hne hmem
      have hjl := allPts_three hjm
      iterate 2 refine CW_seq ?_
      refine CW_draw lateOk (by decide +kernel) ?_
      refine qM rfl rfl ?_
      refine qQ (Q_ldw rfl rfl rfl rfl hc6) rfl rfl ?_
      iterate 2 refine qM rfl rfl ?_
      refine qQ (Q_ixs0z 3 rfl rfl rfl rfl rfl rfl (by omega)) rfl rfl ?_
      refine qQ (Q_lda (n := 3) rfl rfl rfl rfl rfl (by rw [List.length_append, hf3]; omega)) rfl rfl ?_; rw [flat_get h3 (show i < (trO p (plr p c a)).length by omega)]
      refine qQ (Q_call0 (l03At_con p c ((trO p (plr p c a)).getD i []) hcc.1 hc6 h3i (pointB_mod hcb.2) (allPts_mod hcc.1 hb1)) rfl rfl rfl) rfl rfl ?_
      refine qQ (Q_bin rfl rfl rfl) rfl rfl ?_
      refine QW_nil ?_
      all_goals with_reducible refine tN ?_
      all_goals (
       first | refine cT rfl ?_ | refine cF rfl ?_ | refine CW_cond rfl (fun hc => ?_) (fun hc => ?_)
       all_goals try simp only [s1, s2, s3, s4, s5, s6, s7, s8, s9, s10, s11, s12] at hc
       all_goals try (exfalso; first | omega | contradiction | (simp at hc; done); done)
       all_goals first
         | (
          refine CW_skip ?_)
         | (
          refine CW_exit ?_))
      all_goals first
        | with_reducible refine tR ?_
        | with_reducible refine tE ?_
        | (
         with_reducible refine tN ?_
         refine CW_block ?_
         refine CW_region ?_
         refine oM rfl rfl ?_
         first | refine oQ (Q_binu rfl rfl rfl (by omega)) rfl rfl ?_ | refine oQ (Q_bin rfl rfl rfl) rfl rfl ?_
         refine oA rfl rfl ?_
         refine OW_nil ?_
         all_goals first | with_reducible refine bN ?_ | with_reducible refine bE ?_ | with_reducible refine bR ?_ | refine bX rfl ?_)
      all_goals first
        | with_reducible refine tR ?_
        | with_reducible refine tE ?_
        | (
         with_reducible refine tN ?_
         refine ⟨i + 1, ?_, ?_, View.mk' [] rfl rfl rfl ?_ ?_⟩
         · have hin : i ≠ i9 := fun e => by subst e; exact hc9 hc
           refine ⟨by omega, fun j hj => ?_⟩
           by_cases e : j = i
           · subst e; exact hc
           · exact hi2 j (by omega)
         · have hin : i ≠ i9 := (fun e => by subst e; exact hc9 hc); omega
         all_goals (repeat' first | exact vFn | refine vFc rfl ?_ | exact vHn | refine vHc rfl ?_ | refine vFc (congrArg (fun z => some (V.int z)) ?_) ?_ | refine vHc (congrArg (fun z => some (Blk.ints _ z)) ?_) ?_ | refine vFc (congrArg (fun z => some (V.bool z)) ?_) ?_ | refine vFs rfl rfl ?_ ?_))
      all_goals first | with_reducible refine bN ?_ | with_reducible refine bE ?_ | with_reducible refine bR ?_ | refine bX rfl ?_
      all_goals with_reducible refine tN ?_
      all_goals (
       refine CW_seq ?_
       refine CW_any (fun i => List.elem i [11, 12]) 13 rfl lateOk (by decide +kernel) (fun hst => ?_)
       refine aP 0 hst rfl rfl (by decide +kernel) (PX_move rfl rfl) rfl rfl ?_
       refine aQ 1 hst rfl rfl (by decide +kernel) (QX_of (Q_ldw rfl rfl rfl rfl ha3) NE_load) rfl rfl ?_
       refine aP 2 hst rfl rfl (by decide +kernel) (PX_move rfl rfl) rfl rfl ?_
       refine aP 3 hst rfl rfl (by decide +kernel) (PX_move rfl rfl) rfl rfl ?_
       refine aQ 4 hst rfl rfl (by decide +kernel) (QX_of (Q_ixs0z 3 rfl rfl rfl rfl rfl rfl (by omega)) NE_ix) rfl rfl ?_
       refine aQ 5 hst rfl rfl (by decide +kernel) (QX_of (Q_lda (n := 3) rfl rfl rfl rfl rfl (by rw [List.length_append, hf3]; omega)) NE_load) rfl rfl ?_; rw [flat_get h3 (show i < (trO p (plr p c a)).length by omega)]
       refine aQ 6 hst rfl rfl (by decide +kernel) (QX_call0 (l01Join_con p a ((trO p (plr p c a)).getD i []) hcc.1 ha3 h3i (sm_point hcb.1) (allPts_sm hcc.1 hb1)) rfl rfl rfl) rfl rfl ?_
       refine aP 7 hst rfl rfl (by decide +kernel) (PX_move rfl rfl) rfl rfl ?_
       refine aExt 8 hst rfl rfl (by decide +kernel) rfl rfl rfl rfl ?_
       refine aExt 9 hst rfl rfl (by decide +kernel) rfl rfl rfl rfl ?_
       refine AW_one (i := 10) (by decide +kernel) ?_
       refine gAlloc rfl rfl rfl rfl rfl rfl rfl rfl rfl ?_
       refine AW_last [11, 12] rfl (by decide +kernel) rfl ?_
       first | refine oSw rfl rfl rfl rfl ?_ | refine oSa rfl rfl rfl rfl ?_
       refine oA rfl rfl ?_
       refine OW_nil (npN ?_)
       all_goals with_reducible refine tN ?_
       all_goals (
        refine CW_seq ?_
        refine CW_any (fun _ => false) 12 rfl lateOk (by decide +kernel) (fun hst => ?_)
        refine aQ 0 hst rfl rfl (by decide +kernel) (QX_of (Q_ldw rfl rfl rfl rfl ha3) NE_load) rfl rfl ?_
        refine aP 1 hst rfl rfl (by decide +kernel) (PX_move rfl rfl) rfl rfl ?_
        refine aP 2 hst rfl rfl (by decide +kernel) (PX_move rfl rfl) rfl rfl ?_
        refine aQ 3 hst rfl rfl (by decide +kernel) (QX_of (Q_ixs0z 3 rfl rfl rfl rfl rfl rfl (by omega)) NE_ix) rfl rfl ?_
        refine aQ 4 hst rfl rfl (by decide +kernel) (QX_of (Q_lda (n := 3) rfl rfl rfl rfl rfl (by rw [List.length_append, hf3]; omega)) NE_load) rfl rfl ?_; rw [flat_get h3 (show i < (trO p (plr p c a)).length by omega)]
        refine aP 5 hst rfl rfl (by decide +kernel) (PX_move rfl rfl) rfl rfl ?_
        refine aQ 6 hst rfl rfl (by decide +kernel) (QX_of (Q_ldw rfl rfl rfl rfl hc6) NE_load) rfl rfl ?_
        refine aQ 7 hst rfl rfl (by decide +kernel) (QX_of (Q_ldw rfl rfl rfl rfl hjl) NE_load) rfl rfl ?_
        refine aQ 8 hst rfl rfl (by decide +kernel) (QX_call0 (l03Pole_con p c (normL p (crossT a ((trO p (plr p c a)).getD i []))) hcc.1 hc6 hjl hcb.2 hjm hk0) rfl rfl rfl) rfl rfl ?_
        refine AW_one (i := 9) (by decide +kernel) ?_
        refine gBsl3 ha3 h3i (poleX3 _ _ _) rfl rfl rfl rfl rfl rfl rfl rfl rfl rfl ?_
        refine aQ 10 hst rfl rfl (by decide +kernel) (QX_of (Q_assign rfl rfl) NE_assign) rfl rfl ?_
        refine aQ 11 hst rfl rfl (by decide +kernel) (QX_of (Q_assign rfl rfl) NE_assign) rfl rfl ?_
        refine AW_done (by decide +kernel) ?_
        all_goals with_reducible refine tN ?_
        all_goals (
         refine CW_ret ?_)))))
  all_goals (
   first
     | (have h1 : ¬ gdV p c (pointB p a) = 0 := by assumption
        have h4 := trC_code (p := p) (c := c) (a := a) h1
        exact exitH (r0 := .tuple [.nilsl, .int (gdV p c (pointB p a))]) (H0 := []) (.inr rfl) [] 0 (.cons (.tmp rfl rfl) (.cons (.tmp rfl rfl) .nil)) rfl rfl rfl vHn rfl rfl (listR_no (by rw [h4]; exact h1) (by rw [h4]) rfl))
     | (have h4 := trC_five (p := p) (c := c) (a := a) (by assumption) (by assumption)
        exact exitH (r0 := .tuple [.nilsl, .int 5]) (H0 := []) (.inr rfl) [] 0 (.cons (.tmp rfl rfl) (.cons (.tmp rfl rfl) .nil)) rfl rfl rfl vHn rfl rfl (listR_no (by rw [h4]; decide) (by rw [h4]) rfl))
     | (have e := trB_eq (show i < (trO p (plr p c a)).length by omega) hi2 hc
        exact exitH (r0 := .tuple [.slice 0 0 3 3, .int 0]) (H0 := [(0, .ints 32 ((trL p c a).flatten ++ []))]) (.inr rfl) [(0, 4)] 1 (.cons (.tmp rfl rfl) (.cons (.tmp rfl rfl) .nil)) rfl rfl rfl (vHc (by rw [trL_flat, e, List.append_nil]; rfl) vHn) rfl rfl (listR_ok hz (k := 3) (sp := []) (by show 3 ≤ 3; omega) (by show 3 * 3 ≤ 3 * 3 + 0; omega) rfl rfl)))
end Go.Proofs.Ytoiolpgmilobnaa
namespace Go.Proofs.Ytoiolpgmilobnaa
attribute [local irreducible] CW OW QW QOp Con thenP inBlockP
set_option maxRecDepth 10000
set_option linter.unusedSimpArgs false
set_option linter.unusedVariables false
theorem listR_pos {sz : Nat} {T : TypeId} {H0 : Hp} {b : Nat} {code : Int} {L : List (List Int)} {r : V} {H' : Hp} (hc : code = 0) (h : listR sz T H0 b code L r H') : ∃ (k : Nat) (sp : List Int), L.length ≤ k ∧ k * sz ≤ L.length * sz + sp.length ∧ r = .tuple [.slice b 0 L.length k, .int 0] ∧ H' = H0 ++ [(b, .ints T (L.flatten ++ sp))] := by
  unfold listR at h
  rwa [if_pos hc] at h
theorem listR_neg {sz : Nat} {T : TypeId} {H0 : Hp} {b : Nat} {code : Int} {L : List (List Int)} {r : V} {H' : Hp} (hc : ¬ code = 0) (h : listR sz T H0 b code L r H') : r = .tuple [.nilsl, .int code] ∧ H' = H0 := by
  unfold listR at h
  rwa [if_neg hc] at h
theorem eqPointS_same (t t' : TypeId) (L : List (List Int)) (sp sp' : List Int) (k k' : Nat) (h3 : ∀ x ∈ L, x.length = 3) (h6 : L.length ≤ 1000000000) : ConQ Try.prog [] 24 [.slice 0 0 L.length k, .slice 1 0 L.length k'] [(0, .ints t (L.flatten ++ sp)), (1, .ints t' (L.flatten ++ sp'))] (.bool true) := by
  have hf := flat3 h3
  have := eqPointS_con t t' (L.flatten ++ sp) (L.flatten ++ sp') L.length k L.length k' (by simp [hf]) (by simp [hf]) ⟨h6, h6⟩
  rw [← hf, List.take_left, List.take_left] at this
  simpa using this
theorem law_FnExactPolarTriangle (p : Int) (c : List Int) (a : List Int) (qlc : c.length = 6) (qla : a.length = 3) : ConQ Try.prog [] 6 [.int p, .arr c, .arr a] [] (.bool true) := by
  by_cases hcd : trC p c a = 0
  · have h3 : ∀ x ∈ (trL p c a), x.length = 3 := trL3 qla
    have hln : (trL p c a).length ≤ 100000 := (by show 3 ≤ 100000; omega)
    have hfl := flat3 h3
    generalize hLL : (trL p c a) = LL at *
    have hsp := spec_PolarTriangle_con p c a qlc qla
    have him := impl_PolarTriangle_con p c a qlc qla
    rw [hLL] at hsp him
    refine conW tab_ok [(0, .int p), (1, .arr c), (2, .arr a)] 0 [] [] Try.func6 rfl rfl rfl rfl rfl rfl rfl rfl rfl ?_
    refine cR ?_
    iterate 2 refine oBox rfl rfl rfl rfl rfl rfl ?_
    refine oA rfl rfl ?_
    refine oN ?_
    refine CW_seq ?_
    refine CW_any (fun _ => false) 11 rfl lateOk (by decide +kernel) (fun hst => ?_)
    refine aP 0 hst rfl rfl (by decide +kernel) (PX_move rfl rfl) rfl rfl ?_
    first | refine aQ 1 hst rfl rfl (by decide +kernel) (QX_of (Lw rfl rfl rfl rfl) NE_load) rfl rfl ?_ | refine aQ 1 hst rfl rfl (by decide +kernel) (QX_of (La rfl rfl rfl rfl rfl) NE_load) rfl rfl ?_
    refine aQ 2 hst rfl rfl (by decide +kernel) (QX_call0 (toConic_con _ qlc) rfl rfl rfl) rfl rfl ?_
    first | refine aQ 3 hst rfl rfl (by decide +kernel) (QX_of (Lw rfl rfl rfl rfl) NE_load) rfl rfl ?_ | refine aQ 3 hst rfl rfl (by decide +kernel) (QX_of (La rfl rfl rfl rfl rfl) NE_load) rfl rfl ?_
    refine aQ 4 hst rfl rfl (by decide +kernel) (QX_call0 (toPoint_con _ qla) rfl rfl rfl) rfl rfl ?_
    refine AW_one (i := 5) (by decide +kernel) ?_
    refine gCall rfl rfl (hsp) [] 1 rfl rfl (Fits.mk' vHn rfl rfl (by first | (simp; done) | exact glOk rfl rfl rfl)) rfl rfl rfl ?_
    rintro r H1 hR
    obtain ⟨k0, sp0, hk0, hs0, rfl, rfl⟩ := listR_pos hcd hR
    refine ⟨.tuple [.slice 2 0 LL.length k0, .int 0], [(2, .ints 32 (LL.flatten ++ sp0))], rfl, keep_pre _ _, rfl, rfl, ?_⟩
    refine aP 6 hst rfl rfl (by decide +kernel) (PX_move rfl rfl) rfl rfl ?_
    refine aExt 7 hst rfl rfl (by decide +kernel) rfl rfl rfl rfl ?_
    refine aExt 8 hst rfl rfl (by decide +kernel) rfl rfl rfl rfl ?_
    refine aQ 9 hst rfl rfl (by decide +kernel) (QX_of (Q_assign rfl rfl) NE_assign) rfl rfl ?_
    refine aQ 10 hst rfl rfl (by decide +kernel) (QX_of (Q_assign rfl rfl) NE_assign) rfl rfl ?_
    refine AW_done (by decide +kernel) ?_
    all_goals with_reducible refine tN ?_
    all_goals (
     refine CW_seq ?_
     refine CW_any (fun _ => false) 11 rfl lateOk (by decide +kernel) (fun hst => ?_)
     refine aP 0 hst rfl rfl (by decide +kernel) (PX_move rfl rfl) rfl rfl ?_
     first | refine aQ 1 hst rfl rfl (by decide +kernel) (QX_of (Lw rfl rfl rfl rfl) NE_load) rfl rfl ?_ | refine aQ 1 hst rfl rfl (by decide +kernel) (QX_of (La rfl rfl rfl rfl rfl) NE_load) rfl rfl ?_
     refine aQ 2 hst rfl rfl (by decide +kernel) (QX_call0 (toConic_con _ qlc) rfl rfl rfl) rfl rfl ?_
     first | refine aQ 3 hst rfl rfl (by decide +kernel) (QX_of (Lw rfl rfl rfl rfl) NE_load) rfl rfl ?_ | refine aQ 3 hst rfl rfl (by decide +kernel) (QX_of (La rfl rfl rfl rfl rfl) NE_load) rfl rfl ?_
     refine aQ 4 hst rfl rfl (by decide +kernel) (QX_call0 (toPoint_con _ qla) rfl rfl rfl) rfl rfl ?_
     refine AW_one (i := 5) (by decide +kernel) ?_
     refine gCall rfl rfl (him) [] 1 rfl rfl (Fits.mk' vHn rfl rfl (by first | (simp; done) | exact glOk rfl rfl rfl)) rfl rfl rfl ?_
     rintro r H1 hR
     obtain ⟨k1, sp1, hk1, hs1, rfl, rfl⟩ := listR_pos hcd hR
     refine ⟨.tuple [.slice 3 0 LL.length k1, .int 0], [(3, .ints 32 (LL.flatten ++ sp1))], rfl, keep_pre _ _, rfl, rfl, ?_⟩
     refine aP 6 hst rfl rfl (by decide +kernel) (PX_move rfl rfl) rfl rfl ?_
     refine aExt 7 hst rfl rfl (by decide +kernel) rfl rfl rfl rfl ?_
     refine aExt 8 hst rfl rfl (by decide +kernel) rfl rfl rfl rfl ?_
     refine aQ 9 hst rfl rfl (by decide +kernel) (QX_of (Q_assign rfl rfl) NE_assign) rfl rfl ?_
     refine aQ 10 hst rfl rfl (by decide +kernel) (QX_of (Q_assign rfl rfl) NE_assign) rfl rfl ?_
     refine AW_done (by decide +kernel) ?_
     all_goals with_reducible refine tN ?_
     all_goals (
      refine CW_seq ?_
      refine cR ?_
      iterate 2 refine oM rfl rfl ?_
      refine oQ (Q_call (eqPointS_same 32 32 LL sp1 sp0 k1 k0 h3 (by omega)) [(0, 3), (1, 2)] rfl rfl (Fits.mk' (vHc rfl (vHc rfl vHn)) rfl rfl (by first | (simp; done) | exact glOk rfl rfl rfl)) rfl rfl) rfl rfl ?_
      refine oQ (Q_not rfl) rfl rfl ?_
      refine oM rfl rfl ?_
      all_goals first | refine oT rfl rfl ?_ | refine o1 rfl rfl rfl ?_ | refine o0 rfl rfl rfl ?_ | refine ogP1 rfl rfl rfl (fun hg => ?_) (fun hg => ?_) | refine ogP0 rfl rfl rfl (fun hg => ?_) (fun hg => ?_)
      all_goals try simp only [s1, s2, s3, s4, s5, s6, s7, s8, s9, s10, s11, s12] at hg
      all_goals first | (refine oM rfl rfl ?_) | skip
      all_goals first | refine oT rfl rfl ?_ | refine o1 rfl rfl rfl ?_ | refine o0 rfl rfl rfl ?_ | refine ogP1 rfl rfl rfl (fun hg => ?_) (fun hg => ?_) | refine ogP0 rfl rfl rfl (fun hg => ?_) (fun hg => ?_)
      all_goals try simp only [s1, s2, s3, s4, s5, s6, s7, s8, s9, s10, s11, s12] at hg
      all_goals first | (refine oM rfl rfl ?_) | skip
      all_goals first | refine oT rfl rfl ?_ | refine o1 rfl rfl rfl ?_ | refine o0 rfl rfl rfl ?_ | refine ogP1 rfl rfl rfl (fun hg => ?_) (fun hg => ?_) | refine ogP0 rfl rfl rfl (fun hg => ?_) (fun hg => ?_)
      all_goals try simp only [s1, s2, s3, s4, s5, s6, s7, s8, s9, s10, s11, s12] at hg
      all_goals first | (refine oQ (Q_bin rfl rfl rfl) rfl rfl ?_) | skip
      all_goals first | refine oQ (Q_pick_t rfl (by with_reducible rfl) rfl rfl) rfl rfl ?_ | refine oQ (Q_pick_f rfl (by with_reducible rfl) rfl rfl) rfl rfl ?_
      all_goals refine oN ?_
      all_goals (
       first | refine cT rfl ?_ | refine cF rfl ?_ | refine CW_cond rfl (fun hc => ?_) (fun hc => ?_)
       all_goals try simp only [s1, s2, s3, s4, s5, s6, s7, s8, s9, s10, s11, s12] at hc
       all_goals try (exfalso; first | omega | (simp at hc; done); done)
       all_goals first
         | (
          refine CW_skip ?_)
         | (
          refine cR ?_
          refine oA rfl rfl ?_
          refine oN ?_
          refine CW_ret ?_))
      all_goals first
        | with_reducible refine tR ?_
        | with_reducible refine tE ?_
        | (
         with_reducible refine tN ?_
         refine cR ?_
         refine oA rfl rfl ?_
         refine oN ?_
         refine cR ?_
         iterate 2 refine oM rfl rfl ?_
         refine oCall (markPointS_con 101 32 (LL.flatten ++ sp1) LL.length k1 (by rw [List.length_append, hfl]; omega) (by omega) (by omega)) [(0, 3)] 0 rfl rfl (Fits.mk' (vHc rfl vHn) rfl rfl (by first | (simp; done) | exact glOk rfl rfl rfl)) rfl rfl ?_
         rintro r H1 ⟨rfl, rfl⟩
         refine ⟨.int ((101 + LL.length * 3 : Nat) : Int), [(3, .ints 32 (seqL 101 (LL.length * 3) ++ (LL.flatten ++ sp1).drop (LL.length * 3)))], rfl, rfl, rfl, ?_⟩
         refine oA rfl rfl ?_
         refine oN ?_
         refine cR ?_
         refine oA rfl rfl ?_
         refine oN ?_
         refine cR ?_
         iterate 2 refine oM rfl rfl ?_
         refine oQ (Q_call (heldPointS_con 101 32 ((LL.flatten ++ sp1).drop (LL.length * 3)) LL.length k1 (by omega) (by omega)) [(0, 3)] rfl rfl (Fits.mk' (vHc rfl vHn) rfl rfl (by first | (simp; done) | exact glOk rfl rfl rfl)) rfl rfl) rfl rfl ?_
         refine oA rfl rfl ?_
         refine oN ?_
         refine CW_seq ?_
         refine cR ?_
         refine oM rfl rfl ?_
         refine oQ (Q_bin rfl rfl rfl) rfl rfl ?_
         refine oN ?_
         first | refine cT rfl ?_ | refine cF rfl ?_ | refine CW_cond rfl (fun hc => ?_) (fun hc => ?_)
         all_goals try simp only [s1, s2, s3, s4, s5, s6, s7, s8, s9, s10, s11, s12] at hc
         all_goals try (exfalso; first | omega | (simp at hc; done); done)
         all_goals first
           | (
            refine CW_skip ?_)
           | (
            refine cR ?_
            refine oA rfl rfl ?_
            refine oN ?_
            refine CW_ret ?_)
         all_goals first
           | with_reducible refine tR ?_
           | with_reducible refine tE ?_
           | (
            with_reducible refine tN ?_
            refine CW_seq ?_
            refine cR ?_
            iterate 2 refine oM rfl rfl ?_
            refine oQ (Q_bin rfl rfl rfl) rfl rfl ?_
            refine oN ?_
            first | refine cT rfl ?_ | refine cF rfl ?_ | refine CW_cond rfl (fun hc => ?_) (fun hc => ?_)
            all_goals try simp only [s1, s2, s3, s4, s5, s6, s7, s8, s9, s10, s11, s12] at hc
            all_goals try (exfalso; first | omega | (simp at hc; done); done)
            all_goals first
              | (
               refine CW_skip ?_)
              | (
               refine cR ?_
               refine oA rfl rfl ?_
               refine oN ?_
               refine CW_ret ?_)
            all_goals first
              | with_reducible refine tR ?_
              | with_reducible refine tE ?_
              | (
               with_reducible refine tN ?_
               refine CW_seq ?_
               refine CW_any (fun _ => false) 11 rfl lateOk (by decide +kernel) (fun hst => ?_)
               refine aP 0 hst rfl rfl (by decide +kernel) (PX_move rfl rfl) rfl rfl ?_
               first | refine aQ 1 hst rfl rfl (by decide +kernel) (QX_of (Lw rfl rfl rfl rfl) NE_load) rfl rfl ?_ | refine aQ 1 hst rfl rfl (by decide +kernel) (QX_of (La rfl rfl rfl rfl rfl) NE_load) rfl rfl ?_
               refine aQ 2 hst rfl rfl (by decide +kernel) (QX_call0 (toConic_con _ qlc) rfl rfl rfl) rfl rfl ?_
               first | refine aQ 3 hst rfl rfl (by decide +kernel) (QX_of (Lw rfl rfl rfl rfl) NE_load) rfl rfl ?_ | refine aQ 3 hst rfl rfl (by decide +kernel) (QX_of (La rfl rfl rfl rfl rfl) NE_load) rfl rfl ?_
               refine aQ 4 hst rfl rfl (by decide +kernel) (QX_call0 (toPoint_con _ qla) rfl rfl rfl) rfl rfl ?_
               refine AW_one (i := 5) (by decide +kernel) ?_
               refine gCall rfl rfl (him) [] 1 rfl rfl (Fits.mk' vHn rfl rfl (by first | (simp; done) | exact glOk rfl rfl rfl)) rfl rfl rfl ?_
               rintro r H1 hR
               obtain ⟨k2, sp2, hk2, hs2, rfl, rfl⟩ := listR_pos hcd hR
               refine ⟨.tuple [.slice 4 0 LL.length k2, .int 0], [(4, .ints 32 (LL.flatten ++ sp2))], rfl, keep_pre _ _, rfl, rfl, ?_⟩
               refine aP 6 hst rfl rfl (by decide +kernel) (PX_move rfl rfl) rfl rfl ?_
               refine aExt 7 hst rfl rfl (by decide +kernel) rfl rfl rfl rfl ?_
               refine aExt 8 hst rfl rfl (by decide +kernel) rfl rfl rfl rfl ?_
               refine aQ 9 hst rfl rfl (by decide +kernel) (QX_of (Q_assign rfl rfl) NE_assign) rfl rfl ?_
               refine aQ 10 hst rfl rfl (by decide +kernel) (QX_of (Q_assign rfl rfl) NE_assign) rfl rfl ?_
               refine AW_done (by decide +kernel) ?_
               all_goals with_reducible refine tN ?_
               all_goals (
                refine CW_seq ?_
                refine cR ?_
                iterate 2 refine oM rfl rfl ?_
                refine oQ (Q_call (eqPointS_same 32 32 LL sp2 sp0 k2 k0 h3 (by omega)) [(0, 4), (1, 2)] rfl rfl (Fits.mk' (vHc rfl (vHc rfl vHn)) rfl rfl (by first | (simp; done) | exact glOk rfl rfl rfl)) rfl rfl) rfl rfl ?_
                refine oQ (Q_not rfl) rfl rfl ?_
                refine oM rfl rfl ?_
                all_goals first | refine oT rfl rfl ?_ | refine o1 rfl rfl rfl ?_ | refine o0 rfl rfl rfl ?_ | refine ogP1 rfl rfl rfl (fun hg => ?_) (fun hg => ?_) | refine ogP0 rfl rfl rfl (fun hg => ?_) (fun hg => ?_)
                all_goals try simp only [s1, s2, s3, s4, s5, s6, s7, s8, s9, s10, s11, s12] at hg
                all_goals first | (refine oM rfl rfl ?_) | skip
                all_goals first | refine oT rfl rfl ?_ | refine o1 rfl rfl rfl ?_ | refine o0 rfl rfl rfl ?_ | refine ogP1 rfl rfl rfl (fun hg => ?_) (fun hg => ?_) | refine ogP0 rfl rfl rfl (fun hg => ?_) (fun hg => ?_)
                all_goals try simp only [s1, s2, s3, s4, s5, s6, s7, s8, s9, s10, s11, s12] at hg
                all_goals first | (refine oM rfl rfl ?_) | skip
                all_goals first | refine oT rfl rfl ?_ | refine o1 rfl rfl rfl ?_ | refine o0 rfl rfl rfl ?_ | refine ogP1 rfl rfl rfl (fun hg => ?_) (fun hg => ?_) | refine ogP0 rfl rfl rfl (fun hg => ?_) (fun hg => ?_)
                all_goals try simp only [s1, s2, s3, s4, s5, s6, s7, s8, s9, s10, s11, s12] at hg
                all_goals first | (refine oQ (Q_bin rfl rfl rfl) rfl rfl ?_) | skip
                all_goals first | refine oQ (Q_pick_t rfl (by with_reducible rfl) rfl rfl) rfl rfl ?_ | refine oQ (Q_pick_f rfl (by with_reducible rfl) rfl rfl) rfl rfl ?_
                all_goals refine oN ?_
                all_goals (
                 first | refine cT rfl ?_ | refine cF rfl ?_ | refine CW_cond rfl (fun hc => ?_) (fun hc => ?_)
                 all_goals try simp only [s1, s2, s3, s4, s5, s6, s7, s8, s9, s10, s11, s12] at hc
                 all_goals try (exfalso; first | omega | (simp at hc; done); done)
                 all_goals first
                   | (
                    refine CW_skip ?_)
                   | (
                    refine cR ?_
                    refine oA rfl rfl ?_
                    refine oN ?_
                    refine CW_ret ?_))
                all_goals first
                  | with_reducible refine tR ?_
                  | with_reducible refine tE ?_
                  | (
                   with_reducible refine tN ?_
                   refine cR ?_
                   refine oA rfl rfl ?_
                   refine oN ?_
                   refine cR ?_
                   iterate 2 refine oM rfl rfl ?_
                   refine oQ (Q_call (heldPointS_con 101 32 ((LL.flatten ++ sp1).drop (LL.length * 3)) LL.length k1 (by omega) (by omega)) [(0, 3)] rfl rfl (Fits.mk' (vHc rfl vHn) rfl rfl (by first | (simp; done) | exact glOk rfl rfl rfl)) rfl rfl) rfl rfl ?_
                   refine oA rfl rfl ?_
                   refine oN ?_
                   refine CW_seq ?_
                   refine cR ?_
                   refine oM rfl rfl ?_
                   refine oQ (Q_bin rfl rfl rfl) rfl rfl ?_
                   refine oN ?_
                   first | refine cT rfl ?_ | refine cF rfl ?_ | refine CW_cond rfl (fun hc => ?_) (fun hc => ?_)
                   all_goals try simp only [s1, s2, s3, s4, s5, s6, s7, s8, s9, s10, s11, s12] at hc
                   all_goals try (exfalso; first | omega | (simp at hc; done); done)
                   all_goals first
                     | (
                      refine CW_skip ?_)
                     | (
                      refine cR ?_
                      refine oA rfl rfl ?_
                      refine oN ?_
                      refine CW_ret ?_)
                   all_goals first
                     | with_reducible refine tR ?_
                     | with_reducible refine tE ?_
                     | (
                      with_reducible refine tN ?_
                      refine CW_seq ?_
                      refine cR ?_
                      iterate 2 refine oM rfl rfl ?_
                      refine oQ (Q_bin rfl rfl rfl) rfl rfl ?_
                      refine oN ?_
                      first | refine cT rfl ?_ | refine cF rfl ?_ | refine CW_cond rfl (fun hc => ?_) (fun hc => ?_)
                      all_goals try simp only [s1, s2, s3, s4, s5, s6, s7, s8, s9, s10, s11, s12] at hc
                      all_goals try (exfalso; first | omega | (simp at hc; done); done)
                      all_goals first
                        | (
                         refine CW_skip ?_)
                        | (
                         refine cR ?_
                         refine oA rfl rfl ?_
                         refine oN ?_
                         refine CW_ret ?_)
                      all_goals first
                        | with_reducible refine tR ?_
                        | with_reducible refine tE ?_
                        | (
                         with_reducible refine tN ?_
                         refine cR ?_
                         refine oA rfl rfl ?_
                         refine oN ?_
                         refine CW_ret ?_)))))))))
    all_goals (
     first | ((refine exitQ (.inr rfl) 0 (.cons (.tmp rfl rfl) .nil) ?_ rfl vHn rfl rfl); rfl) | (exfalso; simp at hg; done) | (exfalso; simp_all; done))
  · skip
    refine conW tab_ok [(0, .int p), (1, .arr c), (2, .arr a)] 0 [] [] Try.func6 rfl rfl rfl rfl rfl rfl rfl rfl rfl ?_
    refine cR ?_
    iterate 2 refine oBox rfl rfl rfl rfl rfl rfl ?_
    refine oA rfl rfl ?_
    refine oN ?_
    refine CW_seq ?_
    refine CW_any (fun _ => false) 11 rfl lateOk (by decide +kernel) (fun hst => ?_)
    refine aP 0 hst rfl rfl (by decide +kernel) (PX_move rfl rfl) rfl rfl ?_
    first | refine aQ 1 hst rfl rfl (by decide +kernel) (QX_of (Lw rfl rfl rfl rfl) NE_load) rfl rfl ?_ | refine aQ 1 hst rfl rfl (by decide +kernel) (QX_of (La rfl rfl rfl rfl rfl) NE_load) rfl rfl ?_
    refine aQ 2 hst rfl rfl (by decide +kernel) (QX_call0 (toConic_con _ qlc) rfl rfl rfl) rfl rfl ?_
    first | refine aQ 3 hst rfl rfl (by decide +kernel) (QX_of (Lw rfl rfl rfl rfl) NE_load) rfl rfl ?_ | refine aQ 3 hst rfl rfl (by decide +kernel) (QX_of (La rfl rfl rfl rfl rfl) NE_load) rfl rfl ?_
    refine aQ 4 hst rfl rfl (by decide +kernel) (QX_call0 (toPoint_con _ qla) rfl rfl rfl) rfl rfl ?_
    refine AW_one (i := 5) (by decide +kernel) ?_
    refine gCall rfl rfl (spec_PolarTriangle_con p c a qlc qla) [] 0 rfl rfl (Fits.mk' vHn rfl rfl (by first | (simp; done) | exact glOk rfl rfl rfl)) rfl rfl rfl ?_
    rintro r H1 hR
    obtain ⟨rfl, rfl⟩ := listR_neg hcd hR
    refine ⟨.tuple [.nilsl, .int (trC p c a)], [], rfl, keep_pre _ _, rfl, rfl, ?_⟩
    refine aP 6 hst rfl rfl (by decide +kernel) (PX_move rfl rfl) rfl rfl ?_
    refine aExt 7 hst rfl rfl (by decide +kernel) rfl rfl rfl rfl ?_
    refine aExt 8 hst rfl rfl (by decide +kernel) rfl rfl rfl rfl ?_
    refine aQ 9 hst rfl rfl (by decide +kernel) (QX_of (Q_assign rfl rfl) NE_assign) rfl rfl ?_
    refine aQ 10 hst rfl rfl (by decide +kernel) (QX_of (Q_assign rfl rfl) NE_assign) rfl rfl ?_
    refine AW_done (by decide +kernel) ?_
    all_goals with_reducible refine tN ?_
    all_goals (
     refine CW_seq ?_
     refine CW_any (fun _ => false) 11 rfl lateOk (by decide +kernel) (fun hst => ?_)
     refine aP 0 hst rfl rfl (by decide +kernel) (PX_move rfl rfl) rfl rfl ?_
     first | refine aQ 1 hst rfl rfl (by decide +kernel) (QX_of (Lw rfl rfl rfl rfl) NE_load) rfl rfl ?_ | refine aQ 1 hst rfl rfl (by decide +kernel) (QX_of (La rfl rfl rfl rfl rfl) NE_load) rfl rfl ?_
     refine aQ 2 hst rfl rfl (by decide +kernel) (QX_call0 (toConic_con _ qlc) rfl rfl rfl) rfl rfl ?_
     first | refine aQ 3 hst rfl rfl (by decide +kernel) (QX_of (Lw rfl rfl rfl rfl) NE_load) rfl rfl ?_ | refine aQ 3 hst rfl rfl (by decide +kernel) (QX_of (La rfl rfl rfl rfl rfl) NE_load) rfl rfl ?_
     refine aQ 4 hst rfl rfl (by decide +kernel) (QX_call0 (toPoint_con _ qla) rfl rfl rfl) rfl rfl ?_
     refine AW_one (i := 5) (by decide +kernel) ?_
     refine gCall rfl rfl (impl_PolarTriangle_con p c a qlc qla) [] 0 rfl rfl (Fits.mk' vHn rfl rfl (by first | (simp; done) | exact glOk rfl rfl rfl)) rfl rfl rfl ?_
     rintro r H1 hR
     obtain ⟨rfl, rfl⟩ := listR_neg hcd hR
     refine ⟨.tuple [.nilsl, .int (trC p c a)], [], rfl, keep_pre _ _, rfl, rfl, ?_⟩
     refine aP 6 hst rfl rfl (by decide +kernel) (PX_move rfl rfl) rfl rfl ?_
     refine aExt 7 hst rfl rfl (by decide +kernel) rfl rfl rfl rfl ?_
     refine aExt 8 hst rfl rfl (by decide +kernel) rfl rfl rfl rfl ?_
     refine aQ 9 hst rfl rfl (by decide +kernel) (QX_of (Q_assign rfl rfl) NE_assign) rfl rfl ?_
     refine aQ 10 hst rfl rfl (by decide +kernel) (QX_of (Q_assign rfl rfl) NE_assign) rfl rfl ?_
     refine AW_done (by decide +kernel) ?_
     all_goals with_reducible refine tN ?_
     all_goals (
      refine CW_seq ?_
      refine cR ?_
      iterate 2 refine oM rfl rfl ?_
      refine oQ (Q_call0 (eqPointS_nn) rfl rfl rfl) rfl rfl ?_
      refine oQ (Q_not rfl) rfl rfl ?_
      refine oM rfl rfl ?_
      all_goals first | refine oT rfl rfl ?_ | refine o1 rfl rfl rfl ?_ | refine o0 rfl rfl rfl ?_ | refine ogP1 rfl rfl rfl (fun hg => ?_) (fun hg => ?_) | refine ogP0 rfl rfl rfl (fun hg => ?_) (fun hg => ?_)
      all_goals try simp only [s1, s2, s3, s4, s5, s6, s7, s8, s9, s10, s11, s12] at hg
      all_goals first | (refine oM rfl rfl ?_) | skip
      all_goals first | refine oT rfl rfl ?_ | refine o1 rfl rfl rfl ?_ | refine o0 rfl rfl rfl ?_ | refine ogP1 rfl rfl rfl (fun hg => ?_) (fun hg => ?_) | refine ogP0 rfl rfl rfl (fun hg => ?_) (fun hg => ?_)
      all_goals try simp only [s1, s2, s3, s4, s5, s6, s7, s8, s9, s10, s11, s12] at hg
      all_goals first | (refine oM rfl rfl ?_) | skip
      all_goals first | refine oT rfl rfl ?_ | refine o1 rfl rfl rfl ?_ | refine o0 rfl rfl rfl ?_ | refine ogP1 rfl rfl rfl (fun hg => ?_) (fun hg => ?_) | refine ogP0 rfl rfl rfl (fun hg => ?_) (fun hg => ?_)
      all_goals try simp only [s1, s2, s3, s4, s5, s6, s7, s8, s9, s10, s11, s12] at hg
      all_goals first | (refine oQ (Q_bin rfl rfl rfl) rfl rfl ?_) | skip
      all_goals first | refine oQ (Q_pick_t rfl (by with_reducible rfl) rfl rfl) rfl rfl ?_ | refine oQ (Q_pick_f rfl (by with_reducible rfl) rfl rfl) rfl rfl ?_
      all_goals refine oN ?_
      all_goals (
       first | refine cT rfl ?_ | refine cF rfl ?_ | refine CW_cond rfl (fun hc => ?_) (fun hc => ?_)
       all_goals try simp only [s1, s2, s3, s4, s5, s6, s7, s8, s9, s10, s11, s12] at hc
       all_goals try (exfalso; first | omega | (simp at hc; done); done)
       all_goals first
         | (
          refine CW_skip ?_)
         | (
          refine cR ?_
          refine oA rfl rfl ?_
          refine oN ?_
          refine CW_ret ?_))
      all_goals first
        | with_reducible refine tR ?_
        | with_reducible refine tE ?_
        | (
         with_reducible refine tN ?_
         refine cR ?_
         refine oA rfl rfl ?_
         refine oN ?_
         refine cR ?_
         iterate 2 refine oM rfl rfl ?_
         refine oQ (Q_call0 (markPointS_nil 101) rfl rfl rfl) rfl rfl ?_
         refine oA rfl rfl ?_
         refine oN ?_
         refine cR ?_
         refine oA rfl rfl ?_
         refine oN ?_
         refine cR ?_
         iterate 2 refine oM rfl rfl ?_
         refine oQ (Q_call0 (heldPointS_nil 101) rfl rfl rfl) rfl rfl ?_
         refine oA rfl rfl ?_
         refine oN ?_
         refine CW_seq ?_
         refine cR ?_
         refine oM rfl rfl ?_
         refine oQ (Q_bin rfl rfl rfl) rfl rfl ?_
         refine oN ?_
         first | refine cT rfl ?_ | refine cF rfl ?_ | refine CW_cond rfl (fun hc => ?_) (fun hc => ?_)
         all_goals try simp only [s1, s2, s3, s4, s5, s6, s7, s8, s9, s10, s11, s12] at hc
         all_goals try (exfalso; first | omega | (simp at hc; done); done)
         all_goals first
           | (
            refine CW_skip ?_)
           | (
            refine cR ?_
            refine oA rfl rfl ?_
            refine oN ?_
            refine CW_ret ?_)
         all_goals first
           | with_reducible refine tR ?_
           | with_reducible refine tE ?_
           | (
            with_reducible refine tN ?_
            refine CW_seq ?_
            refine cR ?_
            iterate 2 refine oM rfl rfl ?_
            refine oQ (Q_bin rfl rfl rfl) rfl rfl ?_
            refine oN ?_
            first | refine cT rfl ?_ | refine cF rfl ?_ | refine CW_cond rfl (fun hc => ?_) (fun hc => ?_)
            all_goals try simp only [s1, s2, s3, s4, s5, s6, s7, s8, s9, s10, s11, s12] at hc
            all_goals try (exfalso; first | omega | (simp at hc; done); done)
            all_goals first
              | (
               refine CW_skip ?_)
              | (
               refine cR ?_
               refine oA rfl rfl ?_
               refine oN ?_
               refine CW_ret ?_)
            all_goals first
              | with_reducible refine tR ?_
              | with_reducible refine tE ?_
              | (
               with_reducible refine tN ?_
               refine CW_seq ?_
               refine CW_any (fun _ => false) 11 rfl lateOk (by decide +kernel) (fun hst => ?_)
               refine aP 0 hst rfl rfl (by decide +kernel) (PX_move rfl rfl) rfl rfl ?_
               first | refine aQ 1 hst rfl rfl (by decide +kernel) (QX_of (Lw rfl rfl rfl rfl) NE_load) rfl rfl ?_ | refine aQ 1 hst rfl rfl (by decide +kernel) (QX_of (La rfl rfl rfl rfl rfl) NE_load) rfl rfl ?_
               refine aQ 2 hst rfl rfl (by decide +kernel) (QX_call0 (toConic_con _ qlc) rfl rfl rfl) rfl rfl ?_
               first | refine aQ 3 hst rfl rfl (by decide +kernel) (QX_of (Lw rfl rfl rfl rfl) NE_load) rfl rfl ?_ | refine aQ 3 hst rfl rfl (by decide +kernel) (QX_of (La rfl rfl rfl rfl rfl) NE_load) rfl rfl ?_
               refine aQ 4 hst rfl rfl (by decide +kernel) (QX_call0 (toPoint_con _ qla) rfl rfl rfl) rfl rfl ?_
               refine AW_one (i := 5) (by decide +kernel) ?_
               refine gCall rfl rfl (impl_PolarTriangle_con p c a qlc qla) [] 0 rfl rfl (Fits.mk' vHn rfl rfl (by first | (simp; done) | exact glOk rfl rfl rfl)) rfl rfl rfl ?_
               rintro r H1 hR
               obtain ⟨rfl, rfl⟩ := listR_neg hcd hR
               refine ⟨.tuple [.nilsl, .int (trC p c a)], [], rfl, keep_pre _ _, rfl, rfl, ?_⟩
               refine aP 6 hst rfl rfl (by decide +kernel) (PX_move rfl rfl) rfl rfl ?_
               refine aExt 7 hst rfl rfl (by decide +kernel) rfl rfl rfl rfl ?_
               refine aExt 8 hst rfl rfl (by decide +kernel) rfl rfl rfl rfl ?_
               refine aQ 9 hst rfl rfl (by decide +kernel) (QX_of (Q_assign rfl rfl) NE_assign) rfl rfl ?_
               refine aQ 10 hst rfl rfl (by decide +kernel) (QX_of (Q_assign rfl rfl) NE_assign) rfl rfl ?_
               refine AW_done (by decide +kernel) ?_
               all_goals with_reducible refine tN ?_
               all_goals (
                refine CW_seq ?_
                refine cR ?_
                iterate 2 refine oM rfl rfl ?_
                refine oQ (Q_call0 (eqPointS_nn) rfl rfl rfl) rfl rfl ?_
                refine oQ (Q_not rfl) rfl rfl ?_
                refine oM rfl rfl ?_
                all_goals first | refine oT rfl rfl ?_ | refine o1 rfl rfl rfl ?_ | refine o0 rfl rfl rfl ?_ | refine ogP1 rfl rfl rfl (fun hg => ?_) (fun hg => ?_) | refine ogP0 rfl rfl rfl (fun hg => ?_) (fun hg => ?_)
                all_goals try simp only [s1, s2, s3, s4, s5, s6, s7, s8, s9, s10, s11, s12] at hg
                all_goals first | (refine oM rfl rfl ?_) | skip
                all_goals first | refine oT rfl rfl ?_ | refine o1 rfl rfl rfl ?_ | refine o0 rfl rfl rfl ?_ | refine ogP1 rfl rfl rfl (fun hg => ?_) (fun hg => ?_) | refine ogP0 rfl rfl rfl (fun hg => ?_) (fun hg => ?_)
                all_goals try simp only [s1, s2, s3, s4, s5, s6, s7, s8, s9, s10, s11, s12] at hg
                all_goals first | (refine oM rfl rfl ?_) | skip
                all_goals first | refine oT rfl rfl ?_ | refine o1 rfl rfl rfl ?_ | refine o0 rfl rfl rfl ?_ | refine ogP1 rfl rfl rfl (fun hg => ?_) (fun hg => ?_) | refine ogP0 rfl rfl rfl (fun hg => ?_) (fun hg => ?_)
                all_goals try simp only [s1, s2, s3, s4, s5, s6, s7, s8, s9, s10, s11, s12] at hg
                all_goals first | (refine oQ (Q_bin rfl rfl rfl) rfl rfl ?_) | skip
                all_goals first | refine oQ (Q_pick_t rfl (by with_reducible rfl) rfl rfl) rfl rfl ?_ | refine oQ (Q_pick_f rfl (by with_reducible rfl) rfl rfl) rfl rfl ?_
                all_goals refine oN ?_
                all_goals (
                 first | refine cT rfl ?_ | refine cF rfl ?_ | refine CW_cond rfl (fun hc => ?_) (fun hc => ?_)
                 all_goals try simp only [s1, s2, s3, s4, s5, s6, s7, s8, s9, s10, s11, s12] at hc
                 all_goals try (exfalso; first | omega | (simp at hc; done); done)
                 all_goals first
                   | (
                    refine CW_skip ?_)
                   | (
                    refine cR ?_
                    refine oA rfl rfl ?_
                    refine oN ?_
                    refine CW_ret ?_))
                all_goals first
                  | with_reducible refine tR ?_
                  | with_reducible refine tE ?_
                  | (
                   with_reducible refine tN ?_
                   refine cR ?_
                   refine oA rfl rfl ?_
                   refine oN ?_
                   refine cR ?_
                   iterate 2 refine oM rfl rfl ?_
                   refine oQ (Q_call0 (heldPointS_nil 101) rfl rfl rfl) rfl rfl ?_
                   refine oA rfl rfl ?_
                   refine oN ?_
                   refine CW_seq ?_
                   refine cR ?_
                   refine oM rfl rfl ?_
                   refine oQ (Q_bin rfl rfl rfl) rfl rfl ?_
                   refine oN ?_
                   first | refine cT rfl ?_ | refine cF rfl ?_ | refine CW_cond rfl (fun hc => ?_) (fun hc => ?_)
                   all_goals try simp only [s1, s2, s3, s4, s5, s6, s7, s8, s9, s10, s11, s12] at hc
                   all_goals try (exfalso; first | omega | (simp at hc; done); done)
                   all_goals first
                     | (
                      refine CW_skip ?_)
                     | (
                      refine cR ?_
                      refine oA rfl rfl ?_
                      refine oN ?_
                      refine CW_ret ?_)
                   all_goals first
                     | with_reducible refine tR ?_
                     | with_reducible refine tE ?_
                     | (
                      with_reducible refine tN ?_
                      refine CW_seq ?_
                      refine cR ?_
                      iterate 2 refine oM rfl rfl ?_
                      refine oQ (Q_bin rfl rfl rfl) rfl rfl ?_
                      refine oN ?_
                      first | refine cT rfl ?_ | refine cF rfl ?_ | refine CW_cond rfl (fun hc => ?_) (fun hc => ?_)
                      all_goals try simp only [s1, s2, s3, s4, s5, s6, s7, s8, s9, s10, s11, s12] at hc
                      all_goals try (exfalso; first | omega | (simp at hc; done); done)
                      all_goals first
                        | (
                         refine CW_skip ?_)
                        | (
                         refine cR ?_
                         refine oA rfl rfl ?_
                         refine oN ?_
                         refine CW_ret ?_)
                      all_goals first
                        | with_reducible refine tR ?_
                        | with_reducible refine tE ?_
                        | (
                         with_reducible refine tN ?_
                         refine cR ?_
                         refine oA rfl rfl ?_
                         refine oN ?_
                         refine CW_ret ?_)))))))))
    all_goals (
     first | ((refine exitQ (.inr rfl) 0 (.cons (.tmp rfl rfl) .nil) ?_ rfl vHn rfl rfl); rfl) | (exfalso; simp at hg; done) | (exfalso; simp_all; done))
end Go.Proofs.Ytoiolpgmilobnaa
