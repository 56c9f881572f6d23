/- Polars; TangentAt of both sides. Printed by gen_q7.py. -/
import Derived.Test.YtgfncdejnjikpaaQ6
namespace Go.Proofs.Ytgfncdejnjikpaa
attribute [local irreducible] CW OW QW QOp Con thenP inBlockP AW QX RW
set_option maxRecDepth 10000
set_option linter.unusedSimpArgs false
set_option linter.unusedVariables false
theorem l01Made_con (p x y z : Int) (hp : primeB p = true) : ConQ Try.prog [] 140 [.int p, .int x, .int y, .int z] [] (.tuple [.arr (normL p [x, y, z]), .bool (facP p [x, y, z] != 0)]) := by
  have hb := prime_bd hp
  have hnl := normL_length p [x, y, z]
  have hzz := fun h => normL_zero (p := p) (l := [x, y, z]) h
  have hno := l01Norm_con p 2 [x, y, z] 3 3 (by simp) hp (by omega)
  simp only [List.take_of_length_le (show [x, y, z].length ≤ 3 from Nat.le_refl _)] at hno
  generalize hNN : normL p [x, y, z] = NN at *
  generalize hff : facP p [x, y, z] = ff at *
  match NN, hnl with
  | [n0, n1, n2], _ =>
    refine conW tab_ok [(0, .int p), (1, .int x), (2, .int y), (3, .int z)] 0 [] [] Try.func140 rfl rfl rfl rfl rfl rfl rfl rfl rfl ?_
    refine CW_seq ?_
    refine CW_region ?_
    refine oAlloc rfl rfl rfl rfl rfl rfl rfl ?_
    refine oQ (Q_assign rfl rfl) rfl rfl ?_
    refine OW_nil ?_
    all_goals with_reducible refine tN ?_
    all_goals (
        refine CW_seq ?_
        refine CW_region ?_
        refine oQ (Q_move rfl rfl) rfl rfl ?_
        refine oQ (Q_move rfl rfl) rfl rfl ?_
        refine oQ (Q_move rfl rfl) rfl rfl ?_
        refine oQ (Q_move rfl rfl) rfl rfl ?_
        refine oBsl (r := [x, y, z]) (zl := []) rfl rfl rfl rfl (.inl ⟨rfl, rfl⟩) rfl rfl rfl rfl rfl rfl ?_
        refine oCall (hno) [(0, 1)] 2 rfl rfl (Fits.mk' (vHc rfl vHn) rfl rfl (by simp)) rfl rfl ?_
        rintro r H1 ⟨k', sp, hk1, hk2, rfl, rfl⟩
        refine ⟨.tuple [.slice 3 0 3 k', .bool (ff != 0)], [(1, .ints 2 [x, y, z]), (3, .ints 2 ([n0, n1, n2] ++ sp))], rfl, rfl, rfl, ?_⟩
        refine oQ (Q_move rfl rfl) rfl rfl ?_
        refine oQ (Q_extract rfl rfl) rfl rfl ?_
        refine oQ (Q_extract rfl rfl) rfl rfl ?_
        refine oQ (Q_assign rfl rfl) rfl rfl ?_
        refine oQ (Q_assign rfl rfl) rfl rfl ?_
        refine OW_nil ?_
        all_goals with_reducible refine tN ?_
        all_goals (
            refine CW_seq ?_
            refine CW_seq ?_
            refine CW_region ?_
            refine oQ (Q_move rfl rfl) rfl rfl ?_
            refine oQ (Q_not rfl) rfl rfl ?_
            refine OW_nil ?_
            all_goals with_reducible refine tN ?_
            all_goals (
                first | refine CW_cond_t rfl (by with_reducible rfl) ?_ | refine CW_cond_f rfl (by with_reducible rfl) ?_ | refine CW_cond rfl (fun hc => ?_) (fun hc => ?_)
                all_goals try simp only [decide_eq_true_eq, decide_eq_false_iff_not, beq_iff_eq, beq_eq_false_iff_ne, bne_iff_ne, bne_eq_false_iff_eq, Bool.not_eq_true', Bool.not_eq_false', Int.not_lt, Int.not_le, ne_eq, not_false_eq_true] at hc
                all_goals first
                  | (
                    refine CW_skip ?_)
                  | (
                    refine CW_seq ?_
                    refine CW_region ?_
                    refine oQ (Q_build rfl rfl rfl rfl rfl rfl rfl rfl) rfl rfl ?_
                    first | refine oStw rfl rfl rfl rfl (by first | omega | (dsimp only; omega) | (simp; omega) | (simp; done)) (by first | omega | (dsimp only; omega) | (simp; omega) | (simp; done)) ?_ | refine oSta rfl rfl rfl rfl (by first | omega | (dsimp only; omega) | (simp; omega) | (simp; done)) (by first | omega | (dsimp only; omega) | (simp; omega) | (simp; done)) ?_
                    refine oQ (Q_assign rfl rfl) rfl rfl ?_
                    refine OW_nil ?_
                    all_goals with_reducible refine tN ?_
                    all_goals (
                        refine CW_ret ?_)))
            all_goals first
              | with_reducible refine tR ?_
              | with_reducible refine tE ?_
              | (
                with_reducible refine tN ?_
                refine CW_seq ?_
                refine CW_any (fun i => List.elem i [10, 11]) 12 rfl lateOk (by decide +kernel) (fun hst => ?_)
                refine aQ 0 hst rfl rfl (by decide +kernel) (QX_of (Q_move rfl rfl) NE_move) rfl rfl ?_
                first | refine aQ 1 hst rfl rfl (by decide +kernel) (QX_of (Q_ixs0 rfl rfl rfl rfl rfl rfl (by first | omega | (dsimp only; omega) | (simp; omega) | (simp; done))) NE_ix) rfl rfl ?_ | refine aQ 1 hst rfl rfl (by decide +kernel) (QX_of (Q_ixs1 rfl rfl rfl rfl rfl rfl (by first | omega | (dsimp only; omega) | (simp; omega) | (simp; done))) NE_ix) rfl rfl ?_
                first | refine aQ 2 hst rfl rfl (by decide +kernel) (QX_of (Q_ldc rfl rfl rfl rfl rfl) NE_load) rfl rfl ?_ | refine aQ 2 hst rfl rfl (by decide +kernel) (QX_of (Q_ld rfl rfl rfl rfl (by first | omega | (dsimp only; omega) | (simp; omega) | (simp; done))) NE_load) rfl rfl ?_
                refine aQ 3 hst rfl rfl (by decide +kernel) (QX_of (Q_move rfl rfl) NE_move) rfl rfl ?_
                first | refine aQ 4 hst rfl rfl (by decide +kernel) (QX_of (Q_ixs0 rfl rfl rfl rfl rfl rfl (by first | omega | (dsimp only; omega) | (simp; omega) | (simp; done))) NE_ix) rfl rfl ?_ | refine aQ 4 hst rfl rfl (by decide +kernel) (QX_of (Q_ixs1 rfl rfl rfl rfl rfl rfl (by first | omega | (dsimp only; omega) | (simp; omega) | (simp; done))) NE_ix) rfl rfl ?_
                first | refine aQ 5 hst rfl rfl (by decide +kernel) (QX_of (Q_ldc rfl rfl rfl rfl rfl) NE_load) rfl rfl ?_ | refine aQ 5 hst rfl rfl (by decide +kernel) (QX_of (Q_ld rfl rfl rfl rfl (by first | omega | (dsimp only; omega) | (simp; omega) | (simp; done))) NE_load) rfl rfl ?_
                refine aQ 6 hst rfl rfl (by decide +kernel) (QX_of (Q_move rfl rfl) NE_move) rfl rfl ?_
                first | refine aQ 7 hst rfl rfl (by decide +kernel) (QX_of (Q_ixs0 rfl rfl rfl rfl rfl rfl (by first | omega | (dsimp only; omega) | (simp; omega) | (simp; done))) NE_ix) rfl rfl ?_ | refine aQ 7 hst rfl rfl (by decide +kernel) (QX_of (Q_ixs1 rfl rfl rfl rfl rfl rfl (by first | omega | (dsimp only; omega) | (simp; omega) | (simp; done))) NE_ix) rfl rfl ?_
                first | refine aQ 8 hst rfl rfl (by decide +kernel) (QX_of (Q_ldc rfl rfl rfl rfl rfl) NE_load) rfl rfl ?_ | refine aQ 8 hst rfl rfl (by decide +kernel) (QX_of (Q_ld rfl rfl rfl rfl (by first | omega | (dsimp only; omega) | (simp; omega) | (simp; done))) NE_load) rfl rfl ?_
                refine aQ 9 hst rfl rfl (by decide +kernel) (QX_of (Q_build rfl rfl rfl rfl rfl rfl rfl rfl) NE_build) rfl rfl ?_
                refine AW_last [10, 11] rfl (by decide +kernel) rfl ?_
                first | refine oStw rfl rfl rfl rfl (by first | omega | (dsimp only; omega) | (simp; omega) | (simp; done)) (by first | omega | (dsimp only; omega) | (simp; omega) | (simp; done)) ?_ | refine oSta rfl rfl rfl rfl (by first | omega | (dsimp only; omega) | (simp; omega) | (simp; done)) (by first | omega | (dsimp only; omega) | (simp; omega) | (simp; done)) ?_
                refine oQ (Q_assign rfl rfl) rfl rfl ?_
                refine OW_nil (npN ?_)
                all_goals with_reducible refine tN ?_
                all_goals (
                    refine CW_ret ?_))))
    all_goals (
        refine exitQ (.inr rfl) 0 (.cons (.arr rfl rfl rfl rfl (by first | omega | (dsimp only; omega) | (simp; omega) | (simp; done))) (.cons (.tmp rfl rfl) .nil)) ?_ rfl vHn rfl rfl
        first
          | (have hf : ff = 0 := hc
             simp only [resV, hf]
             rw [hzz hf]
             rfl)
          | (have hf : ¬ ff = 0 := hc
             simp only [resV]
             rw [show (ff != 0) = true by simpa using hf]
             rfl))
theorem matrix_con6 (p a b c d e f : Int) (hp : primeB p = true) (h1 : sm 13 [a, b, c, d, e, f]) : ConQ Try.prog [] 142 [.arr [a, b, c, d, e, f], .int p] [] (.arr (matV p [a, b, c, d, e, f])) := by
  have hpb := prime_bd hp
  have hA := h1 a (by simp)
  have hB := h1 b (by simp)
  have hC := h1 c (by simp)
  have hrl : (matRaw [a, b, c, d, e, f]).length = 9 := rfl
  refine conW tab_ok [(0, .arr [a, b, c, d, e, f]), (1, .int p)] 0 [] [] Try.func142 rfl rfl rfl rfl rfl rfl rfl rfl rfl ?_
  refine CW_seq ?_
  refine CW_region ?_
  refine oBox rfl rfl rfl rfl rfl rfl ?_
  refine oAlloc rfl rfl rfl rfl rfl rfl rfl ?_
  refine OW_nil ?_
  all_goals with_reducible refine tN ?_
  all_goals (
      refine CW_seq ?_
      refine CW_region ?_
      first | refine oQ (Q_ixa0 rfl rfl rfl rfl rfl rfl (by first | omega | (dsimp only; omega) | (simp; omega) | (simp; done))) rfl rfl ?_ | refine oQ (Q_ixa1 rfl rfl rfl rfl rfl rfl (by first | omega | (dsimp only; omega) | (simp; omega) | (simp; done))) rfl rfl ?_
      first | refine oQ (Q_ldc rfl rfl rfl rfl rfl) rfl rfl ?_ | refine oQ (Q_ld rfl rfl rfl rfl (by first | omega | (dsimp only; omega) | (simp; omega) | (simp; done))) rfl rfl ?_
      first | refine oQ (Q_binu rfl rfl rfl (by omega)) rfl rfl ?_ | refine oQ (Q_bin rfl rfl rfl) rfl rfl ?_
      first | refine oQ (Q_ixa0 rfl rfl rfl rfl rfl rfl (by first | omega | (dsimp only; omega) | (simp; omega) | (simp; done))) rfl rfl ?_ | refine oQ (Q_ixa1 rfl rfl rfl rfl rfl rfl (by first | omega | (dsimp only; omega) | (simp; omega) | (simp; done))) rfl rfl ?_
      first | refine oQ (Q_ldc rfl rfl rfl rfl rfl) rfl rfl ?_ | refine oQ (Q_ld rfl rfl rfl rfl (by first | omega | (dsimp only; omega) | (simp; omega) | (simp; done))) rfl rfl ?_
      first | refine oQ (Q_ixa0 rfl rfl rfl rfl rfl rfl (by first | omega | (dsimp only; omega) | (simp; omega) | (simp; done))) rfl rfl ?_ | refine oQ (Q_ixa1 rfl rfl rfl rfl rfl rfl (by first | omega | (dsimp only; omega) | (simp; omega) | (simp; done))) rfl rfl ?_
      first | refine oQ (Q_ldc rfl rfl rfl rfl rfl) rfl rfl ?_ | refine oQ (Q_ld rfl rfl rfl rfl (by first | omega | (dsimp only; omega) | (simp; omega) | (simp; done))) rfl rfl ?_
      refine oQ (Q_build (r := [2 * a, d, e]) rfl rfl rfl rfl rfl rfl rfl rfl) rfl rfl ?_
      first | refine oQ (Q_ixa0 rfl rfl rfl rfl rfl rfl (by first | omega | (dsimp only; omega) | (simp; omega) | (simp; done))) rfl rfl ?_ | refine oQ (Q_ixa1 rfl rfl rfl rfl rfl rfl (by first | omega | (dsimp only; omega) | (simp; omega) | (simp; done))) rfl rfl ?_
      first | refine oQ (Q_ldc rfl rfl rfl rfl rfl) rfl rfl ?_ | refine oQ (Q_ld rfl rfl rfl rfl (by first | omega | (dsimp only; omega) | (simp; omega) | (simp; done))) rfl rfl ?_
      first | refine oQ (Q_ixa0 rfl rfl rfl rfl rfl rfl (by first | omega | (dsimp only; omega) | (simp; omega) | (simp; done))) rfl rfl ?_ | refine oQ (Q_ixa1 rfl rfl rfl rfl rfl rfl (by first | omega | (dsimp only; omega) | (simp; omega) | (simp; done))) rfl rfl ?_
      first | refine oQ (Q_ldc rfl rfl rfl rfl rfl) rfl rfl ?_ | refine oQ (Q_ld rfl rfl rfl rfl (by first | omega | (dsimp only; omega) | (simp; omega) | (simp; done))) rfl rfl ?_
      first | refine oQ (Q_binu rfl rfl rfl (by omega)) rfl rfl ?_ | refine oQ (Q_bin rfl rfl rfl) rfl rfl ?_
      first | refine oQ (Q_ixa0 rfl rfl rfl rfl rfl rfl (by first | omega | (dsimp only; omega) | (simp; omega) | (simp; done))) rfl rfl ?_ | refine oQ (Q_ixa1 rfl rfl rfl rfl rfl rfl (by first | omega | (dsimp only; omega) | (simp; omega) | (simp; done))) rfl rfl ?_
      first | refine oQ (Q_ldc rfl rfl rfl rfl rfl) rfl rfl ?_ | refine oQ (Q_ld rfl rfl rfl rfl (by first | omega | (dsimp only; omega) | (simp; omega) | (simp; done))) rfl rfl ?_
      refine oQ (Q_build (r := [d, 2 * b, f]) rfl rfl rfl rfl rfl rfl rfl rfl) rfl rfl ?_
      first | refine oQ (Q_ixa0 rfl rfl rfl rfl rfl rfl (by first | omega | (dsimp only; omega) | (simp; omega) | (simp; done))) rfl rfl ?_ | refine oQ (Q_ixa1 rfl rfl rfl rfl rfl rfl (by first | omega | (dsimp only; omega) | (simp; omega) | (simp; done))) rfl rfl ?_
      first | refine oQ (Q_ldc rfl rfl rfl rfl rfl) rfl rfl ?_ | refine oQ (Q_ld rfl rfl rfl rfl (by first | omega | (dsimp only; omega) | (simp; omega) | (simp; done))) rfl rfl ?_
      first | refine oQ (Q_ixa0 rfl rfl rfl rfl rfl rfl (by first | omega | (dsimp only; omega) | (simp; omega) | (simp; done))) rfl rfl ?_ | refine oQ (Q_ixa1 rfl rfl rfl rfl rfl rfl (by first | omega | (dsimp only; omega) | (simp; omega) | (simp; done))) rfl rfl ?_
      first | refine oQ (Q_ldc rfl rfl rfl rfl rfl) rfl rfl ?_ | refine oQ (Q_ld rfl rfl rfl rfl (by first | omega | (dsimp only; omega) | (simp; omega) | (simp; done))) rfl rfl ?_
      first | refine oQ (Q_ixa0 rfl rfl rfl rfl rfl rfl (by first | omega | (dsimp only; omega) | (simp; omega) | (simp; done))) rfl rfl ?_ | refine oQ (Q_ixa1 rfl rfl rfl rfl rfl rfl (by first | omega | (dsimp only; omega) | (simp; omega) | (simp; done))) rfl rfl ?_
      first | refine oQ (Q_ldc rfl rfl rfl rfl rfl) rfl rfl ?_ | refine oQ (Q_ld rfl rfl rfl rfl (by first | omega | (dsimp only; omega) | (simp; omega) | (simp; done))) rfl rfl ?_
      first | refine oQ (Q_binu rfl rfl rfl (by omega)) rfl rfl ?_ | refine oQ (Q_bin rfl rfl rfl) rfl rfl ?_
      refine oQ (Q_build (r := [e, f, 2 * c]) rfl rfl rfl rfl rfl rfl rfl rfl) rfl rfl ?_
      refine oQ (Q_build (r := matRaw [a, b, c, d, e, f]) rfl rfl rfl rfl rfl rfl rfl rfl) rfl rfl ?_
      refine oAlloc rfl rfl rfl rfl rfl rfl rfl ?_
      first | refine oStw rfl rfl rfl rfl (by first | omega | (dsimp only; omega) | (simp; omega) | (simp; done)) (by first | omega | (dsimp only; omega) | (simp; omega) | (simp; done)) ?_ | refine oSta rfl rfl rfl rfl (by first | omega | (dsimp only; omega) | (simp; omega) | (simp; done)) (by first | omega | (dsimp only; omega) | (simp; omega) | (simp; done)) ?_
      refine OW_nil ?_
      all_goals with_reducible refine tN ?_
      all_goals (
          refine CW_seq ?_
          refine CW_seq ?_
          refine CW_region ?_
          refine oQ (Q_move rfl rfl) rfl rfl ?_
          refine OW_nil ?_
          all_goals with_reducible refine tN ?_
          all_goals (
              refine CW_block ?_
              refine CW_loop (ι := Nat) (fun i => i ≤ 3) (fun i => ⟨[(1, .int p), (4, .ptr 1 0), (5, .ptr 2 0), (33, .int i)], [(1, .ints 146 [0, 0, 0, 0, 0, 0, 0, 0, 0]), (2, .ints 146 (((matRaw [a, b, c, d, e, f]).take (i * 3)).map (· % p) ++ (matRaw [a, b, c, d, e, f]).drop (i * 3)))], 3⟩) (fun i => 3 - i) 0 ?_ ?_ ?_
              · first | trivial | omega | (simp; done) | (simp; omega)
              · refine View.mk' [] rfl rfl rfl ?_ ?_
                repeat' first | exact vFn | refine vFc rfl ?_ | exact vHn | refine vHc rfl ?_ | refine vFc (congrArg (fun z => some (V.int z)) ?_) ?_ | refine vHc (congrArg (fun z => some (Blk.ints _ z)) ?_) ?_ | refine vFc (congrArg (fun z => some (V.bool z)) ?_) ?_ | refine vFs rfl rfl ?_ ?_
              intro i hi
              refine CW_seq ?_
              refine CW_region ?_
              refine oQ (Q_bin rfl rfl rfl) rfl rfl ?_
              refine OW_nil ?_
              all_goals with_reducible refine tN ?_
              all_goals (
                  refine CW_seq ?_
                  first | refine CW_cond_t rfl (by with_reducible rfl) ?_ | refine CW_cond_f rfl (by with_reducible rfl) ?_ | refine CW_cond rfl (fun hc => ?_) (fun hc => ?_)
                  all_goals try simp only [decide_eq_true_eq, decide_eq_false_iff_not, beq_iff_eq, beq_eq_false_iff_ne, bne_iff_ne, bne_eq_false_iff_eq, Bool.not_eq_true', Bool.not_eq_false', Int.not_lt, Int.not_le, ne_eq, not_false_eq_true] at hc
                  all_goals first
                    | (
                      refine CW_skip ?_)
                    | (
                      refine CW_exit ?_)
                  all_goals first
                    | with_reducible refine tR ?_
                    | with_reducible refine tE ?_
                    | (
                      with_reducible refine tN ?_
                      refine CW_seq ?_
                      refine CW_block ?_
                      refine CW_seq ?_
                      refine CW_region ?_
                      refine oQ (Q_move rfl rfl) rfl rfl ?_
                      refine oQ (Q_assign rfl rfl) rfl rfl ?_
                      refine OW_nil ?_
                      all_goals with_reducible refine tN ?_
                      all_goals (
                          refine CW_seq ?_
                          refine CW_region ?_
                          refine oQ (Q_move rfl rfl) rfl rfl ?_
                          refine OW_nil ?_
                          all_goals with_reducible refine tN ?_
                          all_goals (
                              refine CW_block ?_
                              refine CW_loop (ι := Nat) (fun k => k ≤ 3) (fun k => ⟨[(1, .int p), (4, .ptr 1 0), (5, .ptr 2 0), (6, .int i), (33, .int i), (36, .int k)], [(1, .ints 146 [0, 0, 0, 0, 0, 0, 0, 0, 0]), (2, .ints 146 (((matRaw [a, b, c, d, e, f]).take (i * 3 + k)).map (· % p) ++ (matRaw [a, b, c, d, e, f]).drop (i * 3 + k)))], 3⟩) (fun k => 3 - k) 0 ?_ ?_ ?_
                              · first | trivial | omega | (simp; done) | (simp; omega)
                              · refine View.mk' [] rfl rfl rfl ?_ ?_
                                repeat' first | exact vFn | refine vFc rfl ?_ | exact vHn | refine vHc rfl ?_ | refine vFc (congrArg (fun z => some (V.int z)) ?_) ?_ | refine vHc (congrArg (fun z => some (Blk.ints _ z)) ?_) ?_ | refine vFc (congrArg (fun z => some (V.bool z)) ?_) ?_ | refine vFs rfl rfl ?_ ?_
                              intro k hk
                              have hml : (((matRaw [a, b, c, d, e, f]).take (i * 3 + k)).map (· % p)).length = min (i * 3 + k) 9 := by rw [List.length_map, List.length_take, hrl]
                              have hqq : k < 3 → i * 3 + k < 9 := fun h => by omega
                              refine CW_seq ?_
                              refine CW_region ?_
                              refine oQ (Q_bin rfl rfl rfl) rfl rfl ?_
                              refine OW_nil ?_
                              all_goals with_reducible refine tN ?_
                              all_goals (
                                  refine CW_seq ?_
                                  first | refine CW_cond_t rfl (by with_reducible rfl) ?_ | refine CW_cond_f rfl (by with_reducible rfl) ?_ | refine CW_cond rfl (fun hc => ?_) (fun hc => ?_)
                                  all_goals try simp only [decide_eq_true_eq, decide_eq_false_iff_not, beq_iff_eq, beq_eq_false_iff_ne, bne_iff_ne, bne_eq_false_iff_eq, Bool.not_eq_true', Bool.not_eq_false', Int.not_lt, Int.not_le, ne_eq, not_false_eq_true] at hc
                                  all_goals first
                                    | (
                                      refine CW_skip ?_)
                                    | (
                                      refine CW_exit ?_)
                                  all_goals first
                                    | with_reducible refine tR ?_
                                    | with_reducible refine tE ?_
                                    | (
                                      with_reducible refine tN ?_
                                      refine CW_seq ?_
                                      refine CW_block ?_
                                      refine CW_seq ?_
                                      refine CW_region ?_
                                      refine oQ (Q_move rfl rfl) rfl rfl ?_
                                      refine oQ (Q_assign rfl rfl) rfl rfl ?_
                                      refine OW_nil ?_
                                      all_goals with_reducible refine tN ?_
                                      all_goals (
                                          refine CW_any (fun i => List.elem i [11]) 12 rfl lateOk (by decide +kernel) (fun hst => ?_)
                                          refine aQ 0 hst rfl rfl (by decide +kernel) (QX_of (Q_move rfl rfl) NE_move) rfl rfl ?_
                                          refine aQ 1 hst rfl rfl (by decide +kernel) (QX_of (Q_move rfl rfl) NE_move) rfl rfl ?_
                                          refine aQ 2 hst rfl rfl (by decide +kernel) (QX_of (Q_move rfl rfl) NE_move) rfl rfl ?_
                                          refine aQ 3 hst rfl rfl (by decide +kernel) (QX_of (Q_move rfl rfl) NE_move) rfl rfl ?_
                                          refine aQ 4 hst rfl rfl (by decide +kernel) (QX_of (Q_ixa0z 3 rfl rfl rfl rfl rfl rfl (by omega)) NE_ix) rfl rfl ?_
                                          refine aQ 5 hst rfl rfl (by decide +kernel) (QX_of (Q_ixa1 rfl rfl rfl rfl rfl rfl (by omega)) NE_ix) rfl rfl ?_
                                          refine aQ 6 hst rfl rfl (by decide +kernel) (QX_of (Q_ldc rfl rfl rfl rfl (mid_get (by omega) (by omega))) NE_load) rfl rfl ?_
                                          refine aQ 7 hst rfl rfl (by decide +kernel) (QX_of (Q_move rfl rfl) NE_move) rfl rfl ?_
                                          refine aQ 8 hst rfl rfl (by decide +kernel) (QX_call0 (mod_con _ _ (by omega) (by omega)) rfl rfl rfl) rfl rfl ?_
                                          refine aQ 9 hst rfl rfl (by decide +kernel) (QX_of (Q_ixa0z 3 rfl rfl rfl rfl rfl rfl (by omega)) NE_ix) rfl rfl ?_
                                          refine aQ 10 hst rfl rfl (by decide +kernel) (QX_of (Q_ixa1 rfl rfl rfl rfl rfl rfl (by omega)) NE_ix) rfl rfl ?_
                                          refine AW_last [11] rfl (by decide +kernel) rfl ?_
                                          refine oSt rfl rfl rfl rfl rfl (by first | omega | (dsimp only; omega) | (simp; omega) | (simp; done)) ?_
                                          refine OW_nil (npN ?_))
                                      all_goals first | with_reducible refine bN ?_ | with_reducible refine bE ?_ | with_reducible refine bR ?_ | refine bX rfl ?_
                                      all_goals with_reducible refine tN ?_
                                      all_goals (
                                          refine CW_region ?_
                                          first | refine oQ (Q_binu rfl rfl rfl (by omega)) rfl rfl ?_ | refine oQ (Q_bin rfl rfl rfl) rfl rfl ?_
                                          refine oQ (Q_move rfl rfl) rfl rfl ?_
                                          refine OW_nil ?_)))
                              all_goals first
                                | with_reducible refine tR ?_
                                | with_reducible refine tE ?_
                                | (
                                  with_reducible refine tN ?_
                                  refine ⟨k + 1, ?_, ?_, View.mk' [] rfl rfl rfl ?_ ?_⟩
                                  · omega
                                  · omega
                                  all_goals (repeat' first | exact vFn | refine vFc rfl ?_ | exact vHn | refine vHc rfl ?_ | refine vFc (congrArg (fun z => some (V.int z)) ?_) ?_ | refine vHc (congrArg (fun z => some (Blk.ints _ z)) ?_) ?_ | refine vFc (congrArg (fun z => some (V.bool z)) ?_) ?_ | refine vFs rfl rfl ?_ ?_)
                                  all_goals (rw [mid_set (by omega) (by omega), ← Nat.add_assoc, take_snoc (show i * 3 + k < (matRaw [a, b, c, d, e, f]).length by omega), List.map_append]; rfl))
                              all_goals first | with_reducible refine bN ?_ | with_reducible refine bE ?_ | with_reducible refine bR ?_ | refine bX rfl ?_))
                      all_goals first | with_reducible refine bN ?_ | with_reducible refine bE ?_ | with_reducible refine bR ?_ | refine bX rfl ?_
                      all_goals with_reducible refine tN ?_
                      all_goals (
                          refine CW_region ?_
                          first | refine oQ (Q_binu rfl rfl rfl (by omega)) rfl rfl ?_ | refine oQ (Q_bin rfl rfl rfl) rfl rfl ?_
                          refine oQ (Q_move rfl rfl) rfl rfl ?_
                          refine OW_nil ?_)))
              all_goals first
                | with_reducible refine tR ?_
                | with_reducible refine tE ?_
                | (
                  with_reducible refine tN ?_
                  refine ⟨i + 1, ?_, ?_, View.mk' [] rfl rfl rfl ?_ ?_⟩
                  · omega
                  · omega
                  all_goals (repeat' first | exact vFn | refine vFc rfl ?_ | exact vHn | refine vHc rfl ?_ | refine vFc (congrArg (fun z => some (V.int z)) ?_) ?_ | refine vHc (congrArg (fun z => some (Blk.ints _ z)) ?_) ?_ | refine vFc (congrArg (fun z => some (V.bool z)) ?_) ?_ | refine vFs rfl rfl ?_ ?_)
                  all_goals (have e3 : k = 3 := by omega)
                  all_goals (subst e3; simp only [Nat.add_mul, Nat.one_mul]))
              all_goals first | with_reducible refine bN ?_ | with_reducible refine bE ?_ | with_reducible refine bR ?_ | refine bX rfl ?_)
          all_goals with_reducible refine tN ?_
          all_goals (
              refine CW_seq ?_
              refine CW_region ?_
              first | refine oQ (Q_ldw rfl rfl rfl rfl (by first | omega | (dsimp only; omega) | (simp; omega) | (simp; done))) rfl rfl ?_ | refine oQ (Q_lda rfl rfl rfl rfl rfl (by first | omega | (dsimp only; omega) | (simp; omega) | (simp; done))) rfl rfl ?_
              first | refine oStw rfl rfl rfl rfl (by first | omega | (dsimp only; omega) | (simp; omega) | (simp; done)) (by first | omega | (dsimp only; omega) | (simp; omega) | (simp; done)) ?_ | refine oSta rfl rfl rfl rfl (by first | omega | (dsimp only; omega) | (simp; omega) | (simp; done)) (by first | omega | (dsimp only; omega) | (simp; omega) | (simp; done)) ?_
              refine OW_nil ?_
              all_goals with_reducible refine tN ?_
              all_goals (
                  refine CW_ret ?_))))
  all_goals (
      have e3 : i = 3 := by omega
      subst e3
      (refine exitQ (.inr rfl) 0 (.cons (.arr rfl rfl rfl rfl (by first | omega | (dsimp only; omega) | (simp; omega) | (simp; done))) .nil) ?_ rfl vHn rfl rfl); rfl)
theorem matrix_con (p : Int) (c : List Int) (hp : primeB p = true) (hc6 : c.length = 6) (h1 : sm 13 c) : ConQ Try.prog [] 142 [.arr c, .int p] [] (.arr (matV p c)) := by
  match c, hc6, h1 with
  | [a, b, c, d, e, f], _, h1 => exact matrix_con6 p a b c d e f hp h1
theorem sm_emod {p : Int} (hp : primeB p = true) (x : Int) : -13 ≤ x % p ∧ x % p ≤ 13 := by
  have := mod_bd hp x
  have := prime_bd hp
  omega
theorem matV_sm {p : Int} {c : List Int} (hp : primeB p = true) (hc6 : c.length = 6) : sm 13 (matV p c) := by
  match c, hc6 with
  | [a, b, c, d, e, f], _ =>
    intro x hx
    simp only [matV, List.mem_cons, List.not_mem_nil, or_false] at hx
    rcases hx with rfl | rfl | rfl | rfl | rfl | rfl | rfl | rfl | rfl <;> exact sm_emod hp _
theorem matV_length {p : Int} {c : List Int} (hc6 : c.length = 6) : (matV p c).length = 9 := by
  match c, hc6 with
  | [a, b, c, d, e, f], _ => rfl
theorem sm_take {B : Int} {l : List Int} (h : sm B l) (n : Nat) : sm B (l.take n) := fun x hx => h x (List.mem_of_mem_take hx)
theorem sm_drop {B : Int} {l : List Int} (h : sm B l) (n : Nat) : sm B (l.drop n) := fun x hx => h x (List.mem_of_mem_drop hx)
theorem polar_con (p : Int) (c a : List Int) (hp : primeB p = true) (hc6 : c.length = 6) (ha3 : a.length = 3) (h1 : sm 13 c) (h2 : sm 13 a) : ConQ Try.prog [] 88 [.arr c, .int p, .arr a] [] (.tuple [.arr (normL p (polX p c a)), .bool (facP p (polX p c a) != 0)]) := by
  have hpb := prime_bd hp
  have hms := matV_sm (p := p) hp hc6
  have hml := matV_length (p := p) hc6
  have hnl := normL_length p (polX p c a)
  have hpl : (polX p c a).length = 3 := rfl
  have hpm : normL p [dotV ((matV p c).take 3) a % p, dotV (((matV p c).drop 3).take 3) a % p, dotV (((matV p c).drop 6).take 3) a % p] = normL p (polX p c a) := normL_mod p (polX p c a)
  have hpf : facP p [dotV ((matV p c).take 3) a % p, dotV (((matV p c).drop 3).take 3) a % p, dotV (((matV p c).drop 6).take 3) a % p] = facP p (polX p c a) := fac_mod p (polX p c a)
  refine conW tab_ok [(0, .arr c), (1, .int p), (2, .arr a)] 0 [] [] Try.func88 rfl rfl rfl rfl rfl rfl rfl rfl rfl ?_
  refine CW_seq ?_
  refine CW_region ?_
  refine oBox rfl rfl rfl rfl rfl rfl ?_
  refine oBox rfl rfl rfl rfl rfl rfl ?_
  refine oAlloc rfl rfl rfl rfl rfl rfl rfl ?_
  refine oQ (Q_assign rfl rfl) rfl rfl ?_
  refine OW_nil ?_
  all_goals with_reducible refine tN ?_
  all_goals (
      refine CW_seq ?_
      refine CW_region ?_
      refine oQ (Q_ldw rfl rfl rfl rfl hc6) rfl rfl ?_
      refine oQ (Q_move rfl rfl) rfl rfl ?_
      refine oQ (Q_call0 (matrix_con p c hp hc6 h1) rfl rfl rfl) rfl rfl ?_
      refine oAlloc rfl rfl rfl rfl rfl rfl rfl ?_
      first | refine oStw rfl rfl rfl rfl (by first | omega | (dsimp only; omega) | (simp; omega) | (simp; done)) (by first | omega | (dsimp only; omega) | (simp; omega) | (simp; done)) ?_ | refine oSta rfl rfl rfl rfl (by first | omega | (dsimp only; omega) | (simp; omega) | (simp; done)) (by first | omega | (dsimp only; omega) | (simp; omega) | (simp; done)) ?_
      refine OW_nil ?_
      all_goals with_reducible refine tN ?_
      all_goals (
          refine CW_seq ?_
          refine CW_any (fun i => List.elem i [17]) 18 rfl lateOk (by decide +kernel) (fun hst => ?_)
          refine aQ 0 hst rfl rfl (by decide +kernel) (QX_of (Q_move rfl rfl) NE_move) rfl rfl ?_
          first | refine aQ 1 hst rfl rfl (by decide +kernel) (QX_of (Q_ixa0z 3 rfl rfl rfl rfl rfl rfl (by first | omega | (dsimp only; omega) | (simp; omega) | (simp; done))) NE_ix) rfl rfl ?_ | refine aQ 1 hst rfl rfl (by decide +kernel) (QX_of (Q_ixaz 3 rfl rfl rfl rfl rfl rfl (by first | omega | (dsimp only; omega) | (simp; omega) | (simp; done))) NE_ix) rfl rfl ?_
          refine aQ 2 hst rfl rfl (by decide +kernel) (QX_of (Q_lda (n := 3) rfl rfl rfl rfl rfl (by first | omega | (dsimp only; omega) | (simp; omega) | (simp; done))) NE_load) rfl rfl ?_
          refine aQ 3 hst rfl rfl (by decide +kernel) (QX_of (Q_ldw rfl rfl rfl rfl ha3) NE_load) rfl rfl ?_
          refine aQ 4 hst rfl rfl (by decide +kernel) (QX_call0 (dot_con p ((matV p c).take 3) a hp (by rw [List.length_take]; omega) ha3 (sm_take hms 3) h2) rfl rfl rfl) rfl rfl ?_
          refine aQ 5 hst rfl rfl (by decide +kernel) (QX_of (Q_move rfl rfl) NE_move) rfl rfl ?_
          first | refine aQ 6 hst rfl rfl (by decide +kernel) (QX_of (Q_ixa0z 3 rfl rfl rfl rfl rfl rfl (by first | omega | (dsimp only; omega) | (simp; omega) | (simp; done))) NE_ix) rfl rfl ?_ | refine aQ 6 hst rfl rfl (by decide +kernel) (QX_of (Q_ixaz 3 rfl rfl rfl rfl rfl rfl (by first | omega | (dsimp only; omega) | (simp; omega) | (simp; done))) NE_ix) rfl rfl ?_
          refine aQ 7 hst rfl rfl (by decide +kernel) (QX_of (Q_lda (n := 3) rfl rfl rfl rfl rfl (by first | omega | (dsimp only; omega) | (simp; omega) | (simp; done))) NE_load) rfl rfl ?_
          refine aQ 8 hst rfl rfl (by decide +kernel) (QX_of (Q_ldw rfl rfl rfl rfl ha3) NE_load) rfl rfl ?_
          refine aQ 9 hst rfl rfl (by decide +kernel) (QX_call0 (dot_con p (((matV p c).drop 3).take 3) a hp (by rw [List.length_take, List.length_drop]; omega) ha3 (sm_take (sm_drop hms 3) 3) h2) rfl rfl rfl) rfl rfl ?_
          refine aQ 10 hst rfl rfl (by decide +kernel) (QX_of (Q_move rfl rfl) NE_move) rfl rfl ?_
          first | refine aQ 11 hst rfl rfl (by decide +kernel) (QX_of (Q_ixa0z 3 rfl rfl rfl rfl rfl rfl (by first | omega | (dsimp only; omega) | (simp; omega) | (simp; done))) NE_ix) rfl rfl ?_ | refine aQ 11 hst rfl rfl (by decide +kernel) (QX_of (Q_ixaz 3 rfl rfl rfl rfl rfl rfl (by first | omega | (dsimp only; omega) | (simp; omega) | (simp; done))) NE_ix) rfl rfl ?_
          refine aQ 12 hst rfl rfl (by decide +kernel) (QX_of (Q_lda (n := 3) rfl rfl rfl rfl rfl (by first | omega | (dsimp only; omega) | (simp; omega) | (simp; done))) NE_load) rfl rfl ?_
          refine aQ 13 hst rfl rfl (by decide +kernel) (QX_of (Q_ldw rfl rfl rfl rfl ha3) NE_load) rfl rfl ?_
          refine aQ 14 hst rfl rfl (by decide +kernel) (QX_call0 (dot_con p (((matV p c).drop 6).take 3) a hp (by rw [List.length_take, List.length_drop]; omega) ha3 (sm_take (sm_drop hms 6) 3) h2) rfl rfl rfl) rfl rfl ?_
          refine aQ 15 hst rfl rfl (by decide +kernel) (QX_of (Q_build (r := [dotV ((matV p c).take 3) a % p, dotV (((matV p c).drop 3).take 3) a % p, dotV (((matV p c).drop 6).take 3) a % p]) rfl rfl rfl rfl rfl rfl rfl rfl) NE_build) rfl rfl ?_
          refine AW_one (i := 16) (by decide +kernel) ?_
          refine gAlloc rfl rfl rfl rfl rfl rfl rfl rfl rfl ?_
          refine AW_last [17] rfl (by decide +kernel) rfl ?_
          first | refine oStw rfl rfl rfl rfl (by first | omega | (dsimp only; omega) | (simp; omega) | (simp; done)) (by first | omega | (dsimp only; omega) | (simp; omega) | (simp; done)) ?_ | refine oSta rfl rfl rfl rfl (by first | omega | (dsimp only; omega) | (simp; omega) | (simp; done)) (by first | omega | (dsimp only; omega) | (simp; omega) | (simp; done)) ?_
          refine OW_nil (npN ?_)
          all_goals with_reducible refine tN ?_
          all_goals (
              refine CW_seq ?_
              refine CW_region ?_
              refine oQ (Q_move rfl rfl) rfl rfl ?_
              refine oQ (Q_slaF rfl rfl rfl rfl) rfl rfl ?_
              refine oCall (normal_con p 61 [dotV ((matV p c).take 3) a % p, dotV (((matV p c).drop 3).take 3) a % p, dotV (((matV p c).drop 6).take 3) a % p] 3 3 (by simp) hp (by omega)) [(0, 4)] 0 rfl rfl (Fits.mk' (vHc rfl vHn) rfl rfl (by simp)) rfl rfl ?_
              rintro r H1 ⟨rfl, rfl⟩
              simp only [List.take_of_length_le (show [dotV ((matV p c).take 3) a % p, dotV (((matV p c).drop 3).take 3) a % p, dotV (((matV p c).drop 6).take 3) a % p].length ≤ 3 from Nat.le_refl _), List.drop_eq_nil_of_le (show [dotV ((matV p c).take 3) a % p, dotV (((matV p c).drop 3).take 3) a % p, dotV (((matV p c).drop 6).take 3) a % p].length ≤ 3 from Nat.le_refl _), List.append_nil, hpm, hpf]
              refine ⟨.bool (facP p (polX p c a) != 0), [(4, .ints 61 (normL p (polX p c a)))], rfl, rfl, rfl, ?_⟩
              refine oQ (Q_assign rfl rfl) rfl rfl ?_
              refine OW_nil ?_
              all_goals with_reducible refine tN ?_
              all_goals (
                  refine CW_seq ?_
                  refine CW_region ?_
                  first | refine oQ (Q_ldw rfl rfl rfl rfl (by first | omega | (dsimp only; omega) | (simp; omega) | (simp; done))) rfl rfl ?_ | refine oQ (Q_lda rfl rfl rfl rfl rfl (by first | omega | (dsimp only; omega) | (simp; omega) | (simp; done))) rfl rfl ?_
                  refine oQ (Q_move rfl rfl) rfl rfl ?_
                  first | refine oStw rfl rfl rfl rfl (by first | omega | (dsimp only; omega) | (simp; omega) | (simp; done)) (by first | omega | (dsimp only; omega) | (simp; omega) | (simp; done)) ?_ | refine oSta rfl rfl rfl rfl (by first | omega | (dsimp only; omega) | (simp; omega) | (simp; done)) (by first | omega | (dsimp only; omega) | (simp; omega) | (simp; done)) ?_
                  refine oQ (Q_assign rfl rfl) rfl rfl ?_
                  refine OW_nil ?_
                  all_goals with_reducible refine tN ?_
                  all_goals (
                      refine CW_ret ?_)))))
  all_goals (
      ((refine exitQ (.inr rfl) 0 (.cons (.arr rfl rfl rfl rfl (by first | omega | (dsimp only; omega) | (simp; omega) | (simp; done))) (.cons (.tmp rfl rfl) .nil)) ?_ rfl vHn rfl rfl); rfl))

theorem l03Rows_con6 (p a b c d e f : Int) (hp : primeB p = true) (h1 : modB p [a, b, c, d, e, f] = true) : Con Try.prog [] 139 [.int p, .arr [a, b, c, d, e, f]] [] (fun r H' => r = .slice 3 0 3 3 ∧ H' = [(0, .ints 2 [2 * a % p, d, e]), (1, .ints 2 [d, 2 * b % p, f]), (2, .ints 2 [e, f, 2 * c % p]), (3, .vals 22 [.slice 0 0 3 3, .slice 1 0 3 3, .slice 2 0 3 3])]) := by
  have hpb := prime_bd hp
  simp only [modB, List.all_cons, List.all_nil, Bool.and_true, Bool.and_eq_true, decide_eq_true_eq] at h1
  obtain ⟨hA, hB, hC, hD, hE, hF⟩ := h1
  have eA : (2 * a).tmod p = 2 * a % p := Int.tmod_eq_emod_of_nonneg (by omega)
  have eB : (2 * b).tmod p = 2 * b % p := Int.tmod_eq_emod_of_nonneg (by omega)
  have eC : (2 * c).tmod p = 2 * c % p := Int.tmod_eq_emod_of_nonneg (by omega)
  refine conW tab_ok [(0, .int p), (1, .arr [a, b, c, d, e, f])] 0 [] [] Try.func139 rfl rfl rfl rfl rfl rfl rfl rfl rfl ?_
  refine CW_seq ?_
  refine CW_region ?_
  refine oBox rfl rfl rfl rfl rfl rfl ?_
  refine oQ (Q_assign rfl rfl) rfl rfl ?_
  refine OW_nil ?_
  all_goals with_reducible refine tN ?_
  all_goals (
      refine CW_seq ?_
      refine CW_any (fun _ => false) 32 rfl lateOk (by decide +kernel) (fun hst => ?_)
      first | refine aQ 0 hst rfl rfl (by decide +kernel) (QX_of (Q_ixa0 rfl rfl rfl rfl rfl rfl (by first | omega | (dsimp only; omega) | (simp; omega) | (simp; done))) NE_ix) rfl rfl ?_ | refine aQ 0 hst rfl rfl (by decide +kernel) (QX_of (Q_ixa1 rfl rfl rfl rfl rfl rfl (by first | omega | (dsimp only; omega) | (simp; omega) | (simp; done))) NE_ix) rfl rfl ?_
      first | refine aQ 1 hst rfl rfl (by decide +kernel) (QX_of (Q_ldc rfl rfl rfl rfl rfl) NE_load) rfl rfl ?_ | refine aQ 1 hst rfl rfl (by decide +kernel) (QX_of (Q_ld rfl rfl rfl rfl (by first | omega | (dsimp only; omega) | (simp; omega) | (simp; done))) NE_load) rfl rfl ?_
      first | refine aQ 2 hst rfl rfl (by decide +kernel) (QX_of (Q_binu rfl rfl rfl (by omega)) NE_bin) rfl rfl ?_ | refine aQ 2 hst rfl rfl (by decide +kernel) (QX_of (Q_bin rfl rfl rfl) NE_bin) rfl rfl ?_
      refine aQ 3 hst rfl rfl (by decide +kernel) (QX_of (Q_move rfl rfl) NE_move) rfl rfl ?_
      refine aQ 4 hst rfl rfl (by decide +kernel) (QX_of (Q_rem rfl rfl (by omega)) NE_bin) rfl rfl ?_; rw [eA]
      first | refine aQ 5 hst rfl rfl (by decide +kernel) (QX_of (Q_ixa0 rfl rfl rfl rfl rfl rfl (by first | omega | (dsimp only; omega) | (simp; omega) | (simp; done))) NE_ix) rfl rfl ?_ | refine aQ 5 hst rfl rfl (by decide +kernel) (QX_of (Q_ixa1 rfl rfl rfl rfl rfl rfl (by first | omega | (dsimp only; omega) | (simp; omega) | (simp; done))) NE_ix) rfl rfl ?_
      first | refine aQ 6 hst rfl rfl (by decide +kernel) (QX_of (Q_ldc rfl rfl rfl rfl rfl) NE_load) rfl rfl ?_ | refine aQ 6 hst rfl rfl (by decide +kernel) (QX_of (Q_ld rfl rfl rfl rfl (by first | omega | (dsimp only; omega) | (simp; omega) | (simp; done))) NE_load) rfl rfl ?_
      first | refine aQ 7 hst rfl rfl (by decide +kernel) (QX_of (Q_ixa0 rfl rfl rfl rfl rfl rfl (by first | omega | (dsimp only; omega) | (simp; omega) | (simp; done))) NE_ix) rfl rfl ?_ | refine aQ 7 hst rfl rfl (by decide +kernel) (QX_of (Q_ixa1 rfl rfl rfl rfl rfl rfl (by first | omega | (dsimp only; omega) | (simp; omega) | (simp; done))) NE_ix) rfl rfl ?_
      first | refine aQ 8 hst rfl rfl (by decide +kernel) (QX_of (Q_ldc rfl rfl rfl rfl rfl) NE_load) rfl rfl ?_ | refine aQ 8 hst rfl rfl (by decide +kernel) (QX_of (Q_ld rfl rfl rfl rfl (by first | omega | (dsimp only; omega) | (simp; omega) | (simp; done))) NE_load) rfl rfl ?_
      first | refine aQ 10 hst rfl rfl (by decide +kernel) (QX_of (Q_ixa0 rfl rfl rfl rfl rfl rfl (by first | omega | (dsimp only; omega) | (simp; omega) | (simp; done))) NE_ix) rfl rfl ?_ | refine aQ 10 hst rfl rfl (by decide +kernel) (QX_of (Q_ixa1 rfl rfl rfl rfl rfl rfl (by first | omega | (dsimp only; omega) | (simp; omega) | (simp; done))) NE_ix) rfl rfl ?_
      first | refine aQ 11 hst rfl rfl (by decide +kernel) (QX_of (Q_ldc rfl rfl rfl rfl rfl) NE_load) rfl rfl ?_ | refine aQ 11 hst rfl rfl (by decide +kernel) (QX_of (Q_ld rfl rfl rfl rfl (by first | omega | (dsimp only; omega) | (simp; omega) | (simp; done))) NE_load) rfl rfl ?_
      first | refine aQ 12 hst rfl rfl (by decide +kernel) (QX_of (Q_ixa0 rfl rfl rfl rfl rfl rfl (by first | omega | (dsimp only; omega) | (simp; omega) | (simp; done))) NE_ix) rfl rfl ?_ | refine aQ 12 hst rfl rfl (by decide +kernel) (QX_of (Q_ixa1 rfl rfl rfl rfl rfl rfl (by first | omega | (dsimp only; omega) | (simp; omega) | (simp; done))) NE_ix) rfl rfl ?_
      first | refine aQ 13 hst rfl rfl (by decide +kernel) (QX_of (Q_ldc rfl rfl rfl rfl rfl) NE_load) rfl rfl ?_ | refine aQ 13 hst rfl rfl (by decide +kernel) (QX_of (Q_ld rfl rfl rfl rfl (by first | omega | (dsimp only; omega) | (simp; omega) | (simp; done))) NE_load) rfl rfl ?_
      first | refine aQ 14 hst rfl rfl (by decide +kernel) (QX_of (Q_binu rfl rfl rfl (by omega)) NE_bin) rfl rfl ?_ | refine aQ 14 hst rfl rfl (by decide +kernel) (QX_of (Q_bin rfl rfl rfl) NE_bin) rfl rfl ?_
      refine aQ 15 hst rfl rfl (by decide +kernel) (QX_of (Q_move rfl rfl) NE_move) rfl rfl ?_
      refine aQ 16 hst rfl rfl (by decide +kernel) (QX_of (Q_rem rfl rfl (by omega)) NE_bin) rfl rfl ?_; rw [eB]
      first | refine aQ 17 hst rfl rfl (by decide +kernel) (QX_of (Q_ixa0 rfl rfl rfl rfl rfl rfl (by first | omega | (dsimp only; omega) | (simp; omega) | (simp; done))) NE_ix) rfl rfl ?_ | refine aQ 17 hst rfl rfl (by decide +kernel) (QX_of (Q_ixa1 rfl rfl rfl rfl rfl rfl (by first | omega | (dsimp only; omega) | (simp; omega) | (simp; done))) NE_ix) rfl rfl ?_
      first | refine aQ 18 hst rfl rfl (by decide +kernel) (QX_of (Q_ldc rfl rfl rfl rfl rfl) NE_load) rfl rfl ?_ | refine aQ 18 hst rfl rfl (by decide +kernel) (QX_of (Q_ld rfl rfl rfl rfl (by first | omega | (dsimp only; omega) | (simp; omega) | (simp; done))) NE_load) rfl rfl ?_
      first | refine aQ 20 hst rfl rfl (by decide +kernel) (QX_of (Q_ixa0 rfl rfl rfl rfl rfl rfl (by first | omega | (dsimp only; omega) | (simp; omega) | (simp; done))) NE_ix) rfl rfl ?_ | refine aQ 20 hst rfl rfl (by decide +kernel) (QX_of (Q_ixa1 rfl rfl rfl rfl rfl rfl (by first | omega | (dsimp only; omega) | (simp; omega) | (simp; done))) NE_ix) rfl rfl ?_
      first | refine aQ 21 hst rfl rfl (by decide +kernel) (QX_of (Q_ldc rfl rfl rfl rfl rfl) NE_load) rfl rfl ?_ | refine aQ 21 hst rfl rfl (by decide +kernel) (QX_of (Q_ld rfl rfl rfl rfl (by first | omega | (dsimp only; omega) | (simp; omega) | (simp; done))) NE_load) rfl rfl ?_
      first | refine aQ 22 hst rfl rfl (by decide +kernel) (QX_of (Q_ixa0 rfl rfl rfl rfl rfl rfl (by first | omega | (dsimp only; omega) | (simp; omega) | (simp; done))) NE_ix) rfl rfl ?_ | refine aQ 22 hst rfl rfl (by decide +kernel) (QX_of (Q_ixa1 rfl rfl rfl rfl rfl rfl (by first | omega | (dsimp only; omega) | (simp; omega) | (simp; done))) NE_ix) rfl rfl ?_
      first | refine aQ 23 hst rfl rfl (by decide +kernel) (QX_of (Q_ldc rfl rfl rfl rfl rfl) NE_load) rfl rfl ?_ | refine aQ 23 hst rfl rfl (by decide +kernel) (QX_of (Q_ld rfl rfl rfl rfl (by first | omega | (dsimp only; omega) | (simp; omega) | (simp; done))) NE_load) rfl rfl ?_
      first | refine aQ 24 hst rfl rfl (by decide +kernel) (QX_of (Q_ixa0 rfl rfl rfl rfl rfl rfl (by first | omega | (dsimp only; omega) | (simp; omega) | (simp; done))) NE_ix) rfl rfl ?_ | refine aQ 24 hst rfl rfl (by decide +kernel) (QX_of (Q_ixa1 rfl rfl rfl rfl rfl rfl (by first | omega | (dsimp only; omega) | (simp; omega) | (simp; done))) NE_ix) rfl rfl ?_
      first | refine aQ 25 hst rfl rfl (by decide +kernel) (QX_of (Q_ldc rfl rfl rfl rfl rfl) NE_load) rfl rfl ?_ | refine aQ 25 hst rfl rfl (by decide +kernel) (QX_of (Q_ld rfl rfl rfl rfl (by first | omega | (dsimp only; omega) | (simp; omega) | (simp; done))) NE_load) rfl rfl ?_
      first | refine aQ 26 hst rfl rfl (by decide +kernel) (QX_of (Q_binu rfl rfl rfl (by omega)) NE_bin) rfl rfl ?_ | refine aQ 26 hst rfl rfl (by decide +kernel) (QX_of (Q_bin rfl rfl rfl) NE_bin) rfl rfl ?_
      refine aQ 27 hst rfl rfl (by decide +kernel) (QX_of (Q_move rfl rfl) NE_move) rfl rfl ?_
      refine aQ 28 hst rfl rfl (by decide +kernel) (QX_of (Q_rem rfl rfl (by omega)) NE_bin) rfl rfl ?_; rw [eC]
      refine AW_three (i := 9) (j := 19) (k := 29) (by decide +kernel) ?_ ?_ ?_
      all_goals first
        | (
          refine gBsl (zl := []) (r := [2 * a % p, d, e]) rfl rfl rfl rfl rfl rfl (.inl ⟨rfl, rfl⟩) rfl rfl rfl rfl rfl rfl ?_
          refine AW_two (i := 19) (j := 29) (by decide +kernel) ?_ ?_
          all_goals first
            | (
              refine gBsl (zl := []) (r := [d, 2 * b % p, f]) rfl rfl rfl rfl rfl rfl (.inl ⟨rfl, rfl⟩) rfl rfl rfl rfl rfl rfl ?_
              refine AW_one (i := 29) (by decide +kernel) ?_
              refine gBsl (zl := []) (r := [e, f, 2 * c % p]) rfl rfl rfl rfl rfl rfl (.inl ⟨rfl, rfl⟩) rfl rfl rfl rfl rfl rfl ?_
              refine AW_one (i := 30) (by decide +kernel) ?_
              refine gBslv (r := [.slice 1 0 3 3, .slice 2 0 3 3, .slice 3 0 3 3]) rfl rfl rfl rfl rfl rfl rfl rfl rfl rfl rfl rfl rfl rfl rfl ?_
              refine aQ 31 hst rfl rfl (by decide +kernel) (QX_of (Q_assign rfl rfl) NE_assign) rfl rfl ?_
              refine AW_done (by decide +kernel) ?_)
            | (
              refine gBsl (zl := []) (r := [e, f, 2 * c % p]) rfl rfl rfl rfl rfl rfl (.inl ⟨rfl, rfl⟩) rfl rfl rfl rfl rfl rfl ?_
              refine AW_one (i := 19) (by decide +kernel) ?_
              refine gBsl (zl := []) (r := [d, 2 * b % p, f]) rfl rfl rfl rfl rfl rfl (.inl ⟨rfl, rfl⟩) rfl rfl rfl rfl rfl rfl ?_
              refine AW_one (i := 30) (by decide +kernel) ?_
              refine gBslv (r := [.slice 1 0 3 3, .slice 3 0 3 3, .slice 2 0 3 3]) rfl rfl rfl rfl rfl rfl rfl rfl rfl rfl rfl rfl rfl rfl rfl ?_
              refine aQ 31 hst rfl rfl (by decide +kernel) (QX_of (Q_assign rfl rfl) NE_assign) rfl rfl ?_
              refine AW_done (by decide +kernel) ?_))
        | (
          refine gBsl (zl := []) (r := [d, 2 * b % p, f]) rfl rfl rfl rfl rfl rfl (.inl ⟨rfl, rfl⟩) rfl rfl rfl rfl rfl rfl ?_
          refine AW_two (i := 9) (j := 29) (by decide +kernel) ?_ ?_
          all_goals first
            | (
              refine gBsl (zl := []) (r := [2 * a % p, d, e]) rfl rfl rfl rfl rfl rfl (.inl ⟨rfl, rfl⟩) rfl rfl rfl rfl rfl rfl ?_
              refine AW_one (i := 29) (by decide +kernel) ?_
              refine gBsl (zl := []) (r := [e, f, 2 * c % p]) rfl rfl rfl rfl rfl rfl (.inl ⟨rfl, rfl⟩) rfl rfl rfl rfl rfl rfl ?_
              refine AW_one (i := 30) (by decide +kernel) ?_
              refine gBslv (r := [.slice 2 0 3 3, .slice 1 0 3 3, .slice 3 0 3 3]) rfl rfl rfl rfl rfl rfl rfl rfl rfl rfl rfl rfl rfl rfl rfl ?_
              refine aQ 31 hst rfl rfl (by decide +kernel) (QX_of (Q_assign rfl rfl) NE_assign) rfl rfl ?_
              refine AW_done (by decide +kernel) ?_)
            | (
              refine gBsl (zl := []) (r := [e, f, 2 * c % p]) rfl rfl rfl rfl rfl rfl (.inl ⟨rfl, rfl⟩) rfl rfl rfl rfl rfl rfl ?_
              refine AW_one (i := 9) (by decide +kernel) ?_
              refine gBsl (zl := []) (r := [2 * a % p, d, e]) rfl rfl rfl rfl rfl rfl (.inl ⟨rfl, rfl⟩) rfl rfl rfl rfl rfl rfl ?_
              refine AW_one (i := 30) (by decide +kernel) ?_
              refine gBslv (r := [.slice 3 0 3 3, .slice 1 0 3 3, .slice 2 0 3 3]) rfl rfl rfl rfl rfl rfl rfl rfl rfl rfl rfl rfl rfl rfl rfl ?_
              refine aQ 31 hst rfl rfl (by decide +kernel) (QX_of (Q_assign rfl rfl) NE_assign) rfl rfl ?_
              refine AW_done (by decide +kernel) ?_))
        | (
          refine gBsl (zl := []) (r := [e, f, 2 * c % p]) rfl rfl rfl rfl rfl rfl (.inl ⟨rfl, rfl⟩) rfl rfl rfl rfl rfl rfl ?_
          refine AW_two (i := 9) (j := 19) (by decide +kernel) ?_ ?_
          all_goals first
            | (
              refine gBsl (zl := []) (r := [2 * a % p, d, e]) rfl rfl rfl rfl rfl rfl (.inl ⟨rfl, rfl⟩) rfl rfl rfl rfl rfl rfl ?_
              refine AW_one (i := 19) (by decide +kernel) ?_
              refine gBsl (zl := []) (r := [d, 2 * b % p, f]) rfl rfl rfl rfl rfl rfl (.inl ⟨rfl, rfl⟩) rfl rfl rfl rfl rfl rfl ?_
              refine AW_one (i := 30) (by decide +kernel) ?_
              refine gBslv (r := [.slice 2 0 3 3, .slice 3 0 3 3, .slice 1 0 3 3]) rfl rfl rfl rfl rfl rfl rfl rfl rfl rfl rfl rfl rfl rfl rfl ?_
              refine aQ 31 hst rfl rfl (by decide +kernel) (QX_of (Q_assign rfl rfl) NE_assign) rfl rfl ?_
              refine AW_done (by decide +kernel) ?_)
            | (
              refine gBsl (zl := []) (r := [d, 2 * b % p, f]) rfl rfl rfl rfl rfl rfl (.inl ⟨rfl, rfl⟩) rfl rfl rfl rfl rfl rfl ?_
              refine AW_one (i := 9) (by decide +kernel) ?_
              refine gBsl (zl := []) (r := [2 * a % p, d, e]) rfl rfl rfl rfl rfl rfl (.inl ⟨rfl, rfl⟩) rfl rfl rfl rfl rfl rfl ?_
              refine AW_one (i := 30) (by decide +kernel) ?_
              refine gBslv (r := [.slice 3 0 3 3, .slice 2 0 3 3, .slice 1 0 3 3]) rfl rfl rfl rfl rfl rfl rfl rfl rfl rfl rfl rfl rfl rfl rfl ?_
              refine aQ 31 hst rfl rfl (by decide +kernel) (QX_of (Q_assign rfl rfl) NE_assign) rfl rfl ?_
              refine AW_done (by decide +kernel) ?_))
      all_goals with_reducible refine tN ?_
      all_goals (
          refine CW_ret ?_))
  all_goals (
      first
        | exact exitH (r0 := .slice 3 0 3 3) (H0 := [(0, .ints 2 [2 * a % p, d, e]), (1, .ints 2 [d, 2 * b % p, f]), (2, .ints 2 [e, f, 2 * c % p]), (3, .vals 22 [.slice 0 0 3 3, .slice 1 0 3 3, .slice 2 0 3 3])]) (.inr rfl) [(0, 1), (1, 2), (2, 3), (3, 4)] 4 (.cons (.tmp rfl rfl) .nil) rfl rfl rfl (vHc rfl (vHc rfl (vHc rfl (vHc rfl vHn)))) rfl rfl ⟨rfl, rfl⟩
        | exact exitH (r0 := .slice 3 0 3 3) (H0 := [(0, .ints 2 [2 * a % p, d, e]), (1, .ints 2 [d, 2 * b % p, f]), (2, .ints 2 [e, f, 2 * c % p]), (3, .vals 22 [.slice 0 0 3 3, .slice 1 0 3 3, .slice 2 0 3 3])]) (.inr rfl) [(0, 1), (1, 3), (2, 2), (3, 4)] 4 (.cons (.tmp rfl rfl) .nil) rfl rfl rfl (vHc rfl (vHc rfl (vHc rfl (vHc rfl vHn)))) rfl rfl ⟨rfl, rfl⟩
        | exact exitH (r0 := .slice 3 0 3 3) (H0 := [(0, .ints 2 [2 * a % p, d, e]), (1, .ints 2 [d, 2 * b % p, f]), (2, .ints 2 [e, f, 2 * c % p]), (3, .vals 22 [.slice 0 0 3 3, .slice 1 0 3 3, .slice 2 0 3 3])]) (.inr rfl) [(0, 2), (1, 1), (2, 3), (3, 4)] 4 (.cons (.tmp rfl rfl) .nil) rfl rfl rfl (vHc rfl (vHc rfl (vHc rfl (vHc rfl vHn)))) rfl rfl ⟨rfl, rfl⟩
        | exact exitH (r0 := .slice 3 0 3 3) (H0 := [(0, .ints 2 [2 * a % p, d, e]), (1, .ints 2 [d, 2 * b % p, f]), (2, .ints 2 [e, f, 2 * c % p]), (3, .vals 22 [.slice 0 0 3 3, .slice 1 0 3 3, .slice 2 0 3 3])]) (.inr rfl) [(0, 2), (1, 3), (2, 1), (3, 4)] 4 (.cons (.tmp rfl rfl) .nil) rfl rfl rfl (vHc rfl (vHc rfl (vHc rfl (vHc rfl vHn)))) rfl rfl ⟨rfl, rfl⟩
        | exact exitH (r0 := .slice 3 0 3 3) (H0 := [(0, .ints 2 [2 * a % p, d, e]), (1, .ints 2 [d, 2 * b % p, f]), (2, .ints 2 [e, f, 2 * c % p]), (3, .vals 22 [.slice 0 0 3 3, .slice 1 0 3 3, .slice 2 0 3 3])]) (.inr rfl) [(0, 3), (1, 1), (2, 2), (3, 4)] 4 (.cons (.tmp rfl rfl) .nil) rfl rfl rfl (vHc rfl (vHc rfl (vHc rfl (vHc rfl vHn)))) rfl rfl ⟨rfl, rfl⟩
        | exact exitH (r0 := .slice 3 0 3 3) (H0 := [(0, .ints 2 [2 * a % p, d, e]), (1, .ints 2 [d, 2 * b % p, f]), (2, .ints 2 [e, f, 2 * c % p]), (3, .vals 22 [.slice 0 0 3 3, .slice 1 0 3 3, .slice 2 0 3 3])]) (.inr rfl) [(0, 3), (1, 2), (2, 1), (3, 4)] 4 (.cons (.tmp rfl rfl) .nil) rfl rfl rfl (vHc rfl (vHc rfl (vHc rfl (vHc rfl vHn)))) rfl rfl ⟨rfl, rfl⟩)
theorem l03Rows_con (p : Int) (c : List Int) (hp : primeB p = true) (hc6 : c.length = 6) (h1 : modB p c = true) : Con Try.prog [] 139 [.int p, .arr c] [] (fun r H' => r = .slice 3 0 3 3 ∧ H' = [(0, .ints 2 ((matV p c).take 3)), (1, .ints 2 (((matV p c).drop 3).take 3)), (2, .ints 2 (((matV p c).drop 6).take 3)), (3, .vals 22 [.slice 0 0 3 3, .slice 1 0 3 3, .slice 2 0 3 3])]) := by
  match c, hc6, h1 with
  | [a, b, c, d, e, f], _, h1 =>
    have := l03Rows_con6 p a b c d e f hp h1
    have hpb := prime_bd hp
    simp only [modB, List.all_cons, List.all_nil, Bool.and_true, Bool.and_eq_true, decide_eq_true_eq] at h1
    obtain ⟨hA, hB, hC, hD, hE, hF⟩ := h1
    simp only [matV, Int.emod_eq_of_lt hD.1 (show d < p by omega), Int.emod_eq_of_lt hE.1 (show e < p by omega), Int.emod_eq_of_lt hF.1 (show f < p by omega)]
    exact this

theorem l03Polar_con3 (p : Int) (c : List Int) (x y z : Int) (hp : primeB p = true) (hc6 : c.length = 6) (h1 : modB p c = true) (h2 : sm 13 [x, y, z]) : ConQ Try.prog [] 85 [.int p, .arr c, .arr [x, y, z]] [] (.tuple [.arr (normL p (polX p c [x, y, z])), .bool (facP p (polX p c [x, y, z]) != 0)]) := by
  have hpb := prime_bd hp
  have hms := matV_sm (p := p) hp hc6
  have hml := matV_length (p := p) hc6
  have hrows := l03Rows_con p c hp hc6 h1
  unfold polX at *
  generalize matV p c = M at *
  match M, hml with
  | [m0, m1, m2, m3, m4, m5, m6, m7, m8], _ =>
    simp only [List.take, List.drop] at hrows ⊢
    have hb : ∀ w ∈ [m0, m1, m2, m3, m4, m5, m6, m7, m8], -13 ≤ w ∧ w ≤ 13 := hms
    simp only [List.mem_cons, List.not_mem_nil, or_false, forall_eq_or_imp, forall_eq] at hb
    obtain ⟨b0, b1, b2, b3, b4, b5, b6, b7, b8⟩ := hb
    obtain ⟨hx, hy, hz⟩ := sm3.1 h2
    have q0 := mul_bds b0.1 b0.2 hx.1 hx.2
    have q1 := mul_bds b1.1 b1.2 hy.1 hy.2
    have q2 := mul_bds b2.1 b2.2 hz.1 hz.2
    have q3 := mul_bds b3.1 b3.2 hx.1 hx.2
    have q4 := mul_bds b4.1 b4.2 hy.1 hy.2
    have q5 := mul_bds b5.1 b5.2 hz.1 hz.2
    have q6 := mul_bds b6.1 b6.2 hx.1 hx.2
    have q7 := mul_bds b7.1 b7.2 hy.1 hy.2
    have q8 := mul_bds b8.1 b8.2 hz.1 hz.2
    have hpe : [dotV [m0, m1, m2] [x, y, z], dotV [m3, m4, m5] [x, y, z], dotV [m6, m7, m8] [x, y, z]] = [m0 * x + m1 * y + m2 * z, m3 * x + m4 * y + m5 * z, m6 * x + m7 * y + m8 * z] := by simp [dotV, dotT]
    rw [hpe]
    have hnl := normL_length p [m0 * x + m1 * y + m2 * z, m3 * x + m4 * y + m5 * z, m6 * x + m7 * y + m8 * z]
    refine conW tab_ok [(0, .int p), (1, .arr c), (2, .arr [x, y, z])] 0 [] [] Try.func85 rfl rfl rfl rfl rfl rfl rfl rfl rfl ?_
    refine CW_seq ?_
    refine CW_region ?_
    refine oBox rfl rfl rfl rfl rfl rfl ?_
    refine oBox rfl rfl rfl rfl rfl rfl ?_
    refine oAlloc rfl rfl rfl rfl rfl rfl rfl ?_
    refine oQ (Q_assign rfl rfl) rfl rfl ?_
    refine OW_nil ?_
    all_goals with_reducible refine tN ?_
    all_goals (
        refine CW_seq ?_
        refine CW_region ?_
        refine oQ (Q_move rfl rfl) rfl rfl ?_
        refine oQ (Q_ldw rfl rfl rfl rfl hc6) rfl rfl ?_
        refine oCall (hrows) [] 4 rfl rfl (Fits.mk' vHn rfl rfl (by simp)) rfl rfl ?_
        rintro r H1 ⟨rfl, rfl⟩
        refine ⟨.slice 6 0 3 3, [(3, .ints 2 [m0, m1, m2]), (4, .ints 2 [m3, m4, m5]), (5, .ints 2 [m6, m7, m8]), (6, .vals 22 [.slice 3 0 3 3, .slice 4 0 3 3, .slice 5 0 3 3])], rfl, rfl, rfl, ?_⟩
        refine oBsl (zl := []) rfl rfl rfl rfl (.inl ⟨rfl, rfl⟩) rfl rfl rfl rfl rfl rfl ?_
        refine oQ (Q_assign rfl rfl) rfl rfl ?_
        refine oQ (Q_assign rfl rfl) rfl rfl ?_
        refine OW_nil ?_
        all_goals with_reducible refine tN ?_
        all_goals (
            refine CW_seq ?_
            refine CW_seq ?_
            refine CW_region ?_
            refine oQ (Q_assign rfl rfl) rfl rfl ?_
            refine OW_nil ?_
            all_goals with_reducible refine tN ?_
            all_goals (
                refine CW_block ?_
                refine CW_rounds 4 ?_
                refine RW_succ ?_
                refine CW_seq ?_
                refine CW_seq ?_
                refine CW_region ?_
                refine oQ (Q_move rfl rfl) rfl rfl ?_
                refine oQ (Q_bin rfl rfl rfl) rfl rfl ?_
                refine OW_nil ?_
                all_goals with_reducible refine tN ?_
                all_goals (
                    first | refine CW_cond_t rfl (by with_reducible rfl) ?_ | refine CW_cond_f rfl (by with_reducible rfl) ?_ | refine CW_cond rfl (fun hc => ?_) (fun hc => ?_)
                    all_goals try simp only [decide_eq_true_eq, decide_eq_false_iff_not, beq_iff_eq, beq_eq_false_iff_ne, bne_iff_ne, bne_eq_false_iff_eq, Bool.not_eq_true', Bool.not_eq_false', Int.not_lt, Int.not_le, ne_eq, not_false_eq_true] at hc
                    all_goals try (exfalso; first | omega | (simp at hc; done); done)
                    all_goals first
                      | (
                        refine CW_skip ?_)
                      | (
                        refine CW_exit ?_))
                all_goals first
                  | with_reducible refine tR ?_
                  | with_reducible refine tE ?_
                  | (
                    with_reducible refine tN ?_
                    refine CW_seq ?_
                    refine CW_block ?_
                    refine CW_any (fun i => List.elem i [31, 32]) 33 rfl lateOk (by decide +kernel) (fun hst => ?_)
                    refine aQ 0 hst rfl rfl (by decide +kernel) (QX_of (Q_move rfl rfl) NE_move) rfl rfl ?_
                    refine aQ 1 hst rfl rfl (by decide +kernel) (QX_of (Q_move rfl rfl) NE_move) rfl rfl ?_
                    refine aQ 2 hst rfl rfl (by decide +kernel) (QX_of (Q_move rfl rfl) NE_move) rfl rfl ?_
                    first | refine aQ 3 hst rfl rfl (by decide +kernel) (QX_of (Q_ixs0 rfl rfl rfl rfl rfl rfl (by first | omega | (dsimp only; omega) | (simp; omega) | (simp; done))) NE_ix) rfl rfl ?_ | refine aQ 3 hst rfl rfl (by decide +kernel) (QX_of (Q_ixs1 rfl rfl rfl rfl rfl rfl (by first | omega | (dsimp only; omega) | (simp; omega) | (simp; done))) NE_ix) rfl rfl ?_
                    refine aQ 4 hst rfl rfl (by decide +kernel) (QX_of (Q_ldv rfl rfl rfl rfl rfl rfl) NE_load) rfl rfl ?_
                    first | refine aQ 5 hst rfl rfl (by decide +kernel) (QX_of (Q_ixs0 rfl rfl rfl rfl rfl rfl (by first | omega | (dsimp only; omega) | (simp; omega) | (simp; done))) NE_ix) rfl rfl ?_ | refine aQ 5 hst rfl rfl (by decide +kernel) (QX_of (Q_ixs1 rfl rfl rfl rfl rfl rfl (by first | omega | (dsimp only; omega) | (simp; omega) | (simp; done))) NE_ix) rfl rfl ?_
                    first | refine aQ 6 hst rfl rfl (by decide +kernel) (QX_of (Q_ldc rfl rfl rfl rfl rfl) NE_load) rfl rfl ?_ | refine aQ 6 hst rfl rfl (by decide +kernel) (QX_of (Q_ld rfl rfl rfl rfl (by first | omega | (dsimp only; omega) | (simp; omega) | (simp; done))) NE_load) rfl rfl ?_
                    first | refine aQ 7 hst rfl rfl (by decide +kernel) (QX_of (Q_ixa0 rfl rfl rfl rfl rfl rfl (by first | omega | (dsimp only; omega) | (simp; omega) | (simp; done))) NE_ix) rfl rfl ?_ | refine aQ 7 hst rfl rfl (by decide +kernel) (QX_of (Q_ixa1 rfl rfl rfl rfl rfl rfl (by first | omega | (dsimp only; omega) | (simp; omega) | (simp; done))) NE_ix) rfl rfl ?_
                    first | refine aQ 8 hst rfl rfl (by decide +kernel) (QX_of (Q_ldc rfl rfl rfl rfl rfl) NE_load) rfl rfl ?_ | refine aQ 8 hst rfl rfl (by decide +kernel) (QX_of (Q_ld rfl rfl rfl rfl (by first | omega | (dsimp only; omega) | (simp; omega) | (simp; done))) NE_load) rfl rfl ?_
                    first | refine aQ 9 hst rfl rfl (by decide +kernel) (QX_of (Q_binu rfl rfl rfl (by omega)) NE_bin) rfl rfl ?_ | refine aQ 9 hst rfl rfl (by decide +kernel) (QX_of (Q_bin rfl rfl rfl) NE_bin) rfl rfl ?_
                    refine aQ 10 hst rfl rfl (by decide +kernel) (QX_of (Q_move rfl rfl) NE_move) rfl rfl ?_
                    refine aQ 11 hst rfl rfl (by decide +kernel) (QX_of (Q_move rfl rfl) NE_move) rfl rfl ?_
                    first | refine aQ 12 hst rfl rfl (by decide +kernel) (QX_of (Q_ixs0 rfl rfl rfl rfl rfl rfl (by first | omega | (dsimp only; omega) | (simp; omega) | (simp; done))) NE_ix) rfl rfl ?_ | refine aQ 12 hst rfl rfl (by decide +kernel) (QX_of (Q_ixs1 rfl rfl rfl rfl rfl rfl (by first | omega | (dsimp only; omega) | (simp; omega) | (simp; done))) NE_ix) rfl rfl ?_
                    refine aQ 13 hst rfl rfl (by decide +kernel) (QX_of (Q_ldv rfl rfl rfl rfl rfl rfl) NE_load) rfl rfl ?_
                    first | refine aQ 14 hst rfl rfl (by decide +kernel) (QX_of (Q_ixs0 rfl rfl rfl rfl rfl rfl (by first | omega | (dsimp only; omega) | (simp; omega) | (simp; done))) NE_ix) rfl rfl ?_ | refine aQ 14 hst rfl rfl (by decide +kernel) (QX_of (Q_ixs1 rfl rfl rfl rfl rfl rfl (by first | omega | (dsimp only; omega) | (simp; omega) | (simp; done))) NE_ix) rfl rfl ?_
                    first | refine aQ 15 hst rfl rfl (by decide +kernel) (QX_of (Q_ldc rfl rfl rfl rfl rfl) NE_load) rfl rfl ?_ | refine aQ 15 hst rfl rfl (by decide +kernel) (QX_of (Q_ld rfl rfl rfl rfl (by first | omega | (dsimp only; omega) | (simp; omega) | (simp; done))) NE_load) rfl rfl ?_
                    first | refine aQ 16 hst rfl rfl (by decide +kernel) (QX_of (Q_ixa0 rfl rfl rfl rfl rfl rfl (by first | omega | (dsimp only; omega) | (simp; omega) | (simp; done))) NE_ix) rfl rfl ?_ | refine aQ 16 hst rfl rfl (by decide +kernel) (QX_of (Q_ixa1 rfl rfl rfl rfl rfl rfl (by first | omega | (dsimp only; omega) | (simp; omega) | (simp; done))) NE_ix) rfl rfl ?_
                    first | refine aQ 17 hst rfl rfl (by decide +kernel) (QX_of (Q_ldc rfl rfl rfl rfl rfl) NE_load) rfl rfl ?_ | refine aQ 17 hst rfl rfl (by decide +kernel) (QX_of (Q_ld rfl rfl rfl rfl (by first | omega | (dsimp only; omega) | (simp; omega) | (simp; done))) NE_load) rfl rfl ?_
                    first | refine aQ 18 hst rfl rfl (by decide +kernel) (QX_of (Q_binu rfl rfl rfl (by omega)) NE_bin) rfl rfl ?_ | refine aQ 18 hst rfl rfl (by decide +kernel) (QX_of (Q_bin rfl rfl rfl) NE_bin) rfl rfl ?_
                    first | refine aQ 19 hst rfl rfl (by decide +kernel) (QX_of (Q_binu rfl rfl rfl (by omega)) NE_bin) rfl rfl ?_ | refine aQ 19 hst rfl rfl (by decide +kernel) (QX_of (Q_bin rfl rfl rfl) NE_bin) rfl rfl ?_
                    refine aQ 20 hst rfl rfl (by decide +kernel) (QX_of (Q_move rfl rfl) NE_move) rfl rfl ?_
                    refine aQ 21 hst rfl rfl (by decide +kernel) (QX_of (Q_move rfl rfl) NE_move) rfl rfl ?_
                    first | refine aQ 22 hst rfl rfl (by decide +kernel) (QX_of (Q_ixs0 rfl rfl rfl rfl rfl rfl (by first | omega | (dsimp only; omega) | (simp; omega) | (simp; done))) NE_ix) rfl rfl ?_ | refine aQ 22 hst rfl rfl (by decide +kernel) (QX_of (Q_ixs1 rfl rfl rfl rfl rfl rfl (by first | omega | (dsimp only; omega) | (simp; omega) | (simp; done))) NE_ix) rfl rfl ?_
                    refine aQ 23 hst rfl rfl (by decide +kernel) (QX_of (Q_ldv rfl rfl rfl rfl rfl rfl) NE_load) rfl rfl ?_
                    first | refine aQ 24 hst rfl rfl (by decide +kernel) (QX_of (Q_ixs0 rfl rfl rfl rfl rfl rfl (by first | omega | (dsimp only; omega) | (simp; omega) | (simp; done))) NE_ix) rfl rfl ?_ | refine aQ 24 hst rfl rfl (by decide +kernel) (QX_of (Q_ixs1 rfl rfl rfl rfl rfl rfl (by first | omega | (dsimp only; omega) | (simp; omega) | (simp; done))) NE_ix) rfl rfl ?_
                    first | refine aQ 25 hst rfl rfl (by decide +kernel) (QX_of (Q_ldc rfl rfl rfl rfl rfl) NE_load) rfl rfl ?_ | refine aQ 25 hst rfl rfl (by decide +kernel) (QX_of (Q_ld rfl rfl rfl rfl (by first | omega | (dsimp only; omega) | (simp; omega) | (simp; done))) NE_load) rfl rfl ?_
                    first | refine aQ 26 hst rfl rfl (by decide +kernel) (QX_of (Q_ixa0 rfl rfl rfl rfl rfl rfl (by first | omega | (dsimp only; omega) | (simp; omega) | (simp; done))) NE_ix) rfl rfl ?_ | refine aQ 26 hst rfl rfl (by decide +kernel) (QX_of (Q_ixa1 rfl rfl rfl rfl rfl rfl (by first | omega | (dsimp only; omega) | (simp; omega) | (simp; done))) NE_ix) rfl rfl ?_
                    first | refine aQ 27 hst rfl rfl (by decide +kernel) (QX_of (Q_ldc rfl rfl rfl rfl rfl) NE_load) rfl rfl ?_ | refine aQ 27 hst rfl rfl (by decide +kernel) (QX_of (Q_ld rfl rfl rfl rfl (by first | omega | (dsimp only; omega) | (simp; omega) | (simp; done))) NE_load) rfl rfl ?_
                    first | refine aQ 28 hst rfl rfl (by decide +kernel) (QX_of (Q_binu rfl rfl rfl (by omega)) NE_bin) rfl rfl ?_ | refine aQ 28 hst rfl rfl (by decide +kernel) (QX_of (Q_bin rfl rfl rfl) NE_bin) rfl rfl ?_
                    first | refine aQ 29 hst rfl rfl (by decide +kernel) (QX_of (Q_binu rfl rfl rfl (by omega)) NE_bin) rfl rfl ?_ | refine aQ 29 hst rfl rfl (by decide +kernel) (QX_of (Q_bin rfl rfl rfl) NE_bin) rfl rfl ?_
                    refine AW_one (i := 30) (by decide +kernel) ?_
                    refine gBsl (zl := []) (r := [_]) rfl rfl rfl rfl rfl rfl (.inl ⟨rfl, rfl⟩) rfl rfl rfl rfl rfl rfl ?_
                    refine AW_last [31, 32] rfl (by decide +kernel) rfl ?_
                    first | refine oApp (A := []) (sp := []) (sz := 1) (by_ := 8) rfl rfl rfl rfl rfl rfl ⟨by decide, rfl, .inl ⟨rfl, rfl⟩⟩ rfl rfl rfl rfl rfl rfl rfl rfl (by omega) (by omega) (by omega) (by omega) rfl rfl (fun k2 sp2 h1 h2 => ?_) | refine oApp (sz := 1) (by_ := 8) rfl rfl rfl rfl rfl rfl ⟨by decide, rfl, .inl ⟨rfl, rfl⟩⟩ rfl rfl rfl rfl rfl rfl rfl rfl (by omega) (by omega) (by omega) (by omega) rfl rfl (fun k2 sp2 h1 h2 => ?_)
                    refine oQ (Q_assign rfl rfl) rfl rfl ?_
                    refine OW_nil (npN ?_)
                    all_goals first | with_reducible refine bN ?_ | with_reducible refine bE ?_ | with_reducible refine bR ?_ | refine bX rfl ?_
                    all_goals with_reducible refine tN ?_
                    all_goals (
                        refine CW_region ?_
                        refine oQ (Q_move rfl rfl) rfl rfl ?_
                        first | refine oQ (Q_binu rfl rfl rfl (by omega)) rfl rfl ?_ | refine oQ (Q_bin rfl rfl rfl) rfl rfl ?_
                        refine oQ (Q_assign rfl rfl) rfl rfl ?_
                        refine OW_nil ?_))
                all_goals first
                  | with_reducible refine tR ?_
                  | with_reducible refine tE ?_
                  | (
                    with_reducible refine tN ?_
                    refine RW_succ ?_
                    refine CW_seq ?_
                    refine CW_seq ?_
                    refine CW_region ?_
                    refine oQ (Q_move rfl rfl) rfl rfl ?_
                    refine oQ (Q_bin rfl rfl rfl) rfl rfl ?_
                    refine OW_nil ?_
                    all_goals with_reducible refine tN ?_
                    all_goals (
                        first | refine CW_cond_t rfl (by with_reducible rfl) ?_ | refine CW_cond_f rfl (by with_reducible rfl) ?_ | refine CW_cond rfl (fun hc => ?_) (fun hc => ?_)
                        all_goals try simp only [decide_eq_true_eq, decide_eq_false_iff_not, beq_iff_eq, beq_eq_false_iff_ne, bne_iff_ne, bne_eq_false_iff_eq, Bool.not_eq_true', Bool.not_eq_false', Int.not_lt, Int.not_le, ne_eq, not_false_eq_true] at hc
                        all_goals try (exfalso; first | omega | (simp at hc; done); done)
                        all_goals first
                          | (
                            refine CW_skip ?_)
                          | (
                            refine CW_exit ?_))
                    all_goals first
                      | with_reducible refine tR ?_
                      | with_reducible refine tE ?_
                      | (
                        with_reducible refine tN ?_
                        refine CW_seq ?_
                        refine CW_block ?_
                        refine CW_any (fun i => List.elem i [31, 32]) 33 rfl lateOk (by decide +kernel) (fun hst => ?_)
                        refine aQ 0 hst rfl rfl (by decide +kernel) (QX_of (Q_move rfl rfl) NE_move) rfl rfl ?_
                        refine aQ 1 hst rfl rfl (by decide +kernel) (QX_of (Q_move rfl rfl) NE_move) rfl rfl ?_
                        refine aQ 2 hst rfl rfl (by decide +kernel) (QX_of (Q_move rfl rfl) NE_move) rfl rfl ?_
                        first | refine aQ 3 hst rfl rfl (by decide +kernel) (QX_of (Q_ixs0 rfl rfl rfl rfl rfl rfl (by first | omega | (dsimp only; omega) | (simp; omega) | (simp; done))) NE_ix) rfl rfl ?_ | refine aQ 3 hst rfl rfl (by decide +kernel) (QX_of (Q_ixs1 rfl rfl rfl rfl rfl rfl (by first | omega | (dsimp only; omega) | (simp; omega) | (simp; done))) NE_ix) rfl rfl ?_
                        refine aQ 4 hst rfl rfl (by decide +kernel) (QX_of (Q_ldv rfl rfl rfl rfl rfl rfl) NE_load) rfl rfl ?_
                        first | refine aQ 5 hst rfl rfl (by decide +kernel) (QX_of (Q_ixs0 rfl rfl rfl rfl rfl rfl (by first | omega | (dsimp only; omega) | (simp; omega) | (simp; done))) NE_ix) rfl rfl ?_ | refine aQ 5 hst rfl rfl (by decide +kernel) (QX_of (Q_ixs1 rfl rfl rfl rfl rfl rfl (by first | omega | (dsimp only; omega) | (simp; omega) | (simp; done))) NE_ix) rfl rfl ?_
                        first | refine aQ 6 hst rfl rfl (by decide +kernel) (QX_of (Q_ldc rfl rfl rfl rfl rfl) NE_load) rfl rfl ?_ | refine aQ 6 hst rfl rfl (by decide +kernel) (QX_of (Q_ld rfl rfl rfl rfl (by first | omega | (dsimp only; omega) | (simp; omega) | (simp; done))) NE_load) rfl rfl ?_
                        first | refine aQ 7 hst rfl rfl (by decide +kernel) (QX_of (Q_ixa0 rfl rfl rfl rfl rfl rfl (by first | omega | (dsimp only; omega) | (simp; omega) | (simp; done))) NE_ix) rfl rfl ?_ | refine aQ 7 hst rfl rfl (by decide +kernel) (QX_of (Q_ixa1 rfl rfl rfl rfl rfl rfl (by first | omega | (dsimp only; omega) | (simp; omega) | (simp; done))) NE_ix) rfl rfl ?_
                        first | refine aQ 8 hst rfl rfl (by decide +kernel) (QX_of (Q_ldc rfl rfl rfl rfl rfl) NE_load) rfl rfl ?_ | refine aQ 8 hst rfl rfl (by decide +kernel) (QX_of (Q_ld rfl rfl rfl rfl (by first | omega | (dsimp only; omega) | (simp; omega) | (simp; done))) NE_load) rfl rfl ?_
                        first | refine aQ 9 hst rfl rfl (by decide +kernel) (QX_of (Q_binu rfl rfl rfl (by omega)) NE_bin) rfl rfl ?_ | refine aQ 9 hst rfl rfl (by decide +kernel) (QX_of (Q_bin rfl rfl rfl) NE_bin) rfl rfl ?_
                        refine aQ 10 hst rfl rfl (by decide +kernel) (QX_of (Q_move rfl rfl) NE_move) rfl rfl ?_
                        refine aQ 11 hst rfl rfl (by decide +kernel) (QX_of (Q_move rfl rfl) NE_move) rfl rfl ?_
                        first | refine aQ 12 hst rfl rfl (by decide +kernel) (QX_of (Q_ixs0 rfl rfl rfl rfl rfl rfl (by first | omega | (dsimp only; omega) | (simp; omega) | (simp; done))) NE_ix) rfl rfl ?_ | refine aQ 12 hst rfl rfl (by decide +kernel) (QX_of (Q_ixs1 rfl rfl rfl rfl rfl rfl (by first | omega | (dsimp only; omega) | (simp; omega) | (simp; done))) NE_ix) rfl rfl ?_
                        refine aQ 13 hst rfl rfl (by decide +kernel) (QX_of (Q_ldv rfl rfl rfl rfl rfl rfl) NE_load) rfl rfl ?_
                        first | refine aQ 14 hst rfl rfl (by decide +kernel) (QX_of (Q_ixs0 rfl rfl rfl rfl rfl rfl (by first | omega | (dsimp only; omega) | (simp; omega) | (simp; done))) NE_ix) rfl rfl ?_ | refine aQ 14 hst rfl rfl (by decide +kernel) (QX_of (Q_ixs1 rfl rfl rfl rfl rfl rfl (by first | omega | (dsimp only; omega) | (simp; omega) | (simp; done))) NE_ix) rfl rfl ?_
                        first | refine aQ 15 hst rfl rfl (by decide +kernel) (QX_of (Q_ldc rfl rfl rfl rfl rfl) NE_load) rfl rfl ?_ | refine aQ 15 hst rfl rfl (by decide +kernel) (QX_of (Q_ld rfl rfl rfl rfl (by first | omega | (dsimp only; omega) | (simp; omega) | (simp; done))) NE_load) rfl rfl ?_
                        first | refine aQ 16 hst rfl rfl (by decide +kernel) (QX_of (Q_ixa0 rfl rfl rfl rfl rfl rfl (by first | omega | (dsimp only; omega) | (simp; omega) | (simp; done))) NE_ix) rfl rfl ?_ | refine aQ 16 hst rfl rfl (by decide +kernel) (QX_of (Q_ixa1 rfl rfl rfl rfl rfl rfl (by first | omega | (dsimp only; omega) | (simp; omega) | (simp; done))) NE_ix) rfl rfl ?_
                        first | refine aQ 17 hst rfl rfl (by decide +kernel) (QX_of (Q_ldc rfl rfl rfl rfl rfl) NE_load) rfl rfl ?_ | refine aQ 17 hst rfl rfl (by decide +kernel) (QX_of (Q_ld rfl rfl rfl rfl (by first | omega | (dsimp only; omega) | (simp; omega) | (simp; done))) NE_load) rfl rfl ?_
                        first | refine aQ 18 hst rfl rfl (by decide +kernel) (QX_of (Q_binu rfl rfl rfl (by omega)) NE_bin) rfl rfl ?_ | refine aQ 18 hst rfl rfl (by decide +kernel) (QX_of (Q_bin rfl rfl rfl) NE_bin) rfl rfl ?_
                        first | refine aQ 19 hst rfl rfl (by decide +kernel) (QX_of (Q_binu rfl rfl rfl (by omega)) NE_bin) rfl rfl ?_ | refine aQ 19 hst rfl rfl (by decide +kernel) (QX_of (Q_bin rfl rfl rfl) NE_bin) rfl rfl ?_
                        refine aQ 20 hst rfl rfl (by decide +kernel) (QX_of (Q_move rfl rfl) NE_move) rfl rfl ?_
                        refine aQ 21 hst rfl rfl (by decide +kernel) (QX_of (Q_move rfl rfl) NE_move) rfl rfl ?_
                        first | refine aQ 22 hst rfl rfl (by decide +kernel) (QX_of (Q_ixs0 rfl rfl rfl rfl rfl rfl (by first | omega | (dsimp only; omega) | (simp; omega) | (simp; done))) NE_ix) rfl rfl ?_ | refine aQ 22 hst rfl rfl (by decide +kernel) (QX_of (Q_ixs1 rfl rfl rfl rfl rfl rfl (by first | omega | (dsimp only; omega) | (simp; omega) | (simp; done))) NE_ix) rfl rfl ?_
                        refine aQ 23 hst rfl rfl (by decide +kernel) (QX_of (Q_ldv rfl rfl rfl rfl rfl rfl) NE_load) rfl rfl ?_
                        first | refine aQ 24 hst rfl rfl (by decide +kernel) (QX_of (Q_ixs0 rfl rfl rfl rfl rfl rfl (by first | omega | (dsimp only; omega) | (simp; omega) | (simp; done))) NE_ix) rfl rfl ?_ | refine aQ 24 hst rfl rfl (by decide +kernel) (QX_of (Q_ixs1 rfl rfl rfl rfl rfl rfl (by first | omega | (dsimp only; omega) | (simp; omega) | (simp; done))) NE_ix) rfl rfl ?_
                        first | refine aQ 25 hst rfl rfl (by decide +kernel) (QX_of (Q_ldc rfl rfl rfl rfl rfl) NE_load) rfl rfl ?_ | refine aQ 25 hst rfl rfl (by decide +kernel) (QX_of (Q_ld rfl rfl rfl rfl (by first | omega | (dsimp only; omega) | (simp; omega) | (simp; done))) NE_load) rfl rfl ?_
                        first | refine aQ 26 hst rfl rfl (by decide +kernel) (QX_of (Q_ixa0 rfl rfl rfl rfl rfl rfl (by first | omega | (dsimp only; omega) | (simp; omega) | (simp; done))) NE_ix) rfl rfl ?_ | refine aQ 26 hst rfl rfl (by decide +kernel) (QX_of (Q_ixa1 rfl rfl rfl rfl rfl rfl (by first | omega | (dsimp only; omega) | (simp; omega) | (simp; done))) NE_ix) rfl rfl ?_
                        first | refine aQ 27 hst rfl rfl (by decide +kernel) (QX_of (Q_ldc rfl rfl rfl rfl rfl) NE_load) rfl rfl ?_ | refine aQ 27 hst rfl rfl (by decide +kernel) (QX_of (Q_ld rfl rfl rfl rfl (by first | omega | (dsimp only; omega) | (simp; omega) | (simp; done))) NE_load) rfl rfl ?_
                        first | refine aQ 28 hst rfl rfl (by decide +kernel) (QX_of (Q_binu rfl rfl rfl (by omega)) NE_bin) rfl rfl ?_ | refine aQ 28 hst rfl rfl (by decide +kernel) (QX_of (Q_bin rfl rfl rfl) NE_bin) rfl rfl ?_
                        first | refine aQ 29 hst rfl rfl (by decide +kernel) (QX_of (Q_binu rfl rfl rfl (by omega)) NE_bin) rfl rfl ?_ | refine aQ 29 hst rfl rfl (by decide +kernel) (QX_of (Q_bin rfl rfl rfl) NE_bin) rfl rfl ?_
                        refine AW_one (i := 30) (by decide +kernel) ?_
                        refine gBsl (zl := []) (r := [_]) rfl rfl rfl rfl rfl rfl (.inl ⟨rfl, rfl⟩) rfl rfl rfl rfl rfl rfl ?_
                        refine AW_last [31, 32] rfl (by decide +kernel) rfl ?_
                        first | refine oApp (A := []) (sp := []) (sz := 1) (by_ := 8) rfl rfl rfl rfl rfl rfl ⟨by decide, rfl, .inl ⟨rfl, rfl⟩⟩ rfl rfl rfl rfl rfl rfl rfl rfl (by omega) (by omega) (by omega) (by omega) rfl rfl (fun k2 sp2 h1 h2 => ?_) | refine oApp (sz := 1) (by_ := 8) rfl rfl rfl rfl rfl rfl ⟨by decide, rfl, .inl ⟨rfl, rfl⟩⟩ rfl rfl rfl rfl rfl rfl rfl rfl (by omega) (by omega) (by omega) (by omega) rfl rfl (fun k2 sp2 h1 h2 => ?_)
                        refine oQ (Q_assign rfl rfl) rfl rfl ?_
                        refine OW_nil (npN ?_)
                        all_goals first | with_reducible refine bN ?_ | with_reducible refine bE ?_ | with_reducible refine bR ?_ | refine bX rfl ?_
                        all_goals with_reducible refine tN ?_
                        all_goals (
                            refine CW_region ?_
                            refine oQ (Q_move rfl rfl) rfl rfl ?_
                            first | refine oQ (Q_binu rfl rfl rfl (by omega)) rfl rfl ?_ | refine oQ (Q_bin rfl rfl rfl) rfl rfl ?_
                            refine oQ (Q_assign rfl rfl) rfl rfl ?_
                            refine OW_nil ?_))
                    all_goals first
                      | with_reducible refine tR ?_
                      | with_reducible refine tE ?_
                      | (
                        with_reducible refine tN ?_
                        refine RW_succ ?_
                        refine CW_seq ?_
                        refine CW_seq ?_
                        refine CW_region ?_
                        refine oQ (Q_move rfl rfl) rfl rfl ?_
                        refine oQ (Q_bin rfl rfl rfl) rfl rfl ?_
                        refine OW_nil ?_
                        all_goals with_reducible refine tN ?_
                        all_goals (
                            first | refine CW_cond_t rfl (by with_reducible rfl) ?_ | refine CW_cond_f rfl (by with_reducible rfl) ?_ | refine CW_cond rfl (fun hc => ?_) (fun hc => ?_)
                            all_goals try simp only [decide_eq_true_eq, decide_eq_false_iff_not, beq_iff_eq, beq_eq_false_iff_ne, bne_iff_ne, bne_eq_false_iff_eq, Bool.not_eq_true', Bool.not_eq_false', Int.not_lt, Int.not_le, ne_eq, not_false_eq_true] at hc
                            all_goals try (exfalso; first | omega | (simp at hc; done); done)
                            all_goals first
                              | (
                                refine CW_skip ?_)
                              | (
                                refine CW_exit ?_))
                        all_goals first
                          | with_reducible refine tR ?_
                          | with_reducible refine tE ?_
                          | (
                            with_reducible refine tN ?_
                            refine CW_seq ?_
                            refine CW_block ?_
                            refine CW_any (fun i => List.elem i [31, 32]) 33 rfl lateOk (by decide +kernel) (fun hst => ?_)
                            refine aQ 0 hst rfl rfl (by decide +kernel) (QX_of (Q_move rfl rfl) NE_move) rfl rfl ?_
                            refine aQ 1 hst rfl rfl (by decide +kernel) (QX_of (Q_move rfl rfl) NE_move) rfl rfl ?_
                            refine aQ 2 hst rfl rfl (by decide +kernel) (QX_of (Q_move rfl rfl) NE_move) rfl rfl ?_
                            first | refine aQ 3 hst rfl rfl (by decide +kernel) (QX_of (Q_ixs0 rfl rfl rfl rfl rfl rfl (by first | omega | (dsimp only; omega) | (simp; omega) | (simp; done))) NE_ix) rfl rfl ?_ | refine aQ 3 hst rfl rfl (by decide +kernel) (QX_of (Q_ixs1 rfl rfl rfl rfl rfl rfl (by first | omega | (dsimp only; omega) | (simp; omega) | (simp; done))) NE_ix) rfl rfl ?_
                            refine aQ 4 hst rfl rfl (by decide +kernel) (QX_of (Q_ldv rfl rfl rfl rfl rfl rfl) NE_load) rfl rfl ?_
                            first | refine aQ 5 hst rfl rfl (by decide +kernel) (QX_of (Q_ixs0 rfl rfl rfl rfl rfl rfl (by first | omega | (dsimp only; omega) | (simp; omega) | (simp; done))) NE_ix) rfl rfl ?_ | refine aQ 5 hst rfl rfl (by decide +kernel) (QX_of (Q_ixs1 rfl rfl rfl rfl rfl rfl (by first | omega | (dsimp only; omega) | (simp; omega) | (simp; done))) NE_ix) rfl rfl ?_
                            first | refine aQ 6 hst rfl rfl (by decide +kernel) (QX_of (Q_ldc rfl rfl rfl rfl rfl) NE_load) rfl rfl ?_ | refine aQ 6 hst rfl rfl (by decide +kernel) (QX_of (Q_ld rfl rfl rfl rfl (by first | omega | (dsimp only; omega) | (simp; omega) | (simp; done))) NE_load) rfl rfl ?_
                            first | refine aQ 7 hst rfl rfl (by decide +kernel) (QX_of (Q_ixa0 rfl rfl rfl rfl rfl rfl (by first | omega | (dsimp only; omega) | (simp; omega) | (simp; done))) NE_ix) rfl rfl ?_ | refine aQ 7 hst rfl rfl (by decide +kernel) (QX_of (Q_ixa1 rfl rfl rfl rfl rfl rfl (by first | omega | (dsimp only; omega) | (simp; omega) | (simp; done))) NE_ix) rfl rfl ?_
                            first | refine aQ 8 hst rfl rfl (by decide +kernel) (QX_of (Q_ldc rfl rfl rfl rfl rfl) NE_load) rfl rfl ?_ | refine aQ 8 hst rfl rfl (by decide +kernel) (QX_of (Q_ld rfl rfl rfl rfl (by first | omega | (dsimp only; omega) | (simp; omega) | (simp; done))) NE_load) rfl rfl ?_
                            first | refine aQ 9 hst rfl rfl (by decide +kernel) (QX_of (Q_binu rfl rfl rfl (by omega)) NE_bin) rfl rfl ?_ | refine aQ 9 hst rfl rfl (by decide +kernel) (QX_of (Q_bin rfl rfl rfl) NE_bin) rfl rfl ?_
                            refine aQ 10 hst rfl rfl (by decide +kernel) (QX_of (Q_move rfl rfl) NE_move) rfl rfl ?_
                            refine aQ 11 hst rfl rfl (by decide +kernel) (QX_of (Q_move rfl rfl) NE_move) rfl rfl ?_
                            first | refine aQ 12 hst rfl rfl (by decide +kernel) (QX_of (Q_ixs0 rfl rfl rfl rfl rfl rfl (by first | omega | (dsimp only; omega) | (simp; omega) | (simp; done))) NE_ix) rfl rfl ?_ | refine aQ 12 hst rfl rfl (by decide +kernel) (QX_of (Q_ixs1 rfl rfl rfl rfl rfl rfl (by first | omega | (dsimp only; omega) | (simp; omega) | (simp; done))) NE_ix) rfl rfl ?_
                            refine aQ 13 hst rfl rfl (by decide +kernel) (QX_of (Q_ldv rfl rfl rfl rfl rfl rfl) NE_load) rfl rfl ?_
                            first | refine aQ 14 hst rfl rfl (by decide +kernel) (QX_of (Q_ixs0 rfl rfl rfl rfl rfl rfl (by first | omega | (dsimp only; omega) | (simp; omega) | (simp; done))) NE_ix) rfl rfl ?_ | refine aQ 14 hst rfl rfl (by decide +kernel) (QX_of (Q_ixs1 rfl rfl rfl rfl rfl rfl (by first | omega | (dsimp only; omega) | (simp; omega) | (simp; done))) NE_ix) rfl rfl ?_
                            first | refine aQ 15 hst rfl rfl (by decide +kernel) (QX_of (Q_ldc rfl rfl rfl rfl rfl) NE_load) rfl rfl ?_ | refine aQ 15 hst rfl rfl (by decide +kernel) (QX_of (Q_ld rfl rfl rfl rfl (by first | omega | (dsimp only; omega) | (simp; omega) | (simp; done))) NE_load) rfl rfl ?_
                            first | refine aQ 16 hst rfl rfl (by decide +kernel) (QX_of (Q_ixa0 rfl rfl rfl rfl rfl rfl (by first | omega | (dsimp only; omega) | (simp; omega) | (simp; done))) NE_ix) rfl rfl ?_ | refine aQ 16 hst rfl rfl (by decide +kernel) (QX_of (Q_ixa1 rfl rfl rfl rfl rfl rfl (by first | omega | (dsimp only; omega) | (simp; omega) | (simp; done))) NE_ix) rfl rfl ?_
                            first | refine aQ 17 hst rfl rfl (by decide +kernel) (QX_of (Q_ldc rfl rfl rfl rfl rfl) NE_load) rfl rfl ?_ | refine aQ 17 hst rfl rfl (by decide +kernel) (QX_of (Q_ld rfl rfl rfl rfl (by first | omega | (dsimp only; omega) | (simp; omega) | (simp; done))) NE_load) rfl rfl ?_
                            first | refine aQ 18 hst rfl rfl (by decide +kernel) (QX_of (Q_binu rfl rfl rfl (by omega)) NE_bin) rfl rfl ?_ | refine aQ 18 hst rfl rfl (by decide +kernel) (QX_of (Q_bin rfl rfl rfl) NE_bin) rfl rfl ?_
                            first | refine aQ 19 hst rfl rfl (by decide +kernel) (QX_of (Q_binu rfl rfl rfl (by omega)) NE_bin) rfl rfl ?_ | refine aQ 19 hst rfl rfl (by decide +kernel) (QX_of (Q_bin rfl rfl rfl) NE_bin) rfl rfl ?_
                            refine aQ 20 hst rfl rfl (by decide +kernel) (QX_of (Q_move rfl rfl) NE_move) rfl rfl ?_
                            refine aQ 21 hst rfl rfl (by decide +kernel) (QX_of (Q_move rfl rfl) NE_move) rfl rfl ?_
                            first | refine aQ 22 hst rfl rfl (by decide +kernel) (QX_of (Q_ixs0 rfl rfl rfl rfl rfl rfl (by first | omega | (dsimp only; omega) | (simp; omega) | (simp; done))) NE_ix) rfl rfl ?_ | refine aQ 22 hst rfl rfl (by decide +kernel) (QX_of (Q_ixs1 rfl rfl rfl rfl rfl rfl (by first | omega | (dsimp only; omega) | (simp; omega) | (simp; done))) NE_ix) rfl rfl ?_
                            refine aQ 23 hst rfl rfl (by decide +kernel) (QX_of (Q_ldv rfl rfl rfl rfl rfl rfl) NE_load) rfl rfl ?_
                            first | refine aQ 24 hst rfl rfl (by decide +kernel) (QX_of (Q_ixs0 rfl rfl rfl rfl rfl rfl (by first | omega | (dsimp only; omega) | (simp; omega) | (simp; done))) NE_ix) rfl rfl ?_ | refine aQ 24 hst rfl rfl (by decide +kernel) (QX_of (Q_ixs1 rfl rfl rfl rfl rfl rfl (by first | omega | (dsimp only; omega) | (simp; omega) | (simp; done))) NE_ix) rfl rfl ?_
                            first | refine aQ 25 hst rfl rfl (by decide +kernel) (QX_of (Q_ldc rfl rfl rfl rfl rfl) NE_load) rfl rfl ?_ | refine aQ 25 hst rfl rfl (by decide +kernel) (QX_of (Q_ld rfl rfl rfl rfl (by first | omega | (dsimp only; omega) | (simp; omega) | (simp; done))) NE_load) rfl rfl ?_
                            first | refine aQ 26 hst rfl rfl (by decide +kernel) (QX_of (Q_ixa0 rfl rfl rfl rfl rfl rfl (by first | omega | (dsimp only; omega) | (simp; omega) | (simp; done))) NE_ix) rfl rfl ?_ | refine aQ 26 hst rfl rfl (by decide +kernel) (QX_of (Q_ixa1 rfl rfl rfl rfl rfl rfl (by first | omega | (dsimp only; omega) | (simp; omega) | (simp; done))) NE_ix) rfl rfl ?_
                            first | refine aQ 27 hst rfl rfl (by decide +kernel) (QX_of (Q_ldc rfl rfl rfl rfl rfl) NE_load) rfl rfl ?_ | refine aQ 27 hst rfl rfl (by decide +kernel) (QX_of (Q_ld rfl rfl rfl rfl (by first | omega | (dsimp only; omega) | (simp; omega) | (simp; done))) NE_load) rfl rfl ?_
                            first | refine aQ 28 hst rfl rfl (by decide +kernel) (QX_of (Q_binu rfl rfl rfl (by omega)) NE_bin) rfl rfl ?_ | refine aQ 28 hst rfl rfl (by decide +kernel) (QX_of (Q_bin rfl rfl rfl) NE_bin) rfl rfl ?_
                            first | refine aQ 29 hst rfl rfl (by decide +kernel) (QX_of (Q_binu rfl rfl rfl (by omega)) NE_bin) rfl rfl ?_ | refine aQ 29 hst rfl rfl (by decide +kernel) (QX_of (Q_bin rfl rfl rfl) NE_bin) rfl rfl ?_
                            refine AW_one (i := 30) (by decide +kernel) ?_
                            refine gBsl (zl := []) (r := [_]) rfl rfl rfl rfl rfl rfl (.inl ⟨rfl, rfl⟩) rfl rfl rfl rfl rfl rfl ?_
                            refine AW_last [31, 32] rfl (by decide +kernel) rfl ?_
                            first | refine oApp (A := []) (sp := []) (sz := 1) (by_ := 8) rfl rfl rfl rfl rfl rfl ⟨by decide, rfl, .inl ⟨rfl, rfl⟩⟩ rfl rfl rfl rfl rfl rfl rfl rfl (by omega) (by omega) (by omega) (by omega) rfl rfl (fun k2 sp2 h1 h2 => ?_) | refine oApp (sz := 1) (by_ := 8) rfl rfl rfl rfl rfl rfl ⟨by decide, rfl, .inl ⟨rfl, rfl⟩⟩ rfl rfl rfl rfl rfl rfl rfl rfl (by omega) (by omega) (by omega) (by omega) rfl rfl (fun k2 sp2 h1 h2 => ?_)
                            refine oQ (Q_assign rfl rfl) rfl rfl ?_
                            refine OW_nil (npN ?_)
                            all_goals first | with_reducible refine bN ?_ | with_reducible refine bE ?_ | with_reducible refine bR ?_ | refine bX rfl ?_
                            all_goals with_reducible refine tN ?_
                            all_goals (
                                refine CW_region ?_
                                refine oQ (Q_move rfl rfl) rfl rfl ?_
                                first | refine oQ (Q_binu rfl rfl rfl (by omega)) rfl rfl ?_ | refine oQ (Q_bin rfl rfl rfl) rfl rfl ?_
                                refine oQ (Q_assign rfl rfl) rfl rfl ?_
                                refine OW_nil ?_))
                        all_goals first
                          | with_reducible refine tR ?_
                          | with_reducible refine tE ?_
                          | (
                            with_reducible refine tN ?_
                            refine RW_succ ?_
                            refine CW_seq ?_
                            refine CW_seq ?_
                            refine CW_region ?_
                            refine oQ (Q_move rfl rfl) rfl rfl ?_
                            refine oQ (Q_bin rfl rfl rfl) rfl rfl ?_
                            refine OW_nil ?_
                            all_goals with_reducible refine tN ?_
                            all_goals (
                                first | refine CW_cond_t rfl (by with_reducible rfl) ?_ | refine CW_cond_f rfl (by with_reducible rfl) ?_ | refine CW_cond rfl (fun hc => ?_) (fun hc => ?_)
                                all_goals try simp only [decide_eq_true_eq, decide_eq_false_iff_not, beq_iff_eq, beq_eq_false_iff_ne, bne_iff_ne, bne_eq_false_iff_eq, Bool.not_eq_true', Bool.not_eq_false', Int.not_lt, Int.not_le, ne_eq, not_false_eq_true] at hc
                                all_goals try (exfalso; first | omega | (simp at hc; done); done)
                                all_goals first
                                  | (
                                    refine CW_skip ?_)
                                  | (
                                    refine CW_exit ?_))
                            all_goals first
                              | with_reducible refine tR ?_
                              | with_reducible refine tE ?_
                              | (
                                with_reducible refine tN ?_
                                refine CW_seq ?_
                                refine CW_block ?_
                                refine CW_any (fun i => List.elem i [31, 32]) 33 rfl lateOk (by decide +kernel) (fun hst => ?_)
                                refine aQ 0 hst rfl rfl (by decide +kernel) (QX_of (Q_move rfl rfl) NE_move) rfl rfl ?_
                                refine aQ 1 hst rfl rfl (by decide +kernel) (QX_of (Q_move rfl rfl) NE_move) rfl rfl ?_
                                refine aQ 2 hst rfl rfl (by decide +kernel) (QX_of (Q_move rfl rfl) NE_move) rfl rfl ?_
                                first | refine aQ 3 hst rfl rfl (by decide +kernel) (QX_of (Q_ixs0 rfl rfl rfl rfl rfl rfl (by first | omega | (dsimp only; omega) | (simp; omega) | (simp; done))) NE_ix) rfl rfl ?_ | refine aQ 3 hst rfl rfl (by decide +kernel) (QX_of (Q_ixs1 rfl rfl rfl rfl rfl rfl (by first | omega | (dsimp only; omega) | (simp; omega) | (simp; done))) NE_ix) rfl rfl ?_
                                refine aQ 4 hst rfl rfl (by decide +kernel) (QX_of (Q_ldv rfl rfl rfl rfl rfl rfl) NE_load) rfl rfl ?_
                                first | refine aQ 5 hst rfl rfl (by decide +kernel) (QX_of (Q_ixs0 rfl rfl rfl rfl rfl rfl (by first | omega | (dsimp only; omega) | (simp; omega) | (simp; done))) NE_ix) rfl rfl ?_ | refine aQ 5 hst rfl rfl (by decide +kernel) (QX_of (Q_ixs1 rfl rfl rfl rfl rfl rfl (by first | omega | (dsimp only; omega) | (simp; omega) | (simp; done))) NE_ix) rfl rfl ?_
                                first | refine aQ 6 hst rfl rfl (by decide +kernel) (QX_of (Q_ldc rfl rfl rfl rfl rfl) NE_load) rfl rfl ?_ | refine aQ 6 hst rfl rfl (by decide +kernel) (QX_of (Q_ld rfl rfl rfl rfl (by first | omega | (dsimp only; omega) | (simp; omega) | (simp; done))) NE_load) rfl rfl ?_
                                first | refine aQ 7 hst rfl rfl (by decide +kernel) (QX_of (Q_ixa0 rfl rfl rfl rfl rfl rfl (by first | omega | (dsimp only; omega) | (simp; omega) | (simp; done))) NE_ix) rfl rfl ?_ | refine aQ 7 hst rfl rfl (by decide +kernel) (QX_of (Q_ixa1 rfl rfl rfl rfl rfl rfl (by first | omega | (dsimp only; omega) | (simp; omega) | (simp; done))) NE_ix) rfl rfl ?_
                                first | refine aQ 8 hst rfl rfl (by decide +kernel) (QX_of (Q_ldc rfl rfl rfl rfl rfl) NE_load) rfl rfl ?_ | refine aQ 8 hst rfl rfl (by decide +kernel) (QX_of (Q_ld rfl rfl rfl rfl (by first | omega | (dsimp only; omega) | (simp; omega) | (simp; done))) NE_load) rfl rfl ?_
                                first | refine aQ 9 hst rfl rfl (by decide +kernel) (QX_of (Q_binu rfl rfl rfl (by omega)) NE_bin) rfl rfl ?_ | refine aQ 9 hst rfl rfl (by decide +kernel) (QX_of (Q_bin rfl rfl rfl) NE_bin) rfl rfl ?_
                                refine aQ 10 hst rfl rfl (by decide +kernel) (QX_of (Q_move rfl rfl) NE_move) rfl rfl ?_
                                refine aQ 11 hst rfl rfl (by decide +kernel) (QX_of (Q_move rfl rfl) NE_move) rfl rfl ?_
                                first | refine aQ 12 hst rfl rfl (by decide +kernel) (QX_of (Q_ixs0 rfl rfl rfl rfl rfl rfl (by first | omega | (dsimp only; omega) | (simp; omega) | (simp; done))) NE_ix) rfl rfl ?_ | refine aQ 12 hst rfl rfl (by decide +kernel) (QX_of (Q_ixs1 rfl rfl rfl rfl rfl rfl (by first | omega | (dsimp only; omega) | (simp; omega) | (simp; done))) NE_ix) rfl rfl ?_
                                refine aQ 13 hst rfl rfl (by decide +kernel) (QX_of (Q_ldv rfl rfl rfl rfl rfl rfl) NE_load) rfl rfl ?_
                                first | refine aQ 14 hst rfl rfl (by decide +kernel) (QX_of (Q_ixs0 rfl rfl rfl rfl rfl rfl (by first | omega | (dsimp only; omega) | (simp; omega) | (simp; done))) NE_ix) rfl rfl ?_ | refine aQ 14 hst rfl rfl (by decide +kernel) (QX_of (Q_ixs1 rfl rfl rfl rfl rfl rfl (by first | omega | (dsimp only; omega) | (simp; omega) | (simp; done))) NE_ix) rfl rfl ?_
                                first | refine aQ 15 hst rfl rfl (by decide +kernel) (QX_of (Q_ldc rfl rfl rfl rfl rfl) NE_load) rfl rfl ?_ | refine aQ 15 hst rfl rfl (by decide +kernel) (QX_of (Q_ld rfl rfl rfl rfl (by first | omega | (dsimp only; omega) | (simp; omega) | (simp; done))) NE_load) rfl rfl ?_
                                first | refine aQ 16 hst rfl rfl (by decide +kernel) (QX_of (Q_ixa0 rfl rfl rfl rfl rfl rfl (by first | omega | (dsimp only; omega) | (simp; omega) | (simp; done))) NE_ix) rfl rfl ?_ | refine aQ 16 hst rfl rfl (by decide +kernel) (QX_of (Q_ixa1 rfl rfl rfl rfl rfl rfl (by first | omega | (dsimp only; omega) | (simp; omega) | (simp; done))) NE_ix) rfl rfl ?_
                                first | refine aQ 17 hst rfl rfl (by decide +kernel) (QX_of (Q_ldc rfl rfl rfl rfl rfl) NE_load) rfl rfl ?_ | refine aQ 17 hst rfl rfl (by decide +kernel) (QX_of (Q_ld rfl rfl rfl rfl (by first | omega | (dsimp only; omega) | (simp; omega) | (simp; done))) NE_load) rfl rfl ?_
                                first | refine aQ 18 hst rfl rfl (by decide +kernel) (QX_of (Q_binu rfl rfl rfl (by omega)) NE_bin) rfl rfl ?_ | refine aQ 18 hst rfl rfl (by decide +kernel) (QX_of (Q_bin rfl rfl rfl) NE_bin) rfl rfl ?_
                                first | refine aQ 19 hst rfl rfl (by decide +kernel) (QX_of (Q_binu rfl rfl rfl (by omega)) NE_bin) rfl rfl ?_ | refine aQ 19 hst rfl rfl (by decide +kernel) (QX_of (Q_bin rfl rfl rfl) NE_bin) rfl rfl ?_
                                refine aQ 20 hst rfl rfl (by decide +kernel) (QX_of (Q_move rfl rfl) NE_move) rfl rfl ?_
                                refine aQ 21 hst rfl rfl (by decide +kernel) (QX_of (Q_move rfl rfl) NE_move) rfl rfl ?_
                                first | refine aQ 22 hst rfl rfl (by decide +kernel) (QX_of (Q_ixs0 rfl rfl rfl rfl rfl rfl (by first | omega | (dsimp only; omega) | (simp; omega) | (simp; done))) NE_ix) rfl rfl ?_ | refine aQ 22 hst rfl rfl (by decide +kernel) (QX_of (Q_ixs1 rfl rfl rfl rfl rfl rfl (by first | omega | (dsimp only; omega) | (simp; omega) | (simp; done))) NE_ix) rfl rfl ?_
                                refine aQ 23 hst rfl rfl (by decide +kernel) (QX_of (Q_ldv rfl rfl rfl rfl rfl rfl) NE_load) rfl rfl ?_
                                first | refine aQ 24 hst rfl rfl (by decide +kernel) (QX_of (Q_ixs0 rfl rfl rfl rfl rfl rfl (by first | omega | (dsimp only; omega) | (simp; omega) | (simp; done))) NE_ix) rfl rfl ?_ | refine aQ 24 hst rfl rfl (by decide +kernel) (QX_of (Q_ixs1 rfl rfl rfl rfl rfl rfl (by first | omega | (dsimp only; omega) | (simp; omega) | (simp; done))) NE_ix) rfl rfl ?_
                                first | refine aQ 25 hst rfl rfl (by decide +kernel) (QX_of (Q_ldc rfl rfl rfl rfl rfl) NE_load) rfl rfl ?_ | refine aQ 25 hst rfl rfl (by decide +kernel) (QX_of (Q_ld rfl rfl rfl rfl (by first | omega | (dsimp only; omega) | (simp; omega) | (simp; done))) NE_load) rfl rfl ?_
                                first | refine aQ 26 hst rfl rfl (by decide +kernel) (QX_of (Q_ixa0 rfl rfl rfl rfl rfl rfl (by first | omega | (dsimp only; omega) | (simp; omega) | (simp; done))) NE_ix) rfl rfl ?_ | refine aQ 26 hst rfl rfl (by decide +kernel) (QX_of (Q_ixa1 rfl rfl rfl rfl rfl rfl (by first | omega | (dsimp only; omega) | (simp; omega) | (simp; done))) NE_ix) rfl rfl ?_
                                first | refine aQ 27 hst rfl rfl (by decide +kernel) (QX_of (Q_ldc rfl rfl rfl rfl rfl) NE_load) rfl rfl ?_ | refine aQ 27 hst rfl rfl (by decide +kernel) (QX_of (Q_ld rfl rfl rfl rfl (by first | omega | (dsimp only; omega) | (simp; omega) | (simp; done))) NE_load) rfl rfl ?_
                                first | refine aQ 28 hst rfl rfl (by decide +kernel) (QX_of (Q_binu rfl rfl rfl (by omega)) NE_bin) rfl rfl ?_ | refine aQ 28 hst rfl rfl (by decide +kernel) (QX_of (Q_bin rfl rfl rfl) NE_bin) rfl rfl ?_
                                first | refine aQ 29 hst rfl rfl (by decide +kernel) (QX_of (Q_binu rfl rfl rfl (by omega)) NE_bin) rfl rfl ?_ | refine aQ 29 hst rfl rfl (by decide +kernel) (QX_of (Q_bin rfl rfl rfl) NE_bin) rfl rfl ?_
                                refine AW_one (i := 30) (by decide +kernel) ?_
                                refine gBsl (zl := []) (r := [_]) rfl rfl rfl rfl rfl rfl (.inl ⟨rfl, rfl⟩) rfl rfl rfl rfl rfl rfl ?_
                                refine AW_last [31, 32] rfl (by decide +kernel) rfl ?_
                                first | refine oApp (A := []) (sp := []) (sz := 1) (by_ := 8) rfl rfl rfl rfl rfl rfl ⟨by decide, rfl, .inl ⟨rfl, rfl⟩⟩ rfl rfl rfl rfl rfl rfl rfl rfl (by omega) (by omega) (by omega) (by omega) rfl rfl (fun k2 sp2 h1 h2 => ?_) | refine oApp (sz := 1) (by_ := 8) rfl rfl rfl rfl rfl rfl ⟨by decide, rfl, .inl ⟨rfl, rfl⟩⟩ rfl rfl rfl rfl rfl rfl rfl rfl (by omega) (by omega) (by omega) (by omega) rfl rfl (fun k2 sp2 h1 h2 => ?_)
                                refine oQ (Q_assign rfl rfl) rfl rfl ?_
                                refine OW_nil (npN ?_)
                                all_goals first | with_reducible refine bN ?_ | with_reducible refine bE ?_ | with_reducible refine bR ?_ | refine bX rfl ?_
                                all_goals with_reducible refine tN ?_
                                all_goals (
                                    refine CW_region ?_
                                    refine oQ (Q_move rfl rfl) rfl rfl ?_
                                    first | refine oQ (Q_binu rfl rfl rfl (by omega)) rfl rfl ?_ | refine oQ (Q_bin rfl rfl rfl) rfl rfl ?_
                                    refine oQ (Q_assign rfl rfl) rfl rfl ?_
                                    refine OW_nil ?_))
                            all_goals first
                              | with_reducible refine tR ?_
                              | with_reducible refine tE ?_
                              | (
                                with_reducible refine tN ?_
                                exfalso; first | omega | (simp at hc; done) | (simp_all; done)))))
                all_goals first | with_reducible refine bN ?_ | with_reducible refine bE ?_ | with_reducible refine bR ?_ | refine bX rfl ?_)
            all_goals with_reducible refine tN ?_
            all_goals (
                refine CW_seq ?_
                refine CW_any (fun i => List.elem i [15, 16]) 17 rfl lateOk (by decide +kernel) (fun hst => ?_)
                refine aQ 0 hst rfl rfl (by decide +kernel) (QX_of (Q_move rfl rfl) NE_move) rfl rfl ?_
                refine aQ 1 hst rfl rfl (by decide +kernel) (QX_of (Q_move rfl rfl) NE_move) rfl rfl ?_
                first | refine aQ 2 hst rfl rfl (by decide +kernel) (QX_of (Q_ixs0 rfl rfl rfl rfl rfl rfl (by first | omega | (dsimp only; omega) | (simp; omega) | (simp; done))) NE_ix) rfl rfl ?_ | refine aQ 2 hst rfl rfl (by decide +kernel) (QX_of (Q_ixs1 rfl rfl rfl rfl rfl rfl (by first | omega | (dsimp only; omega) | (simp; omega) | (simp; done))) NE_ix) rfl rfl ?_
                first | refine aQ 3 hst rfl rfl (by decide +kernel) (QX_of (Q_ldc rfl rfl rfl rfl rfl) NE_load) rfl rfl ?_ | refine aQ 3 hst rfl rfl (by decide +kernel) (QX_of (Q_ld rfl rfl rfl rfl (by first | omega | (dsimp only; omega) | (simp; omega) | (simp; done))) NE_load) rfl rfl ?_
                refine aQ 4 hst rfl rfl (by decide +kernel) (QX_of (Q_move rfl rfl) NE_move) rfl rfl ?_
                first | refine aQ 5 hst rfl rfl (by decide +kernel) (QX_of (Q_ixs0 rfl rfl rfl rfl rfl rfl (by first | omega | (dsimp only; omega) | (simp; omega) | (simp; done))) NE_ix) rfl rfl ?_ | refine aQ 5 hst rfl rfl (by decide +kernel) (QX_of (Q_ixs1 rfl rfl rfl rfl rfl rfl (by first | omega | (dsimp only; omega) | (simp; omega) | (simp; done))) NE_ix) rfl rfl ?_
                first | refine aQ 6 hst rfl rfl (by decide +kernel) (QX_of (Q_ldc rfl rfl rfl rfl rfl) NE_load) rfl rfl ?_ | refine aQ 6 hst rfl rfl (by decide +kernel) (QX_of (Q_ld rfl rfl rfl rfl (by first | omega | (dsimp only; omega) | (simp; omega) | (simp; done))) NE_load) rfl rfl ?_
                refine aQ 7 hst rfl rfl (by decide +kernel) (QX_of (Q_move rfl rfl) NE_move) rfl rfl ?_
                first | refine aQ 8 hst rfl rfl (by decide +kernel) (QX_of (Q_ixs0 rfl rfl rfl rfl rfl rfl (by first | omega | (dsimp only; omega) | (simp; omega) | (simp; done))) NE_ix) rfl rfl ?_ | refine aQ 8 hst rfl rfl (by decide +kernel) (QX_of (Q_ixs1 rfl rfl rfl rfl rfl rfl (by first | omega | (dsimp only; omega) | (simp; omega) | (simp; done))) NE_ix) rfl rfl ?_
                first | refine aQ 9 hst rfl rfl (by decide +kernel) (QX_of (Q_ldc rfl rfl rfl rfl rfl) NE_load) rfl rfl ?_ | refine aQ 9 hst rfl rfl (by decide +kernel) (QX_of (Q_ld rfl rfl rfl rfl (by first | omega | (dsimp only; omega) | (simp; omega) | (simp; done))) NE_load) rfl rfl ?_
                refine aQ 10 hst rfl rfl (by decide +kernel) (QX_call0 (l01Made_con p _ _ _ hp) rfl rfl rfl) rfl rfl ?_
                refine aQ 11 hst rfl rfl (by decide +kernel) (QX_of (Q_move rfl rfl) NE_move) rfl rfl ?_
                refine aExt 12 hst rfl rfl (by decide +kernel) rfl rfl rfl rfl ?_
                refine aExt 13 hst rfl rfl (by decide +kernel) rfl rfl rfl rfl ?_
                refine AW_one (i := 14) (by decide +kernel) ?_
                refine gAlloc rfl rfl rfl rfl rfl rfl rfl rfl rfl ?_
                refine AW_last [15, 16] rfl (by decide +kernel) rfl ?_
                first | refine oStw rfl rfl rfl rfl (by first | omega | (dsimp only; omega) | (simp; omega) | (simp; done)) (by first | omega | (dsimp only; omega) | (simp; omega) | (simp; done)) ?_ | refine oSta rfl rfl rfl rfl (by first | omega | (dsimp only; omega) | (simp; omega) | (simp; done)) (by first | omega | (dsimp only; omega) | (simp; omega) | (simp; done)) ?_
                refine oQ (Q_assign rfl rfl) rfl rfl ?_
                refine OW_nil (npN ?_)
                all_goals with_reducible refine tN ?_
                all_goals (
                    refine CW_seq ?_
                    refine CW_region ?_
                    first | refine oQ (Q_ldw rfl rfl rfl rfl (by first | omega | (dsimp only; omega) | (simp; omega) | (simp; done))) rfl rfl ?_ | refine oQ (Q_lda rfl rfl rfl rfl rfl (by first | omega | (dsimp only; omega) | (simp; omega) | (simp; done))) rfl rfl ?_
                    refine oQ (Q_move rfl rfl) rfl rfl ?_
                    first | refine oStw rfl rfl rfl rfl (by first | omega | (dsimp only; omega) | (simp; omega) | (simp; done)) (by first | omega | (dsimp only; omega) | (simp; omega) | (simp; done)) ?_ | refine oSta rfl rfl rfl rfl (by first | omega | (dsimp only; omega) | (simp; omega) | (simp; done)) (by first | omega | (dsimp only; omega) | (simp; omega) | (simp; done)) ?_
                    refine oQ (Q_assign rfl rfl) rfl rfl ?_
                    refine OW_nil ?_
                    all_goals with_reducible refine tN ?_
                    all_goals (
                        refine CW_ret ?_)))))
    all_goals (
        ((refine exitQ (.inr rfl) 0 (.cons (.arr rfl rfl rfl rfl (by first | omega | (dsimp only; omega) | (simp; omega) | (simp; done))) (.cons (.tmp rfl rfl) .nil)) ?_ rfl vHn rfl rfl); rfl))
theorem l03Polar_con (p : Int) (c a : List Int) (hp : primeB p = true) (hc6 : c.length = 6) (ha3 : a.length = 3) (h1 : modB p c = true) (h2 : sm 13 a) : ConQ Try.prog [] 85 [.int p, .arr c, .arr a] [] (.tuple [.arr (normL p (polX p c a)), .bool (facP p (polX p c a) != 0)]) := by
  match a, ha3, h2 with
  | [x, y, z], _, h2 => exact l03Polar_con3 p c x y z hp hc6 h1 h2
theorem impl_TangentAt_con (p : Int) (c a : List Int) (hc6 : c.length = 6) (ha3 : a.length = 3) : ConQ Try.prog [] 44 [.int p, .arr c, .arr a] [] (.tuple [.arr (tanV p c a), .int (tanC p c a)]) := by
  have hnl := normL_length p (polX p c a)
  have hpl : (polX p c a).length = 3 := rfl
  refine conW tab_ok [(0, .int p), (1, .arr c), (2, .arr a)] 0 [] [] Try.func44 rfl rfl rfl rfl rfl rfl rfl rfl rfl ?_
  refine CW_seq ?_
  refine CW_region ?_
  refine oBox rfl rfl rfl rfl rfl rfl ?_
  refine oBox rfl rfl rfl rfl rfl rfl ?_
  refine oAlloc rfl rfl rfl rfl rfl rfl rfl ?_
  refine oQ (Q_assign rfl rfl) rfl rfl ?_
  refine OW_nil ?_
  all_goals with_reducible refine tN ?_
  all_goals (
      refine CW_seq ?_
      refine CW_seq ?_
      refine CW_any (fun _ => false) 9 rfl lateOk (by decide +kernel) (fun hst => ?_)
      refine aQ 0 hst rfl rfl (by decide +kernel) (QX_of (Q_move rfl rfl) NE_move) rfl rfl ?_
      refine aQ 1 hst rfl rfl (by decide +kernel) (QX_of (Q_move rfl rfl) NE_move) rfl rfl ?_
      refine aQ 2 hst rfl rfl (by decide +kernel) (QX_of (Q_ldw rfl rfl rfl rfl ha3) NE_load) rfl rfl ?_
      refine aQ 5 hst rfl rfl (by decide +kernel) (QX_of (Q_ldw rfl rfl rfl rfl hc6) NE_load) rfl rfl ?_
      refine AW_two (i := 3) (j := 6) (by decide +kernel) ?_ ?_
      all_goals first
        | (
          refine gBsl1 ha3 rfl rfl rfl rfl rfl rfl rfl rfl rfl rfl rfl rfl ?_
          refine aQ 4 hst rfl rfl (by decide +kernel) (QX_call (arePoints_one p a ha3) [(0, 3)] rfl rfl (Fits.mk' (vHc rfl vHn) rfl rfl (by simp)) rfl rfl rfl) rfl rfl ?_
          refine AW_one (i := 6) (by decide +kernel) ?_
          refine gBsl1 hc6 rfl rfl rfl rfl rfl rfl rfl rfl rfl rfl rfl rfl ?_
          refine aQ 7 hst rfl rfl (by decide +kernel) (QX_call (conicsCode_one p (pointB p a) c hc6) [(0, 4)] rfl rfl (Fits.mk' (vHc rfl vHn) rfl rfl (by simp)) rfl rfl rfl) rfl rfl ?_
          refine aQ 8 hst rfl rfl (by decide +kernel) (QX_of (Q_assign rfl rfl) NE_assign) rfl rfl ?_
          refine AW_done (by decide +kernel) ?_)
        | (
          refine gBsl1 hc6 rfl rfl rfl rfl rfl rfl rfl rfl rfl rfl rfl rfl ?_
          refine AW_one (i := 3) (by decide +kernel) ?_
          refine gBsl1 ha3 rfl rfl rfl rfl rfl rfl rfl rfl rfl rfl rfl rfl ?_
          refine aQ 4 hst rfl rfl (by decide +kernel) (QX_call (arePoints_one p a ha3) [(0, 4)] rfl rfl (Fits.mk' (vHc rfl vHn) rfl rfl (by simp)) rfl rfl rfl) rfl rfl ?_
          refine aQ 7 hst rfl rfl (by decide +kernel) (QX_call (conicsCode_one p (pointB p a) c hc6) [(0, 3)] rfl rfl (Fits.mk' (vHc rfl vHn) rfl rfl (by simp)) rfl rfl rfl) rfl rfl ?_
          refine aQ 8 hst rfl rfl (by decide +kernel) (QX_of (Q_assign rfl rfl) NE_assign) rfl rfl ?_
          refine AW_done (by decide +kernel) ?_)
      all_goals with_reducible refine tN ?_
      all_goals (
          refine CW_seq ?_
          refine CW_region ?_
          refine oQ (Q_move rfl rfl) rfl rfl ?_
          refine oQ (Q_bin rfl rfl rfl) rfl rfl ?_
          refine OW_nil ?_
          all_goals with_reducible refine tN ?_
          all_goals (
              first | refine CW_cond_t rfl (by with_reducible rfl) ?_ | refine CW_cond_f rfl (by with_reducible rfl) ?_ | refine CW_cond rfl (fun hc => ?_) (fun hc => ?_)
              all_goals try simp only [decide_eq_true_eq, decide_eq_false_iff_not, beq_iff_eq, beq_eq_false_iff_ne, bne_iff_ne, bne_eq_false_iff_eq, Bool.not_eq_true', Bool.not_eq_false', Int.not_lt, Int.not_le, ne_eq, not_false_eq_true] at hc
              all_goals first
                | (
                  refine CW_skip ?_)
                | (
                  refine CW_seq ?_
                  refine CW_region ?_
                  refine oQ (Q_build rfl rfl rfl rfl rfl rfl rfl rfl) rfl rfl ?_
                  refine oQ (Q_move rfl rfl) rfl rfl ?_
                  first | refine oStw rfl rfl rfl rfl (by first | omega | (dsimp only; omega) | (simp; omega) | (simp; done)) (by first | omega | (dsimp only; omega) | (simp; omega) | (simp; done)) ?_ | refine oSta rfl rfl rfl rfl (by first | omega | (dsimp only; omega) | (simp; omega) | (simp; done)) (by first | omega | (dsimp only; omega) | (simp; omega) | (simp; done)) ?_
                  refine oQ (Q_assign rfl rfl) rfl rfl ?_
                  refine OW_nil ?_
                  all_goals with_reducible refine tN ?_
                  all_goals (
                      refine CW_ret ?_))))
      all_goals first
        | with_reducible refine tR ?_
        | with_reducible refine tE ?_
        | (
          with_reducible refine tN ?_
          refine CW_seq ?_
          refine CW_region ?_
          (have hc0 : codeB p (pointB p a && pointB p c) = 0 := hc)
          (have hcc := codeB_zero.1 hc0)
          (have hcb := Bool.and_eq_true_iff.1 hcc.2)
          refine oQ (Q_ldw rfl rfl rfl rfl hc6) rfl rfl ?_
          refine oQ (Q_move rfl rfl) rfl rfl ?_
          refine oQ (Q_ldw rfl rfl rfl rfl ha3) rfl rfl ?_
          refine oQ (Q_call0 (polar_con p c a hcc.1 hc6 ha3 (sm_point hcb.2) (sm_point hcb.1)) rfl rfl rfl) rfl rfl ?_
          refine oQ (Q_move rfl rfl) rfl rfl ?_
          refine oQ (Q_extract rfl rfl) rfl rfl ?_
          refine oQ (Q_extract rfl rfl) rfl rfl ?_
          refine oAlloc rfl rfl rfl rfl rfl rfl rfl ?_
          first | refine oStw rfl rfl rfl rfl (by first | omega | (dsimp only; omega) | (simp; omega) | (simp; done)) (by first | omega | (dsimp only; omega) | (simp; omega) | (simp; done)) ?_ | refine oSta rfl rfl rfl rfl (by first | omega | (dsimp only; omega) | (simp; omega) | (simp; done)) (by first | omega | (dsimp only; omega) | (simp; omega) | (simp; done)) ?_
          refine oQ (Q_assign rfl rfl) rfl rfl ?_
          refine OW_nil ?_
          all_goals with_reducible refine tN ?_
          all_goals (
              refine CW_seq ?_
              refine CW_seq ?_
              refine CW_region ?_
              refine oQ (Q_move rfl rfl) rfl rfl ?_
              refine oQ (Q_not rfl) rfl rfl ?_
              refine oQ (Q_move rfl rfl) rfl rfl ?_
              all_goals first | refine ogT rfl rfl (by with_reducible rfl) ?_ | refine og1 rfl rfl (by with_reducible rfl) rfl ?_ | refine og0 rfl rfl (by with_reducible rfl) rfl ?_ | refine ogP1 rfl rfl rfl (fun hg => ?_) (fun hg => ?_) | refine ogP0 rfl rfl rfl (fun hg => ?_) (fun hg => ?_)
              all_goals try simp only [decide_eq_true_eq, decide_eq_false_iff_not, beq_iff_eq, beq_eq_false_iff_ne, bne_iff_ne, bne_eq_false_iff_eq, Bool.not_eq_true', Bool.not_eq_false', Int.not_lt, Int.not_le, ne_eq, not_false_eq_true] at hg
              all_goals first | (refine oQ (Q_ldw rfl rfl rfl rfl hc6) rfl rfl ?_) | skip
              all_goals first | refine ogT rfl rfl (by with_reducible rfl) ?_ | refine og1 rfl rfl (by with_reducible rfl) rfl ?_ | refine og0 rfl rfl (by with_reducible rfl) rfl ?_ | refine ogP1 rfl rfl rfl (fun hg => ?_) (fun hg => ?_) | refine ogP0 rfl rfl rfl (fun hg => ?_) (fun hg => ?_)
              all_goals try simp only [decide_eq_true_eq, decide_eq_false_iff_not, beq_iff_eq, beq_eq_false_iff_ne, bne_iff_ne, bne_eq_false_iff_eq, Bool.not_eq_true', Bool.not_eq_false', Int.not_lt, Int.not_le, ne_eq, not_false_eq_true] at hg
              all_goals first | (refine oQ (Q_move rfl rfl) rfl rfl ?_) | skip
              all_goals first | refine ogT rfl rfl (by with_reducible rfl) ?_ | refine og1 rfl rfl (by with_reducible rfl) rfl ?_ | refine og0 rfl rfl (by with_reducible rfl) rfl ?_ | refine ogP1 rfl rfl rfl (fun hg => ?_) (fun hg => ?_) | refine ogP0 rfl rfl rfl (fun hg => ?_) (fun hg => ?_)
              all_goals try simp only [decide_eq_true_eq, decide_eq_false_iff_not, beq_iff_eq, beq_eq_false_iff_ne, bne_iff_ne, bne_eq_false_iff_eq, Bool.not_eq_true', Bool.not_eq_false', Int.not_lt, Int.not_le, ne_eq, not_false_eq_true] at hg
              all_goals first | (refine oQ (Q_ldw rfl rfl rfl rfl ha3) rfl rfl ?_) | skip
              all_goals first | refine ogT rfl rfl (by with_reducible rfl) ?_ | refine og1 rfl rfl (by with_reducible rfl) rfl ?_ | refine og0 rfl rfl (by with_reducible rfl) rfl ?_ | refine ogP1 rfl rfl rfl (fun hg => ?_) (fun hg => ?_) | refine ogP0 rfl rfl rfl (fun hg => ?_) (fun hg => ?_)
              all_goals try simp only [decide_eq_true_eq, decide_eq_false_iff_not, beq_iff_eq, beq_eq_false_iff_ne, bne_iff_ne, bne_eq_false_iff_eq, Bool.not_eq_true', Bool.not_eq_false', Int.not_lt, Int.not_le, ne_eq, not_false_eq_true] at hg
              all_goals first | (refine oQ (Q_call0 (conAt_con c p a hcc.1 hc6 ha3 (sm_point hcb.2) (sm_point hcb.1)) rfl rfl rfl) rfl rfl ?_) | skip
              all_goals first | refine ogT rfl rfl (by with_reducible rfl) ?_ | refine og1 rfl rfl (by with_reducible rfl) rfl ?_ | refine og0 rfl rfl (by with_reducible rfl) rfl ?_ | refine ogP1 rfl rfl rfl (fun hg => ?_) (fun hg => ?_) | refine ogP0 rfl rfl rfl (fun hg => ?_) (fun hg => ?_)
              all_goals try simp only [decide_eq_true_eq, decide_eq_false_iff_not, beq_iff_eq, beq_eq_false_iff_ne, bne_iff_ne, bne_eq_false_iff_eq, Bool.not_eq_true', Bool.not_eq_false', Int.not_lt, Int.not_le, ne_eq, not_false_eq_true] at hg
              all_goals first | (refine oQ (Q_bin rfl rfl rfl) rfl rfl ?_) | skip
              all_goals first | refine oQ (Q_pick_t rfl (by with_reducible rfl) rfl rfl) rfl rfl ?_ | refine oQ (Q_pick_f rfl (by with_reducible rfl) rfl rfl) rfl rfl ?_
              all_goals refine OW_nil ?_
              all_goals with_reducible refine tN ?_
              all_goals (
                  first | refine CW_cond_t rfl (by with_reducible rfl) ?_ | refine CW_cond_f rfl (by with_reducible rfl) ?_ | refine CW_cond rfl (fun hc => ?_) (fun hc => ?_)
                  all_goals try simp only [decide_eq_true_eq, decide_eq_false_iff_not, beq_iff_eq, beq_eq_false_iff_ne, bne_iff_ne, bne_eq_false_iff_eq, Bool.not_eq_true', Bool.not_eq_false', Int.not_lt, Int.not_le, ne_eq, not_false_eq_true] at hc
                  all_goals first
                    | (
                      refine CW_skip ?_)
                    | (
                      refine CW_seq ?_
                      refine CW_region ?_
                      refine oQ (Q_build rfl rfl rfl rfl rfl rfl rfl rfl) rfl rfl ?_
                      first | refine oStw rfl rfl rfl rfl (by first | omega | (dsimp only; omega) | (simp; omega) | (simp; done)) (by first | omega | (dsimp only; omega) | (simp; omega) | (simp; done)) ?_ | refine oSta rfl rfl rfl rfl (by first | omega | (dsimp only; omega) | (simp; omega) | (simp; done)) (by first | omega | (dsimp only; omega) | (simp; omega) | (simp; done)) ?_
                      refine oQ (Q_assign rfl rfl) rfl rfl ?_
                      refine OW_nil ?_
                      all_goals with_reducible refine tN ?_
                      all_goals (
                          refine CW_ret ?_)))
              all_goals first
                | with_reducible refine tR ?_
                | with_reducible refine tE ?_
                | (
                  with_reducible refine tN ?_
                  refine CW_seq ?_
                  refine CW_region ?_
                  first | refine oQ (Q_ldw rfl rfl rfl rfl (by first | omega | (dsimp only; omega) | (simp; omega) | (simp; done))) rfl rfl ?_ | refine oQ (Q_lda rfl rfl rfl rfl rfl (by first | omega | (dsimp only; omega) | (simp; omega) | (simp; done))) rfl rfl ?_
                  first | refine oStw rfl rfl rfl rfl (by first | omega | (dsimp only; omega) | (simp; omega) | (simp; done)) (by first | omega | (dsimp only; omega) | (simp; omega) | (simp; done)) ?_ | refine oSta rfl rfl rfl rfl (by first | omega | (dsimp only; omega) | (simp; omega) | (simp; done)) (by first | omega | (dsimp only; omega) | (simp; omega) | (simp; done)) ?_
                  refine oQ (Q_assign rfl rfl) rfl rfl ?_
                  refine OW_nil ?_
                  all_goals with_reducible refine tN ?_
                  all_goals (
                      refine CW_ret ?_)))))
  all_goals (
      refine exitQ (.inr rfl) 0 (.cons (.arr rfl rfl rfl rfl (by first | omega | (dsimp only; omega) | (simp; omega) | (simp; done))) (.cons (.tmp rfl rfl) .nil)) ?_ rfl vHn rfl rfl
      first
        | (have hm : tanC p c a = codeB p (pointB p a && pointB p c) := if_neg hc
           exact arr_code (if_neg (by rw [hm]; exact hc)).symm hm.symm)
        | (have hb2 : facP p (polX p c a) ≠ 0 ∧ conV p c a = 0 := by simp_all
           have hm : tanC p c a = 0 := (if_pos hc0).trans (if_pos hb2)
           exact arr_code (if_pos hm).symm hm.symm)
        | (have hb2 : ¬(facP p (polX p c a) ≠ 0 ∧ conV p c a = 0) := by simp_all
           have hm : tanC p c a = 5 := (if_pos hc0).trans (if_neg hb2)
           exact arr_code (if_neg (by rw [hm]; decide)).symm hm.symm))
theorem spec_TangentAt_con (p : Int) (c a : List Int) (hc6 : c.length = 6) (ha3 : a.length = 3) : ConQ Try.prog [] 42 [.int p, .arr c, .arr a] [] (.tuple [.arr (tanV p c a), .int (tanC p c a)]) := by
  have hnl := normL_length p (polX p c a)
  have hpl : (polX p c a).length = 3 := rfl
  refine conW tab_ok [(0, .int p), (1, .arr c), (2, .arr a)] 0 [] [] Try.func42 rfl rfl rfl rfl rfl rfl rfl rfl rfl ?_
  refine CW_seq ?_
  refine CW_region ?_
  refine oBox rfl rfl rfl rfl rfl rfl ?_
  refine oBox rfl rfl rfl rfl rfl rfl ?_
  refine oAlloc rfl rfl rfl rfl rfl rfl rfl ?_
  refine oQ (Q_assign rfl rfl) rfl rfl ?_
  refine OW_nil ?_
  all_goals with_reducible refine tN ?_
  all_goals (
      refine CW_seq ?_
      refine CW_seq ?_
      refine CW_region ?_
      refine oQ (Q_move rfl rfl) rfl rfl ?_
      refine oQ (Q_ldw rfl rfl rfl rfl hc6) rfl rfl ?_
      refine oQ (Q_ldw rfl rfl rfl rfl ha3) rfl rfl ?_
      refine oBsl1 ha3 rfl rfl rfl rfl rfl rfl rfl rfl rfl rfl ?_
      refine oQ (Q_call (l03Code_one p c a hc6 ha3) [(0, 3)] rfl rfl (Fits.mk' (vHc rfl vHn) rfl rfl (by simp)) rfl rfl) rfl rfl ?_
      refine oQ (Q_assign rfl rfl) rfl rfl ?_
      refine OW_nil ?_
      all_goals with_reducible refine tN ?_
      all_goals (
          refine CW_seq ?_
          refine CW_region ?_
          refine oQ (Q_move rfl rfl) rfl rfl ?_
          refine oQ (Q_bin rfl rfl rfl) rfl rfl ?_
          refine OW_nil ?_
          all_goals with_reducible refine tN ?_
          all_goals (
              first | refine CW_cond_t rfl (by with_reducible rfl) ?_ | refine CW_cond_f rfl (by with_reducible rfl) ?_ | refine CW_cond rfl (fun hc => ?_) (fun hc => ?_)
              all_goals try simp only [decide_eq_true_eq, decide_eq_false_iff_not, beq_iff_eq, beq_eq_false_iff_ne, bne_iff_ne, bne_eq_false_iff_eq, Bool.not_eq_true', Bool.not_eq_false', Int.not_lt, Int.not_le, ne_eq, not_false_eq_true] at hc
              all_goals first
                | (
                  refine CW_skip ?_)
                | (
                  refine CW_seq ?_
                  refine CW_region ?_
                  refine oQ (Q_build rfl rfl rfl rfl rfl rfl rfl rfl) rfl rfl ?_
                  refine oQ (Q_move rfl rfl) rfl rfl ?_
                  first | refine oStw rfl rfl rfl rfl (by first | omega | (dsimp only; omega) | (simp; omega) | (simp; done)) (by first | omega | (dsimp only; omega) | (simp; omega) | (simp; done)) ?_ | refine oSta rfl rfl rfl rfl (by first | omega | (dsimp only; omega) | (simp; omega) | (simp; done)) (by first | omega | (dsimp only; omega) | (simp; omega) | (simp; done)) ?_
                  refine oQ (Q_assign rfl rfl) rfl rfl ?_
                  refine OW_nil ?_
                  all_goals with_reducible refine tN ?_
                  all_goals (
                      refine CW_ret ?_))))
      all_goals first
        | with_reducible refine tR ?_
        | with_reducible refine tE ?_
        | (
          with_reducible refine tN ?_
          refine CW_seq ?_
          refine CW_region ?_
          refine oQ (Q_move rfl rfl) rfl rfl ?_
          (have hc0 : codeB p (pointB p a && pointB p c) = 0 := hc)
          (have hcc := codeB_zero.1 hc0)
          (have hcb := Bool.and_eq_true_iff.1 hcc.2)
          refine oQ (Q_ldw rfl rfl rfl rfl hc6) rfl rfl ?_
          refine oQ (Q_ldw rfl rfl rfl rfl ha3) rfl rfl ?_
          refine oQ (Q_call0 (l03Polar_con p c a hcc.1 hc6 ha3 (pointB_mod hcb.2) (sm_point hcb.1)) rfl rfl rfl) rfl rfl ?_
          refine oQ (Q_move rfl rfl) rfl rfl ?_
          refine oQ (Q_extract rfl rfl) rfl rfl ?_
          refine oQ (Q_extract rfl rfl) rfl rfl ?_
          refine oAlloc rfl rfl rfl rfl rfl rfl rfl ?_
          first | refine oStw rfl rfl rfl rfl (by first | omega | (dsimp only; omega) | (simp; omega) | (simp; done)) (by first | omega | (dsimp only; omega) | (simp; omega) | (simp; done)) ?_ | refine oSta rfl rfl rfl rfl (by first | omega | (dsimp only; omega) | (simp; omega) | (simp; done)) (by first | omega | (dsimp only; omega) | (simp; omega) | (simp; done)) ?_
          refine oQ (Q_assign rfl rfl) rfl rfl ?_
          refine OW_nil ?_
          all_goals with_reducible refine tN ?_
          all_goals (
              refine CW_seq ?_
              refine CW_seq ?_
              refine CW_region ?_
              refine oQ (Q_move rfl rfl) rfl rfl ?_
              refine oQ (Q_not rfl) rfl rfl ?_
              refine oQ (Q_move rfl rfl) rfl rfl ?_
              all_goals first | refine ogT rfl rfl (by with_reducible rfl) ?_ | refine og1 rfl rfl (by with_reducible rfl) rfl ?_ | refine og0 rfl rfl (by with_reducible rfl) rfl ?_ | refine ogP1 rfl rfl rfl (fun hg => ?_) (fun hg => ?_) | refine ogP0 rfl rfl rfl (fun hg => ?_) (fun hg => ?_)
              all_goals try simp only [decide_eq_true_eq, decide_eq_false_iff_not, beq_iff_eq, beq_eq_false_iff_ne, bne_iff_ne, bne_eq_false_iff_eq, Bool.not_eq_true', Bool.not_eq_false', Int.not_lt, Int.not_le, ne_eq, not_false_eq_true] at hg
              all_goals first | (refine oQ (Q_move rfl rfl) rfl rfl ?_) | skip
              all_goals first | refine ogT rfl rfl (by with_reducible rfl) ?_ | refine og1 rfl rfl (by with_reducible rfl) rfl ?_ | refine og0 rfl rfl (by with_reducible rfl) rfl ?_ | refine ogP1 rfl rfl rfl (fun hg => ?_) (fun hg => ?_) | refine ogP0 rfl rfl rfl (fun hg => ?_) (fun hg => ?_)
              all_goals try simp only [decide_eq_true_eq, decide_eq_false_iff_not, beq_iff_eq, beq_eq_false_iff_ne, bne_iff_ne, bne_eq_false_iff_eq, Bool.not_eq_true', Bool.not_eq_false', Int.not_lt, Int.not_le, ne_eq, not_false_eq_true] at hg
              all_goals first | (refine oQ (Q_ldw rfl rfl rfl rfl hc6) rfl rfl ?_) | skip
              all_goals first | refine ogT rfl rfl (by with_reducible rfl) ?_ | refine og1 rfl rfl (by with_reducible rfl) rfl ?_ | refine og0 rfl rfl (by with_reducible rfl) rfl ?_ | refine ogP1 rfl rfl rfl (fun hg => ?_) (fun hg => ?_) | refine ogP0 rfl rfl rfl (fun hg => ?_) (fun hg => ?_)
              all_goals try simp only [decide_eq_true_eq, decide_eq_false_iff_not, beq_iff_eq, beq_eq_false_iff_ne, bne_iff_ne, bne_eq_false_iff_eq, Bool.not_eq_true', Bool.not_eq_false', Int.not_lt, Int.not_le, ne_eq, not_false_eq_true] at hg
              all_goals first | (refine oQ (Q_ldw rfl rfl rfl rfl ha3) rfl rfl ?_) | skip
              all_goals first | refine ogT rfl rfl (by with_reducible rfl) ?_ | refine og1 rfl rfl (by with_reducible rfl) rfl ?_ | refine og0 rfl rfl (by with_reducible rfl) rfl ?_ | refine ogP1 rfl rfl rfl (fun hg => ?_) (fun hg => ?_) | refine ogP0 rfl rfl rfl (fun hg => ?_) (fun hg => ?_)
              all_goals try simp only [decide_eq_true_eq, decide_eq_false_iff_not, beq_iff_eq, beq_eq_false_iff_ne, bne_iff_ne, bne_eq_false_iff_eq, Bool.not_eq_true', Bool.not_eq_false', Int.not_lt, Int.not_le, ne_eq, not_false_eq_true] at hg
              all_goals first | (refine oQ (Q_call0 (l03At_con p c a hcc.1 hc6 ha3 (pointB_mod hcb.2) (mod_list (pointB_mod hcb.1))) rfl rfl rfl) rfl rfl ?_) | skip
              all_goals first | refine ogT rfl rfl (by with_reducible rfl) ?_ | refine og1 rfl rfl (by with_reducible rfl) rfl ?_ | refine og0 rfl rfl (by with_reducible rfl) rfl ?_ | refine ogP1 rfl rfl rfl (fun hg => ?_) (fun hg => ?_) | refine ogP0 rfl rfl rfl (fun hg => ?_) (fun hg => ?_)
              all_goals try simp only [decide_eq_true_eq, decide_eq_false_iff_not, beq_iff_eq, beq_eq_false_iff_ne, bne_iff_ne, bne_eq_false_iff_eq, Bool.not_eq_true', Bool.not_eq_false', Int.not_lt, Int.not_le, ne_eq, not_false_eq_true] at hg
              all_goals first | (refine oQ (Q_bin rfl rfl rfl) rfl rfl ?_) | skip
              all_goals first | refine oQ (Q_pick_t rfl (by with_reducible rfl) rfl rfl) rfl rfl ?_ | refine oQ (Q_pick_f rfl (by with_reducible rfl) rfl rfl) rfl rfl ?_
              all_goals refine OW_nil ?_
              all_goals with_reducible refine tN ?_
              all_goals (
                  first | refine CW_cond_t rfl (by with_reducible rfl) ?_ | refine CW_cond_f rfl (by with_reducible rfl) ?_ | refine CW_cond rfl (fun hc => ?_) (fun hc => ?_)
                  all_goals try simp only [decide_eq_true_eq, decide_eq_false_iff_not, beq_iff_eq, beq_eq_false_iff_ne, bne_iff_ne, bne_eq_false_iff_eq, Bool.not_eq_true', Bool.not_eq_false', Int.not_lt, Int.not_le, ne_eq, not_false_eq_true] at hc
                  all_goals first
                    | (
                      refine CW_skip ?_)
                    | (
                      refine CW_seq ?_
                      refine CW_region ?_
                      refine oQ (Q_build rfl rfl rfl rfl rfl rfl rfl rfl) rfl rfl ?_
                      first | refine oStw rfl rfl rfl rfl (by first | omega | (dsimp only; omega) | (simp; omega) | (simp; done)) (by first | omega | (dsimp only; omega) | (simp; omega) | (simp; done)) ?_ | refine oSta rfl rfl rfl rfl (by first | omega | (dsimp only; omega) | (simp; omega) | (simp; done)) (by first | omega | (dsimp only; omega) | (simp; omega) | (simp; done)) ?_
                      refine oQ (Q_assign rfl rfl) rfl rfl ?_
                      refine OW_nil ?_
                      all_goals with_reducible refine tN ?_
                      all_goals (
                          refine CW_ret ?_)))
              all_goals first
                | with_reducible refine tR ?_
                | with_reducible refine tE ?_
                | (
                  with_reducible refine tN ?_
                  refine CW_seq ?_
                  refine CW_region ?_
                  first | refine oQ (Q_ldw rfl rfl rfl rfl (by first | omega | (dsimp only; omega) | (simp; omega) | (simp; done))) rfl rfl ?_ | refine oQ (Q_lda rfl rfl rfl rfl rfl (by first | omega | (dsimp only; omega) | (simp; omega) | (simp; done))) rfl rfl ?_
                  first | refine oStw rfl rfl rfl rfl (by first | omega | (dsimp only; omega) | (simp; omega) | (simp; done)) (by first | omega | (dsimp only; omega) | (simp; omega) | (simp; done)) ?_ | refine oSta rfl rfl rfl rfl (by first | omega | (dsimp only; omega) | (simp; omega) | (simp; done)) (by first | omega | (dsimp only; omega) | (simp; omega) | (simp; done)) ?_
                  refine oQ (Q_assign rfl rfl) rfl rfl ?_
                  refine OW_nil ?_
                  all_goals with_reducible refine tN ?_
                  all_goals (
                      refine CW_ret ?_)))))
  all_goals (
      refine exitQ (.inr rfl) 0 (.cons (.arr rfl rfl rfl rfl (by first | omega | (dsimp only; omega) | (simp; omega) | (simp; done))) (.cons (.tmp rfl rfl) .nil)) ?_ rfl vHn rfl rfl
      first
        | (have hm : tanC p c a = codeB p (pointB p a && pointB p c) := if_neg hc
           exact arr_code (if_neg (by rw [hm]; exact hc)).symm hm.symm)
        | (have hb2 : facP p (polX p c a) ≠ 0 ∧ conV p c a = 0 := by simp_all
           have hm : tanC p c a = 0 := (if_pos hc0).trans (if_pos hb2)
           exact arr_code (if_pos hm).symm hm.symm)
        | (have hb2 : ¬(facP p (polX p c a) ≠ 0 ∧ conV p c a = 0) := by simp_all
           have hm : tanC p c a = 5 := (if_pos hc0).trans (if_neg hb2)
           exact arr_code (if_neg (by rw [hm]; decide)).symm hm.symm))
end Go.Proofs.Ytgfncdejnjikpaa
