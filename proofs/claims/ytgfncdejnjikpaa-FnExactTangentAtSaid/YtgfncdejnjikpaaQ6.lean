/- Normal lists made, members, polars; MemberThrough, TangentAt of both sides. Printed by gen_q6.py. -/
import Derived.Test.YtgfncdejnjikpaaQ5
import Derived.Test.YtgfncdejnjikpaaPn
import Derived.Test.YtgfncdejnjikpaaEngL
namespace Go.Proofs.Ytgfncdejnjikpaa
attribute [local irreducible] CW OW QW QOp Con thenP inBlockP AW QX RW
set_option maxRecDepth 10000
set_option linter.unusedSimpArgs false
set_option linter.unusedVariables false
theorem member_con (p : Int) (c d : List Int) (s t : Int) (hp : primeB p = true) (hc6 : c.length = 6) (hd6 : d.length = 6) (h1 : sm 13 c) (h2 : sm 13 d) (hs : -13 ≤ s ∧ s ≤ 13) (ht : -13 ≤ t ∧ t ≤ 13) : ConQ Try.prog [] 100 [.int p, .arr c, .arr d, .int s, .int t] [] (.arr (normL p (memL c d s t))) := by
  have hpb := prime_bd hp
  have hml := memL_length c d s t
  have hnl := normL_length p (memL c d s t)
  refine conW tab_ok [(0, .int p), (1, .arr c), (2, .arr d), (3, .int s), (4, .int t)] 0 [] [] Try.func100 rfl rfl rfl rfl rfl rfl rfl rfl rfl ?_
  refine CW_seq ?_
  refine CW_region ?_
  refine oBox rfl rfl rfl rfl rfl rfl ?_
  refine oBox rfl rfl rfl rfl rfl rfl ?_
  refine oAlloc rfl rfl rfl rfl rfl rfl rfl ?_
  refine OW_nil ?_
  all_goals with_reducible refine tN ?_
  all_goals (
      refine CW_seq ?_
      refine CW_region ?_
      refine oQ (Q_build rfl rfl rfl rfl rfl rfl rfl rfl) rfl rfl ?_
      refine oAlloc rfl rfl rfl rfl rfl rfl rfl ?_
      first | refine oStw rfl rfl rfl rfl (by first | omega | (dsimp only; omega) | (simp; omega) | (simp; done)) (by first | omega | (dsimp only; omega) | (simp; omega) | (simp; done)) ?_ | refine oSta rfl rfl rfl rfl (by first | omega | (dsimp only; omega) | (simp; omega) | (simp; done)) (by first | omega | (dsimp only; omega) | (simp; omega) | (simp; done)) ?_
      refine OW_nil ?_
      all_goals with_reducible refine tN ?_
      all_goals (
          refine CW_seq ?_
          refine CW_seq ?_
          refine CW_region ?_
          refine oQ (Q_move rfl rfl) rfl rfl ?_
          refine OW_nil ?_
          all_goals with_reducible refine tN ?_
          all_goals (
              refine CW_block ?_
              refine CW_loop (ι := Nat) (fun i => i ≤ 6) (fun i => ⟨[(0, .int p), (3, .int s), (4, .int t), (6, .ptr 0 0), (7, .ptr 1 0), (10, .ptr 2 0), (11, .ptr 3 0), (14, .int i)], [(0, .ints 56 c), (1, .ints 56 d), (2, .ints 56 [0, 0, 0, 0, 0, 0]), (3, .ints 56 ((memL c d s t).take i ++ List.replicate (6 - i) 0))], 4⟩) (fun i => 6 - i) 0 ?_ ?_ ?_
              · first | trivial | omega | (simp; done) | (simp; omega)
              · refine View.mk' [] rfl rfl rfl ?_ ?_
                repeat' first | exact vFn | refine vFc rfl ?_ | exact vHn | refine vHc rfl ?_ | refine vFc (congrArg (fun z => some (V.int z)) ?_) ?_ | refine vHc (congrArg (fun z => some (Blk.ints _ z)) ?_) ?_ | refine vFc (congrArg (fun z => some (V.bool z)) ?_) ?_ | refine vFs rfl rfl ?_ ?_
              intro i hi
              have hg1 := sm_get h1 (by decide) i
              have hg2 := sm_get h2 (by decide) i
              have hgm := fun h : i < 6 => memL_get c d s t h
              have hfl := fun h : i < 6 => fill_set (L := memL c d s t) h hml
              refine CW_seq ?_
              refine CW_region ?_
              refine oQ (Q_bin rfl rfl rfl) rfl rfl ?_
              refine OW_nil ?_
              all_goals with_reducible refine tN ?_
              all_goals (
                  refine CW_seq ?_
                  first | refine CW_cond_t rfl (by with_reducible rfl) ?_ | refine CW_cond_f rfl (by with_reducible rfl) ?_ | refine CW_cond rfl (fun hc => ?_) (fun hc => ?_)
                  all_goals try simp only [decide_eq_true_eq, decide_eq_false_iff_not, beq_iff_eq, beq_eq_false_iff_ne, bne_iff_ne, bne_eq_false_iff_eq, Bool.not_eq_true', Bool.not_eq_false', Int.not_lt, Int.not_le, ne_eq, not_false_eq_true] at hc
                  all_goals first
                    | (
                      refine CW_skip ?_)
                    | (
                      refine CW_exit ?_)
                  all_goals first
                    | with_reducible refine tR ?_
                    | with_reducible refine tE ?_
                    | (
                      with_reducible refine tN ?_
                      refine CW_seq ?_
                      refine CW_block ?_
                      refine CW_seq ?_
                      refine CW_region ?_
                      refine oQ (Q_move rfl rfl) rfl rfl ?_
                      refine oQ (Q_assign rfl rfl) rfl rfl ?_
                      refine OW_nil ?_
                      all_goals with_reducible refine tN ?_
                      all_goals (
                          refine CW_any (fun i => List.elem i [13]) 14 rfl lateOk (by decide +kernel) (fun hst => ?_)
                          refine aQ 0 hst rfl rfl (by decide +kernel) (QX_of (Q_move rfl rfl) NE_move) rfl rfl ?_
                          refine aQ 1 hst rfl rfl (by decide +kernel) (QX_of (Q_move rfl rfl) NE_move) rfl rfl ?_
                          refine aQ 2 hst rfl rfl (by decide +kernel) (QX_of (Q_move rfl rfl) NE_move) rfl rfl ?_
                          first | refine aQ 3 hst rfl rfl (by decide +kernel) (QX_of (Q_ixa0 rfl rfl rfl rfl rfl rfl (by first | omega | (dsimp only; omega) | (simp; omega) | (simp; done))) NE_ix) rfl rfl ?_ | refine aQ 3 hst rfl rfl (by decide +kernel) (QX_of (Q_ixa1 rfl rfl rfl rfl rfl rfl (by first | omega | (dsimp only; omega) | (simp; omega) | (simp; done))) NE_ix) rfl rfl ?_
                          refine aQ 4 hst rfl rfl (by decide +kernel) (QX_of (Q_ld rfl rfl rfl rfl (by first | omega | (dsimp only; omega) | (simp; omega) | (simp; done))) NE_load) rfl rfl ?_
                          refine aMul 5 hst rfl rfl (by decide +kernel) 13 13 rfl rfl (by omega) (by omega) (by decide) rfl (fun z22 hz22 hl22 hu22 => ?_)
                          refine aQ 6 hst rfl rfl (by decide +kernel) (QX_of (Q_move rfl rfl) NE_move) rfl rfl ?_
                          refine aQ 7 hst rfl rfl (by decide +kernel) (QX_of (Q_move rfl rfl) NE_move) rfl rfl ?_
                          first | refine aQ 8 hst rfl rfl (by decide +kernel) (QX_of (Q_ixa0 rfl rfl rfl rfl rfl rfl (by first | omega | (dsimp only; omega) | (simp; omega) | (simp; done))) NE_ix) rfl rfl ?_ | refine aQ 8 hst rfl rfl (by decide +kernel) (QX_of (Q_ixa1 rfl rfl rfl rfl rfl rfl (by first | omega | (dsimp only; omega) | (simp; omega) | (simp; done))) NE_ix) rfl rfl ?_
                          refine aQ 9 hst rfl rfl (by decide +kernel) (QX_of (Q_ld rfl rfl rfl rfl (by first | omega | (dsimp only; omega) | (simp; omega) | (simp; done))) NE_load) rfl rfl ?_
                          refine aMul 10 hst rfl rfl (by decide +kernel) 13 13 rfl rfl (by omega) (by omega) (by decide) rfl (fun z27 hz27 hl27 hu27 => ?_)
                          first | refine aQ 11 hst rfl rfl (by decide +kernel) (QX_of (Q_binu rfl rfl rfl (by omega)) NE_bin) rfl rfl ?_ | refine aQ 11 hst rfl rfl (by decide +kernel) (QX_of (Q_bin rfl rfl rfl) NE_bin) rfl rfl ?_
                          first | refine aQ 12 hst rfl rfl (by decide +kernel) (QX_of (Q_ixa0 rfl rfl rfl rfl rfl rfl (by first | omega | (dsimp only; omega) | (simp; omega) | (simp; done))) NE_ix) rfl rfl ?_ | refine aQ 12 hst rfl rfl (by decide +kernel) (QX_of (Q_ixa1 rfl rfl rfl rfl rfl rfl (by first | omega | (dsimp only; omega) | (simp; omega) | (simp; done))) NE_ix) rfl rfl ?_
                          refine AW_last [13] rfl (by decide +kernel) rfl ?_
                          refine oSt rfl rfl rfl rfl rfl (by first | omega | (dsimp only; omega) | (simp; omega) | (simp; done)) ?_
                          refine OW_nil (npN ?_))
                      all_goals first | with_reducible refine bN ?_ | with_reducible refine bE ?_ | with_reducible refine bR ?_ | refine bX rfl ?_
                      all_goals with_reducible refine tN ?_
                      all_goals (
                          refine CW_region ?_
                          first | refine oQ (Q_binu rfl rfl rfl (by omega)) rfl rfl ?_ | refine oQ (Q_bin rfl rfl rfl) rfl rfl ?_
                          refine oQ (Q_move rfl rfl) rfl rfl ?_
                          refine OW_nil ?_)))
              all_goals first
                | with_reducible refine tR ?_
                | with_reducible refine tE ?_
                | (
                  with_reducible refine tN ?_
                  refine ⟨i + 1, ?_, ?_, View.mk' [] rfl rfl rfl ?_ ?_⟩
                  · omega
                  · omega
                  all_goals (repeat' first | exact vFn | refine vFc rfl ?_ | exact vHn | refine vHc rfl ?_ | refine vFc (congrArg (fun z => some (V.int z)) ?_) ?_ | refine vHc (congrArg (fun z => some (Blk.ints _ z)) ?_) ?_ | refine vFc (congrArg (fun z => some (V.bool z)) ?_) ?_ | refine vFs rfl rfl ?_ ?_)
                  all_goals (rw [hz22, hz27, ← hgm (by omega)]; exact hfl (by omega)))
              all_goals first | with_reducible refine bN ?_ | with_reducible refine bE ?_ | with_reducible refine bR ?_ | refine bX rfl ?_)
          all_goals with_reducible refine tN ?_
          all_goals (
              refine CW_seq ?_
              refine CW_region ?_
              refine oQ (Q_move rfl rfl) rfl rfl ?_
              refine oQ (Q_slaF rfl rfl rfl rfl) rfl rfl ?_
              (have e : i = 6 := by omega)
              subst e
              rw [show (memL c d s t).take 6 ++ List.replicate (6 - 6) 0 = memL c d s t by rw [List.take_of_length_le (by omega)]; simp]
              refine oCall (normal_con p 56 (memL c d s t) 6 6 (by omega) hp (by omega)) [(0, 3)] 0 rfl rfl (Fits.mk' (vHc rfl vHn) rfl rfl (by simp)) rfl rfl ?_
              rintro r H1 ⟨rfl, rfl⟩
              rw [List.take_of_length_le (show (memL c d s t).length ≤ 6 by omega), List.drop_eq_nil_of_le (show (memL c d s t).length ≤ 6 by omega), List.append_nil]
              refine ⟨.bool (facP p (memL c d s t) != 0), [(3, .ints 56 (normL p (memL c d s t)))], rfl, rfl, rfl, ?_⟩
              refine OW_nil ?_
              all_goals with_reducible refine tN ?_
              all_goals (
                  refine CW_seq ?_
                  refine CW_region ?_
                  first | refine oQ (Q_ldw rfl rfl rfl rfl (by first | omega | (dsimp only; omega) | (simp; omega) | (simp; done))) rfl rfl ?_ | refine oQ (Q_lda rfl rfl rfl rfl rfl (by first | omega | (dsimp only; omega) | (simp; omega) | (simp; done))) rfl rfl ?_
                  first | refine oStw rfl rfl rfl rfl (by first | omega | (dsimp only; omega) | (simp; omega) | (simp; done)) (by first | omega | (dsimp only; omega) | (simp; omega) | (simp; done)) ?_ | refine oSta rfl rfl rfl rfl (by first | omega | (dsimp only; omega) | (simp; omega) | (simp; done)) (by first | omega | (dsimp only; omega) | (simp; omega) | (simp; done)) ?_
                  refine OW_nil ?_
                  all_goals with_reducible refine tN ?_
                  all_goals (
                      refine CW_ret ?_)))))
  all_goals (
      ((refine exitQ (.inr rfl) 0 (.cons (.arr rfl rfl rfl rfl (by first | omega | (dsimp only; omega) | (simp; omega) | (simp; done))) .nil) ?_ rfl vHn rfl rfl); rfl))
theorem l03Made_con (p : Int) (tM : TypeId) (L : List Int) (k : Nat) (hL : 6 ≤ L.length) (hp : primeB p = true) : ConQ Try.prog [] 150 [.int p, .slice 0 0 6 k] [(0, .ints tM L)] (.tuple [.arr (normL p (L.take 6)), .bool (facP p (L.take 6) != 0)]) := by
  have hb := prime_bd hp
  have hnl := normL_length p (L.take 6)
  have htl : (L.take 6).length = 6 := by rw [List.length_take]; omega
  generalize hNN : normL p (L.take 6) = NN at *
  generalize hff : facP p (L.take 6) = ff at *
  refine conW tab_ok [(0, .int p), (1, .slice 0 0 6 k)] 1 [0] [0] Try.func150 rfl rfl rfl rfl rfl rfl rfl rfl rfl ?_
  refine CW_seq ?_
  refine CW_region ?_
  refine oAlloc rfl rfl rfl rfl rfl rfl rfl ?_
  refine oQ (Q_assign rfl rfl) rfl rfl ?_
  refine OW_nil ?_
  all_goals with_reducible refine tN ?_
  all_goals (
      refine CW_seq ?_
      refine CW_region ?_
      refine oQ (Q_move rfl rfl) rfl rfl ?_
      refine oQ (Q_move rfl rfl) rfl rfl ?_
      (have hno := l01Norm_con p tM L 6 k (by omega) hp (by omega))
      rw [hNN, hff] at hno
      refine oCall (hno) [] 2 rfl rfl (Fits.mk' (vHc rfl vHn) rfl rfl (by simp)) rfl rfl ?_
      rintro r H1 ⟨k', sp, hk1, hk2, rfl, rfl⟩
      refine ⟨.tuple [.slice 3 0 6 k', .bool (ff != 0)], [(0, .ints tM L), (3, .ints 2 (NN ++ sp))], rfl, rfl, rfl, ?_⟩
      refine oQ (Q_move rfl rfl) rfl rfl ?_
      refine oQ (Q_extract rfl rfl) rfl rfl ?_
      refine oQ (Q_extract rfl rfl) rfl rfl ?_
      refine oQ (Q_assign rfl rfl) rfl rfl ?_
      refine oQ (Q_assign rfl rfl) rfl rfl ?_
      refine OW_nil ?_
      all_goals with_reducible refine tN ?_
      all_goals (
          refine CW_seq ?_
          refine CW_seq ?_
          refine CW_region ?_
          refine oQ (Q_move rfl rfl) rfl rfl ?_
          refine oQ (Q_not rfl) rfl rfl ?_
          refine OW_nil ?_
          all_goals with_reducible refine tN ?_
          all_goals (
              first | refine CW_cond_t rfl (by with_reducible rfl) ?_ | refine CW_cond_f rfl (by with_reducible rfl) ?_ | refine CW_cond rfl (fun hc => ?_) (fun hc => ?_)
              all_goals try simp only [decide_eq_true_eq, decide_eq_false_iff_not, beq_iff_eq, beq_eq_false_iff_ne, bne_iff_ne, bne_eq_false_iff_eq, Bool.not_eq_true', Bool.not_eq_false', Int.not_lt, Int.not_le, ne_eq, not_false_eq_true] at hc
              all_goals first
                | (
                  refine CW_skip ?_)
                | (
                  refine CW_seq ?_
                  refine CW_region ?_
                  refine oQ (Q_build rfl rfl rfl rfl rfl rfl rfl rfl) rfl rfl ?_
                  first | refine oStw rfl rfl rfl rfl (by first | omega | (dsimp only; omega) | (simp; omega) | (simp; done)) (by first | omega | (dsimp only; omega) | (simp; omega) | (simp; done)) ?_ | refine oSta rfl rfl rfl rfl (by first | omega | (dsimp only; omega) | (simp; omega) | (simp; done)) (by first | omega | (dsimp only; omega) | (simp; omega) | (simp; done)) ?_
                  refine oQ (Q_assign rfl rfl) rfl rfl ?_
                  refine OW_nil ?_
                  all_goals with_reducible refine tN ?_
                  all_goals (
                      refine CW_ret ?_)))
          all_goals first
            | with_reducible refine tR ?_
            | with_reducible refine tE ?_
            | (
              with_reducible refine tN ?_
              refine CW_seq ?_
              refine CW_region ?_
              refine oQ (Q_build rfl rfl rfl rfl rfl rfl rfl rfl) rfl rfl ?_
              refine oAlloc rfl rfl rfl rfl rfl rfl rfl ?_
              first | refine oStw rfl rfl rfl rfl (by first | omega | (dsimp only; omega) | (simp; omega) | (simp; done)) (by first | omega | (dsimp only; omega) | (simp; omega) | (simp; done)) ?_ | refine oSta rfl rfl rfl rfl (by first | omega | (dsimp only; omega) | (simp; omega) | (simp; done)) (by first | omega | (dsimp only; omega) | (simp; omega) | (simp; done)) ?_
              refine OW_nil ?_
              all_goals with_reducible refine tN ?_
              all_goals (
                  refine CW_seq ?_
                  refine CW_seq ?_
                  refine CW_region ?_
                  refine oQ (Q_assign rfl rfl) rfl rfl ?_
                  refine OW_nil ?_
                  all_goals with_reducible refine tN ?_
                  all_goals (
                      refine CW_block ?_
                      (have hnz : ¬ ff = 0 := hc)
                      refine CW_loop (ι := Nat) (fun i => i ≤ 6) (fun i => ⟨[(4, .ptr 1 0), (6, .slice 3 0 6 k'), (8, .ptr 4 0), (9, .int i)], [(0, .ints tM L), (1, .ints 56 [0, 0, 0, 0, 0, 0]), (3, .ints 2 (NN ++ sp)), (4, .ints 56 (NN.take i ++ List.replicate (6 - i) 0))], 5⟩) (fun i => 6 - i) 0 ?_ ?_ ?_
                      · first | trivial | omega | (simp; done) | (simp; omega)
                      · refine View.mk' [] rfl rfl rfl ?_ ?_
                        repeat' first | exact vFn | refine vFc rfl ?_ | exact vHn | refine vHc rfl ?_ | refine vFc (congrArg (fun z => some (V.int z)) ?_) ?_ | refine vHc (congrArg (fun z => some (Blk.ints _ z)) ?_) ?_ | refine vFc (congrArg (fun z => some (V.bool z)) ?_) ?_ | refine vFs rfl rfl ?_ ?_
                      intro i hi
                      refine CW_seq ?_
                      refine CW_seq ?_
                      refine CW_region ?_
                      refine oQ (Q_move rfl rfl) rfl rfl ?_
                      refine oQ (Q_bin rfl rfl rfl) rfl rfl ?_
                      refine OW_nil ?_
                      all_goals with_reducible refine tN ?_
                      all_goals (
                          first | refine CW_cond_t rfl (by with_reducible rfl) ?_ | refine CW_cond_f rfl (by with_reducible rfl) ?_ | refine CW_cond rfl (fun hc => ?_) (fun hc => ?_)
                          all_goals try simp only [decide_eq_true_eq, decide_eq_false_iff_not, beq_iff_eq, beq_eq_false_iff_ne, bne_iff_ne, bne_eq_false_iff_eq, Bool.not_eq_true', Bool.not_eq_false', Int.not_lt, Int.not_le, ne_eq, not_false_eq_true] at hc
                          all_goals first
                            | (
                              refine CW_skip ?_)
                            | (
                              refine CW_exit ?_))
                      all_goals first
                        | with_reducible refine tR ?_
                        | with_reducible refine tE ?_
                        | (
                          with_reducible refine tN ?_
                          refine CW_seq ?_
                          refine CW_block ?_
                          refine CW_region ?_
                          refine oQ (Q_move rfl rfl) rfl rfl ?_
                          refine oQ (Q_move rfl rfl) rfl rfl ?_
                          refine oQ (Q_move rfl rfl) rfl rfl ?_
                          first | refine oQ (Q_ixs0 rfl rfl rfl rfl rfl rfl (by first | omega | (dsimp only; omega) | (simp; omega) | (simp; done))) rfl rfl ?_ | refine oQ (Q_ixs1 rfl rfl rfl rfl rfl rfl (by first | omega | (dsimp only; omega) | (simp; omega) | (simp; done))) rfl rfl ?_
                          refine oQ (Q_ldc rfl rfl rfl rfl (show (NN ++ sp)[i]? = some (NN.getD i 0) by rw [List.getElem?_append_left (by omega)]; simp [List.getD, show i < NN.length by omega])) rfl rfl ?_
                          first | refine oQ (Q_ixa0 rfl rfl rfl rfl rfl rfl (by first | omega | (dsimp only; omega) | (simp; omega) | (simp; done))) rfl rfl ?_ | refine oQ (Q_ixa1 rfl rfl rfl rfl rfl rfl (by first | omega | (dsimp only; omega) | (simp; omega) | (simp; done))) rfl rfl ?_
                          refine oSt rfl rfl rfl rfl rfl (by first | omega | (dsimp only; omega) | (simp; omega) | (simp; done)) ?_
                          refine OW_nil ?_
                          all_goals first | with_reducible refine bN ?_ | with_reducible refine bE ?_ | with_reducible refine bR ?_ | refine bX rfl ?_
                          all_goals with_reducible refine tN ?_
                          all_goals (
                              refine CW_region ?_
                              refine oQ (Q_move rfl rfl) rfl rfl ?_
                              first | refine oQ (Q_binu rfl rfl rfl (by omega)) rfl rfl ?_ | refine oQ (Q_bin rfl rfl rfl) rfl rfl ?_
                              refine oQ (Q_assign rfl rfl) rfl rfl ?_
                              refine OW_nil ?_))
                      all_goals first
                        | with_reducible refine tR ?_
                        | with_reducible refine tE ?_
                        | (
                          with_reducible refine tN ?_
                          refine ⟨i + 1, ?_, ?_, View.mk' [] rfl rfl rfl ?_ ?_⟩
                          · omega
                          · omega
                          all_goals (repeat' first | exact vFn | refine vFc rfl ?_ | exact vHn | refine vHc rfl ?_ | refine vFc (congrArg (fun z => some (V.int z)) ?_) ?_ | refine vHc (congrArg (fun z => some (Blk.ints _ z)) ?_) ?_ | refine vFc (congrArg (fun z => some (V.bool z)) ?_) ?_ | refine vFs rfl rfl ?_ ?_)
                          all_goals exact fill_set (by omega) (by omega))
                      all_goals first | with_reducible refine bN ?_ | with_reducible refine bE ?_ | with_reducible refine bR ?_ | refine bX rfl ?_)
                  all_goals with_reducible refine tN ?_
                  all_goals (
                      refine CW_seq ?_
                      refine CW_region ?_
                      first | refine oQ (Q_ldw rfl rfl rfl rfl (by first | omega | (dsimp only; omega) | (simp; omega) | (simp; done))) rfl rfl ?_ | refine oQ (Q_lda rfl rfl rfl rfl rfl (by first | omega | (dsimp only; omega) | (simp; omega) | (simp; done))) rfl rfl ?_
                      first | refine oStw rfl rfl rfl rfl (by first | omega | (dsimp only; omega) | (simp; omega) | (simp; done)) (by first | omega | (dsimp only; omega) | (simp; omega) | (simp; done)) ?_ | refine oSta rfl rfl rfl rfl (by first | omega | (dsimp only; omega) | (simp; omega) | (simp; done)) (by first | omega | (dsimp only; omega) | (simp; omega) | (simp; done)) ?_
                      refine oQ (Q_assign rfl rfl) rfl rfl ?_
                      refine OW_nil ?_
                      all_goals with_reducible refine tN ?_
                      all_goals (
                          refine CW_ret ?_))))))
  all_goals (
      first
        | (have e : i = 6 := by omega
           subst e
           refine exitQ (.inr rfl) 1 (.cons (.arr rfl rfl rfl rfl (by first | omega | (dsimp only; omega) | (simp; omega) | (simp; done))) (.cons (.tmp rfl rfl) .nil)) ?_ rfl (vHc rfl vHn) rfl rfl
           have hf : (ff != 0) = true := by simpa using hnz
           simp only [resV, ← hf]
           rw [List.take_of_length_le (by omega)]
           simp)
        | (refine exitQ (.inr rfl) 1 (.cons (.arr rfl rfl rfl rfl (by first | omega | (dsimp only; omega) | (simp; omega) | (simp; done))) (.cons (.tmp rfl rfl) .nil)) ?_ rfl (vHc rfl vHn) rfl rfl
           have hf : (ff != 0) = false := by simpa using hc
           have hz := normL_zero (p := p) (l := L.take 6) (by rw [hff]; simpa using hf)
           simp only [resV, hf]
           rw [← hNN, hz, htl]
           rfl))
theorem l04Member_con (p : Int) (c d : List Int) (s t : Int) (hp : primeB p = true) (hc6 : c.length = 6) (hd6 : d.length = 6) (h1 : ∀ x ∈ c, 0 ≤ x ∧ x < p) (h2 : ∀ x ∈ d, 0 ≤ x ∧ x < p) (hs : 0 ≤ s ∧ s ≤ 13) (ht : 0 ≤ t ∧ t ≤ 13) : ConQ Try.prog [] 96 [.int p, .arr c, .arr d, .int s, .int t] [] (.arr (normL p (memL c d s t))) := by
  have hpb := prime_bd hp
  have hml := memL_length c d s t
  have hnl := normL_length p (memL c d s t)
  have h1' : sm 13 c := fun x hx => by have := h1 x hx; omega
  have h2' : sm 13 d := fun x hx => by have := h2 x hx; omega
  have hmm : ((memL c d s t).map (· % p)).length = 6 := by rw [List.length_map, hml]
  generalize hMM : (memL c d s t).map (· % p) = MM at *
  refine conW tab_ok [(0, .int p), (1, .arr c), (2, .arr d), (3, .int s), (4, .int t)] 0 [] [] Try.func96 rfl rfl rfl rfl rfl rfl rfl rfl rfl ?_
  refine CW_seq ?_
  refine CW_region ?_
  refine oBox rfl rfl rfl rfl rfl rfl ?_
  refine oBox rfl rfl rfl rfl rfl rfl ?_
  refine oAlloc rfl rfl rfl rfl rfl rfl rfl ?_
  refine OW_nil ?_
  all_goals with_reducible refine tN ?_
  all_goals (
      refine CW_seq ?_
      refine CW_region ?_
      refine oBsl (zl := []) rfl rfl rfl rfl (.inl ⟨rfl, rfl⟩) rfl rfl rfl rfl rfl rfl ?_
      refine oQ (Q_assign rfl rfl) rfl rfl ?_
      refine OW_nil ?_
      all_goals with_reducible refine tN ?_
      all_goals (
          refine CW_seq ?_
          refine CW_seq ?_
          refine CW_region ?_
          refine oQ (Q_assign rfl rfl) rfl rfl ?_
          refine OW_nil ?_
          all_goals with_reducible refine tN ?_
          all_goals (
              refine CW_block ?_
              refine CW_loop (ι := Nat × Nat × List Int) (fun x => x.1 ≤ 6 ∧ x.1 ≤ x.2.1 ∧ x.2.1 ≤ x.1 + x.2.2.length) (fun x => ⟨[(0, .int p), (3, .int s), (4, .int t), (6, .ptr 0 0), (7, .ptr 1 0), (10, .ptr 2 0), (11, .slice 3 0 x.1 x.2.1), (12, .int x.1)], [(0, .ints 56 c), (1, .ints 56 d), (2, .ints 56 [0, 0, 0, 0, 0, 0]), (3, .ints 2 (MM.take x.1 ++ x.2.2))], 4⟩) (fun x => 6 - x.1) (0, 0, []) ?_ ?_ ?_
              · exact ⟨Nat.zero_le _, Nat.le_refl _, Nat.le_refl _⟩
              · refine View.mk' [] rfl rfl rfl ?_ ?_
                repeat' first | exact vFn | refine vFc rfl ?_ | exact vHn | refine vHc rfl ?_ | refine vFc (congrArg (fun z => some (V.int z)) ?_) ?_ | refine vHc (congrArg (fun z => some (Blk.ints _ z)) ?_) ?_ | refine vFc (congrArg (fun z => some (V.bool z)) ?_) ?_ | refine vFs rfl rfl ?_ ?_
              rintro ⟨i, k, sp⟩ ⟨hi, hk, hsp⟩
              dsimp only at hi hk hsp ⊢
              have hg1 := sm_get h1' (by decide) i
              have hg2 := sm_get h2' (by decide) i
              have hgm := fun h : i < 6 => memL_get c d s t h
              have hlen : i < 6 → (MM.take i).length = i * 1 := fun h => by rw [List.length_take]; omega
              have hm1 := mul_bds (a := s) (b := c.getD i 0) (A := 13) (B := 13) (by omega) (by omega) hg1.1 hg1.2
              have hm2 := mul_bds (a := t) (b := d.getD i 0) (A := 13) (B := 13) (by omega) (by omega) hg2.1 hg2.2
              have hgc : ∀ l : List Int, (∀ x ∈ l, 0 ≤ x ∧ x < p) → 0 ≤ l.getD i 0 := fun l hl => by
                by_cases h : i < l.length
                · have e : l.getD i 0 = l[i] := by simp [List.getD, h]
                  rw [e]; exact (hl _ (List.getElem_mem h)).1
                · have e : l.getD i 0 = 0 := by simp [List.getD, h]
                  omega
              have hn1 : 0 ≤ s * c.getD i 0 := Int.mul_nonneg (by omega) (hgc c h1)
              have hn2 : 0 ≤ t * d.getD i 0 := Int.mul_nonneg (by omega) (hgc d h2)
              have hval : i < 6 → (s * c.getD i 0 + t * d.getD i 0).tmod p = MM.getD i 0 := fun h => by
                rw [Int.tmod_eq_emod_of_nonneg (by omega), ← hgm h, ← hMM]
                simp [List.getD, hml, h]
              refine CW_seq ?_
              refine CW_seq ?_
              refine CW_region ?_
              refine oQ (Q_move rfl rfl) rfl rfl ?_
              refine oQ (Q_bin rfl rfl rfl) rfl rfl ?_
              refine OW_nil ?_
              all_goals with_reducible refine tN ?_
              all_goals (
                  first | refine CW_cond_t rfl (by with_reducible rfl) ?_ | refine CW_cond_f rfl (by with_reducible rfl) ?_ | refine CW_cond rfl (fun hc => ?_) (fun hc => ?_)
                  all_goals try simp only [decide_eq_true_eq, decide_eq_false_iff_not, beq_iff_eq, beq_eq_false_iff_ne, bne_iff_ne, bne_eq_false_iff_eq, Bool.not_eq_true', Bool.not_eq_false', Int.not_lt, Int.not_le, ne_eq, not_false_eq_true] at hc
                  all_goals first
                    | (
                      refine CW_skip ?_)
                    | (
                      refine CW_exit ?_))
              all_goals first
                | with_reducible refine tR ?_
                | with_reducible refine tE ?_
                | (
                  with_reducible refine tN ?_
                  refine CW_seq ?_
                  refine CW_block ?_
                  refine CW_any (fun i => List.elem i [15, 16]) 17 rfl lateOk (by decide +kernel) (fun hst => ?_)
                  refine aQ 0 hst rfl rfl (by decide +kernel) (QX_of (Q_move rfl rfl) NE_move) rfl rfl ?_
                  refine aQ 1 hst rfl rfl (by decide +kernel) (QX_of (Q_move rfl rfl) NE_move) rfl rfl ?_
                  refine aQ 2 hst rfl rfl (by decide +kernel) (QX_of (Q_move rfl rfl) NE_move) rfl rfl ?_
                  first | refine aQ 3 hst rfl rfl (by decide +kernel) (QX_of (Q_ixa0 rfl rfl rfl rfl rfl rfl (by first | omega | (dsimp only; omega) | (simp; omega) | (simp; done))) NE_ix) rfl rfl ?_ | refine aQ 3 hst rfl rfl (by decide +kernel) (QX_of (Q_ixa1 rfl rfl rfl rfl rfl rfl (by first | omega | (dsimp only; omega) | (simp; omega) | (simp; done))) NE_ix) rfl rfl ?_
                  refine aQ 4 hst rfl rfl (by decide +kernel) (QX_of (Q_ld rfl rfl rfl rfl (by first | omega | (dsimp only; omega) | (simp; omega) | (simp; done))) NE_load) rfl rfl ?_
                  first | refine aQ 5 hst rfl rfl (by decide +kernel) (QX_of (Q_binu rfl rfl rfl (by omega)) NE_bin) rfl rfl ?_ | refine aQ 5 hst rfl rfl (by decide +kernel) (QX_of (Q_bin rfl rfl rfl) NE_bin) rfl rfl ?_
                  refine aQ 6 hst rfl rfl (by decide +kernel) (QX_of (Q_move rfl rfl) NE_move) rfl rfl ?_
                  refine aQ 7 hst rfl rfl (by decide +kernel) (QX_of (Q_move rfl rfl) NE_move) rfl rfl ?_
                  first | refine aQ 8 hst rfl rfl (by decide +kernel) (QX_of (Q_ixa0 rfl rfl rfl rfl rfl rfl (by first | omega | (dsimp only; omega) | (simp; omega) | (simp; done))) NE_ix) rfl rfl ?_ | refine aQ 8 hst rfl rfl (by decide +kernel) (QX_of (Q_ixa1 rfl rfl rfl rfl rfl rfl (by first | omega | (dsimp only; omega) | (simp; omega) | (simp; done))) NE_ix) rfl rfl ?_
                  refine aQ 9 hst rfl rfl (by decide +kernel) (QX_of (Q_ld rfl rfl rfl rfl (by first | omega | (dsimp only; omega) | (simp; omega) | (simp; done))) NE_load) rfl rfl ?_
                  first | refine aQ 10 hst rfl rfl (by decide +kernel) (QX_of (Q_binu rfl rfl rfl (by omega)) NE_bin) rfl rfl ?_ | refine aQ 10 hst rfl rfl (by decide +kernel) (QX_of (Q_bin rfl rfl rfl) NE_bin) rfl rfl ?_
                  first | refine aQ 11 hst rfl rfl (by decide +kernel) (QX_of (Q_binu rfl rfl rfl (by omega)) NE_bin) rfl rfl ?_ | refine aQ 11 hst rfl rfl (by decide +kernel) (QX_of (Q_bin rfl rfl rfl) NE_bin) rfl rfl ?_
                  refine aQ 12 hst rfl rfl (by decide +kernel) (QX_of (Q_move rfl rfl) NE_move) rfl rfl ?_
                  refine aQ 13 hst rfl rfl (by decide +kernel) (QX_of (Q_rem rfl rfl (by omega)) NE_bin) rfl rfl ?_; rw [hval (by omega)]
                  refine AW_one (i := 14) (by decide +kernel) ?_
                  refine gBsl (zl := []) rfl rfl rfl rfl rfl rfl (.inl ⟨rfl, rfl⟩) rfl rfl rfl rfl rfl rfl ?_
                  refine AW_last [15, 16] rfl (by decide +kernel) rfl ?_
                  (have hlen := hlen (by omega)); refine oApp (sz := 1) (by_ := 8) (xl := [MM.getD i 0]) rfl rfl rfl rfl rfl rfl ⟨by decide, rfl, .inl ⟨rfl, rfl⟩⟩ rfl rfl rfl rfl rfl rfl hlen rfl (by omega) (by omega) (by omega) (by omega) rfl rfl (fun k2 sp2 h1 h2 => ?_)
                  refine oQ (Q_assign rfl rfl) rfl rfl ?_
                  refine OW_nil (npN ?_)
                  all_goals first | with_reducible refine bN ?_ | with_reducible refine bE ?_ | with_reducible refine bR ?_ | refine bX rfl ?_
                  all_goals with_reducible refine tN ?_
                  all_goals (
                      refine CW_region ?_
                      refine oQ (Q_move rfl rfl) rfl rfl ?_
                      first | refine oQ (Q_binu rfl rfl rfl (by omega)) rfl rfl ?_ | refine oQ (Q_bin rfl rfl rfl) rfl rfl ?_
                      refine oQ (Q_assign rfl rfl) rfl rfl ?_
                      refine OW_nil ?_))
              all_goals first
                | with_reducible refine tR ?_
                | with_reducible refine tE ?_
                | (
                  with_reducible refine tN ?_
                  refine ⟨(i + 1, k2, sp2), ?_, ?_, View.mk' [(3, 5)] rfl rfl rfl ?_ ?_⟩
                  · exact ⟨by omega, by dsimp only; omega, by dsimp only; omega⟩
                  · omega
                  all_goals (repeat' first | exact vFn | refine vFc rfl ?_ | exact vHn | refine vHc rfl ?_ | refine vFc (congrArg (fun z => some (V.int z)) ?_) ?_ | refine vHc (congrArg (fun z => some (Blk.ints _ z)) ?_) ?_ | refine vFc (congrArg (fun z => some (V.bool z)) ?_) ?_ | refine vFs rfl rfl ?_ ?_)
                  all_goals (dsimp only; rw [take_snoc (show i < MM.length by omega)]))
              all_goals first | with_reducible refine bN ?_ | with_reducible refine bE ?_ | with_reducible refine bR ?_ | refine bX rfl ?_)
          all_goals with_reducible refine tN ?_
          all_goals (
              refine CW_seq ?_
              refine CW_region ?_
              refine oQ (Q_move rfl rfl) rfl rfl ?_
              refine oQ (Q_move rfl rfl) rfl rfl ?_
              (have e : i = 6 := by omega)
              subst e
              rw [List.take_of_length_le (show MM.length ≤ 6 by omega)]
              (have hma := l03Made_con p 2 (MM ++ sp) k (by rw [List.length_append]; omega) hp)
              rw [List.take_left' hmm, ← hMM, normL_mod, fac_mod, hMM] at hma
              refine oQ (Q_call (hma) [(0, 3)] rfl rfl (Fits.mk' (vHc rfl vHn) rfl rfl (by simp)) rfl rfl) rfl rfl ?_
              refine oQ (Q_move rfl rfl) rfl rfl ?_
              refine oQ (Q_extract rfl rfl) rfl rfl ?_
              refine oQ (Q_extract rfl rfl) rfl rfl ?_
              refine oAlloc rfl rfl rfl rfl rfl rfl rfl ?_
              first | refine oStw rfl rfl rfl rfl (by first | omega | (dsimp only; omega) | (simp; omega) | (simp; done)) (by first | omega | (dsimp only; omega) | (simp; omega) | (simp; done)) ?_ | refine oSta rfl rfl rfl rfl (by first | omega | (dsimp only; omega) | (simp; omega) | (simp; done)) (by first | omega | (dsimp only; omega) | (simp; omega) | (simp; done)) ?_
              refine oQ (Q_assign rfl rfl) rfl rfl ?_
              refine OW_nil ?_
              all_goals with_reducible refine tN ?_
              all_goals (
                  refine CW_seq ?_
                  refine CW_region ?_
                  first | refine oQ (Q_ldw rfl rfl rfl rfl (by first | omega | (dsimp only; omega) | (simp; omega) | (simp; done))) rfl rfl ?_ | refine oQ (Q_lda rfl rfl rfl rfl rfl (by first | omega | (dsimp only; omega) | (simp; omega) | (simp; done))) rfl rfl ?_
                  first | refine oStw rfl rfl rfl rfl (by first | omega | (dsimp only; omega) | (simp; omega) | (simp; done)) (by first | omega | (dsimp only; omega) | (simp; omega) | (simp; done)) ?_ | refine oSta rfl rfl rfl rfl (by first | omega | (dsimp only; omega) | (simp; omega) | (simp; done)) (by first | omega | (dsimp only; omega) | (simp; omega) | (simp; done)) ?_
                  refine OW_nil ?_
                  all_goals with_reducible refine tN ?_
                  all_goals (
                      refine CW_ret ?_)))))
  all_goals (
      ((refine exitQ (.inr rfl) 0 (.cons (.arr rfl rfl rfl rfl (by first | omega | (dsimp only; omega) | (simp; omega) | (simp; done))) .nil) ?_ rfl vHn rfl rfl); rfl))

theorem arr_code {a b : List Int} {c d : Int} (h1 : a = b) (h2 : c = d) : V.tuple [.arr a, .int c] = V.tuple [.arr b, .int d] := by rw [h1, h2]
theorem impl_MemberThrough_con (p : Int) (c d a : List Int) (hc6 : c.length = 6) (hd6 : d.length = 6) (ha3 : a.length = 3) : ConQ Try.prog [] 52 [.int p, .arr c, .arr d, .arr a] [] (.tuple [.arr (mthV p c d a), .int (mthC p c d a)]) := by
  have hnl := normL_length p (memL c d (conV p d a) (-conV p c a))
  have hml := memL_length c d (conV p d a) (-conV p c a)
  have hcs := codeB_zero (p := p) (b := pointB p a && (pointB p c && pointB p d))
  refine conW tab_ok [(0, .int p), (1, .arr c), (2, .arr d), (3, .arr a)] 0 [] [] Try.func52 rfl rfl rfl rfl rfl rfl rfl rfl rfl ?_
  refine CW_seq ?_
  refine CW_region ?_
  refine oBox rfl rfl rfl rfl rfl rfl ?_
  refine oBox rfl rfl rfl rfl rfl rfl ?_
  refine oBox rfl rfl rfl rfl rfl rfl ?_
  refine oAlloc rfl rfl rfl rfl rfl rfl rfl ?_
  refine oQ (Q_assign rfl rfl) rfl rfl ?_
  refine OW_nil ?_
  all_goals with_reducible refine tN ?_
  all_goals (
      refine CW_seq ?_
      refine CW_seq ?_
      refine CW_any (fun _ => false) 9 rfl lateOk (by decide +kernel) (fun hst => ?_)
      refine aQ 0 hst rfl rfl (by decide +kernel) (QX_of (Q_move rfl rfl) NE_move) rfl rfl ?_
      refine aQ 1 hst rfl rfl (by decide +kernel) (QX_of (Q_move rfl rfl) NE_move) rfl rfl ?_
      refine aQ 2 hst rfl rfl (by decide +kernel) (QX_of (Q_ldw rfl rfl rfl rfl ha3) NE_load) rfl rfl ?_
      refine aQ 5 hst rfl rfl (by decide +kernel) (QX_of (Q_ldw rfl rfl rfl rfl hc6) NE_load) rfl rfl ?_
      refine aQ 6 hst rfl rfl (by decide +kernel) (QX_of (Q_ldw rfl rfl rfl rfl hd6) NE_load) rfl rfl ?_
      refine AW_one (i := 3) (by decide +kernel) ?_
      refine gBsl1 ha3 rfl rfl rfl rfl rfl rfl rfl rfl rfl rfl rfl rfl ?_
      refine aQ 4 hst rfl rfl (by decide +kernel) (QX_call (arePoints_one p a ha3) [(0, 4)] rfl rfl (Fits.mk' (vHc rfl vHn) rfl rfl (by simp)) rfl rfl rfl) rfl rfl ?_
      refine aQ 7 hst rfl rfl (by decide +kernel) (QX_call0 (pencilCode_con p (pointB p a) c d hc6 hd6) rfl rfl rfl) rfl rfl ?_
      refine aQ 8 hst rfl rfl (by decide +kernel) (QX_of (Q_assign rfl rfl) NE_assign) rfl rfl ?_
      refine AW_done (by decide +kernel) ?_
      all_goals with_reducible refine tN ?_
      all_goals (
          refine CW_seq ?_
          refine CW_region ?_
          refine oQ (Q_move rfl rfl) rfl rfl ?_
          refine oQ (Q_bin rfl rfl rfl) rfl rfl ?_
          refine OW_nil ?_
          all_goals with_reducible refine tN ?_
          all_goals (
              first | refine CW_cond_t rfl (by with_reducible rfl) ?_ | refine CW_cond_f rfl (by with_reducible rfl) ?_ | refine CW_cond rfl (fun hc => ?_) (fun hc => ?_)
              all_goals try simp only [decide_eq_true_eq, decide_eq_false_iff_not, beq_iff_eq, beq_eq_false_iff_ne, bne_iff_ne, bne_eq_false_iff_eq, Bool.not_eq_true', Bool.not_eq_false', Int.not_lt, Int.not_le, ne_eq, not_false_eq_true] at hc
              all_goals first
                | (
                  refine CW_skip ?_)
                | (
                  refine CW_seq ?_
                  refine CW_region ?_
                  refine oQ (Q_build rfl rfl rfl rfl rfl rfl rfl rfl) rfl rfl ?_
                  refine oQ (Q_move rfl rfl) rfl rfl ?_
                  first | refine oStw rfl rfl rfl rfl (by first | omega | (dsimp only; omega) | (simp; omega) | (simp; done)) (by first | omega | (dsimp only; omega) | (simp; omega) | (simp; done)) ?_ | refine oSta rfl rfl rfl rfl (by first | omega | (dsimp only; omega) | (simp; omega) | (simp; done)) (by first | omega | (dsimp only; omega) | (simp; omega) | (simp; done)) ?_
                  refine oQ (Q_assign rfl rfl) rfl rfl ?_
                  refine OW_nil ?_
                  all_goals with_reducible refine tN ?_
                  all_goals (
                      refine CW_ret ?_))))
      all_goals first
        | with_reducible refine tR ?_
        | with_reducible refine tE ?_
        | (
          with_reducible refine tN ?_
          refine CW_seq ?_
          refine CW_seq ?_
          refine CW_region ?_
          refine oQ (Q_move rfl rfl) rfl rfl ?_
          refine oQ (Q_ldw rfl rfl rfl rfl hc6) rfl rfl ?_
          refine oQ (Q_ldw rfl rfl rfl rfl hd6) rfl rfl ?_
          refine oQ (Q_ldw rfl rfl rfl rfl ha3) rfl rfl ?_
          (have hc0 : pencB p (pointB p a && (pointB p c && pointB p d)) c d = 0 := hc)
          (have hcc := pencB_zero hc0)
          (have hpb := prime_bd hcc.1)
          (have hcb := Bool.and_eq_true_iff.1 hcc.2)
          (have hcd := Bool.and_eq_true_iff.1 hcb.2)
          (have hv1 := conV_bd hcc.1 c a)
          (have hv2 := conV_bd hcc.1 d a)
          refine oQ (Q_call0 (isBase_con p c d a hcc.1 hc6 hd6 ha3 (sm_point hcd.1) (sm_point hcd.2) (sm_point hcb.1)) rfl rfl rfl) rfl rfl ?_
          refine OW_nil ?_
          all_goals with_reducible refine tN ?_
          all_goals (
              first | refine CW_cond_t rfl (by with_reducible rfl) ?_ | refine CW_cond_f rfl (by with_reducible rfl) ?_ | refine CW_cond rfl (fun hc => ?_) (fun hc => ?_)
              all_goals try simp only [decide_eq_true_eq, decide_eq_false_iff_not, beq_iff_eq, beq_eq_false_iff_ne, bne_iff_ne, bne_eq_false_iff_eq, Bool.not_eq_true', Bool.not_eq_false', Int.not_lt, Int.not_le, ne_eq, not_false_eq_true] at hc
              all_goals first
                | (
                  refine CW_skip ?_)
                | (
                  refine CW_seq ?_
                  refine CW_region ?_
                  refine oQ (Q_build rfl rfl rfl rfl rfl rfl rfl rfl) rfl rfl ?_
                  first | refine oStw rfl rfl rfl rfl (by first | omega | (dsimp only; omega) | (simp; omega) | (simp; done)) (by first | omega | (dsimp only; omega) | (simp; omega) | (simp; done)) ?_ | refine oSta rfl rfl rfl rfl (by first | omega | (dsimp only; omega) | (simp; omega) | (simp; done)) (by first | omega | (dsimp only; omega) | (simp; omega) | (simp; done)) ?_
                  refine oQ (Q_assign rfl rfl) rfl rfl ?_
                  refine OW_nil ?_
                  all_goals with_reducible refine tN ?_
                  all_goals (
                      refine CW_ret ?_)))
          all_goals first
            | with_reducible refine tR ?_
            | with_reducible refine tE ?_
            | (
              with_reducible refine tN ?_
              refine CW_seq ?_
              refine CW_any (fun i => List.elem i [13, 14]) 15 rfl lateOk (by decide +kernel) (fun hst => ?_)
              refine aQ 0 hst rfl rfl (by decide +kernel) (QX_of (Q_move rfl rfl) NE_move) rfl rfl ?_
              refine aQ 1 hst rfl rfl (by decide +kernel) (QX_of (Q_ldw rfl rfl rfl rfl hc6) NE_load) rfl rfl ?_
              refine aQ 2 hst rfl rfl (by decide +kernel) (QX_of (Q_ldw rfl rfl rfl rfl hd6) NE_load) rfl rfl ?_
              refine aQ 3 hst rfl rfl (by decide +kernel) (QX_of (Q_ldw rfl rfl rfl rfl hd6) NE_load) rfl rfl ?_
              refine aQ 4 hst rfl rfl (by decide +kernel) (QX_of (Q_move rfl rfl) NE_move) rfl rfl ?_
              refine aQ 5 hst rfl rfl (by decide +kernel) (QX_of (Q_ldw rfl rfl rfl rfl ha3) NE_load) rfl rfl ?_
              refine aQ 6 hst rfl rfl (by decide +kernel) (QX_call0 (conAt_con d p a hcc.1 hd6 ha3 (sm_point hcd.2) (sm_point hcb.1)) rfl rfl rfl) rfl rfl ?_
              refine aQ 7 hst rfl rfl (by decide +kernel) (QX_of (Q_ldw rfl rfl rfl rfl hc6) NE_load) rfl rfl ?_
              refine aQ 8 hst rfl rfl (by decide +kernel) (QX_of (Q_move rfl rfl) NE_move) rfl rfl ?_
              refine aQ 9 hst rfl rfl (by decide +kernel) (QX_of (Q_ldw rfl rfl rfl rfl ha3) NE_load) rfl rfl ?_
              refine aQ 10 hst rfl rfl (by decide +kernel) (QX_call0 (conAt_con c p a hcc.1 hc6 ha3 (sm_point hcd.1) (sm_point hcb.1)) rfl rfl rfl) rfl rfl ?_
              refine aQ 11 hst rfl rfl (by decide +kernel) (QX_of (Q_negu rfl (by omega)) NE_un) rfl rfl ?_
              refine aQ 12 hst rfl rfl (by decide +kernel) (QX_call0 (member_con p c d _ _ hcc.1 hc6 hd6 (sm_point hcd.1) (sm_point hcd.2) (by omega) (by omega)) rfl rfl rfl) rfl rfl ?_
              refine AW_last [13, 14] rfl (by decide +kernel) rfl ?_
              first | refine oStw rfl rfl rfl rfl (by first | omega | (dsimp only; omega) | (simp; omega) | (simp; done)) (by first | omega | (dsimp only; omega) | (simp; omega) | (simp; done)) ?_ | refine oSta rfl rfl rfl rfl (by first | omega | (dsimp only; omega) | (simp; omega) | (simp; done)) (by first | omega | (dsimp only; omega) | (simp; omega) | (simp; done)) ?_
              refine oQ (Q_assign rfl rfl) rfl rfl ?_
              refine OW_nil (npN ?_)
              all_goals with_reducible refine tN ?_
              all_goals (
                  refine CW_ret ?_))))
  all_goals (
      refine exitQ (.inr rfl) 0 (.cons (.arr rfl rfl rfl rfl (by first | omega | (dsimp only; omega) | (simp; omega) | (simp; done))) (.cons (.tmp rfl rfl) .nil)) ?_ rfl vHn rfl rfl
      first
        | (have hm : mthC p c d a = pencB p (pointB p a && (pointB p c && pointB p d)) c d := if_neg hc
           exact arr_code (if_neg (by rw [hm]; exact hc)).symm hm.symm)
        | (have hb2 : conV p c a = 0 ∧ conV p d a = 0 := by simpa using hc
           have hm : mthC p c d a = 5 := (if_pos hc0).trans (if_pos hb2)
           exact arr_code (if_neg (by rw [hm]; decide)).symm hm.symm)
        | (have hb2 : ¬(conV p c a = 0 ∧ conV p d a = 0) := by simpa using hc
           have hm : mthC p c d a = 0 := (if_pos hc0).trans (if_neg hb2)
           exact arr_code (if_pos hm).symm hm.symm))
theorem spec_MemberThrough_con (p : Int) (c d a : List Int) (hc6 : c.length = 6) (hd6 : d.length = 6) (ha3 : a.length = 3) : ConQ Try.prog [] 51 [.int p, .arr c, .arr d, .arr a] [] (.tuple [.arr (mthV p c d a), .int (mthC p c d a)]) := by
  have hnl := normL_length p (memL c d (conV p d a) (-conV p c a % p))
  have hml := memL_length c d (conV p d a) (-conV p c a % p)
  refine conW tab_ok [(0, .int p), (1, .arr c), (2, .arr d), (3, .arr a)] 0 [] [] Try.func51 rfl rfl rfl rfl rfl rfl rfl rfl rfl ?_
  refine CW_seq ?_
  refine CW_region ?_
  refine oBox rfl rfl rfl rfl rfl rfl ?_
  refine oBox rfl rfl rfl rfl rfl rfl ?_
  refine oBox rfl rfl rfl rfl rfl rfl ?_
  refine oAlloc rfl rfl rfl rfl rfl rfl rfl ?_
  refine oQ (Q_assign rfl rfl) rfl rfl ?_
  refine OW_nil ?_
  all_goals with_reducible refine tN ?_
  all_goals (
      refine CW_seq ?_
      refine CW_seq ?_
      refine CW_region ?_
      refine oQ (Q_move rfl rfl) rfl rfl ?_
      refine oQ (Q_ldw rfl rfl rfl rfl hc6) rfl rfl ?_
      refine oQ (Q_ldw rfl rfl rfl rfl hd6) rfl rfl ?_
      refine oQ (Q_ldw rfl rfl rfl rfl ha3) rfl rfl ?_
      refine oBsl1 ha3 rfl rfl rfl rfl rfl rfl rfl rfl rfl rfl ?_
      refine oQ (Q_call (l04Pencil_row p c d a hc6 hd6 ha3) [(0, 4)] rfl rfl (Fits.mk' (vHc rfl vHn) rfl rfl (by simp)) rfl rfl) rfl rfl ?_
      refine oQ (Q_assign rfl rfl) rfl rfl ?_
      refine OW_nil ?_
      all_goals with_reducible refine tN ?_
      all_goals (
          refine CW_seq ?_
          refine CW_region ?_
          refine oQ (Q_move rfl rfl) rfl rfl ?_
          refine oQ (Q_bin rfl rfl rfl) rfl rfl ?_
          refine OW_nil ?_
          all_goals with_reducible refine tN ?_
          all_goals (
              first | refine CW_cond_t rfl (by with_reducible rfl) ?_ | refine CW_cond_f rfl (by with_reducible rfl) ?_ | refine CW_cond rfl (fun hc => ?_) (fun hc => ?_)
              all_goals try simp only [decide_eq_true_eq, decide_eq_false_iff_not, beq_iff_eq, beq_eq_false_iff_ne, bne_iff_ne, bne_eq_false_iff_eq, Bool.not_eq_true', Bool.not_eq_false', Int.not_lt, Int.not_le, ne_eq, not_false_eq_true] at hc
              all_goals first
                | (
                  refine CW_skip ?_)
                | (
                  refine CW_seq ?_
                  refine CW_region ?_
                  refine oQ (Q_build rfl rfl rfl rfl rfl rfl rfl rfl) rfl rfl ?_
                  refine oQ (Q_move rfl rfl) rfl rfl ?_
                  first | refine oStw rfl rfl rfl rfl (by first | omega | (dsimp only; omega) | (simp; omega) | (simp; done)) (by first | omega | (dsimp only; omega) | (simp; omega) | (simp; done)) ?_ | refine oSta rfl rfl rfl rfl (by first | omega | (dsimp only; omega) | (simp; omega) | (simp; done)) (by first | omega | (dsimp only; omega) | (simp; omega) | (simp; done)) ?_
                  refine oQ (Q_assign rfl rfl) rfl rfl ?_
                  refine OW_nil ?_
                  all_goals with_reducible refine tN ?_
                  all_goals (
                      refine CW_ret ?_))))
      all_goals first
        | with_reducible refine tR ?_
        | with_reducible refine tE ?_
        | (
          with_reducible refine tN ?_
          refine CW_seq ?_
          refine CW_draw lateOk (by decide +kernel) ?_
          refine qQ (Q_move rfl rfl) rfl rfl ?_
          (have hc0 : pencB p (pointB p a && (pointB p c && pointB p d)) c d = 0 := hc)
          (have hcc := pencB_zero hc0)
          (have hpb := prime_bd hcc.1)
          (have hcb := Bool.and_eq_true_iff.1 hcc.2)
          (have hcd := Bool.and_eq_true_iff.1 hcb.2)
          (have hv1 := conV_bd hcc.1 c a)
          (have hv2 := conV_bd hcc.1 d a)
          (have hvm := mod_bd hcc.1 (-conV p c a))
          refine qQ (Q_ldw rfl rfl rfl rfl hc6) rfl rfl ?_
          refine qQ (Q_ldw rfl rfl rfl rfl ha3) rfl rfl ?_
          refine qQ (Q_call0 (l03At_con p c a hcc.1 hc6 ha3 (pointB_mod hcd.1) (mod_list (pointB_mod hcb.1))) rfl rfl rfl) rfl rfl ?_
          refine qQ (Q_move rfl rfl) rfl rfl ?_
          refine qQ (Q_ldw rfl rfl rfl rfl hd6) rfl rfl ?_
          refine qQ (Q_ldw rfl rfl rfl rfl ha3) rfl rfl ?_
          refine qQ (Q_call0 (l03At_con p d a hcc.1 hd6 ha3 (pointB_mod hcd.2) (mod_list (pointB_mod hcb.1))) rfl rfl rfl) rfl rfl ?_
          refine qQ (Q_assign rfl rfl) rfl rfl ?_
          refine qQ (Q_assign rfl rfl) rfl rfl ?_
          refine QW_nil ?_
          all_goals with_reducible refine tN ?_
          all_goals (
              refine CW_seq ?_
              refine CW_seq ?_
              refine CW_region ?_
              refine oQ (Q_move rfl rfl) rfl rfl ?_
              refine oQ (Q_bin rfl rfl rfl) rfl rfl ?_
              refine oQ (Q_move rfl rfl) rfl rfl ?_
              all_goals first | refine ogT rfl rfl (by with_reducible rfl) ?_ | refine og1 rfl rfl (by with_reducible rfl) rfl ?_ | refine og0 rfl rfl (by with_reducible rfl) rfl ?_ | refine ogP1 rfl rfl rfl (fun hg => ?_) (fun hg => ?_) | refine ogP0 rfl rfl rfl (fun hg => ?_) (fun hg => ?_)
              all_goals try simp only [decide_eq_true_eq, decide_eq_false_iff_not, beq_iff_eq, beq_eq_false_iff_ne, bne_iff_ne, bne_eq_false_iff_eq, Bool.not_eq_true', Bool.not_eq_false', Int.not_lt, Int.not_le, ne_eq, not_false_eq_true] at hg
              all_goals first | (refine oQ (Q_move rfl rfl) rfl rfl ?_) | skip
              all_goals first | refine ogT rfl rfl (by with_reducible rfl) ?_ | refine og1 rfl rfl (by with_reducible rfl) rfl ?_ | refine og0 rfl rfl (by with_reducible rfl) rfl ?_ | refine ogP1 rfl rfl rfl (fun hg => ?_) (fun hg => ?_) | refine ogP0 rfl rfl rfl (fun hg => ?_) (fun hg => ?_)
              all_goals try simp only [decide_eq_true_eq, decide_eq_false_iff_not, beq_iff_eq, beq_eq_false_iff_ne, bne_iff_ne, bne_eq_false_iff_eq, Bool.not_eq_true', Bool.not_eq_false', Int.not_lt, Int.not_le, ne_eq, not_false_eq_true] at hg
              all_goals first | (refine oQ (Q_bin rfl rfl rfl) rfl rfl ?_) | skip
              all_goals first | refine oQ (Q_pick_t rfl (by with_reducible rfl) rfl rfl) rfl rfl ?_ | refine oQ (Q_pick_f rfl (by with_reducible rfl) rfl rfl) rfl rfl ?_
              all_goals refine OW_nil ?_
              all_goals with_reducible refine tN ?_
              all_goals (
                  first | refine CW_cond_t rfl (by with_reducible rfl) ?_ | refine CW_cond_f rfl (by with_reducible rfl) ?_ | refine CW_cond rfl (fun hc => ?_) (fun hc => ?_)
                  all_goals try simp only [decide_eq_true_eq, decide_eq_false_iff_not, beq_iff_eq, beq_eq_false_iff_ne, bne_iff_ne, bne_eq_false_iff_eq, Bool.not_eq_true', Bool.not_eq_false', Int.not_lt, Int.not_le, ne_eq, not_false_eq_true] at hc
                  all_goals first
                    | (
                      refine CW_skip ?_)
                    | (
                      refine CW_seq ?_
                      refine CW_region ?_
                      refine oQ (Q_build rfl rfl rfl rfl rfl rfl rfl rfl) rfl rfl ?_
                      first | refine oStw rfl rfl rfl rfl (by first | omega | (dsimp only; omega) | (simp; omega) | (simp; done)) (by first | omega | (dsimp only; omega) | (simp; omega) | (simp; done)) ?_ | refine oSta rfl rfl rfl rfl (by first | omega | (dsimp only; omega) | (simp; omega) | (simp; done)) (by first | omega | (dsimp only; omega) | (simp; omega) | (simp; done)) ?_
                      refine oQ (Q_assign rfl rfl) rfl rfl ?_
                      refine OW_nil ?_
                      all_goals with_reducible refine tN ?_
                      all_goals (
                          refine CW_ret ?_)))
              all_goals first
                | with_reducible refine tR ?_
                | with_reducible refine tE ?_
                | (
                  with_reducible refine tN ?_
                  refine CW_seq ?_
                  refine CW_any (fun i => List.elem i [9, 10]) 11 rfl lateOk (by decide +kernel) (fun hst => ?_)
                  refine aQ 0 hst rfl rfl (by decide +kernel) (QX_of (Q_move rfl rfl) NE_move) rfl rfl ?_
                  refine aQ 1 hst rfl rfl (by decide +kernel) (QX_of (Q_ldw rfl rfl rfl rfl hc6) NE_load) rfl rfl ?_
                  refine aQ 2 hst rfl rfl (by decide +kernel) (QX_of (Q_ldw rfl rfl rfl rfl hd6) NE_load) rfl rfl ?_
                  refine aQ 3 hst rfl rfl (by decide +kernel) (QX_of (Q_move rfl rfl) NE_move) rfl rfl ?_
                  refine aQ 4 hst rfl rfl (by decide +kernel) (QX_of (Q_move rfl rfl) NE_move) rfl rfl ?_
                  refine aQ 5 hst rfl rfl (by decide +kernel) (QX_of (Q_move rfl rfl) NE_move) rfl rfl ?_
                  refine aQ 6 hst rfl rfl (by decide +kernel) (QX_of (Q_negu rfl (by omega)) NE_un) rfl rfl ?_
                  refine aQ 7 hst rfl rfl (by decide +kernel) (QX_call0 (l01Mod_con _ _ (by omega) (by omega)) rfl rfl rfl) rfl rfl ?_
                  refine aQ 8 hst rfl rfl (by decide +kernel) (QX_call0 (l04Member_con p c d _ _ hcc.1 hc6 hd6 (mod_list (pointB_mod hcd.1)) (mod_list (pointB_mod hcd.2)) (by omega) (by omega)) rfl rfl rfl) rfl rfl ?_
                  refine AW_last [9, 10] rfl (by decide +kernel) rfl ?_
                  first | refine oStw rfl rfl rfl rfl (by first | omega | (dsimp only; omega) | (simp; omega) | (simp; done)) (by first | omega | (dsimp only; omega) | (simp; omega) | (simp; done)) ?_ | refine oSta rfl rfl rfl rfl (by first | omega | (dsimp only; omega) | (simp; omega) | (simp; done)) (by first | omega | (dsimp only; omega) | (simp; omega) | (simp; done)) ?_
                  refine oQ (Q_assign rfl rfl) rfl rfl ?_
                  refine OW_nil (npN ?_)
                  all_goals with_reducible refine tN ?_
                  all_goals (
                      refine CW_ret ?_)))))
  all_goals (
      refine exitQ (.inr rfl) 0 (.cons (.arr rfl rfl rfl rfl (by first | omega | (dsimp only; omega) | (simp; omega) | (simp; done))) (.cons (.tmp rfl rfl) .nil)) ?_ rfl vHn rfl rfl
      first
        | (have hm : mthC p c d a = pencB p (pointB p a && (pointB p c && pointB p d)) c d := if_neg hc
           exact arr_code (if_neg (by rw [hm]; exact hc)).symm hm.symm)
        | (have hb2 : conV p c a = 0 ∧ conV p d a = 0 := ⟨hg, hc⟩
           have hm : mthC p c d a = 5 := (if_pos hc0).trans (if_pos hb2)
           exact arr_code (if_neg (by rw [hm]; decide)).symm hm.symm)
        | (have hb2 : ¬(conV p c a = 0 ∧ conV p d a = 0) := by simp_all
           have hm : mthC p c d a = 0 := (if_pos hc0).trans (if_neg hb2)
           refine arr_code ?_ hm.symm
           rw [mthV, if_pos hm]
           exact (norm_congr (memL_mod rfl (mod_mod_self p _))).1))
end Go.Proofs.Ytgfncdejnjikpaa
