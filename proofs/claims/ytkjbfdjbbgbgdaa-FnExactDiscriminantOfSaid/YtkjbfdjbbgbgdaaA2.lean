/- Conversions of arrays, and whether an array is normal. Printed by gen_a2.py. -/
import Derived.Test.YtkjbfdjbbgbgdaaA1
namespace Go.Proofs.Ytkjbfdjbbgbgdaa
attribute [local irreducible] CW OW QW QOp Con thenP inBlockP
set_option maxRecDepth 10000
set_option linter.unusedSimpArgs false
set_option linter.unusedVariables false
theorem fill_set {L : List Int} {i N : Nat} (h : i < N) (hL : L.length = N) : (L.take i ++ List.replicate (N - i) 0).set i (L.getD i 0) = L.take (i + 1) ++ List.replicate (N - (i + 1)) 0 := by
  have e : N - i = (N - (i + 1)) + 1 := by omega
  rw [e, List.replicate_succ, take_snoc (by omega), List.set_append_right _ _ (by simp; omega)]
  have : i - (L.take i).length = 0 := by simp; omega
  rw [this]
  simp
theorem toQuadric_con (l : List Int) (hl : l.length = 10) : ConQ Try.prog [] 10 [.arr l] [] (.arr l) := by
  refine conW tab_ok [(0, .arr l)] 0 [] [] Try.func10 rfl rfl rfl rfl rfl rfl rfl rfl rfl ?_
  refine CW_seq ?_
  refine CW_region ?_
  refine oBox rfl rfl rfl rfl rfl rfl ?_
  refine oAlloc rfl rfl rfl rfl rfl rfl rfl ?_
  refine OW_nil ?_
  all_goals with_reducible refine tN ?_
  all_goals (
      refine CW_seq ?_
      refine CW_region ?_
      refine oAlloc rfl rfl rfl rfl rfl rfl rfl ?_
      refine OW_nil ?_
      all_goals with_reducible refine tN ?_
      all_goals (
          refine CW_seq ?_
          refine CW_seq ?_
          refine CW_region ?_
          refine oQ (Q_assign rfl rfl) rfl rfl ?_
          refine OW_nil ?_
          all_goals with_reducible refine tN ?_
          all_goals (
              refine CW_block ?_
              refine CW_loop (ι := Nat) (fun i => i ≤ 10) (fun i => ⟨[(1, .ptr 0 0), (2, .ptr 1 0), (3, .ptr 2 0), (4, .int i)], [(0, .ints 22 l), (1, .ints 24 [0, 0, 0, 0, 0, 0, 0, 0, 0, 0]), (2, .ints 24 (l.take i ++ List.replicate (10 - i) 0))], 3⟩) (fun i => 10 - i) 0 ?_ ?_ ?_
              · first | trivial | omega | (simp; done) | (simp; omega)
              · refine View.mk' [] rfl rfl rfl ?_ ?_
                repeat' first | exact vFn | refine vFc rfl ?_ | exact vHn | refine vHc rfl ?_ | refine vFc (congrArg (fun z => some (V.int z)) ?_) ?_ | refine vHc (congrArg (fun z => some (Blk.ints _ z)) ?_) ?_ | refine vFc (congrArg (fun z => some (V.bool z)) ?_) ?_
              intro i hi
              refine CW_seq ?_
              refine CW_seq ?_
              refine CW_region ?_
              refine oQ (Q_move rfl rfl) rfl rfl ?_
              refine oQ (Q_bin rfl rfl rfl) rfl rfl ?_
              refine OW_nil ?_
              all_goals with_reducible refine tN ?_
              all_goals (
                  first | refine CW_cond_t rfl (by with_reducible rfl) ?_ | refine CW_cond_f rfl (by with_reducible rfl) ?_ | refine CW_cond rfl (fun hc => ?_) (fun hc => ?_)
                  all_goals try simp only [decide_eq_true_eq, decide_eq_false_iff_not, beq_iff_eq, beq_eq_false_iff_ne, bne_iff_ne, bne_eq_false_iff_eq, Bool.not_eq_true', Bool.not_eq_false', Int.not_lt, Int.not_le, ne_eq, not_false_eq_true] at hc
                  all_goals first
                    | (
                      refine CW_skip ?_)
                    | (
                      refine CW_exit ?_))
              all_goals first
                | with_reducible refine tR ?_
                | with_reducible refine tE ?_
                | (
                  with_reducible refine tN ?_
                  refine CW_seq ?_
                  refine CW_block ?_
                  refine CW_region ?_
                  refine oQ (Q_move rfl rfl) rfl rfl ?_
                  refine oQ (Q_move rfl rfl) rfl rfl ?_
                  first | refine oQ (Q_ixa0 rfl rfl rfl rfl rfl rfl (by first | omega | (simp; omega) | (simp; done))) rfl rfl ?_ | refine oQ (Q_ixa1 rfl rfl rfl rfl rfl rfl (by first | omega | (simp; omega) | (simp; done))) rfl rfl ?_
                  refine oQ (Q_ld rfl rfl rfl rfl (by first | omega | (simp; omega) | (simp; done))) rfl rfl ?_
                  first | refine oQ (Q_ixa0 rfl rfl rfl rfl rfl rfl (by first | omega | (simp; omega) | (simp; done))) rfl rfl ?_ | refine oQ (Q_ixa1 rfl rfl rfl rfl rfl rfl (by first | omega | (simp; omega) | (simp; done))) rfl rfl ?_
                  refine oSt rfl rfl rfl rfl rfl (by first | omega | (simp; omega) | (simp; done)) ?_
                  refine OW_nil ?_
                  all_goals first | with_reducible refine bN ?_ | with_reducible refine bE ?_ | with_reducible refine bR ?_ | refine bX rfl ?_
                  all_goals with_reducible refine tN ?_
                  all_goals (
                      refine CW_region ?_
                      refine oQ (Q_move rfl rfl) rfl rfl ?_
                      first | refine oQ (Q_binu rfl rfl rfl (by omega)) rfl rfl ?_ | refine oQ (Q_bin rfl rfl rfl) rfl rfl ?_
                      refine oQ (Q_assign rfl rfl) rfl rfl ?_
                      refine OW_nil ?_))
              all_goals first
                | with_reducible refine tR ?_
                | with_reducible refine tE ?_
                | (
                  with_reducible refine tN ?_
                  refine ⟨i + 1, ?_, ?_, View.mk' [] rfl rfl rfl ?_ ?_⟩
                  · omega
                  · omega
                  all_goals (repeat' first | exact vFn | refine vFc rfl ?_ | exact vHn | refine vHc rfl ?_ | refine vFc (congrArg (fun z => some (V.int z)) ?_) ?_ | refine vHc (congrArg (fun z => some (Blk.ints _ z)) ?_) ?_ | refine vFc (congrArg (fun z => some (V.bool z)) ?_) ?_)
                  all_goals exact fill_set (by omega) hl)
              all_goals first | with_reducible refine bN ?_ | with_reducible refine bE ?_ | with_reducible refine bR ?_ | refine bX rfl ?_)
          all_goals with_reducible refine tN ?_
          all_goals (
              refine CW_seq ?_
              refine CW_region ?_
              first | refine oQ (Q_ldw rfl rfl rfl rfl (by first | omega | (simp; omega) | (simp; done))) rfl rfl ?_ | refine oQ (Q_lda rfl rfl rfl rfl rfl (by first | omega | (simp; omega) | (simp; done))) rfl rfl ?_
              first | refine oStw rfl rfl rfl rfl (by first | omega | (simp; omega) | (simp; done)) (by first | omega | (simp; omega) | (simp; done)) ?_ | refine oSta rfl rfl rfl rfl (by first | omega | (simp; omega) | (simp; done)) (by first | omega | (simp; omega) | (simp; done)) ?_
              refine OW_nil ?_
              all_goals with_reducible refine tN ?_
              all_goals (
                  refine CW_ret ?_))))
  all_goals (
      have e : i = 10 := by omega
      subst e
      refine exitQ (.inr rfl) 0 (.cons (.arr rfl rfl rfl rfl (by simp [hl])) .nil) ?_ rfl vHn rfl rfl
      simp [resV, ← hl])
theorem toSpot_con (l : List Int) (hl : l.length = 4) : ConQ Try.prog [] 13 [.arr l] [] (.arr l) := by
  refine conW tab_ok [(0, .arr l)] 0 [] [] Try.func13 rfl rfl rfl rfl rfl rfl rfl rfl rfl ?_
  refine CW_seq ?_
  refine CW_region ?_
  refine oBox rfl rfl rfl rfl rfl rfl ?_
  refine oAlloc rfl rfl rfl rfl rfl rfl rfl ?_
  refine OW_nil ?_
  all_goals with_reducible refine tN ?_
  all_goals (
      refine CW_seq ?_
      refine CW_region ?_
      refine oAlloc rfl rfl rfl rfl rfl rfl rfl ?_
      refine OW_nil ?_
      all_goals with_reducible refine tN ?_
      all_goals (
          refine CW_seq ?_
          refine CW_seq ?_
          refine CW_region ?_
          refine oQ (Q_assign rfl rfl) rfl rfl ?_
          refine OW_nil ?_
          all_goals with_reducible refine tN ?_
          all_goals (
              refine CW_block ?_
              refine CW_loop (ι := Nat) (fun i => i ≤ 4) (fun i => ⟨[(1, .ptr 0 0), (2, .ptr 1 0), (3, .ptr 2 0), (4, .int i)], [(0, .ints 27 l), (1, .ints 29 [0, 0, 0, 0]), (2, .ints 29 (l.take i ++ List.replicate (4 - i) 0))], 3⟩) (fun i => 4 - i) 0 ?_ ?_ ?_
              · first | trivial | omega | (simp; done) | (simp; omega)
              · refine View.mk' [] rfl rfl rfl ?_ ?_
                repeat' first | exact vFn | refine vFc rfl ?_ | exact vHn | refine vHc rfl ?_ | refine vFc (congrArg (fun z => some (V.int z)) ?_) ?_ | refine vHc (congrArg (fun z => some (Blk.ints _ z)) ?_) ?_ | refine vFc (congrArg (fun z => some (V.bool z)) ?_) ?_
              intro i hi
              refine CW_seq ?_
              refine CW_seq ?_
              refine CW_region ?_
              refine oQ (Q_move rfl rfl) rfl rfl ?_
              refine oQ (Q_bin rfl rfl rfl) rfl rfl ?_
              refine OW_nil ?_
              all_goals with_reducible refine tN ?_
              all_goals (
                  first | refine CW_cond_t rfl (by with_reducible rfl) ?_ | refine CW_cond_f rfl (by with_reducible rfl) ?_ | refine CW_cond rfl (fun hc => ?_) (fun hc => ?_)
                  all_goals try simp only [decide_eq_true_eq, decide_eq_false_iff_not, beq_iff_eq, beq_eq_false_iff_ne, bne_iff_ne, bne_eq_false_iff_eq, Bool.not_eq_true', Bool.not_eq_false', Int.not_lt, Int.not_le, ne_eq, not_false_eq_true] at hc
                  all_goals first
                    | (
                      refine CW_skip ?_)
                    | (
                      refine CW_exit ?_))
              all_goals first
                | with_reducible refine tR ?_
                | with_reducible refine tE ?_
                | (
                  with_reducible refine tN ?_
                  refine CW_seq ?_
                  refine CW_block ?_
                  refine CW_region ?_
                  refine oQ (Q_move rfl rfl) rfl rfl ?_
                  refine oQ (Q_move rfl rfl) rfl rfl ?_
                  first | refine oQ (Q_ixa0 rfl rfl rfl rfl rfl rfl (by first | omega | (simp; omega) | (simp; done))) rfl rfl ?_ | refine oQ (Q_ixa1 rfl rfl rfl rfl rfl rfl (by first | omega | (simp; omega) | (simp; done))) rfl rfl ?_
                  refine oQ (Q_ld rfl rfl rfl rfl (by first | omega | (simp; omega) | (simp; done))) rfl rfl ?_
                  first | refine oQ (Q_ixa0 rfl rfl rfl rfl rfl rfl (by first | omega | (simp; omega) | (simp; done))) rfl rfl ?_ | refine oQ (Q_ixa1 rfl rfl rfl rfl rfl rfl (by first | omega | (simp; omega) | (simp; done))) rfl rfl ?_
                  refine oSt rfl rfl rfl rfl rfl (by first | omega | (simp; omega) | (simp; done)) ?_
                  refine OW_nil ?_
                  all_goals first | with_reducible refine bN ?_ | with_reducible refine bE ?_ | with_reducible refine bR ?_ | refine bX rfl ?_
                  all_goals with_reducible refine tN ?_
                  all_goals (
                      refine CW_region ?_
                      refine oQ (Q_move rfl rfl) rfl rfl ?_
                      first | refine oQ (Q_binu rfl rfl rfl (by omega)) rfl rfl ?_ | refine oQ (Q_bin rfl rfl rfl) rfl rfl ?_
                      refine oQ (Q_assign rfl rfl) rfl rfl ?_
                      refine OW_nil ?_))
              all_goals first
                | with_reducible refine tR ?_
                | with_reducible refine tE ?_
                | (
                  with_reducible refine tN ?_
                  refine ⟨i + 1, ?_, ?_, View.mk' [] rfl rfl rfl ?_ ?_⟩
                  · omega
                  · omega
                  all_goals (repeat' first | exact vFn | refine vFc rfl ?_ | exact vHn | refine vHc rfl ?_ | refine vFc (congrArg (fun z => some (V.int z)) ?_) ?_ | refine vHc (congrArg (fun z => some (Blk.ints _ z)) ?_) ?_ | refine vFc (congrArg (fun z => some (V.bool z)) ?_) ?_)
                  all_goals exact fill_set (by omega) hl)
              all_goals first | with_reducible refine bN ?_ | with_reducible refine bE ?_ | with_reducible refine bR ?_ | refine bX rfl ?_)
          all_goals with_reducible refine tN ?_
          all_goals (
              refine CW_seq ?_
              refine CW_region ?_
              first | refine oQ (Q_ldw rfl rfl rfl rfl (by first | omega | (simp; omega) | (simp; done))) rfl rfl ?_ | refine oQ (Q_lda rfl rfl rfl rfl rfl (by first | omega | (simp; omega) | (simp; done))) rfl rfl ?_
              first | refine oStw rfl rfl rfl rfl (by first | omega | (simp; omega) | (simp; done)) (by first | omega | (simp; omega) | (simp; done)) ?_ | refine oSta rfl rfl rfl rfl (by first | omega | (simp; omega) | (simp; done)) (by first | omega | (simp; omega) | (simp; done)) ?_
              refine OW_nil ?_
              all_goals with_reducible refine tN ?_
              all_goals (
                  refine CW_ret ?_))))
  all_goals (
      have e : i = 4 := by omega
      subst e
      refine exitQ (.inr rfl) 0 (.cons (.arr rfl rfl rfl rfl (by simp [hl])) .nil) ?_ rfl vHn rfl rfl
      simp [resV, ← hl])
theorem toCubic_con (l : List Int) (hl : l.length = 10) : ConQ Try.prog [] 16 [.arr l] [] (.arr l) := by
  refine conW tab_ok [(0, .arr l)] 0 [] [] Try.func16 rfl rfl rfl rfl rfl rfl rfl rfl rfl ?_
  refine CW_seq ?_
  refine CW_region ?_
  refine oBox rfl rfl rfl rfl rfl rfl ?_
  refine oAlloc rfl rfl rfl rfl rfl rfl rfl ?_
  refine OW_nil ?_
  all_goals with_reducible refine tN ?_
  all_goals (
      refine CW_seq ?_
      refine CW_region ?_
      refine oAlloc rfl rfl rfl rfl rfl rfl rfl ?_
      refine OW_nil ?_
      all_goals with_reducible refine tN ?_
      all_goals (
          refine CW_seq ?_
          refine CW_seq ?_
          refine CW_region ?_
          refine oQ (Q_assign rfl rfl) rfl rfl ?_
          refine OW_nil ?_
          all_goals with_reducible refine tN ?_
          all_goals (
              refine CW_block ?_
              refine CW_loop (ι := Nat) (fun i => i ≤ 10) (fun i => ⟨[(1, .ptr 0 0), (2, .ptr 1 0), (3, .ptr 2 0), (4, .int i)], [(0, .ints 22 l), (1, .ints 33 [0, 0, 0, 0, 0, 0, 0, 0, 0, 0]), (2, .ints 33 (l.take i ++ List.replicate (10 - i) 0))], 3⟩) (fun i => 10 - i) 0 ?_ ?_ ?_
              · first | trivial | omega | (simp; done) | (simp; omega)
              · refine View.mk' [] rfl rfl rfl ?_ ?_
                repeat' first | exact vFn | refine vFc rfl ?_ | exact vHn | refine vHc rfl ?_ | refine vFc (congrArg (fun z => some (V.int z)) ?_) ?_ | refine vHc (congrArg (fun z => some (Blk.ints _ z)) ?_) ?_ | refine vFc (congrArg (fun z => some (V.bool z)) ?_) ?_
              intro i hi
              refine CW_seq ?_
              refine CW_seq ?_
              refine CW_region ?_
              refine oQ (Q_move rfl rfl) rfl rfl ?_
              refine oQ (Q_bin rfl rfl rfl) rfl rfl ?_
              refine OW_nil ?_
              all_goals with_reducible refine tN ?_
              all_goals (
                  first | refine CW_cond_t rfl (by with_reducible rfl) ?_ | refine CW_cond_f rfl (by with_reducible rfl) ?_ | refine CW_cond rfl (fun hc => ?_) (fun hc => ?_)
                  all_goals try simp only [decide_eq_true_eq, decide_eq_false_iff_not, beq_iff_eq, beq_eq_false_iff_ne, bne_iff_ne, bne_eq_false_iff_eq, Bool.not_eq_true', Bool.not_eq_false', Int.not_lt, Int.not_le, ne_eq, not_false_eq_true] at hc
                  all_goals first
                    | (
                      refine CW_skip ?_)
                    | (
                      refine CW_exit ?_))
              all_goals first
                | with_reducible refine tR ?_
                | with_reducible refine tE ?_
                | (
                  with_reducible refine tN ?_
                  refine CW_seq ?_
                  refine CW_block ?_
                  refine CW_region ?_
                  refine oQ (Q_move rfl rfl) rfl rfl ?_
                  refine oQ (Q_move rfl rfl) rfl rfl ?_
                  first | refine oQ (Q_ixa0 rfl rfl rfl rfl rfl rfl (by first | omega | (simp; omega) | (simp; done))) rfl rfl ?_ | refine oQ (Q_ixa1 rfl rfl rfl rfl rfl rfl (by first | omega | (simp; omega) | (simp; done))) rfl rfl ?_
                  refine oQ (Q_ld rfl rfl rfl rfl (by first | omega | (simp; omega) | (simp; done))) rfl rfl ?_
                  first | refine oQ (Q_ixa0 rfl rfl rfl rfl rfl rfl (by first | omega | (simp; omega) | (simp; done))) rfl rfl ?_ | refine oQ (Q_ixa1 rfl rfl rfl rfl rfl rfl (by first | omega | (simp; omega) | (simp; done))) rfl rfl ?_
                  refine oSt rfl rfl rfl rfl rfl (by first | omega | (simp; omega) | (simp; done)) ?_
                  refine OW_nil ?_
                  all_goals first | with_reducible refine bN ?_ | with_reducible refine bE ?_ | with_reducible refine bR ?_ | refine bX rfl ?_
                  all_goals with_reducible refine tN ?_
                  all_goals (
                      refine CW_region ?_
                      refine oQ (Q_move rfl rfl) rfl rfl ?_
                      first | refine oQ (Q_binu rfl rfl rfl (by omega)) rfl rfl ?_ | refine oQ (Q_bin rfl rfl rfl) rfl rfl ?_
                      refine oQ (Q_assign rfl rfl) rfl rfl ?_
                      refine OW_nil ?_))
              all_goals first
                | with_reducible refine tR ?_
                | with_reducible refine tE ?_
                | (
                  with_reducible refine tN ?_
                  refine ⟨i + 1, ?_, ?_, View.mk' [] rfl rfl rfl ?_ ?_⟩
                  · omega
                  · omega
                  all_goals (repeat' first | exact vFn | refine vFc rfl ?_ | exact vHn | refine vHc rfl ?_ | refine vFc (congrArg (fun z => some (V.int z)) ?_) ?_ | refine vHc (congrArg (fun z => some (Blk.ints _ z)) ?_) ?_ | refine vFc (congrArg (fun z => some (V.bool z)) ?_) ?_)
                  all_goals exact fill_set (by omega) hl)
              all_goals first | with_reducible refine bN ?_ | with_reducible refine bE ?_ | with_reducible refine bR ?_ | refine bX rfl ?_)
          all_goals with_reducible refine tN ?_
          all_goals (
              refine CW_seq ?_
              refine CW_region ?_
              first | refine oQ (Q_ldw rfl rfl rfl rfl (by first | omega | (simp; omega) | (simp; done))) rfl rfl ?_ | refine oQ (Q_lda rfl rfl rfl rfl rfl (by first | omega | (simp; omega) | (simp; done))) rfl rfl ?_
              first | refine oStw rfl rfl rfl rfl (by first | omega | (simp; omega) | (simp; done)) (by first | omega | (simp; omega) | (simp; done)) ?_ | refine oSta rfl rfl rfl rfl (by first | omega | (simp; omega) | (simp; done)) (by first | omega | (simp; omega) | (simp; done)) ?_
              refine OW_nil ?_
              all_goals with_reducible refine tN ?_
              all_goals (
                  refine CW_ret ?_))))
  all_goals (
      have e : i = 10 := by omega
      subst e
      refine exitQ (.inr rfl) 0 (.cons (.arr rfl rfl rfl rfl (by simp [hl])) .nil) ?_ rfl vHn rfl rfl
      simp [resV, ← hl])
theorem spec_l08Quadric_con (p : Int) (l : List Int) (hl : l.length = 10) : ConQ Try.prog [] 28 [.int p, .arr l] [] (.bool (primeB p && normB p l)) := by
  refine conW tab_ok [(0, .int p), (1, .arr l)] 0 [] [] Try.func28 rfl rfl rfl rfl rfl rfl rfl rfl rfl ?_
  refine CW_seq ?_
  refine CW_region ?_
  refine oBox rfl rfl rfl rfl rfl rfl ?_
  refine oQ (Q_assign rfl rfl) rfl rfl ?_
  refine OW_nil ?_
  all_goals with_reducible refine tN ?_
  all_goals (
      refine CW_seq ?_
      refine CW_region ?_
      refine oQ (Q_move rfl rfl) rfl rfl ?_
      refine oQ (Q_call0 (l01Prime_con _) rfl rfl rfl) rfl rfl ?_
      refine oQ (Q_move rfl rfl) rfl rfl ?_
      all_goals first | refine ogT rfl rfl (by with_reducible rfl) ?_ | refine og1 rfl rfl (by with_reducible rfl) rfl ?_ | refine og0 rfl rfl (by with_reducible rfl) rfl ?_ | refine ogP1 rfl rfl rfl (fun hg => ?_) (fun hg => ?_) | refine ogP0 rfl rfl rfl (fun hg => ?_) (fun hg => ?_)
      all_goals try simp only [decide_eq_true_eq, decide_eq_false_iff_not, beq_iff_eq, beq_eq_false_iff_ne, bne_iff_ne, bne_eq_false_iff_eq, Bool.not_eq_true', Bool.not_eq_false', Int.not_lt, Int.not_le, ne_eq, not_false_eq_true] at hg
      all_goals first | (refine oQ (Q_move rfl rfl) rfl rfl ?_) | skip
      all_goals first | refine ogT rfl rfl (by with_reducible rfl) ?_ | refine og1 rfl rfl (by with_reducible rfl) rfl ?_ | refine og0 rfl rfl (by with_reducible rfl) rfl ?_ | refine ogP1 rfl rfl rfl (fun hg => ?_) (fun hg => ?_) | refine ogP0 rfl rfl rfl (fun hg => ?_) (fun hg => ?_)
      all_goals try simp only [decide_eq_true_eq, decide_eq_false_iff_not, beq_iff_eq, beq_eq_false_iff_ne, bne_iff_ne, bne_eq_false_iff_eq, Bool.not_eq_true', Bool.not_eq_false', Int.not_lt, Int.not_le, ne_eq, not_false_eq_true] at hg
      all_goals first | (refine oQ (Q_slaF rfl rfl rfl rfl) rfl rfl ?_) | skip
      all_goals first | refine ogT rfl rfl (by with_reducible rfl) ?_ | refine og1 rfl rfl (by with_reducible rfl) rfl ?_ | refine og0 rfl rfl (by with_reducible rfl) rfl ?_ | refine ogP1 rfl rfl rfl (fun hg => ?_) (fun hg => ?_) | refine ogP0 rfl rfl rfl (fun hg => ?_) (fun hg => ?_)
      all_goals try simp only [decide_eq_true_eq, decide_eq_false_iff_not, beq_iff_eq, beq_eq_false_iff_ne, bne_iff_ne, bne_eq_false_iff_eq, Bool.not_eq_true', Bool.not_eq_false', Int.not_lt, Int.not_le, ne_eq, not_false_eq_true] at hg
      all_goals first | ((have hb := prime_bd hg); refine oQ (Q_call (l01Normal_con p 24 l 10 10 (by omega) (by omega) (by omega)) [] rfl rfl (Fits.mk' (vHc rfl vHn) rfl rfl (by simp)) rfl rfl) rfl rfl ?_) | skip
      all_goals first | refine oQ (Q_pick_t rfl (by with_reducible rfl) rfl rfl) rfl rfl ?_ | refine oQ (Q_pick_f rfl (by with_reducible rfl) rfl rfl) rfl rfl ?_
      all_goals first | (refine oQ (Q_assign rfl rfl) rfl rfl ?_)
      all_goals refine OW_nil ?_
      all_goals with_reducible refine tN ?_
      all_goals (
          refine CW_ret ?_))
  all_goals (
      refine exitQ (.inr rfl) 0 (.cons (.tmp rfl rfl) .nil) ?_ rfl vHn rfl rfl
      simp only [resV, ren, V.bool.injEq, ← hl, List.take_length]
      simp [hg])
theorem spec_l08Is_con (p : Int) (l : List Int) (hl : l.length = 4) : ConQ Try.prog [] 31 [.int p, .arr l] [] (.bool (primeB p && normB p l)) := by
  refine conW tab_ok [(0, .int p), (1, .arr l)] 0 [] [] Try.func31 rfl rfl rfl rfl rfl rfl rfl rfl rfl ?_
  refine CW_seq ?_
  refine CW_region ?_
  refine oBox rfl rfl rfl rfl rfl rfl ?_
  refine oQ (Q_assign rfl rfl) rfl rfl ?_
  refine OW_nil ?_
  all_goals with_reducible refine tN ?_
  all_goals (
      refine CW_seq ?_
      refine CW_region ?_
      refine oQ (Q_move rfl rfl) rfl rfl ?_
      refine oQ (Q_call0 (l01Prime_con _) rfl rfl rfl) rfl rfl ?_
      refine oQ (Q_move rfl rfl) rfl rfl ?_
      all_goals first | refine ogT rfl rfl (by with_reducible rfl) ?_ | refine og1 rfl rfl (by with_reducible rfl) rfl ?_ | refine og0 rfl rfl (by with_reducible rfl) rfl ?_ | refine ogP1 rfl rfl rfl (fun hg => ?_) (fun hg => ?_) | refine ogP0 rfl rfl rfl (fun hg => ?_) (fun hg => ?_)
      all_goals try simp only [decide_eq_true_eq, decide_eq_false_iff_not, beq_iff_eq, beq_eq_false_iff_ne, bne_iff_ne, bne_eq_false_iff_eq, Bool.not_eq_true', Bool.not_eq_false', Int.not_lt, Int.not_le, ne_eq, not_false_eq_true] at hg
      all_goals first | (refine oQ (Q_move rfl rfl) rfl rfl ?_) | skip
      all_goals first | refine ogT rfl rfl (by with_reducible rfl) ?_ | refine og1 rfl rfl (by with_reducible rfl) rfl ?_ | refine og0 rfl rfl (by with_reducible rfl) rfl ?_ | refine ogP1 rfl rfl rfl (fun hg => ?_) (fun hg => ?_) | refine ogP0 rfl rfl rfl (fun hg => ?_) (fun hg => ?_)
      all_goals try simp only [decide_eq_true_eq, decide_eq_false_iff_not, beq_iff_eq, beq_eq_false_iff_ne, bne_iff_ne, bne_eq_false_iff_eq, Bool.not_eq_true', Bool.not_eq_false', Int.not_lt, Int.not_le, ne_eq, not_false_eq_true] at hg
      all_goals first | (refine oQ (Q_slaF rfl rfl rfl rfl) rfl rfl ?_) | skip
      all_goals first | refine ogT rfl rfl (by with_reducible rfl) ?_ | refine og1 rfl rfl (by with_reducible rfl) rfl ?_ | refine og0 rfl rfl (by with_reducible rfl) rfl ?_ | refine ogP1 rfl rfl rfl (fun hg => ?_) (fun hg => ?_) | refine ogP0 rfl rfl rfl (fun hg => ?_) (fun hg => ?_)
      all_goals try simp only [decide_eq_true_eq, decide_eq_false_iff_not, beq_iff_eq, beq_eq_false_iff_ne, bne_iff_ne, bne_eq_false_iff_eq, Bool.not_eq_true', Bool.not_eq_false', Int.not_lt, Int.not_le, ne_eq, not_false_eq_true] at hg
      all_goals first | ((have hb := prime_bd hg); refine oQ (Q_call (l01Normal_con p 29 l 4 4 (by omega) (by omega) (by omega)) [] rfl rfl (Fits.mk' (vHc rfl vHn) rfl rfl (by simp)) rfl rfl) rfl rfl ?_) | skip
      all_goals first | refine oQ (Q_pick_t rfl (by with_reducible rfl) rfl rfl) rfl rfl ?_ | refine oQ (Q_pick_f rfl (by with_reducible rfl) rfl rfl) rfl rfl ?_
      all_goals first | (refine oQ (Q_assign rfl rfl) rfl rfl ?_)
      all_goals refine OW_nil ?_
      all_goals with_reducible refine tN ?_
      all_goals (
          refine CW_ret ?_))
  all_goals (
      refine exitQ (.inr rfl) 0 (.cons (.tmp rfl rfl) .nil) ?_ rfl vHn rfl rfl
      simp only [resV, ren, V.bool.injEq, ← hl, List.take_length]
      simp [hg])
theorem spec_l06Is_con (p : Int) (l : List Int) (hl : l.length = 10) : ConQ Try.prog [] 32 [.int p, .arr l] [] (.bool (primeB p && normB p l)) := by
  refine conW tab_ok [(0, .int p), (1, .arr l)] 0 [] [] Try.func32 rfl rfl rfl rfl rfl rfl rfl rfl rfl ?_
  refine CW_seq ?_
  refine CW_region ?_
  refine oBox rfl rfl rfl rfl rfl rfl ?_
  refine oQ (Q_assign rfl rfl) rfl rfl ?_
  refine OW_nil ?_
  all_goals with_reducible refine tN ?_
  all_goals (
      refine CW_seq ?_
      refine CW_region ?_
      refine oQ (Q_move rfl rfl) rfl rfl ?_
      refine oQ (Q_call0 (l01Prime_con _) rfl rfl rfl) rfl rfl ?_
      refine oQ (Q_move rfl rfl) rfl rfl ?_
      all_goals first | refine ogT rfl rfl (by with_reducible rfl) ?_ | refine og1 rfl rfl (by with_reducible rfl) rfl ?_ | refine og0 rfl rfl (by with_reducible rfl) rfl ?_ | refine ogP1 rfl rfl rfl (fun hg => ?_) (fun hg => ?_) | refine ogP0 rfl rfl rfl (fun hg => ?_) (fun hg => ?_)
      all_goals try simp only [decide_eq_true_eq, decide_eq_false_iff_not, beq_iff_eq, beq_eq_false_iff_ne, bne_iff_ne, bne_eq_false_iff_eq, Bool.not_eq_true', Bool.not_eq_false', Int.not_lt, Int.not_le, ne_eq, not_false_eq_true] at hg
      all_goals first | (refine oQ (Q_move rfl rfl) rfl rfl ?_) | skip
      all_goals first | refine ogT rfl rfl (by with_reducible rfl) ?_ | refine og1 rfl rfl (by with_reducible rfl) rfl ?_ | refine og0 rfl rfl (by with_reducible rfl) rfl ?_ | refine ogP1 rfl rfl rfl (fun hg => ?_) (fun hg => ?_) | refine ogP0 rfl rfl rfl (fun hg => ?_) (fun hg => ?_)
      all_goals try simp only [decide_eq_true_eq, decide_eq_false_iff_not, beq_iff_eq, beq_eq_false_iff_ne, bne_iff_ne, bne_eq_false_iff_eq, Bool.not_eq_true', Bool.not_eq_false', Int.not_lt, Int.not_le, ne_eq, not_false_eq_true] at hg
      all_goals first | (refine oQ (Q_slaF rfl rfl rfl rfl) rfl rfl ?_) | skip
      all_goals first | refine ogT rfl rfl (by with_reducible rfl) ?_ | refine og1 rfl rfl (by with_reducible rfl) rfl ?_ | refine og0 rfl rfl (by with_reducible rfl) rfl ?_ | refine ogP1 rfl rfl rfl (fun hg => ?_) (fun hg => ?_) | refine ogP0 rfl rfl rfl (fun hg => ?_) (fun hg => ?_)
      all_goals try simp only [decide_eq_true_eq, decide_eq_false_iff_not, beq_iff_eq, beq_eq_false_iff_ne, bne_iff_ne, bne_eq_false_iff_eq, Bool.not_eq_true', Bool.not_eq_false', Int.not_lt, Int.not_le, ne_eq, not_false_eq_true] at hg
      all_goals first | ((have hb := prime_bd hg); refine oQ (Q_call (l01Normal_con p 33 l 10 10 (by omega) (by omega) (by omega)) [] rfl rfl (Fits.mk' (vHc rfl vHn) rfl rfl (by simp)) rfl rfl) rfl rfl ?_) | skip
      all_goals first | refine oQ (Q_pick_t rfl (by with_reducible rfl) rfl rfl) rfl rfl ?_ | refine oQ (Q_pick_f rfl (by with_reducible rfl) rfl rfl) rfl rfl ?_
      all_goals first | (refine oQ (Q_assign rfl rfl) rfl rfl ?_)
      all_goals refine OW_nil ?_
      all_goals with_reducible refine tN ?_
      all_goals (
          refine CW_ret ?_))
  all_goals (
      refine exitQ (.inr rfl) 0 (.cons (.tmp rfl rfl) .nil) ?_ rfl vHn rfl rfl
      simp only [resV, ren, V.bool.injEq, ← hl, List.take_length]
      simp [hg])
theorem impl_IsQuadric_con (p : Int) (l : List Int) (hl : l.length = 10) : ConQ Try.prog [] 11 [.int p, .arr l] [] (.bool (primeB p && normB p l)) := by
  refine conW tab_ok [(0, .int p), (1, .arr l)] 0 [] [] Try.func11 rfl rfl rfl rfl rfl rfl rfl rfl rfl ?_
  refine CW_seq ?_
  refine CW_region ?_
  refine oBox rfl rfl rfl rfl rfl rfl ?_
  refine oQ (Q_assign rfl rfl) rfl rfl ?_
  refine OW_nil ?_
  all_goals with_reducible refine tN ?_
  all_goals (
      refine CW_seq ?_
      refine CW_region ?_
      refine oQ (Q_move rfl rfl) rfl rfl ?_
      refine oQ (Q_call0 (isPrime_con _) rfl rfl rfl) rfl rfl ?_
      refine oQ (Q_move rfl rfl) rfl rfl ?_
      all_goals first | refine ogT rfl rfl (by with_reducible rfl) ?_ | refine og1 rfl rfl (by with_reducible rfl) rfl ?_ | refine og0 rfl rfl (by with_reducible rfl) rfl ?_ | refine ogP1 rfl rfl rfl (fun hg => ?_) (fun hg => ?_) | refine ogP0 rfl rfl rfl (fun hg => ?_) (fun hg => ?_)
      all_goals try simp only [decide_eq_true_eq, decide_eq_false_iff_not, beq_iff_eq, beq_eq_false_iff_ne, bne_iff_ne, bne_eq_false_iff_eq, Bool.not_eq_true', Bool.not_eq_false', Int.not_lt, Int.not_le, ne_eq, not_false_eq_true] at hg
      all_goals first | (refine oQ (Q_move rfl rfl) rfl rfl ?_) | skip
      all_goals first | refine ogT rfl rfl (by with_reducible rfl) ?_ | refine og1 rfl rfl (by with_reducible rfl) rfl ?_ | refine og0 rfl rfl (by with_reducible rfl) rfl ?_ | refine ogP1 rfl rfl rfl (fun hg => ?_) (fun hg => ?_) | refine ogP0 rfl rfl rfl (fun hg => ?_) (fun hg => ?_)
      all_goals try simp only [decide_eq_true_eq, decide_eq_false_iff_not, beq_iff_eq, beq_eq_false_iff_ne, bne_iff_ne, bne_eq_false_iff_eq, Bool.not_eq_true', Bool.not_eq_false', Int.not_lt, Int.not_le, ne_eq, not_false_eq_true] at hg
      all_goals first | (refine oQ (Q_slaF rfl rfl rfl rfl) rfl rfl ?_) | skip
      all_goals first | refine ogT rfl rfl (by with_reducible rfl) ?_ | refine og1 rfl rfl (by with_reducible rfl) rfl ?_ | refine og0 rfl rfl (by with_reducible rfl) rfl ?_ | refine ogP1 rfl rfl rfl (fun hg => ?_) (fun hg => ?_) | refine ogP0 rfl rfl rfl (fun hg => ?_) (fun hg => ?_)
      all_goals try simp only [decide_eq_true_eq, decide_eq_false_iff_not, beq_iff_eq, beq_eq_false_iff_ne, bne_iff_ne, bne_eq_false_iff_eq, Bool.not_eq_true', Bool.not_eq_false', Int.not_lt, Int.not_le, ne_eq, not_false_eq_true] at hg
      all_goals first | ((have hb := prime_bd hg); refine oQ (Q_call (isNormal_con p 24 l 10 10 (by omega) (by omega) (by omega)) [] rfl rfl (Fits.mk' (vHc rfl vHn) rfl rfl (by simp)) rfl rfl) rfl rfl ?_) | skip
      all_goals first | refine oQ (Q_pick_t rfl (by with_reducible rfl) rfl rfl) rfl rfl ?_ | refine oQ (Q_pick_f rfl (by with_reducible rfl) rfl rfl) rfl rfl ?_
      all_goals first | (refine oQ (Q_assign rfl rfl) rfl rfl ?_)
      all_goals refine OW_nil ?_
      all_goals with_reducible refine tN ?_
      all_goals (
          refine CW_ret ?_))
  all_goals (
      refine exitQ (.inr rfl) 0 (.cons (.tmp rfl rfl) .nil) ?_ rfl vHn rfl rfl
      simp only [resV, ren, V.bool.injEq, ← hl, List.take_length]
      simp [hg])
theorem impl_IsSpot_con (p : Int) (l : List Int) (hl : l.length = 4) : ConQ Try.prog [] 14 [.int p, .arr l] [] (.bool (primeB p && normB p l)) := by
  refine conW tab_ok [(0, .int p), (1, .arr l)] 0 [] [] Try.func14 rfl rfl rfl rfl rfl rfl rfl rfl rfl ?_
  refine CW_seq ?_
  refine CW_region ?_
  refine oBox rfl rfl rfl rfl rfl rfl ?_
  refine oQ (Q_assign rfl rfl) rfl rfl ?_
  refine OW_nil ?_
  all_goals with_reducible refine tN ?_
  all_goals (
      refine CW_seq ?_
      refine CW_region ?_
      refine oQ (Q_move rfl rfl) rfl rfl ?_
      refine oQ (Q_call0 (isPrime_con _) rfl rfl rfl) rfl rfl ?_
      refine oQ (Q_move rfl rfl) rfl rfl ?_
      all_goals first | refine ogT rfl rfl (by with_reducible rfl) ?_ | refine og1 rfl rfl (by with_reducible rfl) rfl ?_ | refine og0 rfl rfl (by with_reducible rfl) rfl ?_ | refine ogP1 rfl rfl rfl (fun hg => ?_) (fun hg => ?_) | refine ogP0 rfl rfl rfl (fun hg => ?_) (fun hg => ?_)
      all_goals try simp only [decide_eq_true_eq, decide_eq_false_iff_not, beq_iff_eq, beq_eq_false_iff_ne, bne_iff_ne, bne_eq_false_iff_eq, Bool.not_eq_true', Bool.not_eq_false', Int.not_lt, Int.not_le, ne_eq, not_false_eq_true] at hg
      all_goals first | (refine oQ (Q_move rfl rfl) rfl rfl ?_) | skip
      all_goals first | refine ogT rfl rfl (by with_reducible rfl) ?_ | refine og1 rfl rfl (by with_reducible rfl) rfl ?_ | refine og0 rfl rfl (by with_reducible rfl) rfl ?_ | refine ogP1 rfl rfl rfl (fun hg => ?_) (fun hg => ?_) | refine ogP0 rfl rfl rfl (fun hg => ?_) (fun hg => ?_)
      all_goals try simp only [decide_eq_true_eq, decide_eq_false_iff_not, beq_iff_eq, beq_eq_false_iff_ne, bne_iff_ne, bne_eq_false_iff_eq, Bool.not_eq_true', Bool.not_eq_false', Int.not_lt, Int.not_le, ne_eq, not_false_eq_true] at hg
      all_goals first | (refine oQ (Q_slaF rfl rfl rfl rfl) rfl rfl ?_) | skip
      all_goals first | refine ogT rfl rfl (by with_reducible rfl) ?_ | refine og1 rfl rfl (by with_reducible rfl) rfl ?_ | refine og0 rfl rfl (by with_reducible rfl) rfl ?_ | refine ogP1 rfl rfl rfl (fun hg => ?_) (fun hg => ?_) | refine ogP0 rfl rfl rfl (fun hg => ?_) (fun hg => ?_)
      all_goals try simp only [decide_eq_true_eq, decide_eq_false_iff_not, beq_iff_eq, beq_eq_false_iff_ne, bne_iff_ne, bne_eq_false_iff_eq, Bool.not_eq_true', Bool.not_eq_false', Int.not_lt, Int.not_le, ne_eq, not_false_eq_true] at hg
      all_goals first | ((have hb := prime_bd hg); refine oQ (Q_call (isNormal_con p 29 l 4 4 (by omega) (by omega) (by omega)) [] rfl rfl (Fits.mk' (vHc rfl vHn) rfl rfl (by simp)) rfl rfl) rfl rfl ?_) | skip
      all_goals first | refine oQ (Q_pick_t rfl (by with_reducible rfl) rfl rfl) rfl rfl ?_ | refine oQ (Q_pick_f rfl (by with_reducible rfl) rfl rfl) rfl rfl ?_
      all_goals first | (refine oQ (Q_assign rfl rfl) rfl rfl ?_)
      all_goals refine OW_nil ?_
      all_goals with_reducible refine tN ?_
      all_goals (
          refine CW_ret ?_))
  all_goals (
      refine exitQ (.inr rfl) 0 (.cons (.tmp rfl rfl) .nil) ?_ rfl vHn rfl rfl
      simp only [resV, ren, V.bool.injEq, ← hl, List.take_length]
      simp [hg])
theorem impl_IsCubic_con (p : Int) (l : List Int) (hl : l.length = 10) : ConQ Try.prog [] 17 [.int p, .arr l] [] (.bool (primeB p && normB p l)) := by
  refine conW tab_ok [(0, .int p), (1, .arr l)] 0 [] [] Try.func17 rfl rfl rfl rfl rfl rfl rfl rfl rfl ?_
  refine CW_seq ?_
  refine CW_region ?_
  refine oBox rfl rfl rfl rfl rfl rfl ?_
  refine oQ (Q_assign rfl rfl) rfl rfl ?_
  refine OW_nil ?_
  all_goals with_reducible refine tN ?_
  all_goals (
      refine CW_seq ?_
      refine CW_region ?_
      refine oQ (Q_move rfl rfl) rfl rfl ?_
      refine oQ (Q_call0 (isPrime_con _) rfl rfl rfl) rfl rfl ?_
      refine oQ (Q_move rfl rfl) rfl rfl ?_
      all_goals first | refine ogT rfl rfl (by with_reducible rfl) ?_ | refine og1 rfl rfl (by with_reducible rfl) rfl ?_ | refine og0 rfl rfl (by with_reducible rfl) rfl ?_ | refine ogP1 rfl rfl rfl (fun hg => ?_) (fun hg => ?_) | refine ogP0 rfl rfl rfl (fun hg => ?_) (fun hg => ?_)
      all_goals try simp only [decide_eq_true_eq, decide_eq_false_iff_not, beq_iff_eq, beq_eq_false_iff_ne, bne_iff_ne, bne_eq_false_iff_eq, Bool.not_eq_true', Bool.not_eq_false', Int.not_lt, Int.not_le, ne_eq, not_false_eq_true] at hg
      all_goals first | (refine oQ (Q_move rfl rfl) rfl rfl ?_) | skip
      all_goals first | refine ogT rfl rfl (by with_reducible rfl) ?_ | refine og1 rfl rfl (by with_reducible rfl) rfl ?_ | refine og0 rfl rfl (by with_reducible rfl) rfl ?_ | refine ogP1 rfl rfl rfl (fun hg => ?_) (fun hg => ?_) | refine ogP0 rfl rfl rfl (fun hg => ?_) (fun hg => ?_)
      all_goals try simp only [decide_eq_true_eq, decide_eq_false_iff_not, beq_iff_eq, beq_eq_false_iff_ne, bne_iff_ne, bne_eq_false_iff_eq, Bool.not_eq_true', Bool.not_eq_false', Int.not_lt, Int.not_le, ne_eq, not_false_eq_true] at hg
      all_goals first | (refine oQ (Q_slaF rfl rfl rfl rfl) rfl rfl ?_) | skip
      all_goals first | refine ogT rfl rfl (by with_reducible rfl) ?_ | refine og1 rfl rfl (by with_reducible rfl) rfl ?_ | refine og0 rfl rfl (by with_reducible rfl) rfl ?_ | refine ogP1 rfl rfl rfl (fun hg => ?_) (fun hg => ?_) | refine ogP0 rfl rfl rfl (fun hg => ?_) (fun hg => ?_)
      all_goals try simp only [decide_eq_true_eq, decide_eq_false_iff_not, beq_iff_eq, beq_eq_false_iff_ne, bne_iff_ne, bne_eq_false_iff_eq, Bool.not_eq_true', Bool.not_eq_false', Int.not_lt, Int.not_le, ne_eq, not_false_eq_true] at hg
      all_goals first | ((have hb := prime_bd hg); refine oQ (Q_call (isNormal_con p 33 l 10 10 (by omega) (by omega) (by omega)) [] rfl rfl (Fits.mk' (vHc rfl vHn) rfl rfl (by simp)) rfl rfl) rfl rfl ?_) | skip
      all_goals first | refine oQ (Q_pick_t rfl (by with_reducible rfl) rfl rfl) rfl rfl ?_ | refine oQ (Q_pick_f rfl (by with_reducible rfl) rfl rfl) rfl rfl ?_
      all_goals first | (refine oQ (Q_assign rfl rfl) rfl rfl ?_)
      all_goals refine OW_nil ?_
      all_goals with_reducible refine tN ?_
      all_goals (
          refine CW_ret ?_))
  all_goals (
      refine exitQ (.inr rfl) 0 (.cons (.tmp rfl rfl) .nil) ?_ rfl vHn rfl rfl
      simp only [resV, ren, V.bool.injEq, ← hl, List.take_length]
      simp [hg])
theorem spec_IsQuadric_con (p : Int) (l : List Int) (hl : l.length = 10) : ConQ Try.prog [] 9 [.int p, .arr l] [] (.bool (primeB p && normB p l)) := by
  refine conW tab_ok [(0, .int p), (1, .arr l)] 0 [] [] Try.func9 rfl rfl rfl rfl rfl rfl rfl rfl rfl ?_
  refine CW_seq ?_
  refine CW_region ?_
  refine oBox rfl rfl rfl rfl rfl rfl ?_
  refine oQ (Q_assign rfl rfl) rfl rfl ?_
  refine OW_nil ?_
  all_goals with_reducible refine tN ?_
  all_goals (
      refine CW_seq ?_
      refine CW_region ?_
      refine oQ (Q_move rfl rfl) rfl rfl ?_
      first | refine oQ (Q_ldw rfl rfl rfl rfl (by first | omega | (simp; omega) | (simp; done))) rfl rfl ?_ | refine oQ (Q_lda rfl rfl rfl rfl rfl (by first | omega | (simp; omega) | (simp; done))) rfl rfl ?_
      refine oQ (Q_call0 (spec_l08Quadric_con _ _ hl) rfl rfl rfl) rfl rfl ?_
      refine oQ (Q_assign rfl rfl) rfl rfl ?_
      refine OW_nil ?_
      all_goals with_reducible refine tN ?_
      all_goals (
          refine CW_ret ?_))
  all_goals (
      exact exitQ (.inr rfl) 0 (.cons (.tmp rfl rfl) .nil) rfl rfl vHn rfl rfl)
theorem spec_IsSpot_con (p : Int) (l : List Int) (hl : l.length = 4) : ConQ Try.prog [] 12 [.int p, .arr l] [] (.bool (primeB p && normB p l)) := by
  refine conW tab_ok [(0, .int p), (1, .arr l)] 0 [] [] Try.func12 rfl rfl rfl rfl rfl rfl rfl rfl rfl ?_
  refine CW_seq ?_
  refine CW_region ?_
  refine oBox rfl rfl rfl rfl rfl rfl ?_
  refine oQ (Q_assign rfl rfl) rfl rfl ?_
  refine OW_nil ?_
  all_goals with_reducible refine tN ?_
  all_goals (
      refine CW_seq ?_
      refine CW_region ?_
      refine oQ (Q_move rfl rfl) rfl rfl ?_
      first | refine oQ (Q_ldw rfl rfl rfl rfl (by first | omega | (simp; omega) | (simp; done))) rfl rfl ?_ | refine oQ (Q_lda rfl rfl rfl rfl rfl (by first | omega | (simp; omega) | (simp; done))) rfl rfl ?_
      refine oQ (Q_call0 (spec_l08Is_con _ _ hl) rfl rfl rfl) rfl rfl ?_
      refine oQ (Q_assign rfl rfl) rfl rfl ?_
      refine OW_nil ?_
      all_goals with_reducible refine tN ?_
      all_goals (
          refine CW_ret ?_))
  all_goals (
      exact exitQ (.inr rfl) 0 (.cons (.tmp rfl rfl) .nil) rfl rfl vHn rfl rfl)
theorem spec_IsCubic_con (p : Int) (l : List Int) (hl : l.length = 10) : ConQ Try.prog [] 15 [.int p, .arr l] [] (.bool (primeB p && normB p l)) := by
  refine conW tab_ok [(0, .int p), (1, .arr l)] 0 [] [] Try.func15 rfl rfl rfl rfl rfl rfl rfl rfl rfl ?_
  refine CW_seq ?_
  refine CW_region ?_
  refine oBox rfl rfl rfl rfl rfl rfl ?_
  refine oQ (Q_assign rfl rfl) rfl rfl ?_
  refine OW_nil ?_
  all_goals with_reducible refine tN ?_
  all_goals (
      refine CW_seq ?_
      refine CW_region ?_
      refine oQ (Q_move rfl rfl) rfl rfl ?_
      first | refine oQ (Q_ldw rfl rfl rfl rfl (by first | omega | (simp; omega) | (simp; done))) rfl rfl ?_ | refine oQ (Q_lda rfl rfl rfl rfl rfl (by first | omega | (simp; omega) | (simp; done))) rfl rfl ?_
      refine oQ (Q_call0 (spec_l06Is_con _ _ hl) rfl rfl rfl) rfl rfl ?_
      refine oQ (Q_assign rfl rfl) rfl rfl ?_
      refine OW_nil ?_
      all_goals with_reducible refine tN ?_
      all_goals (
          refine CW_ret ?_))
  all_goals (
      exact exitQ (.inr rfl) 0 (.cons (.tmp rfl rfl) .nil) rfl rfl vHn rfl rfl)
end Go.Proofs.Ytkjbfdjbbgbgdaa
