/- The law of FixedPlaces. Printed by gen_m5.py. -/
import Derived.Test.YtgfncdejnjikpaaM4
import Derived.Test.YtgfncdejnjikpaaB4
namespace Go.Proofs.Ytgfncdejnjikpaa
attribute [local irreducible] CW OW QW QOp Con thenP inBlockP
set_option maxRecDepth 10000
set_option linter.unusedSimpArgs false
set_option linter.unusedVariables false
theorem filtL_le (g : Int → Bool) (n : Nat) : (filtL g n).length ≤ n := by
  unfold filtL
  exact Nat.le_trans (List.length_filter_le _ _) (by simp)
theorem law_FixedPlaces_bad (p a b c d : Int) (h : codeP p (badM p [a, b, c, d] 1) [] ≠ 0) : ConQ Try.prog [] 6 [.int p, .arr [a, b, c, d]] [] (.bool true) := by
  refine conW tab_ok [(0, .int p), (1, .arr [a, b, c, d])] 0 [] [] Try.func6 rfl rfl rfl rfl rfl rfl rfl rfl rfl ?_
  refine CW_seq ?_
  refine CW_region ?_
  refine oBox rfl rfl rfl rfl rfl rfl ?_
  refine oQ (Q_assign rfl rfl) rfl rfl ?_
  refine OW_nil ?_
  all_goals with_reducible refine tN ?_
  all_goals (
      refine CW_seq ?_
      refine CW_region ?_
      refine oQ (Q_move rfl rfl) rfl rfl ?_
      first | refine oQ (Q_ldw rfl rfl rfl rfl (by first | omega | (dsimp only; omega) | (simp; omega) | (simp; done))) rfl rfl ?_ | refine oQ (Q_lda rfl rfl rfl rfl rfl (by first | omega | (dsimp only; omega) | (simp; omega) | (simp; done))) rfl rfl ?_
      refine oQ (Q_call0 (toMoebius_con _ rfl) rfl rfl rfl) rfl rfl ?_
      refine oQ (Q_call0 (spec_FixedPlaces_bad _ _ _ _ _ h) rfl rfl rfl) rfl rfl ?_
      refine oQ (Q_move rfl rfl) rfl rfl ?_
      refine oQ (Q_extract rfl rfl) rfl rfl ?_
      refine oQ (Q_extract rfl rfl) rfl rfl ?_
      refine oQ (Q_assign rfl rfl) rfl rfl ?_
      refine oQ (Q_assign rfl rfl) rfl rfl ?_
      refine OW_nil ?_
      all_goals with_reducible refine tN ?_
      all_goals (
          refine CW_seq ?_
          refine CW_region ?_
          refine oQ (Q_move rfl rfl) rfl rfl ?_
          first | refine oQ (Q_ldw rfl rfl rfl rfl (by first | omega | (dsimp only; omega) | (simp; omega) | (simp; done))) rfl rfl ?_ | refine oQ (Q_lda rfl rfl rfl rfl rfl (by first | omega | (dsimp only; omega) | (simp; omega) | (simp; done))) rfl rfl ?_
          refine oQ (Q_call0 (toMoebius_con _ rfl) rfl rfl rfl) rfl rfl ?_
          refine oQ (Q_call0 (impl_FixedPlaces_bad _ _ _ _ _ h) rfl rfl rfl) rfl rfl ?_
          refine oQ (Q_move rfl rfl) rfl rfl ?_
          refine oQ (Q_extract rfl rfl) rfl rfl ?_
          refine oQ (Q_extract rfl rfl) rfl rfl ?_
          refine oQ (Q_assign rfl rfl) rfl rfl ?_
          refine oQ (Q_assign rfl rfl) rfl rfl ?_
          refine OW_nil ?_
          all_goals with_reducible refine tN ?_
          all_goals (
              refine CW_seq ?_
              refine CW_seq ?_
              refine CW_region ?_
              refine oQ (Q_move rfl rfl) rfl rfl ?_
              refine oQ (Q_move rfl rfl) rfl rfl ?_
              refine oQ (Q_call0 eqInt64S_nn rfl rfl rfl) rfl rfl ?_
              refine oQ (Q_not rfl) rfl rfl ?_
              refine oQ (Q_move rfl rfl) rfl rfl ?_
              all_goals first | refine ogT rfl rfl (by with_reducible rfl) ?_ | refine og1 rfl rfl (by with_reducible rfl) rfl ?_ | refine og0 rfl rfl (by with_reducible rfl) rfl ?_ | refine ogP1 rfl rfl rfl (fun hg => ?_) (fun hg => ?_) | refine ogP0 rfl rfl rfl (fun hg => ?_) (fun hg => ?_)
              all_goals try simp only [decide_eq_true_eq, decide_eq_false_iff_not, beq_iff_eq, beq_eq_false_iff_ne, bne_iff_ne, bne_eq_false_iff_eq, Bool.not_eq_true', Bool.not_eq_false', Int.not_lt, Int.not_le, ne_eq, not_false_eq_true] at hg
              all_goals first | (refine oQ (Q_move rfl rfl) rfl rfl ?_) | skip
              all_goals first | refine ogT rfl rfl (by with_reducible rfl) ?_ | refine og1 rfl rfl (by with_reducible rfl) rfl ?_ | refine og0 rfl rfl (by with_reducible rfl) rfl ?_ | refine ogP1 rfl rfl rfl (fun hg => ?_) (fun hg => ?_) | refine ogP0 rfl rfl rfl (fun hg => ?_) (fun hg => ?_)
              all_goals try simp only [decide_eq_true_eq, decide_eq_false_iff_not, beq_iff_eq, beq_eq_false_iff_ne, bne_iff_ne, bne_eq_false_iff_eq, Bool.not_eq_true', Bool.not_eq_false', Int.not_lt, Int.not_le, ne_eq, not_false_eq_true] at hg
              all_goals first | (refine oQ (Q_move rfl rfl) rfl rfl ?_) | skip
              all_goals first | refine ogT rfl rfl (by with_reducible rfl) ?_ | refine og1 rfl rfl (by with_reducible rfl) rfl ?_ | refine og0 rfl rfl (by with_reducible rfl) rfl ?_ | refine ogP1 rfl rfl rfl (fun hg => ?_) (fun hg => ?_) | refine ogP0 rfl rfl rfl (fun hg => ?_) (fun hg => ?_)
              all_goals try simp only [decide_eq_true_eq, decide_eq_false_iff_not, beq_iff_eq, beq_eq_false_iff_ne, bne_iff_ne, bne_eq_false_iff_eq, Bool.not_eq_true', Bool.not_eq_false', Int.not_lt, Int.not_le, ne_eq, not_false_eq_true] at hg
              all_goals first | (refine oQ (Q_bin rfl rfl rfl) rfl rfl ?_) | skip
              all_goals first | refine oQ (Q_pick_t rfl (by with_reducible rfl) rfl rfl) rfl rfl ?_ | refine oQ (Q_pick_f rfl (by with_reducible rfl) rfl rfl) rfl rfl ?_
              all_goals refine OW_nil ?_
              all_goals with_reducible refine tN ?_
              all_goals (
                  first | refine CW_cond_t rfl (by with_reducible rfl) ?_ | refine CW_cond_f rfl (by with_reducible rfl) ?_ | refine CW_cond rfl (fun hc => ?_) (fun hc => ?_)
                  all_goals try simp only [decide_eq_true_eq, decide_eq_false_iff_not, beq_iff_eq, beq_eq_false_iff_ne, bne_iff_ne, bne_eq_false_iff_eq, Bool.not_eq_true', Bool.not_eq_false', Int.not_lt, Int.not_le, ne_eq, not_false_eq_true] at hc
                  all_goals try (exfalso; first | exact absurd trivial hc | (simp at hc; done); done)
                  all_goals first
                    | (
                      refine CW_skip ?_)
                    | (
                      refine CW_seq ?_
                      refine CW_region ?_
                      refine oQ (Q_assign rfl rfl) rfl rfl ?_
                      refine OW_nil ?_
                      all_goals with_reducible refine tN ?_
                      all_goals (
                          refine CW_ret ?_)))
              all_goals first
                | with_reducible refine tR ?_
                | with_reducible refine tE ?_
                | (
                  with_reducible refine tN ?_
                  refine CW_seq ?_
                  refine CW_region ?_
                  refine oQ (Q_assign rfl rfl) rfl rfl ?_
                  refine OW_nil ?_
                  all_goals with_reducible refine tN ?_
                  all_goals (
                      refine CW_seq ?_
                      refine CW_region ?_
                      refine oQ (Q_move rfl rfl) rfl rfl ?_
                      refine oQ (Q_move rfl rfl) rfl rfl ?_
                      refine oQ (Q_call0 (markInt64S_nil 101) rfl rfl rfl) rfl rfl ?_
                      refine oQ (Q_assign rfl rfl) rfl rfl ?_
                      refine OW_nil ?_
                      all_goals with_reducible refine tN ?_
                      all_goals (
                          refine CW_seq ?_
                          refine CW_region ?_
                          refine oQ (Q_assign rfl rfl) rfl rfl ?_
                          refine OW_nil ?_
                          all_goals with_reducible refine tN ?_
                          all_goals (
                              refine CW_seq ?_
                              refine CW_region ?_
                              refine oQ (Q_move rfl rfl) rfl rfl ?_
                              refine oQ (Q_move rfl rfl) rfl rfl ?_
                              refine oQ (Q_call0 (heldInt64S_nil 101) rfl rfl rfl) rfl rfl ?_
                              refine oQ (Q_assign rfl rfl) rfl rfl ?_
                              refine OW_nil ?_
                              all_goals with_reducible refine tN ?_
                              all_goals (
                                  refine CW_seq ?_
                                  refine CW_seq ?_
                                  refine CW_region ?_
                                  refine oQ (Q_move rfl rfl) rfl rfl ?_
                                  refine oQ (Q_bin rfl rfl rfl) rfl rfl ?_
                                  refine OW_nil ?_
                                  all_goals with_reducible refine tN ?_
                                  all_goals (
                                      first | refine CW_cond_t rfl (by with_reducible rfl) ?_ | refine CW_cond_f rfl (by with_reducible rfl) ?_ | refine CW_cond rfl (fun hc => ?_) (fun hc => ?_)
                                      all_goals try simp only [decide_eq_true_eq, decide_eq_false_iff_not, beq_iff_eq, beq_eq_false_iff_ne, bne_iff_ne, bne_eq_false_iff_eq, Bool.not_eq_true', Bool.not_eq_false', Int.not_lt, Int.not_le, ne_eq, not_false_eq_true] at hc
                                      all_goals try (exfalso; first | exact absurd trivial hc | (simp at hc; done); done)
                                      all_goals first
                                        | (
                                          refine CW_skip ?_)
                                        | (
                                          refine CW_seq ?_
                                          refine CW_region ?_
                                          refine oQ (Q_assign rfl rfl) rfl rfl ?_
                                          refine OW_nil ?_
                                          all_goals with_reducible refine tN ?_
                                          all_goals (
                                              refine CW_ret ?_)))
                                  all_goals first
                                    | with_reducible refine tR ?_
                                    | with_reducible refine tE ?_
                                    | (
                                      with_reducible refine tN ?_
                                      refine CW_seq ?_
                                      refine CW_seq ?_
                                      refine CW_region ?_
                                      refine oQ (Q_move rfl rfl) rfl rfl ?_
                                      refine oQ (Q_move rfl rfl) rfl rfl ?_
                                      refine oQ (Q_bin rfl rfl rfl) rfl rfl ?_
                                      refine OW_nil ?_
                                      all_goals with_reducible refine tN ?_
                                      all_goals (
                                          first | refine CW_cond_t rfl (by with_reducible rfl) ?_ | refine CW_cond_f rfl (by with_reducible rfl) ?_ | refine CW_cond rfl (fun hc => ?_) (fun hc => ?_)
                                          all_goals try simp only [decide_eq_true_eq, decide_eq_false_iff_not, beq_iff_eq, beq_eq_false_iff_ne, bne_iff_ne, bne_eq_false_iff_eq, Bool.not_eq_true', Bool.not_eq_false', Int.not_lt, Int.not_le, ne_eq, not_false_eq_true] at hc
                                          all_goals try (exfalso; first | exact absurd trivial hc | (simp at hc; done); done)
                                          all_goals first
                                            | (
                                              refine CW_skip ?_)
                                            | (
                                              refine CW_seq ?_
                                              refine CW_region ?_
                                              refine oQ (Q_assign rfl rfl) rfl rfl ?_
                                              refine OW_nil ?_
                                              all_goals with_reducible refine tN ?_
                                              all_goals (
                                                  refine CW_ret ?_)))
                                      all_goals first
                                        | with_reducible refine tR ?_
                                        | with_reducible refine tE ?_
                                        | (
                                          with_reducible refine tN ?_
                                          refine CW_seq ?_
                                          refine CW_region ?_
                                          refine oQ (Q_move rfl rfl) rfl rfl ?_
                                          first | refine oQ (Q_ldw rfl rfl rfl rfl (by first | omega | (dsimp only; omega) | (simp; omega) | (simp; done))) rfl rfl ?_ | refine oQ (Q_lda rfl rfl rfl rfl rfl (by first | omega | (dsimp only; omega) | (simp; omega) | (simp; done))) rfl rfl ?_
                                          refine oQ (Q_call0 (toMoebius_con _ rfl) rfl rfl rfl) rfl rfl ?_
                                          refine oQ (Q_call0 (impl_FixedPlaces_bad _ _ _ _ _ h) rfl rfl rfl) rfl rfl ?_
                                          refine oQ (Q_move rfl rfl) rfl rfl ?_
                                          refine oQ (Q_extract rfl rfl) rfl rfl ?_
                                          refine oQ (Q_extract rfl rfl) rfl rfl ?_
                                          refine oQ (Q_assign rfl rfl) rfl rfl ?_
                                          refine oQ (Q_assign rfl rfl) rfl rfl ?_
                                          refine OW_nil ?_
                                          all_goals with_reducible refine tN ?_
                                          all_goals (
                                              refine CW_seq ?_
                                              refine CW_seq ?_
                                              refine CW_region ?_
                                              refine oQ (Q_move rfl rfl) rfl rfl ?_
                                              refine oQ (Q_move rfl rfl) rfl rfl ?_
                                              refine oQ (Q_call0 eqInt64S_nn rfl rfl rfl) rfl rfl ?_
                                              refine oQ (Q_not rfl) rfl rfl ?_
                                              refine oQ (Q_move rfl rfl) rfl rfl ?_
                                              all_goals first | refine ogT rfl rfl (by with_reducible rfl) ?_ | refine og1 rfl rfl (by with_reducible rfl) rfl ?_ | refine og0 rfl rfl (by with_reducible rfl) rfl ?_ | refine ogP1 rfl rfl rfl (fun hg => ?_) (fun hg => ?_) | refine ogP0 rfl rfl rfl (fun hg => ?_) (fun hg => ?_)
                                              all_goals try simp only [decide_eq_true_eq, decide_eq_false_iff_not, beq_iff_eq, beq_eq_false_iff_ne, bne_iff_ne, bne_eq_false_iff_eq, Bool.not_eq_true', Bool.not_eq_false', Int.not_lt, Int.not_le, ne_eq, not_false_eq_true] at hg
                                              all_goals first | (refine oQ (Q_move rfl rfl) rfl rfl ?_) | skip
                                              all_goals first | refine ogT rfl rfl (by with_reducible rfl) ?_ | refine og1 rfl rfl (by with_reducible rfl) rfl ?_ | refine og0 rfl rfl (by with_reducible rfl) rfl ?_ | refine ogP1 rfl rfl rfl (fun hg => ?_) (fun hg => ?_) | refine ogP0 rfl rfl rfl (fun hg => ?_) (fun hg => ?_)
                                              all_goals try simp only [decide_eq_true_eq, decide_eq_false_iff_not, beq_iff_eq, beq_eq_false_iff_ne, bne_iff_ne, bne_eq_false_iff_eq, Bool.not_eq_true', Bool.not_eq_false', Int.not_lt, Int.not_le, ne_eq, not_false_eq_true] at hg
                                              all_goals first | (refine oQ (Q_move rfl rfl) rfl rfl ?_) | skip
                                              all_goals first | refine ogT rfl rfl (by with_reducible rfl) ?_ | refine og1 rfl rfl (by with_reducible rfl) rfl ?_ | refine og0 rfl rfl (by with_reducible rfl) rfl ?_ | refine ogP1 rfl rfl rfl (fun hg => ?_) (fun hg => ?_) | refine ogP0 rfl rfl rfl (fun hg => ?_) (fun hg => ?_)
                                              all_goals try simp only [decide_eq_true_eq, decide_eq_false_iff_not, beq_iff_eq, beq_eq_false_iff_ne, bne_iff_ne, bne_eq_false_iff_eq, Bool.not_eq_true', Bool.not_eq_false', Int.not_lt, Int.not_le, ne_eq, not_false_eq_true] at hg
                                              all_goals first | (refine oQ (Q_bin rfl rfl rfl) rfl rfl ?_) | skip
                                              all_goals first | refine oQ (Q_pick_t rfl (by with_reducible rfl) rfl rfl) rfl rfl ?_ | refine oQ (Q_pick_f rfl (by with_reducible rfl) rfl rfl) rfl rfl ?_
                                              all_goals refine OW_nil ?_
                                              all_goals with_reducible refine tN ?_
                                              all_goals (
                                                  first | refine CW_cond_t rfl (by with_reducible rfl) ?_ | refine CW_cond_f rfl (by with_reducible rfl) ?_ | refine CW_cond rfl (fun hc => ?_) (fun hc => ?_)
                                                  all_goals try simp only [decide_eq_true_eq, decide_eq_false_iff_not, beq_iff_eq, beq_eq_false_iff_ne, bne_iff_ne, bne_eq_false_iff_eq, Bool.not_eq_true', Bool.not_eq_false', Int.not_lt, Int.not_le, ne_eq, not_false_eq_true] at hc
                                                  all_goals try (exfalso; first | exact absurd trivial hc | (simp at hc; done); done)
                                                  all_goals first
                                                    | (
                                                      refine CW_skip ?_)
                                                    | (
                                                      refine CW_seq ?_
                                                      refine CW_region ?_
                                                      refine oQ (Q_assign rfl rfl) rfl rfl ?_
                                                      refine OW_nil ?_
                                                      all_goals with_reducible refine tN ?_
                                                      all_goals (
                                                          refine CW_ret ?_)))
                                              all_goals first
                                                | with_reducible refine tR ?_
                                                | with_reducible refine tE ?_
                                                | (
                                                  with_reducible refine tN ?_
                                                  refine CW_seq ?_
                                                  refine CW_region ?_
                                                  refine oQ (Q_assign rfl rfl) rfl rfl ?_
                                                  refine OW_nil ?_
                                                  all_goals with_reducible refine tN ?_
                                                  all_goals (
                                                      refine CW_seq ?_
                                                      refine CW_region ?_
                                                      refine oQ (Q_move rfl rfl) rfl rfl ?_
                                                      refine oQ (Q_move rfl rfl) rfl rfl ?_
                                                      refine oQ (Q_call0 (heldInt64S_nil 101) rfl rfl rfl) rfl rfl ?_
                                                      refine oQ (Q_assign rfl rfl) rfl rfl ?_
                                                      refine OW_nil ?_
                                                      all_goals with_reducible refine tN ?_
                                                      all_goals (
                                                          refine CW_seq ?_
                                                          refine CW_seq ?_
                                                          refine CW_region ?_
                                                          refine oQ (Q_move rfl rfl) rfl rfl ?_
                                                          refine oQ (Q_bin rfl rfl rfl) rfl rfl ?_
                                                          refine OW_nil ?_
                                                          all_goals with_reducible refine tN ?_
                                                          all_goals (
                                                              first | refine CW_cond_t rfl (by with_reducible rfl) ?_ | refine CW_cond_f rfl (by with_reducible rfl) ?_ | refine CW_cond rfl (fun hc => ?_) (fun hc => ?_)
                                                              all_goals try simp only [decide_eq_true_eq, decide_eq_false_iff_not, beq_iff_eq, beq_eq_false_iff_ne, bne_iff_ne, bne_eq_false_iff_eq, Bool.not_eq_true', Bool.not_eq_false', Int.not_lt, Int.not_le, ne_eq, not_false_eq_true] at hc
                                                              all_goals try (exfalso; first | exact absurd trivial hc | (simp at hc; done); done)
                                                              all_goals first
                                                                | (
                                                                  refine CW_skip ?_)
                                                                | (
                                                                  refine CW_seq ?_
                                                                  refine CW_region ?_
                                                                  refine oQ (Q_assign rfl rfl) rfl rfl ?_
                                                                  refine OW_nil ?_
                                                                  all_goals with_reducible refine tN ?_
                                                                  all_goals (
                                                                      refine CW_ret ?_)))
                                                          all_goals first
                                                            | with_reducible refine tR ?_
                                                            | with_reducible refine tE ?_
                                                            | (
                                                              with_reducible refine tN ?_
                                                              refine CW_seq ?_
                                                              refine CW_seq ?_
                                                              refine CW_region ?_
                                                              refine oQ (Q_move rfl rfl) rfl rfl ?_
                                                              refine oQ (Q_move rfl rfl) rfl rfl ?_
                                                              refine oQ (Q_bin rfl rfl rfl) rfl rfl ?_
                                                              refine OW_nil ?_
                                                              all_goals with_reducible refine tN ?_
                                                              all_goals (
                                                                  first | refine CW_cond_t rfl (by with_reducible rfl) ?_ | refine CW_cond_f rfl (by with_reducible rfl) ?_ | refine CW_cond rfl (fun hc => ?_) (fun hc => ?_)
                                                                  all_goals try simp only [decide_eq_true_eq, decide_eq_false_iff_not, beq_iff_eq, beq_eq_false_iff_ne, bne_iff_ne, bne_eq_false_iff_eq, Bool.not_eq_true', Bool.not_eq_false', Int.not_lt, Int.not_le, ne_eq, not_false_eq_true] at hc
                                                                  all_goals try (exfalso; first | exact absurd trivial hc | (simp at hc; done); done)
                                                                  all_goals first
                                                                    | (
                                                                      refine CW_skip ?_)
                                                                    | (
                                                                      refine CW_seq ?_
                                                                      refine CW_region ?_
                                                                      refine oQ (Q_assign rfl rfl) rfl rfl ?_
                                                                      refine OW_nil ?_
                                                                      all_goals with_reducible refine tN ?_
                                                                      all_goals (
                                                                          refine CW_ret ?_)))
                                                              all_goals first
                                                                | with_reducible refine tR ?_
                                                                | with_reducible refine tE ?_
                                                                | (
                                                                  with_reducible refine tN ?_
                                                                  refine CW_seq ?_
                                                                  refine CW_region ?_
                                                                  refine oQ (Q_assign rfl rfl) rfl rfl ?_
                                                                  refine OW_nil ?_
                                                                  all_goals with_reducible refine tN ?_
                                                                  all_goals (
                                                                      refine CW_ret ?_)))))))))))))))))
  all_goals (
      first
        | exact exitQ (.inr rfl) 0 (.cons (.tmp rfl rfl) .nil) rfl rfl vHn rfl rfl
        | (exfalso; exact absurd trivial hc)
        | (exfalso; simp_all; done))
theorem law_FixedPlaces_ok (p a b c d : Int) (h : codeP p (badM p [a, b, c, d] 1) [] = 0) : ConQ Try.prog [] 6 [.int p, .arr [a, b, c, d]] [] (.bool true) := by
  have hpb := prime_bd (codeP_zero h).1
  have hle := filtL_le (fixG p a b c d) (p.toNat + 1)
  have hdrop : ∀ sp : List Int, (filtL (fixG p a b c d) (p.toNat + 1) ++ sp).drop (filtL (fixG p a b c d) (p.toNat + 1)).length = sp := fun sp => List.drop_left
  have htake : ∀ sp : List Int, (filtL (fixG p a b c d) (p.toNat + 1) ++ sp).take (filtL (fixG p a b c d) (p.toNat + 1)).length = filtL (fixG p a b c d) (p.toNat + 1) := fun sp => List.take_left
  generalize hA : filtL (fixG p a b c d) (p.toNat + 1) = A at *
  have heq : ∀ (t t' : TypeId) (sp sp' : List Int) (k k' : Nat), ConQ Try.prog [] 28 [.slice 0 0 A.length k, .slice 1 0 A.length k'] [(0, .ints t (A ++ sp)), (1, .ints t' (A ++ sp'))] (.bool true) := fun t t' sp sp' k k' => by
    have := eqInt64S_con t t' (A ++ sp) (A ++ sp') A.length k A.length k' (by simp) (by simp) (by omega)
    rwa [htake, htake, show decide (A = A) = true by simp] at this
  refine conW tab_ok [(0, .int p), (1, .arr [a, b, c, d])] 0 [] [] Try.func6 rfl rfl rfl rfl rfl rfl rfl rfl rfl ?_
  refine CW_seq ?_
  refine CW_region ?_
  refine oBox rfl rfl rfl rfl rfl rfl ?_
  refine oQ (Q_assign rfl rfl) rfl rfl ?_
  refine OW_nil ?_
  all_goals with_reducible refine tN ?_
  all_goals (
      refine CW_seq ?_
      refine CW_region ?_
      refine oQ (Q_move rfl rfl) rfl rfl ?_
      first | refine oQ (Q_ldw rfl rfl rfl rfl (by first | omega | (dsimp only; omega) | (simp; omega) | (simp; done))) rfl rfl ?_ | refine oQ (Q_lda rfl rfl rfl rfl rfl (by first | omega | (dsimp only; omega) | (simp; omega) | (simp; done))) rfl rfl ?_
      refine oQ (Q_call0 (toMoebius_con _ rfl) rfl rfl rfl) rfl rfl ?_
      refine oCall (spec_FixedPlaces_ok _ _ _ _ _ h) [] 1 rfl rfl (Fits.mk' vHn rfl rfl (by simp)) rfl rfl ?_
      rintro r H1 ⟨m1, k1, sp1, hm1, hk1, hk1', rfl, rfl⟩
      (rw [hA] at hm1 ⊢; subst hm1)
      refine ⟨.tuple [.slice 1 0 A.length k1, .int 0], [(1, .ints 2 (A ++ sp1))], rfl, rfl, rfl, ?_⟩
      refine oQ (Q_move rfl rfl) rfl rfl ?_
      refine oQ (Q_extract rfl rfl) rfl rfl ?_
      refine oQ (Q_extract rfl rfl) rfl rfl ?_
      refine oQ (Q_assign rfl rfl) rfl rfl ?_
      refine oQ (Q_assign rfl rfl) rfl rfl ?_
      refine OW_nil ?_
      all_goals with_reducible refine tN ?_
      all_goals (
          refine CW_seq ?_
          refine CW_region ?_
          refine oQ (Q_move rfl rfl) rfl rfl ?_
          first | refine oQ (Q_ldw rfl rfl rfl rfl (by first | omega | (dsimp only; omega) | (simp; omega) | (simp; done))) rfl rfl ?_ | refine oQ (Q_lda rfl rfl rfl rfl rfl (by first | omega | (dsimp only; omega) | (simp; omega) | (simp; done))) rfl rfl ?_
          refine oQ (Q_call0 (toMoebius_con _ rfl) rfl rfl rfl) rfl rfl ?_
          refine oCall (impl_FixedPlaces_ok _ _ _ _ _ h) [] 1 rfl rfl (Fits.mk' vHn rfl rfl (by simp)) rfl rfl ?_
          rintro r H1 ⟨m2, k2, sp2, hm2, hk2, hk2', rfl, rfl⟩
          (rw [hA] at hm2 ⊢; subst hm2)
          refine ⟨.tuple [.slice 2 0 A.length k2, .int 0], [(2, .ints 2 (A ++ sp2))], rfl, rfl, rfl, ?_⟩
          refine oQ (Q_move rfl rfl) rfl rfl ?_
          refine oQ (Q_extract rfl rfl) rfl rfl ?_
          refine oQ (Q_extract rfl rfl) rfl rfl ?_
          refine oQ (Q_assign rfl rfl) rfl rfl ?_
          refine oQ (Q_assign rfl rfl) rfl rfl ?_
          refine OW_nil ?_
          all_goals with_reducible refine tN ?_
          all_goals (
              refine CW_seq ?_
              refine CW_seq ?_
              refine CW_region ?_
              refine oQ (Q_move rfl rfl) rfl rfl ?_
              refine oQ (Q_move rfl rfl) rfl rfl ?_
              refine oQ (Q_call (heq _ _ sp2 sp1 k2 k1) [(0, 2), (1, 1)] rfl rfl (Fits.mk' (vHc rfl (vHc rfl vHn)) rfl rfl (by simp)) rfl rfl) rfl rfl ?_
              refine oQ (Q_not rfl) rfl rfl ?_
              refine oQ (Q_move rfl rfl) rfl rfl ?_
              all_goals first | refine ogT rfl rfl (by with_reducible rfl) ?_ | refine og1 rfl rfl (by with_reducible rfl) rfl ?_ | refine og0 rfl rfl (by with_reducible rfl) rfl ?_ | refine ogP1 rfl rfl rfl (fun hg => ?_) (fun hg => ?_) | refine ogP0 rfl rfl rfl (fun hg => ?_) (fun hg => ?_)
              all_goals try simp only [decide_eq_true_eq, decide_eq_false_iff_not, beq_iff_eq, beq_eq_false_iff_ne, bne_iff_ne, bne_eq_false_iff_eq, Bool.not_eq_true', Bool.not_eq_false', Int.not_lt, Int.not_le, ne_eq, not_false_eq_true] at hg
              all_goals first | (refine oQ (Q_move rfl rfl) rfl rfl ?_) | skip
              all_goals first | refine ogT rfl rfl (by with_reducible rfl) ?_ | refine og1 rfl rfl (by with_reducible rfl) rfl ?_ | refine og0 rfl rfl (by with_reducible rfl) rfl ?_ | refine ogP1 rfl rfl rfl (fun hg => ?_) (fun hg => ?_) | refine ogP0 rfl rfl rfl (fun hg => ?_) (fun hg => ?_)
              all_goals try simp only [decide_eq_true_eq, decide_eq_false_iff_not, beq_iff_eq, beq_eq_false_iff_ne, bne_iff_ne, bne_eq_false_iff_eq, Bool.not_eq_true', Bool.not_eq_false', Int.not_lt, Int.not_le, ne_eq, not_false_eq_true] at hg
              all_goals first | (refine oQ (Q_move rfl rfl) rfl rfl ?_) | skip
              all_goals first | refine ogT rfl rfl (by with_reducible rfl) ?_ | refine og1 rfl rfl (by with_reducible rfl) rfl ?_ | refine og0 rfl rfl (by with_reducible rfl) rfl ?_ | refine ogP1 rfl rfl rfl (fun hg => ?_) (fun hg => ?_) | refine ogP0 rfl rfl rfl (fun hg => ?_) (fun hg => ?_)
              all_goals try simp only [decide_eq_true_eq, decide_eq_false_iff_not, beq_iff_eq, beq_eq_false_iff_ne, bne_iff_ne, bne_eq_false_iff_eq, Bool.not_eq_true', Bool.not_eq_false', Int.not_lt, Int.not_le, ne_eq, not_false_eq_true] at hg
              all_goals first | (refine oQ (Q_bin rfl rfl rfl) rfl rfl ?_) | skip
              all_goals first | refine oQ (Q_pick_t rfl (by with_reducible rfl) rfl rfl) rfl rfl ?_ | refine oQ (Q_pick_f rfl (by with_reducible rfl) rfl rfl) rfl rfl ?_
              all_goals refine OW_nil ?_
              all_goals with_reducible refine tN ?_
              all_goals (
                  first | refine CW_cond_t rfl (by with_reducible rfl) ?_ | refine CW_cond_f rfl (by with_reducible rfl) ?_ | refine CW_cond rfl (fun hc => ?_) (fun hc => ?_)
                  all_goals try simp only [decide_eq_true_eq, decide_eq_false_iff_not, beq_iff_eq, beq_eq_false_iff_ne, bne_iff_ne, bne_eq_false_iff_eq, Bool.not_eq_true', Bool.not_eq_false', Int.not_lt, Int.not_le, ne_eq, not_false_eq_true] at hc
                  all_goals try (exfalso; first | exact absurd trivial hc | (simp at hc; done); done)
                  all_goals first
                    | (
                      refine CW_skip ?_)
                    | (
                      refine CW_seq ?_
                      refine CW_region ?_
                      refine oQ (Q_assign rfl rfl) rfl rfl ?_
                      refine OW_nil ?_
                      all_goals with_reducible refine tN ?_
                      all_goals (
                          refine CW_ret ?_)))
              all_goals first
                | with_reducible refine tR ?_
                | with_reducible refine tE ?_
                | (
                  with_reducible refine tN ?_
                  refine CW_seq ?_
                  refine CW_region ?_
                  refine oQ (Q_assign rfl rfl) rfl rfl ?_
                  refine OW_nil ?_
                  all_goals with_reducible refine tN ?_
                  all_goals (
                      refine CW_seq ?_
                      refine CW_region ?_
                      refine oQ (Q_move rfl rfl) rfl rfl ?_
                      refine oQ (Q_move rfl rfl) rfl rfl ?_
                      refine oCall (markInt64S_con 101 2 (A ++ sp2) A.length k2 (by simp) (by omega) (by omega)) [(0, 2)] 0 rfl rfl (Fits.mk' (vHc rfl vHn) rfl rfl (by simp)) rfl rfl ?_
                      rintro r H1 ⟨rfl, rfl⟩
                      refine ⟨.int ((101 + A.length : Nat) : Int), [(2, .ints 2 (seqL 101 A.length ++ (A ++ sp2).drop A.length))], rfl, rfl, rfl, ?_⟩
                      refine oQ (Q_assign rfl rfl) rfl rfl ?_
                      refine OW_nil ?_
                      all_goals with_reducible refine tN ?_
                      all_goals (
                          refine CW_seq ?_
                          refine CW_region ?_
                          refine oQ (Q_assign rfl rfl) rfl rfl ?_
                          refine OW_nil ?_
                          all_goals with_reducible refine tN ?_
                          all_goals (
                              refine CW_seq ?_
                              refine CW_region ?_
                              refine oQ (Q_move rfl rfl) rfl rfl ?_
                              refine oQ (Q_move rfl rfl) rfl rfl ?_
                              refine oQ (Q_call (heldInt64S_con 101 2 ((A ++ sp2).drop A.length) A.length k2 (by omega) (by omega)) [(0, 2)] rfl rfl (Fits.mk' (vHc rfl vHn) rfl rfl (by simp)) rfl rfl) rfl rfl ?_
                              refine oQ (Q_assign rfl rfl) rfl rfl ?_
                              refine OW_nil ?_
                              all_goals with_reducible refine tN ?_
                              all_goals (
                                  refine CW_seq ?_
                                  refine CW_seq ?_
                                  refine CW_region ?_
                                  refine oQ (Q_move rfl rfl) rfl rfl ?_
                                  refine oQ (Q_bin rfl rfl rfl) rfl rfl ?_
                                  refine OW_nil ?_
                                  all_goals with_reducible refine tN ?_
                                  all_goals (
                                      first | refine CW_cond_t rfl (by with_reducible rfl) ?_ | refine CW_cond_f rfl (by with_reducible rfl) ?_ | refine CW_cond rfl (fun hc => ?_) (fun hc => ?_)
                                      all_goals try simp only [decide_eq_true_eq, decide_eq_false_iff_not, beq_iff_eq, beq_eq_false_iff_ne, bne_iff_ne, bne_eq_false_iff_eq, Bool.not_eq_true', Bool.not_eq_false', Int.not_lt, Int.not_le, ne_eq, not_false_eq_true] at hc
                                      all_goals try (exfalso; first | exact absurd trivial hc | (simp at hc; done); done)
                                      all_goals first
                                        | (
                                          refine CW_skip ?_)
                                        | (
                                          refine CW_seq ?_
                                          refine CW_region ?_
                                          refine oQ (Q_assign rfl rfl) rfl rfl ?_
                                          refine OW_nil ?_
                                          all_goals with_reducible refine tN ?_
                                          all_goals (
                                              refine CW_ret ?_)))
                                  all_goals first
                                    | with_reducible refine tR ?_
                                    | with_reducible refine tE ?_
                                    | (
                                      with_reducible refine tN ?_
                                      refine CW_seq ?_
                                      refine CW_seq ?_
                                      refine CW_region ?_
                                      refine oQ (Q_move rfl rfl) rfl rfl ?_
                                      refine oQ (Q_move rfl rfl) rfl rfl ?_
                                      refine oQ (Q_bin rfl rfl rfl) rfl rfl ?_
                                      refine OW_nil ?_
                                      all_goals with_reducible refine tN ?_
                                      all_goals (
                                          first | refine CW_cond_t rfl (by with_reducible rfl) ?_ | refine CW_cond_f rfl (by with_reducible rfl) ?_ | refine CW_cond rfl (fun hc => ?_) (fun hc => ?_)
                                          all_goals try simp only [decide_eq_true_eq, decide_eq_false_iff_not, beq_iff_eq, beq_eq_false_iff_ne, bne_iff_ne, bne_eq_false_iff_eq, Bool.not_eq_true', Bool.not_eq_false', Int.not_lt, Int.not_le, ne_eq, not_false_eq_true] at hc
                                          all_goals try (exfalso; first | exact absurd trivial hc | (simp at hc; done); done)
                                          all_goals first
                                            | (
                                              refine CW_skip ?_)
                                            | (
                                              refine CW_seq ?_
                                              refine CW_region ?_
                                              refine oQ (Q_assign rfl rfl) rfl rfl ?_
                                              refine OW_nil ?_
                                              all_goals with_reducible refine tN ?_
                                              all_goals (
                                                  refine CW_ret ?_)))
                                      all_goals first
                                        | with_reducible refine tR ?_
                                        | with_reducible refine tE ?_
                                        | (
                                          with_reducible refine tN ?_
                                          refine CW_seq ?_
                                          refine CW_region ?_
                                          refine oQ (Q_move rfl rfl) rfl rfl ?_
                                          first | refine oQ (Q_ldw rfl rfl rfl rfl (by first | omega | (dsimp only; omega) | (simp; omega) | (simp; done))) rfl rfl ?_ | refine oQ (Q_lda rfl rfl rfl rfl rfl (by first | omega | (dsimp only; omega) | (simp; omega) | (simp; done))) rfl rfl ?_
                                          refine oQ (Q_call0 (toMoebius_con _ rfl) rfl rfl rfl) rfl rfl ?_
                                          refine oCall (impl_FixedPlaces_ok _ _ _ _ _ h) [] 1 rfl rfl (Fits.mk' vHn rfl rfl (by simp)) rfl rfl ?_
                                          rintro r H1 ⟨m3, k3, sp3, hm3, hk3, hk3', rfl, rfl⟩
                                          (rw [hA] at hm3 ⊢; subst hm3)
                                          refine ⟨.tuple [.slice 3 0 A.length k3, .int 0], [(3, .ints 2 (A ++ sp3))], rfl, rfl, rfl, ?_⟩
                                          refine oQ (Q_move rfl rfl) rfl rfl ?_
                                          refine oQ (Q_extract rfl rfl) rfl rfl ?_
                                          refine oQ (Q_extract rfl rfl) rfl rfl ?_
                                          refine oQ (Q_assign rfl rfl) rfl rfl ?_
                                          refine oQ (Q_assign rfl rfl) rfl rfl ?_
                                          refine OW_nil ?_
                                          all_goals with_reducible refine tN ?_
                                          all_goals (
                                              refine CW_seq ?_
                                              refine CW_seq ?_
                                              refine CW_region ?_
                                              refine oQ (Q_move rfl rfl) rfl rfl ?_
                                              refine oQ (Q_move rfl rfl) rfl rfl ?_
                                              refine oQ (Q_call (heq _ _ sp3 sp1 k3 k1) [(0, 3), (1, 1)] rfl rfl (Fits.mk' (vHc rfl (vHc rfl vHn)) rfl rfl (by simp)) rfl rfl) rfl rfl ?_
                                              refine oQ (Q_not rfl) rfl rfl ?_
                                              refine oQ (Q_move rfl rfl) rfl rfl ?_
                                              all_goals first | refine ogT rfl rfl (by with_reducible rfl) ?_ | refine og1 rfl rfl (by with_reducible rfl) rfl ?_ | refine og0 rfl rfl (by with_reducible rfl) rfl ?_ | refine ogP1 rfl rfl rfl (fun hg => ?_) (fun hg => ?_) | refine ogP0 rfl rfl rfl (fun hg => ?_) (fun hg => ?_)
                                              all_goals try simp only [decide_eq_true_eq, decide_eq_false_iff_not, beq_iff_eq, beq_eq_false_iff_ne, bne_iff_ne, bne_eq_false_iff_eq, Bool.not_eq_true', Bool.not_eq_false', Int.not_lt, Int.not_le, ne_eq, not_false_eq_true] at hg
                                              all_goals first | (refine oQ (Q_move rfl rfl) rfl rfl ?_) | skip
                                              all_goals first | refine ogT rfl rfl (by with_reducible rfl) ?_ | refine og1 rfl rfl (by with_reducible rfl) rfl ?_ | refine og0 rfl rfl (by with_reducible rfl) rfl ?_ | refine ogP1 rfl rfl rfl (fun hg => ?_) (fun hg => ?_) | refine ogP0 rfl rfl rfl (fun hg => ?_) (fun hg => ?_)
                                              all_goals try simp only [decide_eq_true_eq, decide_eq_false_iff_not, beq_iff_eq, beq_eq_false_iff_ne, bne_iff_ne, bne_eq_false_iff_eq, Bool.not_eq_true', Bool.not_eq_false', Int.not_lt, Int.not_le, ne_eq, not_false_eq_true] at hg
                                              all_goals first | (refine oQ (Q_move rfl rfl) rfl rfl ?_) | skip
                                              all_goals first | refine ogT rfl rfl (by with_reducible rfl) ?_ | refine og1 rfl rfl (by with_reducible rfl) rfl ?_ | refine og0 rfl rfl (by with_reducible rfl) rfl ?_ | refine ogP1 rfl rfl rfl (fun hg => ?_) (fun hg => ?_) | refine ogP0 rfl rfl rfl (fun hg => ?_) (fun hg => ?_)
                                              all_goals try simp only [decide_eq_true_eq, decide_eq_false_iff_not, beq_iff_eq, beq_eq_false_iff_ne, bne_iff_ne, bne_eq_false_iff_eq, Bool.not_eq_true', Bool.not_eq_false', Int.not_lt, Int.not_le, ne_eq, not_false_eq_true] at hg
                                              all_goals first | (refine oQ (Q_bin rfl rfl rfl) rfl rfl ?_) | skip
                                              all_goals first | refine oQ (Q_pick_t rfl (by with_reducible rfl) rfl rfl) rfl rfl ?_ | refine oQ (Q_pick_f rfl (by with_reducible rfl) rfl rfl) rfl rfl ?_
                                              all_goals refine OW_nil ?_
                                              all_goals with_reducible refine tN ?_
                                              all_goals (
                                                  first | refine CW_cond_t rfl (by with_reducible rfl) ?_ | refine CW_cond_f rfl (by with_reducible rfl) ?_ | refine CW_cond rfl (fun hc => ?_) (fun hc => ?_)
                                                  all_goals try simp only [decide_eq_true_eq, decide_eq_false_iff_not, beq_iff_eq, beq_eq_false_iff_ne, bne_iff_ne, bne_eq_false_iff_eq, Bool.not_eq_true', Bool.not_eq_false', Int.not_lt, Int.not_le, ne_eq, not_false_eq_true] at hc
                                                  all_goals try (exfalso; first | exact absurd trivial hc | (simp at hc; done); done)
                                                  all_goals first
                                                    | (
                                                      refine CW_skip ?_)
                                                    | (
                                                      refine CW_seq ?_
                                                      refine CW_region ?_
                                                      refine oQ (Q_assign rfl rfl) rfl rfl ?_
                                                      refine OW_nil ?_
                                                      all_goals with_reducible refine tN ?_
                                                      all_goals (
                                                          refine CW_ret ?_)))
                                              all_goals first
                                                | with_reducible refine tR ?_
                                                | with_reducible refine tE ?_
                                                | (
                                                  with_reducible refine tN ?_
                                                  refine CW_seq ?_
                                                  refine CW_region ?_
                                                  refine oQ (Q_assign rfl rfl) rfl rfl ?_
                                                  refine OW_nil ?_
                                                  all_goals with_reducible refine tN ?_
                                                  all_goals (
                                                      refine CW_seq ?_
                                                      refine CW_region ?_
                                                      refine oQ (Q_move rfl rfl) rfl rfl ?_
                                                      refine oQ (Q_move rfl rfl) rfl rfl ?_
                                                      refine oQ (Q_call (heldInt64S_con 101 2 ((A ++ sp2).drop A.length) A.length k2 (by omega) (by omega)) [(0, 2)] rfl rfl (Fits.mk' (vHc rfl vHn) rfl rfl (by simp)) rfl rfl) rfl rfl ?_
                                                      refine oQ (Q_assign rfl rfl) rfl rfl ?_
                                                      refine OW_nil ?_
                                                      all_goals with_reducible refine tN ?_
                                                      all_goals (
                                                          refine CW_seq ?_
                                                          refine CW_seq ?_
                                                          refine CW_region ?_
                                                          refine oQ (Q_move rfl rfl) rfl rfl ?_
                                                          refine oQ (Q_bin rfl rfl rfl) rfl rfl ?_
                                                          refine OW_nil ?_
                                                          all_goals with_reducible refine tN ?_
                                                          all_goals (
                                                              first | refine CW_cond_t rfl (by with_reducible rfl) ?_ | refine CW_cond_f rfl (by with_reducible rfl) ?_ | refine CW_cond rfl (fun hc => ?_) (fun hc => ?_)
                                                              all_goals try simp only [decide_eq_true_eq, decide_eq_false_iff_not, beq_iff_eq, beq_eq_false_iff_ne, bne_iff_ne, bne_eq_false_iff_eq, Bool.not_eq_true', Bool.not_eq_false', Int.not_lt, Int.not_le, ne_eq, not_false_eq_true] at hc
                                                              all_goals try (exfalso; first | exact absurd trivial hc | (simp at hc; done); done)
                                                              all_goals first
                                                                | (
                                                                  refine CW_skip ?_)
                                                                | (
                                                                  refine CW_seq ?_
                                                                  refine CW_region ?_
                                                                  refine oQ (Q_assign rfl rfl) rfl rfl ?_
                                                                  refine OW_nil ?_
                                                                  all_goals with_reducible refine tN ?_
                                                                  all_goals (
                                                                      refine CW_ret ?_)))
                                                          all_goals first
                                                            | with_reducible refine tR ?_
                                                            | with_reducible refine tE ?_
                                                            | (
                                                              with_reducible refine tN ?_
                                                              refine CW_seq ?_
                                                              refine CW_seq ?_
                                                              refine CW_region ?_
                                                              refine oQ (Q_move rfl rfl) rfl rfl ?_
                                                              refine oQ (Q_move rfl rfl) rfl rfl ?_
                                                              refine oQ (Q_bin rfl rfl rfl) rfl rfl ?_
                                                              refine OW_nil ?_
                                                              all_goals with_reducible refine tN ?_
                                                              all_goals (
                                                                  first | refine CW_cond_t rfl (by with_reducible rfl) ?_ | refine CW_cond_f rfl (by with_reducible rfl) ?_ | refine CW_cond rfl (fun hc => ?_) (fun hc => ?_)
                                                                  all_goals try simp only [decide_eq_true_eq, decide_eq_false_iff_not, beq_iff_eq, beq_eq_false_iff_ne, bne_iff_ne, bne_eq_false_iff_eq, Bool.not_eq_true', Bool.not_eq_false', Int.not_lt, Int.not_le, ne_eq, not_false_eq_true] at hc
                                                                  all_goals try (exfalso; first | exact absurd trivial hc | (simp at hc; done); done)
                                                                  all_goals first
                                                                    | (
                                                                      refine CW_skip ?_)
                                                                    | (
                                                                      refine CW_seq ?_
                                                                      refine CW_region ?_
                                                                      refine oQ (Q_assign rfl rfl) rfl rfl ?_
                                                                      refine OW_nil ?_
                                                                      all_goals with_reducible refine tN ?_
                                                                      all_goals (
                                                                          refine CW_ret ?_)))
                                                              all_goals first
                                                                | with_reducible refine tR ?_
                                                                | with_reducible refine tE ?_
                                                                | (
                                                                  with_reducible refine tN ?_
                                                                  refine CW_seq ?_
                                                                  refine CW_region ?_
                                                                  refine oQ (Q_assign rfl rfl) rfl rfl ?_
                                                                  refine OW_nil ?_
                                                                  all_goals with_reducible refine tN ?_
                                                                  all_goals (
                                                                      refine CW_ret ?_)))))))))))))))))
  all_goals (
      first
        | exact exitQ (.inr rfl) 0 (.cons (.tmp rfl rfl) .nil) rfl rfl vHn rfl rfl
        | (exfalso; exact absurd trivial hc)
        | (exfalso; omega)
        | (exfalso; simp_all; done))
theorem law_FnExactFixedPlaces (p : Int) (l : List Int) (hl : l.length = 4) : ConQ Try.prog [] 6 [.int p, .arr l] [] (.bool true) := by
  match l, hl with
  | [a, b, c, d], _ =>
    by_cases h : codeP p (badM p [a, b, c, d] 1) [] = 0
    · exact law_FixedPlaces_ok p a b c d h
    · exact law_FixedPlaces_bad p a b c d h
end Go.Proofs.Ytgfncdejnjikpaa
