/- FixedPlaces of both sides. Printed by gen_m4.py. -/
import Derived.Test.YtgfncdejnjikpaaM3
import Derived.Test.YtgfncdejnjikpaaB1
namespace Go.Proofs.Ytgfncdejnjikpaa
attribute [local irreducible] CW OW QW QOp Con thenP inBlockP
set_option maxRecDepth 10000
set_option linter.unusedSimpArgs false
set_option linter.unusedVariables false
/-- the numbers below n for which something is so -/
def filtL (g : Int → Bool) (n : Nat) : List Int := ((List.range n).map fun (i : Nat) => (i : Int)).filter g
theorem filtL_snoc (g : Int → Bool) (n : Nat) : filtL g (n + 1) = filtL g n ++ if g n then [(n : Int)] else [] := by
  simp only [filtL, List.range_succ, List.map_append, List.map_cons, List.map_nil, List.filter_append, List.filter_cons, List.filter_nil]
theorem filtL_yes {g : Int → Bool} {n : Nat} (h : g n = true) : filtL g (n + 1) = filtL g n ++ [(n : Int)] := by rw [filtL_snoc, if_pos h]
theorem filtL_no {g : Int → Bool} {n : Nat} (h : g n = false) : filtL g (n + 1) = filtL g n := by rw [filtL_snoc, if_neg (by simp [h])]; simp
def fixG (p a b c d : Int) (x : Int) : Bool := atP p a b c d x == x
theorem spec_FixedPlaces_bad (p a b c d : Int) (h : codeP p (badM p [a, b, c, d] 1) [] ≠ 0) : ConQ Try.prog [] 26 [.int p, .arr [a, b, c, d]] [] (.tuple [.nilsl, .int (codeP p (badM p [a, b, c, d] 1) [])]) := by
  refine conW tab_ok [(0, .int p), (1, .arr [a, b, c, d])] 0 [] [] Try.func26 rfl rfl rfl rfl rfl rfl rfl rfl rfl ?_
  refine CW_seq ?_
  refine CW_region ?_
  refine oBox rfl rfl rfl rfl rfl rfl ?_
  refine oQ (Q_assign rfl rfl) rfl rfl ?_
  refine oQ (Q_assign rfl rfl) rfl rfl ?_
  refine OW_nil ?_
  all_goals with_reducible refine tN ?_
  all_goals (
      refine CW_seq ?_
      refine CW_seq ?_
      refine CW_region ?_
      refine oQ (Q_move rfl rfl) rfl rfl ?_
      first | refine oQ (Q_ldw rfl rfl rfl rfl (by first | omega | (dsimp only; omega) | (simp; omega) | (simp; done))) rfl rfl ?_ | refine oQ (Q_lda rfl rfl rfl rfl rfl (by first | omega | (dsimp only; omega) | (simp; omega) | (simp; done))) rfl rfl ?_
      refine oBsl rfl rfl rfl rfl (.inr ⟨rfl, rfl, by decide⟩) rfl rfl rfl rfl rfl rfl ?_
      refine oQ (Q_call (l05Code_nil p 34 [a, b, c, d] 1 1 (by simp) (by omega)) [(0, 1)] rfl rfl (Fits.mk' (vHc rfl vHn) rfl rfl (by simp)) rfl rfl) rfl rfl ?_
      refine oQ (Q_assign rfl rfl) rfl rfl ?_
      refine OW_nil ?_
      all_goals with_reducible refine tN ?_
      all_goals (
          refine CW_seq ?_
          refine CW_region ?_
          refine oQ (Q_move rfl rfl) rfl rfl ?_
          refine oQ (Q_bin rfl rfl rfl) rfl rfl ?_
          refine OW_nil ?_
          all_goals with_reducible refine tN ?_
          all_goals (
              first | refine CW_cond_t rfl (by with_reducible rfl) ?_ | refine CW_cond_f rfl (by with_reducible rfl) ?_ | refine CW_cond rfl (fun hc => ?_) (fun hc => ?_)
              all_goals try simp only [decide_eq_true_eq, decide_eq_false_iff_not, beq_iff_eq, beq_eq_false_iff_ne, bne_iff_ne, bne_eq_false_iff_eq, Bool.not_eq_true', Bool.not_eq_false', Int.not_lt, Int.not_le, ne_eq, not_false_eq_true] at hc
              all_goals try (exfalso; exact absurd hc h; done)
              all_goals first
                | (
                  refine CW_skip ?_)
                | (
                  refine CW_seq ?_
                  refine CW_region ?_
                  refine oQ (Q_move rfl rfl) rfl rfl ?_
                  refine oQ (Q_assign rfl rfl) rfl rfl ?_
                  refine oQ (Q_assign rfl rfl) rfl rfl ?_
                  refine OW_nil ?_
                  all_goals with_reducible refine tN ?_
                  all_goals (
                      refine CW_ret ?_))))
      all_goals first
        | with_reducible refine tR ?_
        | with_reducible refine tE ?_
        | (
          with_reducible refine tN ?_
          refine CW_seq ?_
          refine CW_region ?_
          refine oBsl (zl := []) rfl rfl rfl rfl (.inl ⟨rfl, rfl⟩) rfl rfl rfl rfl rfl rfl ?_
          refine oQ (Q_assign rfl rfl) rfl rfl ?_
          refine OW_nil ?_
          all_goals with_reducible refine tN ?_
          all_goals (
              refine CW_seq ?_
              refine CW_seq ?_
              refine CW_region ?_
              refine oQ (Q_assign rfl rfl) rfl rfl ?_
              refine OW_nil ?_
              all_goals with_reducible refine tN ?_
              all_goals (
                  refine CW_block ?_
                  fail "loop 0 wants its states"
                  · first | trivial | omega | (simp; done) | (simp; omega)
                  · refine View.mk' [] rfl rfl rfl ?_ ?_
                    repeat' first | exact vFn | refine vFc rfl ?_ | exact vHn | refine vHc rfl ?_ | refine vFc (congrArg (fun z => some (V.int z)) ?_) ?_ | refine vHc (congrArg (fun z => some (Blk.ints _ z)) ?_) ?_ | refine vFc (congrArg (fun z => some (V.bool z)) ?_) ?_
                  intro i hi
                  refine CW_seq ?_
                  refine CW_seq ?_
                  refine CW_region ?_
                  refine oQ (Q_move rfl rfl) rfl rfl ?_
                  refine oQ (Q_move rfl rfl) rfl rfl ?_
                  refine oQ (Q_bin rfl rfl rfl) rfl rfl ?_
                  refine OW_nil ?_
                  all_goals with_reducible refine tN ?_
                  all_goals (
                      first | refine CW_cond_t rfl (by with_reducible rfl) ?_ | refine CW_cond_f rfl (by with_reducible rfl) ?_ | refine CW_cond rfl (fun hc => ?_) (fun hc => ?_)
                      all_goals try simp only [decide_eq_true_eq, decide_eq_false_iff_not, beq_iff_eq, beq_eq_false_iff_ne, bne_iff_ne, bne_eq_false_iff_eq, Bool.not_eq_true', Bool.not_eq_false', Int.not_lt, Int.not_le, ne_eq, not_false_eq_true] at hc
                      all_goals try (exfalso; exact absurd hc h; done)
                      all_goals first
                        | (
                          refine CW_skip ?_)
                        | (
                          refine CW_exit ?_))
                  all_goals first
                    | with_reducible refine tR ?_
                    | with_reducible refine tE ?_
                    | (
                      with_reducible refine tN ?_
                      refine CW_seq ?_
                      refine CW_block ?_
                      refine CW_seq ?_
                      refine CW_region ?_
                      refine oQ (Q_move rfl rfl) rfl rfl ?_
                      first | refine oQ (Q_ldw rfl rfl rfl rfl (by first | omega | (dsimp only; omega) | (simp; omega) | (simp; done))) rfl rfl ?_ | refine oQ (Q_lda rfl rfl rfl rfl rfl (by first | omega | (dsimp only; omega) | (simp; omega) | (simp; done))) rfl rfl ?_
                      refine oQ (Q_move rfl rfl) rfl rfl ?_
                      fail "call of loop.example/g01310/spec.l05At at slot 25"
                      refine oQ (Q_move rfl rfl) rfl rfl ?_
                      refine oQ (Q_bin rfl rfl rfl) rfl rfl ?_
                      refine OW_nil ?_
                      all_goals with_reducible refine tN ?_
                      all_goals (
                          first | refine CW_cond_t rfl (by with_reducible rfl) ?_ | refine CW_cond_f rfl (by with_reducible rfl) ?_ | refine CW_cond rfl (fun hc => ?_) (fun hc => ?_)
                          all_goals try simp only [decide_eq_true_eq, decide_eq_false_iff_not, beq_iff_eq, beq_eq_false_iff_ne, bne_iff_ne, bne_eq_false_iff_eq, Bool.not_eq_true', Bool.not_eq_false', Int.not_lt, Int.not_le, ne_eq, not_false_eq_true] at hc
                          all_goals try (exfalso; exact absurd hc h; done)
                          all_goals first
                            | (
                              refine CW_skip ?_)
                            | (
                              refine CW_region ?_
                              refine oQ (Q_move rfl rfl) rfl rfl ?_
                              refine oQ (Q_move rfl rfl) rfl rfl ?_
                              refine oBsl (zl := []) rfl rfl rfl rfl (.inl ⟨rfl, rfl⟩) rfl rfl rfl rfl rfl rfl ?_
                              fail "builtin append at slot 31"
                              refine oQ (Q_assign rfl rfl) rfl rfl ?_
                              refine OW_nil ?_))
                      all_goals first | with_reducible refine bN ?_ | with_reducible refine bE ?_ | with_reducible refine bR ?_ | refine bX rfl ?_
                      all_goals with_reducible refine tN ?_
                      all_goals (
                          refine CW_region ?_
                          refine oQ (Q_move rfl rfl) rfl rfl ?_
                          first | refine oQ (Q_binu rfl rfl rfl (by omega)) rfl rfl ?_ | refine oQ (Q_bin rfl rfl rfl) rfl rfl ?_
                          refine oQ (Q_assign rfl rfl) rfl rfl ?_
                          refine OW_nil ?_))
                  all_goals first
                    | with_reducible refine tR ?_
                    | with_reducible refine tE ?_
                    | (
                      with_reducible refine tN ?_
                      fail "again 0")
                  all_goals first | with_reducible refine bN ?_ | with_reducible refine bE ?_ | with_reducible refine bR ?_ | refine bX rfl ?_)
              all_goals with_reducible refine tN ?_
              all_goals (
                  refine CW_seq ?_
                  refine CW_region ?_
                  refine oQ (Q_move rfl rfl) rfl rfl ?_
                  refine oQ (Q_assign rfl rfl) rfl rfl ?_
                  refine oQ (Q_assign rfl rfl) rfl rfl ?_
                  refine OW_nil ?_
                  all_goals with_reducible refine tN ?_
                  all_goals (
                      refine CW_ret ?_)))))
  all_goals (
      exact exitQ (.inr rfl) 0 (.cons (.tmp rfl rfl) (.cons (.tmp rfl rfl) .nil)) rfl rfl vHn rfl rfl)
theorem spec_FixedPlaces_ok (p a b c d : Int) (h : codeP p (badM p [a, b, c, d] 1) [] = 0) : Con Try.prog [] 26 [.int p, .arr [a, b, c, d]] [] (fun r H' => ∃ m k sp, m = (filtL (fixG p a b c d) (p.toNat + 1)).length ∧ m ≤ k ∧ k ≤ m + sp.length ∧ r = .tuple [.slice 0 0 m k, .int 0] ∧ H' = [(0, .ints 2 (filtL (fixG p a b c d) (p.toNat + 1) ++ sp))]) := by
  have hz := codeP_zero h
  have hp := hz.1
  have hpb := prime_bd hp
  obtain ⟨_, ha, hb, hc0, hd⟩ := badM_one hz.2.1 hp
  refine conW tab_ok [(0, .int p), (1, .arr [a, b, c, d])] 0 [] [] Try.func26 rfl rfl rfl rfl rfl rfl rfl rfl rfl ?_
  refine CW_seq ?_
  refine CW_region ?_
  refine oBox rfl rfl rfl rfl rfl rfl ?_
  refine oQ (Q_assign rfl rfl) rfl rfl ?_
  refine oQ (Q_assign rfl rfl) rfl rfl ?_
  refine OW_nil ?_
  all_goals with_reducible refine tN ?_
  all_goals (
      refine CW_seq ?_
      refine CW_seq ?_
      refine CW_region ?_
      refine oQ (Q_move rfl rfl) rfl rfl ?_
      first | refine oQ (Q_ldw rfl rfl rfl rfl (by first | omega | (dsimp only; omega) | (simp; omega) | (simp; done))) rfl rfl ?_ | refine oQ (Q_lda rfl rfl rfl rfl rfl (by first | omega | (dsimp only; omega) | (simp; omega) | (simp; done))) rfl rfl ?_
      refine oBsl rfl rfl rfl rfl (.inr ⟨rfl, rfl, by decide⟩) rfl rfl rfl rfl rfl rfl ?_
      refine oQ (Q_call (l05Code_nil p 34 [a, b, c, d] 1 1 (by simp) (by omega)) [(0, 1)] rfl rfl (Fits.mk' (vHc rfl vHn) rfl rfl (by simp)) rfl rfl) rfl rfl ?_
      refine oQ (Q_assign rfl rfl) rfl rfl ?_
      refine OW_nil ?_
      all_goals with_reducible refine tN ?_
      all_goals (
          refine CW_seq ?_
          refine CW_region ?_
          refine oQ (Q_move rfl rfl) rfl rfl ?_
          refine oQ (Q_bin rfl rfl rfl) rfl rfl ?_
          refine OW_nil ?_
          all_goals with_reducible refine tN ?_
          all_goals (
              first | refine CW_cond_t rfl (by with_reducible rfl) ?_ | refine CW_cond_f rfl (by with_reducible rfl) ?_ | refine CW_cond rfl (fun hc => ?_) (fun hc => ?_)
              all_goals try simp only [decide_eq_true_eq, decide_eq_false_iff_not, beq_iff_eq, beq_eq_false_iff_ne, bne_iff_ne, bne_eq_false_iff_eq, Bool.not_eq_true', Bool.not_eq_false', Int.not_lt, Int.not_le, ne_eq, not_false_eq_true] at hc
              all_goals try (exfalso; exact absurd h hc; done)
              all_goals first
                | (
                  refine CW_skip ?_)
                | (
                  refine CW_seq ?_
                  refine CW_region ?_
                  refine oQ (Q_move rfl rfl) rfl rfl ?_
                  refine oQ (Q_assign rfl rfl) rfl rfl ?_
                  refine oQ (Q_assign rfl rfl) rfl rfl ?_
                  refine OW_nil ?_
                  all_goals with_reducible refine tN ?_
                  all_goals (
                      refine CW_ret ?_))))
      all_goals first
        | with_reducible refine tR ?_
        | with_reducible refine tE ?_
        | (
          with_reducible refine tN ?_
          refine CW_seq ?_
          refine CW_region ?_
          refine oBsl (zl := []) rfl rfl rfl rfl (.inl ⟨rfl, rfl⟩) rfl rfl rfl rfl rfl rfl ?_
          refine oQ (Q_assign rfl rfl) rfl rfl ?_
          refine OW_nil ?_
          all_goals with_reducible refine tN ?_
          all_goals (
              refine CW_seq ?_
              refine CW_seq ?_
              refine CW_region ?_
              refine oQ (Q_assign rfl rfl) rfl rfl ?_
              refine OW_nil ?_
              all_goals with_reducible refine tN ?_
              all_goals (
                  refine CW_block ?_
                  refine CW_loop (ι := Nat × Nat × Nat × List Int) (fun x => (x.1 : Int) ≤ p + 1 ∧ x.2.1 = (filtL (fixG p a b c d) x.1).length ∧ x.2.1 ≤ x.2.2.1 ∧ x.2.2.1 ≤ x.2.1 + x.2.2.2.length ∧ x.2.1 ≤ x.1) (fun x => ⟨[(0, .int p), (3, .ptr 0 0), (7, .slice 2 0 x.2.1 x.2.2.1), (8, .int x.1)], [(0, .ints 34 [a, b, c, d]), (2, .ints 2 (filtL (fixG p a b c d) x.1 ++ x.2.2.2))], 3⟩) (fun x => p.toNat + 1 - x.1) (0, 0, 0, []) ?_ ?_ ?_
                  · exact ⟨by simp; omega, rfl, Nat.le_refl _, Nat.le_refl _, Nat.le_refl _⟩
                  · refine View.mk' [] rfl rfl rfl ?_ ?_
                    repeat' first | exact vFn | refine vFc rfl ?_ | exact vHn | refine vHc rfl ?_ | refine vFc (congrArg (fun z => some (V.int z)) ?_) ?_ | refine vHc (congrArg (fun z => some (Blk.ints _ z)) ?_) ?_ | refine vFc (congrArg (fun z => some (V.bool z)) ?_) ?_
                  rintro ⟨i, m, k', sp⟩ ⟨hi, hm, hi2, hi3, hi4⟩
                  dsimp only at hi hm hi2 hi3 hi4 ⊢
                  have hlen : (filtL (fixG p a b c d) i).length = m * 1 := by omega
                  refine CW_seq ?_
                  refine CW_seq ?_
                  refine CW_region ?_
                  refine oQ (Q_move rfl rfl) rfl rfl ?_
                  refine oQ (Q_move rfl rfl) rfl rfl ?_
                  refine oQ (Q_bin rfl rfl rfl) rfl rfl ?_
                  refine OW_nil ?_
                  all_goals with_reducible refine tN ?_
                  all_goals (
                      first | refine CW_cond_t rfl (by with_reducible rfl) ?_ | refine CW_cond_f rfl (by with_reducible rfl) ?_ | refine CW_cond rfl (fun hc => ?_) (fun hc => ?_)
                      all_goals try simp only [decide_eq_true_eq, decide_eq_false_iff_not, beq_iff_eq, beq_eq_false_iff_ne, bne_iff_ne, bne_eq_false_iff_eq, Bool.not_eq_true', Bool.not_eq_false', Int.not_lt, Int.not_le, ne_eq, not_false_eq_true] at hc
                      all_goals try (exfalso; exact absurd h hc; done)
                      all_goals first
                        | (
                          refine CW_skip ?_)
                        | (
                          refine CW_exit ?_))
                  all_goals first
                    | with_reducible refine tR ?_
                    | with_reducible refine tE ?_
                    | (
                      with_reducible refine tN ?_
                      refine CW_seq ?_
                      refine CW_block ?_
                      refine CW_seq ?_
                      refine CW_region ?_
                      refine oQ (Q_move rfl rfl) rfl rfl ?_
                      first | refine oQ (Q_ldw rfl rfl rfl rfl (by first | omega | (dsimp only; omega) | (simp; omega) | (simp; done))) rfl rfl ?_ | refine oQ (Q_lda rfl rfl rfl rfl rfl (by first | omega | (dsimp only; omega) | (simp; omega) | (simp; done))) rfl rfl ?_
                      refine oQ (Q_move rfl rfl) rfl rfl ?_
                      refine oQ (Q_call0 (l05At_con p a b c d (i : Int) hp ha hb hc0 hd (by omega)) rfl rfl rfl) rfl rfl ?_
                      refine oQ (Q_move rfl rfl) rfl rfl ?_
                      refine oQ (Q_bin rfl rfl rfl) rfl rfl ?_
                      refine OW_nil ?_
                      all_goals with_reducible refine tN ?_
                      all_goals (
                          first | refine CW_cond_t rfl (by with_reducible rfl) ?_ | refine CW_cond_f rfl (by with_reducible rfl) ?_ | refine CW_cond rfl (fun hc => ?_) (fun hc => ?_)
                          all_goals try simp only [decide_eq_true_eq, decide_eq_false_iff_not, beq_iff_eq, beq_eq_false_iff_ne, bne_iff_ne, bne_eq_false_iff_eq, Bool.not_eq_true', Bool.not_eq_false', Int.not_lt, Int.not_le, ne_eq, not_false_eq_true] at hc
                          all_goals try (exfalso; exact absurd h hc; done)
                          all_goals first
                            | (
                              refine CW_skip ?_)
                            | (
                              refine CW_region ?_
                              refine oQ (Q_move rfl rfl) rfl rfl ?_
                              refine oQ (Q_move rfl rfl) rfl rfl ?_
                              refine oBsl (zl := []) rfl rfl rfl rfl (.inl ⟨rfl, rfl⟩) rfl rfl rfl rfl rfl rfl ?_
                              refine oApp (sz := 1) (by_ := 8) rfl rfl rfl rfl rfl rfl ⟨by decide, rfl, .inl ⟨rfl, rfl⟩⟩ rfl rfl rfl rfl rfl rfl hlen rfl (by omega) hi2 (by omega) (by omega) rfl rfl (fun k2 sp2 h1 h2 => ?_)
                              refine oQ (Q_assign rfl rfl) rfl rfl ?_
                              refine OW_nil ?_))
                      all_goals first | with_reducible refine bN ?_ | with_reducible refine bE ?_ | with_reducible refine bR ?_ | refine bX rfl ?_
                      all_goals with_reducible refine tN ?_
                      all_goals (
                          refine CW_region ?_
                          refine oQ (Q_move rfl rfl) rfl rfl ?_
                          first | refine oQ (Q_binu rfl rfl rfl (by omega)) rfl rfl ?_ | refine oQ (Q_bin rfl rfl rfl) rfl rfl ?_
                          refine oQ (Q_assign rfl rfl) rfl rfl ?_
                          refine OW_nil ?_))
                  all_goals first
                    | with_reducible refine tR ?_
                    | with_reducible refine tE ?_
                    | (
                      with_reducible refine tN ?_
                      first
                        | (have hg : fixG p a b c d i = true := by (unfold fixG; exact beq_iff_eq.2 hc)
                           refine ⟨(i + 1, m + 1, k2, sp2), ⟨by dsimp only; omega, by rw [filtL_yes hg]; simp; omega, h1, by simpa using h2, by dsimp only; omega⟩, by dsimp only; omega, View.mk' [(2, 4)] rfl rfl rfl ?_ ?_⟩
                           all_goals (repeat' first | exact vFn | refine vFc rfl ?_ | exact vHn | refine vHc rfl ?_ | refine vHc (congrArg (fun z => some (Blk.ints _ z)) ?_) ?_)
                           all_goals (refine congrArg (fun z => z ++ sp2) ?_; exact (filtL_yes hg).symm))
                        | (have hg : fixG p a b c d i = false := by (unfold fixG; exact beq_eq_false_iff_ne.2 hc)
                           refine ⟨(i + 1, m, k', sp), ⟨by dsimp only; omega, by rw [filtL_no hg]; exact hm, hi2, hi3, by dsimp only; omega⟩, by dsimp only; omega, View.mk' [] rfl rfl rfl ?_ ?_⟩
                           all_goals (repeat' first | exact vFn | refine vFc rfl ?_ | exact vHn | refine vHc rfl ?_ | refine vHc (congrArg (fun z => some (Blk.ints _ z)) ?_) ?_)
                           all_goals (refine congrArg (fun z => z ++ sp) ?_; exact (filtL_no hg).symm)))
                  all_goals first | with_reducible refine bN ?_ | with_reducible refine bE ?_ | with_reducible refine bR ?_ | refine bX rfl ?_)
              all_goals with_reducible refine tN ?_
              all_goals (
                  refine CW_seq ?_
                  refine CW_region ?_
                  refine oQ (Q_move rfl rfl) rfl rfl ?_
                  refine oQ (Q_assign rfl rfl) rfl rfl ?_
                  refine oQ (Q_assign rfl rfl) rfl rfl ?_
                  refine OW_nil ?_
                  all_goals with_reducible refine tN ?_
                  all_goals (
                      refine CW_ret ?_)))))
  all_goals (
      have e : i = p.toNat + 1 := by omega
      subst e
      exact exitH (r0 := .tuple [.slice 0 0 m k', .int 0]) (H0 := [(0, .ints 2 (filtL (fixG p a b c d) (p.toNat + 1) ++ sp))]) (.inr rfl) [(0, 2)] 1 (.cons (.tmp rfl rfl) (.cons (.tmp rfl rfl) .nil)) rfl rfl rfl (vHc rfl vHn) rfl rfl ⟨m, k', sp, hm, hi2, hi3, rfl, rfl⟩)
theorem impl_FixedPlaces_bad (p a b c d : Int) (h : codeP p (badM p [a, b, c, d] 1) [] ≠ 0) : ConQ Try.prog [] 27 [.int p, .arr [a, b, c, d]] [] (.tuple [.nilsl, .int (codeP p (badM p [a, b, c, d] 1) [])]) := by
  refine conW tab_ok [(0, .int p), (1, .arr [a, b, c, d])] 0 [] [] Try.func27 rfl rfl rfl rfl rfl rfl rfl rfl rfl ?_
  refine CW_seq ?_
  refine CW_region ?_
  refine oBox rfl rfl rfl rfl rfl rfl ?_
  refine oQ (Q_assign rfl rfl) rfl rfl ?_
  refine oQ (Q_assign rfl rfl) rfl rfl ?_
  refine OW_nil ?_
  all_goals with_reducible refine tN ?_
  all_goals (
      refine CW_seq ?_
      refine CW_seq ?_
      refine CW_region ?_
      refine oQ (Q_move rfl rfl) rfl rfl ?_
      first | refine oQ (Q_ldw rfl rfl rfl rfl (by first | omega | (dsimp only; omega) | (simp; omega) | (simp; done))) rfl rfl ?_ | refine oQ (Q_lda rfl rfl rfl rfl rfl (by first | omega | (dsimp only; omega) | (simp; omega) | (simp; done))) rfl rfl ?_
      refine oBsl rfl rfl rfl rfl (.inr ⟨rfl, rfl, by decide⟩) rfl rfl rfl rfl rfl rfl ?_
      refine oQ (Q_call (moebiusCode_nil p [a, b, c, d] 1 1 (by simp) (by omega)) [(0, 1)] rfl rfl (Fits.mk' (vHc rfl vHn) rfl rfl (by simp)) rfl rfl) rfl rfl ?_
      refine oQ (Q_assign rfl rfl) rfl rfl ?_
      refine OW_nil ?_
      all_goals with_reducible refine tN ?_
      all_goals (
          refine CW_seq ?_
          refine CW_region ?_
          refine oQ (Q_move rfl rfl) rfl rfl ?_
          refine oQ (Q_bin rfl rfl rfl) rfl rfl ?_
          refine OW_nil ?_
          all_goals with_reducible refine tN ?_
          all_goals (
              first | refine CW_cond_t rfl (by with_reducible rfl) ?_ | refine CW_cond_f rfl (by with_reducible rfl) ?_ | refine CW_cond rfl (fun hc => ?_) (fun hc => ?_)
              all_goals try simp only [decide_eq_true_eq, decide_eq_false_iff_not, beq_iff_eq, beq_eq_false_iff_ne, bne_iff_ne, bne_eq_false_iff_eq, Bool.not_eq_true', Bool.not_eq_false', Int.not_lt, Int.not_le, ne_eq, not_false_eq_true] at hc
              all_goals try (exfalso; exact absurd hc h; done)
              all_goals first
                | (
                  refine CW_skip ?_)
                | (
                  refine CW_seq ?_
                  refine CW_region ?_
                  refine oQ (Q_move rfl rfl) rfl rfl ?_
                  refine oQ (Q_assign rfl rfl) rfl rfl ?_
                  refine oQ (Q_assign rfl rfl) rfl rfl ?_
                  refine OW_nil ?_
                  all_goals with_reducible refine tN ?_
                  all_goals (
                      refine CW_ret ?_))))
      all_goals first
        | with_reducible refine tR ?_
        | with_reducible refine tE ?_
        | (
          with_reducible refine tN ?_
          refine CW_seq ?_
          refine CW_region ?_
          refine oBsl (zl := []) rfl rfl rfl rfl (.inl ⟨rfl, rfl⟩) rfl rfl rfl rfl rfl rfl ?_
          refine oQ (Q_assign rfl rfl) rfl rfl ?_
          refine OW_nil ?_
          all_goals with_reducible refine tN ?_
          all_goals (
              refine CW_seq ?_
              refine CW_seq ?_
              refine CW_region ?_
              refine oQ (Q_move rfl rfl) rfl rfl ?_
              first | refine oQ (Q_binu rfl rfl rfl (by omega)) rfl rfl ?_ | refine oQ (Q_bin rfl rfl rfl) rfl rfl ?_
              refine oQ (Q_move rfl rfl) rfl rfl ?_
              refine OW_nil ?_
              all_goals with_reducible refine tN ?_
              all_goals (
                  refine CW_block ?_
                  fail "loop 0 wants its states"
                  · first | trivial | omega | (simp; done) | (simp; omega)
                  · refine View.mk' [] rfl rfl rfl ?_ ?_
                    repeat' first | exact vFn | refine vFc rfl ?_ | exact vHn | refine vHc rfl ?_ | refine vFc (congrArg (fun z => some (V.int z)) ?_) ?_ | refine vHc (congrArg (fun z => some (Blk.ints _ z)) ?_) ?_ | refine vFc (congrArg (fun z => some (V.bool z)) ?_) ?_
                  intro i hi
                  refine CW_seq ?_
                  refine CW_region ?_
                  refine oQ (Q_bin rfl rfl rfl) rfl rfl ?_
                  refine OW_nil ?_
                  all_goals with_reducible refine tN ?_
                  all_goals (
                      refine CW_seq ?_
                      first | refine CW_cond_t rfl (by with_reducible rfl) ?_ | refine CW_cond_f rfl (by with_reducible rfl) ?_ | refine CW_cond rfl (fun hc => ?_) (fun hc => ?_)
                      all_goals try simp only [decide_eq_true_eq, decide_eq_false_iff_not, beq_iff_eq, beq_eq_false_iff_ne, bne_iff_ne, bne_eq_false_iff_eq, Bool.not_eq_true', Bool.not_eq_false', Int.not_lt, Int.not_le, ne_eq, not_false_eq_true] at hc
                      all_goals try (exfalso; exact absurd hc h; done)
                      all_goals first
                        | (
                          refine CW_skip ?_)
                        | (
                          refine CW_exit ?_)
                      all_goals first
                        | with_reducible refine tR ?_
                        | with_reducible refine tE ?_
                        | (
                          with_reducible refine tN ?_
                          refine CW_seq ?_
                          refine CW_block ?_
                          refine CW_seq ?_
                          refine CW_region ?_
                          refine oQ (Q_move rfl rfl) rfl rfl ?_
                          refine oQ (Q_assign rfl rfl) rfl rfl ?_
                          refine OW_nil ?_
                          all_goals with_reducible refine tN ?_
                          all_goals (
                              refine CW_seq ?_
                              refine CW_region ?_
                              first | refine oQ (Q_ldw rfl rfl rfl rfl (by first | omega | (dsimp only; omega) | (simp; omega) | (simp; done))) rfl rfl ?_ | refine oQ (Q_lda rfl rfl rfl rfl rfl (by first | omega | (dsimp only; omega) | (simp; omega) | (simp; done))) rfl rfl ?_
                              refine oQ (Q_move rfl rfl) rfl rfl ?_
                              refine oQ (Q_move rfl rfl) rfl rfl ?_
                              fail "call of (loop.example/g01310/impl.Moebius).at at slot 25"
                              refine oQ (Q_move rfl rfl) rfl rfl ?_
                              refine oQ (Q_bin rfl rfl rfl) rfl rfl ?_
                              refine OW_nil ?_
                              all_goals with_reducible refine tN ?_
                              all_goals (
                                  first | refine CW_cond_t rfl (by with_reducible rfl) ?_ | refine CW_cond_f rfl (by with_reducible rfl) ?_ | refine CW_cond rfl (fun hc => ?_) (fun hc => ?_)
                                  all_goals try simp only [decide_eq_true_eq, decide_eq_false_iff_not, beq_iff_eq, beq_eq_false_iff_ne, bne_iff_ne, bne_eq_false_iff_eq, Bool.not_eq_true', Bool.not_eq_false', Int.not_lt, Int.not_le, ne_eq, not_false_eq_true] at hc
                                  all_goals try (exfalso; exact absurd hc h; done)
                                  all_goals first
                                    | (
                                      refine CW_skip ?_)
                                    | (
                                      refine CW_region ?_
                                      refine oQ (Q_move rfl rfl) rfl rfl ?_
                                      refine oQ (Q_move rfl rfl) rfl rfl ?_
                                      refine oBsl (zl := []) rfl rfl rfl rfl (.inl ⟨rfl, rfl⟩) rfl rfl rfl rfl rfl rfl ?_
                                      fail "builtin append at slot 31"
                                      refine oQ (Q_assign rfl rfl) rfl rfl ?_
                                      refine OW_nil ?_)))
                          all_goals first | with_reducible refine bN ?_ | with_reducible refine bE ?_ | with_reducible refine bR ?_ | refine bX rfl ?_
                          all_goals with_reducible refine tN ?_
                          all_goals (
                              refine CW_region ?_
                              first | refine oQ (Q_binu rfl rfl rfl (by omega)) rfl rfl ?_ | refine oQ (Q_bin rfl rfl rfl) rfl rfl ?_
                              refine oQ (Q_move rfl rfl) rfl rfl ?_
                              refine OW_nil ?_)))
                  all_goals first
                    | with_reducible refine tR ?_
                    | with_reducible refine tE ?_
                    | (
                      with_reducible refine tN ?_
                      fail "again 0")
                  all_goals first | with_reducible refine bN ?_ | with_reducible refine bE ?_ | with_reducible refine bR ?_ | refine bX rfl ?_)
              all_goals with_reducible refine tN ?_
              all_goals (
                  refine CW_seq ?_
                  refine CW_region ?_
                  refine oQ (Q_move rfl rfl) rfl rfl ?_
                  refine oQ (Q_assign rfl rfl) rfl rfl ?_
                  refine oQ (Q_assign rfl rfl) rfl rfl ?_
                  refine OW_nil ?_
                  all_goals with_reducible refine tN ?_
                  all_goals (
                      refine CW_ret ?_)))))
  all_goals (
      exact exitQ (.inr rfl) 0 (.cons (.tmp rfl rfl) (.cons (.tmp rfl rfl) .nil)) rfl rfl vHn rfl rfl)
theorem impl_FixedPlaces_ok (p a b c d : Int) (h : codeP p (badM p [a, b, c, d] 1) [] = 0) : Con Try.prog [] 27 [.int p, .arr [a, b, c, d]] [] (fun r H' => ∃ m k sp, m = (filtL (fixG p a b c d) (p.toNat + 1)).length ∧ m ≤ k ∧ k ≤ m + sp.length ∧ r = .tuple [.slice 0 0 m k, .int 0] ∧ H' = [(0, .ints 2 (filtL (fixG p a b c d) (p.toNat + 1) ++ sp))]) := by
  have hz := codeP_zero h
  have hp := hz.1
  have hpb := prime_bd hp
  obtain ⟨_, ha, hb, hc0, hd⟩ := badM_one hz.2.1 hp
  refine conW tab_ok [(0, .int p), (1, .arr [a, b, c, d])] 0 [] [] Try.func27 rfl rfl rfl rfl rfl rfl rfl rfl rfl ?_
  refine CW_seq ?_
  refine CW_region ?_
  refine oBox rfl rfl rfl rfl rfl rfl ?_
  refine oQ (Q_assign rfl rfl) rfl rfl ?_
  refine oQ (Q_assign rfl rfl) rfl rfl ?_
  refine OW_nil ?_
  all_goals with_reducible refine tN ?_
  all_goals (
      refine CW_seq ?_
      refine CW_seq ?_
      refine CW_region ?_
      refine oQ (Q_move rfl rfl) rfl rfl ?_
      first | refine oQ (Q_ldw rfl rfl rfl rfl (by first | omega | (dsimp only; omega) | (simp; omega) | (simp; done))) rfl rfl ?_ | refine oQ (Q_lda rfl rfl rfl rfl rfl (by first | omega | (dsimp only; omega) | (simp; omega) | (simp; done))) rfl rfl ?_
      refine oBsl rfl rfl rfl rfl (.inr ⟨rfl, rfl, by decide⟩) rfl rfl rfl rfl rfl rfl ?_
      refine oQ (Q_call (moebiusCode_nil p [a, b, c, d] 1 1 (by simp) (by omega)) [(0, 1)] rfl rfl (Fits.mk' (vHc rfl vHn) rfl rfl (by simp)) rfl rfl) rfl rfl ?_
      refine oQ (Q_assign rfl rfl) rfl rfl ?_
      refine OW_nil ?_
      all_goals with_reducible refine tN ?_
      all_goals (
          refine CW_seq ?_
          refine CW_region ?_
          refine oQ (Q_move rfl rfl) rfl rfl ?_
          refine oQ (Q_bin rfl rfl rfl) rfl rfl ?_
          refine OW_nil ?_
          all_goals with_reducible refine tN ?_
          all_goals (
              first | refine CW_cond_t rfl (by with_reducible rfl) ?_ | refine CW_cond_f rfl (by with_reducible rfl) ?_ | refine CW_cond rfl (fun hc => ?_) (fun hc => ?_)
              all_goals try simp only [decide_eq_true_eq, decide_eq_false_iff_not, beq_iff_eq, beq_eq_false_iff_ne, bne_iff_ne, bne_eq_false_iff_eq, Bool.not_eq_true', Bool.not_eq_false', Int.not_lt, Int.not_le, ne_eq, not_false_eq_true] at hc
              all_goals try (exfalso; exact absurd h hc; done)
              all_goals first
                | (
                  refine CW_skip ?_)
                | (
                  refine CW_seq ?_
                  refine CW_region ?_
                  refine oQ (Q_move rfl rfl) rfl rfl ?_
                  refine oQ (Q_assign rfl rfl) rfl rfl ?_
                  refine oQ (Q_assign rfl rfl) rfl rfl ?_
                  refine OW_nil ?_
                  all_goals with_reducible refine tN ?_
                  all_goals (
                      refine CW_ret ?_))))
      all_goals first
        | with_reducible refine tR ?_
        | with_reducible refine tE ?_
        | (
          with_reducible refine tN ?_
          refine CW_seq ?_
          refine CW_region ?_
          refine oBsl (zl := []) rfl rfl rfl rfl (.inl ⟨rfl, rfl⟩) rfl rfl rfl rfl rfl rfl ?_
          refine oQ (Q_assign rfl rfl) rfl rfl ?_
          refine OW_nil ?_
          all_goals with_reducible refine tN ?_
          all_goals (
              refine CW_seq ?_
              refine CW_seq ?_
              refine CW_region ?_
              refine oQ (Q_move rfl rfl) rfl rfl ?_
              first | refine oQ (Q_binu rfl rfl rfl (by omega)) rfl rfl ?_ | refine oQ (Q_bin rfl rfl rfl) rfl rfl ?_
              refine oQ (Q_move rfl rfl) rfl rfl ?_
              refine OW_nil ?_
              all_goals with_reducible refine tN ?_
              all_goals (
                  refine CW_block ?_
                  refine CW_loop (ι := Nat × Nat × Nat × List Int) (fun x => (x.1 : Int) ≤ p + 1 ∧ x.2.1 = (filtL (fixG p a b c d) x.1).length ∧ x.2.1 ≤ x.2.2.1 ∧ x.2.2.1 ≤ x.2.1 + x.2.2.2.length ∧ x.2.1 ≤ x.1) (fun x => ⟨[(0, .int p), (3, .ptr 0 0), (7, .slice 2 0 x.2.1 x.2.2.1), (18, .int (p + 1)), (19, .int x.1)], [(0, .ints 34 [a, b, c, d]), (2, .ints 2 (filtL (fixG p a b c d) x.1 ++ x.2.2.2))], 3⟩) (fun x => p.toNat + 1 - x.1) (0, 0, 0, []) ?_ ?_ ?_
                  · exact ⟨by simp; omega, rfl, Nat.le_refl _, Nat.le_refl _, Nat.le_refl _⟩
                  · refine View.mk' [] rfl rfl rfl ?_ ?_
                    repeat' first | exact vFn | refine vFc rfl ?_ | exact vHn | refine vHc rfl ?_ | refine vFc (congrArg (fun z => some (V.int z)) ?_) ?_ | refine vHc (congrArg (fun z => some (Blk.ints _ z)) ?_) ?_ | refine vFc (congrArg (fun z => some (V.bool z)) ?_) ?_
                  rintro ⟨i, m, k', sp⟩ ⟨hi, hm, hi2, hi3, hi4⟩
                  dsimp only at hi hm hi2 hi3 hi4 ⊢
                  have hlen : (filtL (fixG p a b c d) i).length = m * 1 := by omega
                  refine CW_seq ?_
                  refine CW_region ?_
                  refine oQ (Q_bin rfl rfl rfl) rfl rfl ?_
                  refine OW_nil ?_
                  all_goals with_reducible refine tN ?_
                  all_goals (
                      refine CW_seq ?_
                      first | refine CW_cond_t rfl (by with_reducible rfl) ?_ | refine CW_cond_f rfl (by with_reducible rfl) ?_ | refine CW_cond rfl (fun hc => ?_) (fun hc => ?_)
                      all_goals try simp only [decide_eq_true_eq, decide_eq_false_iff_not, beq_iff_eq, beq_eq_false_iff_ne, bne_iff_ne, bne_eq_false_iff_eq, Bool.not_eq_true', Bool.not_eq_false', Int.not_lt, Int.not_le, ne_eq, not_false_eq_true] at hc
                      all_goals try (exfalso; exact absurd h hc; done)
                      all_goals first
                        | (
                          refine CW_skip ?_)
                        | (
                          refine CW_exit ?_)
                      all_goals first
                        | with_reducible refine tR ?_
                        | with_reducible refine tE ?_
                        | (
                          with_reducible refine tN ?_
                          refine CW_seq ?_
                          refine CW_block ?_
                          refine CW_seq ?_
                          refine CW_region ?_
                          refine oQ (Q_move rfl rfl) rfl rfl ?_
                          refine oQ (Q_assign rfl rfl) rfl rfl ?_
                          refine OW_nil ?_
                          all_goals with_reducible refine tN ?_
                          all_goals (
                              refine CW_seq ?_
                              refine CW_region ?_
                              first | refine oQ (Q_ldw rfl rfl rfl rfl (by first | omega | (dsimp only; omega) | (simp; omega) | (simp; done))) rfl rfl ?_ | refine oQ (Q_lda rfl rfl rfl rfl rfl (by first | omega | (dsimp only; omega) | (simp; omega) | (simp; done))) rfl rfl ?_
                              refine oQ (Q_move rfl rfl) rfl rfl ?_
                              refine oQ (Q_move rfl rfl) rfl rfl ?_
                              refine oQ (Q_call0 (at_con p a b c d (i : Int) hp ha hb hc0 hd (by omega)) rfl rfl rfl) rfl rfl ?_
                              refine oQ (Q_move rfl rfl) rfl rfl ?_
                              refine oQ (Q_bin rfl rfl rfl) rfl rfl ?_
                              refine OW_nil ?_
                              all_goals with_reducible refine tN ?_
                              all_goals (
                                  first | refine CW_cond_t rfl (by with_reducible rfl) ?_ | refine CW_cond_f rfl (by with_reducible rfl) ?_ | refine CW_cond rfl (fun hc => ?_) (fun hc => ?_)
                                  all_goals try simp only [decide_eq_true_eq, decide_eq_false_iff_not, beq_iff_eq, beq_eq_false_iff_ne, bne_iff_ne, bne_eq_false_iff_eq, Bool.not_eq_true', Bool.not_eq_false', Int.not_lt, Int.not_le, ne_eq, not_false_eq_true] at hc
                                  all_goals try (exfalso; exact absurd h hc; done)
                                  all_goals first
                                    | (
                                      refine CW_skip ?_)
                                    | (
                                      refine CW_region ?_
                                      refine oQ (Q_move rfl rfl) rfl rfl ?_
                                      refine oQ (Q_move rfl rfl) rfl rfl ?_
                                      refine oBsl (zl := []) rfl rfl rfl rfl (.inl ⟨rfl, rfl⟩) rfl rfl rfl rfl rfl rfl ?_
                                      refine oApp (sz := 1) (by_ := 8) rfl rfl rfl rfl rfl rfl ⟨by decide, rfl, .inl ⟨rfl, rfl⟩⟩ rfl rfl rfl rfl rfl rfl hlen rfl (by omega) hi2 (by omega) (by omega) rfl rfl (fun k2 sp2 h1 h2 => ?_)
                                      refine oQ (Q_assign rfl rfl) rfl rfl ?_
                                      refine OW_nil ?_)))
                          all_goals first | with_reducible refine bN ?_ | with_reducible refine bE ?_ | with_reducible refine bR ?_ | refine bX rfl ?_
                          all_goals with_reducible refine tN ?_
                          all_goals (
                              refine CW_region ?_
                              first | refine oQ (Q_binu rfl rfl rfl (by omega)) rfl rfl ?_ | refine oQ (Q_bin rfl rfl rfl) rfl rfl ?_
                              refine oQ (Q_move rfl rfl) rfl rfl ?_
                              refine OW_nil ?_)))
                  all_goals first
                    | with_reducible refine tR ?_
                    | with_reducible refine tE ?_
                    | (
                      with_reducible refine tN ?_
                      first
                        | (have hg : fixG p a b c d i = true := by (unfold fixG; exact beq_iff_eq.2 hc)
                           refine ⟨(i + 1, m + 1, k2, sp2), ⟨by dsimp only; omega, by rw [filtL_yes hg]; simp; omega, h1, by simpa using h2, by dsimp only; omega⟩, by dsimp only; omega, View.mk' [(2, 4)] rfl rfl rfl ?_ ?_⟩
                           all_goals (repeat' first | exact vFn | refine vFc rfl ?_ | exact vHn | refine vHc rfl ?_ | refine vHc (congrArg (fun z => some (Blk.ints _ z)) ?_) ?_)
                           all_goals (refine congrArg (fun z => z ++ sp2) ?_; exact (filtL_yes hg).symm))
                        | (have hg : fixG p a b c d i = false := by (unfold fixG; exact beq_eq_false_iff_ne.2 hc)
                           refine ⟨(i + 1, m, k', sp), ⟨by dsimp only; omega, by rw [filtL_no hg]; exact hm, hi2, hi3, by dsimp only; omega⟩, by dsimp only; omega, View.mk' [] rfl rfl rfl ?_ ?_⟩
                           all_goals (repeat' first | exact vFn | refine vFc rfl ?_ | exact vHn | refine vHc rfl ?_ | refine vHc (congrArg (fun z => some (Blk.ints _ z)) ?_) ?_)
                           all_goals (refine congrArg (fun z => z ++ sp) ?_; exact (filtL_no hg).symm)))
                  all_goals first | with_reducible refine bN ?_ | with_reducible refine bE ?_ | with_reducible refine bR ?_ | refine bX rfl ?_)
              all_goals with_reducible refine tN ?_
              all_goals (
                  refine CW_seq ?_
                  refine CW_region ?_
                  refine oQ (Q_move rfl rfl) rfl rfl ?_
                  refine oQ (Q_assign rfl rfl) rfl rfl ?_
                  refine oQ (Q_assign rfl rfl) rfl rfl ?_
                  refine OW_nil ?_
                  all_goals with_reducible refine tN ?_
                  all_goals (
                      refine CW_ret ?_)))))
  all_goals (
      have e : i = p.toNat + 1 := by omega
      subst e
      exact exitH (r0 := .tuple [.slice 0 0 m k', .int 0]) (H0 := [(0, .ints 2 (filtL (fixG p a b c d) (p.toNat + 1) ++ sp))]) (.inr rfl) [(0, 2)] 1 (.cons (.tmp rfl rfl) (.cons (.tmp rfl rfl) .nil)) rfl rfl rfl (vHc rfl vHn) rfl rfl ⟨m, k', sp, hm, hi2, hi3, rfl, rfl⟩)
end Go.Proofs.Ytgfncdejnjikpaa
