/- The laws of functions of numbers and arrays that answer a list of arrays, and a code. Printed by gen_l4.py. -/
import Derived.Test.YtgfncdejnjikpaaB6
import Derived.Test.YtgfncdejnjikpaaQ5
namespace Go.Proofs.Ytgfncdejnjikpaa
attribute [local irreducible] CW OW QW QOp Con thenP inBlockP
set_option maxRecDepth 10000
set_option linter.unusedSimpArgs false
set_option linter.unusedVariables false
theorem listR_pos {sz : Nat} {T : TypeId} {H0 : Hp} {b : Nat} {code : Int} {L : List (List Int)} {r : V} {H' : Hp} (hc : code = 0) (h : listR sz T H0 b code L r H') : ∃ (k : Nat) (sp : List Int), L.length ≤ k ∧ k * sz ≤ L.length * sz + sp.length ∧ r = .tuple [.slice b 0 L.length k, .int 0] ∧ H' = H0 ++ [(b, .ints T (L.flatten ++ sp))] := by
  unfold listR at h
  rwa [if_pos hc] at h
theorem listR_neg {sz : Nat} {T : TypeId} {H0 : Hp} {b : Nat} {code : Int} {L : List (List Int)} {r : V} {H' : Hp} (hc : ¬ code = 0) (h : listR sz T H0 b code L r H') : r = .tuple [.nilsl, .int code] ∧ H' = H0 := by
  unfold listR at h
  rwa [if_neg hc] at h
theorem eqPointS_same (t t' : TypeId) (L : List (List Int)) (sp sp' : List Int) (k k' : Nat) (h3 : ∀ x ∈ L, x.length = 3) (h6 : L.length ≤ 1000000000) : ConQ Try.prog [] 39 [.slice 0 0 L.length k, .slice 1 0 L.length k'] [(0, .ints t (L.flatten ++ sp)), (1, .ints t' (L.flatten ++ sp'))] (.bool true) := by
  have hf := flat3 h3
  have := eqPointS_con t t' (L.flatten ++ sp) (L.flatten ++ sp') L.length k L.length k' (by simp [hf]) (by simp [hf]) ⟨h6, h6⟩
  rw [← hf, List.take_left, List.take_left] at this
  simpa using this
theorem eqLineS_same (t t' : TypeId) (L : List (List Int)) (sp sp' : List Int) (k k' : Nat) (h3 : ∀ x ∈ L, x.length = 3) (h6 : L.length ≤ 1000000000) : ConQ Try.prog [] 48 [.slice 0 0 L.length k, .slice 1 0 L.length k'] [(0, .ints t (L.flatten ++ sp)), (1, .ints t' (L.flatten ++ sp'))] (.bool true) := by
  have hf := flat3 h3
  have := eqLineS_con t t' (L.flatten ++ sp) (L.flatten ++ sp') L.length k L.length k' (by simp [hf]) (by simp [hf]) ⟨h6, h6⟩
  rw [← hf, List.take_left, List.take_left] at this
  simpa using this
theorem law_FnExactPointsOfConic (p : Int) (c : List Int) (qlc : c.length = 6) : ConQ Try.prog [] 8 [.int p, .arr c] [] (.bool true) := by
  by_cases hcd : codeB p (pointB p c) = 0
  · have h3 : ∀ x ∈ ((allPts p).filter fun m => conV p c m == 0), x.length = 3 := fun x hx => allPts_three (List.mem_filter.1 hx).1
    have hln : ((allPts p).filter fun m => conV p c m == 0).length ≤ 100000 := (by have h1 := allPts_len (codeB_zero.1 hcd).1; have h2 := List.length_filter_le (fun m => conV p c m == 0) (allPts p); omega)
    have hfl := flat3 h3
    generalize hLL : ((allPts p).filter fun m => conV p c m == 0) = LL at *
    have hsp := spec_PointsOfConic_con p c qlc
    have him := impl_PointsOfConic_con p c qlc
    rw [hLL] at hsp him
    refine conW tab_ok [(0, .int p), (1, .arr c)] 0 [] [] Try.func8 rfl rfl rfl rfl rfl rfl rfl rfl rfl ?_
    refine CW_seq ?_
    refine CW_region ?_
    refine oBox rfl rfl rfl rfl rfl rfl ?_
    refine oQ (Q_assign rfl rfl) rfl rfl ?_
    refine OW_nil ?_
    all_goals with_reducible refine tN ?_
    all_goals (
        refine CW_seq ?_
        refine CW_region ?_
        refine oQ (Q_move rfl rfl) rfl rfl ?_
        first | refine oQ (Q_ldw rfl rfl rfl rfl (by first | omega | (dsimp only; omega) | (simp; omega) | (simp; done))) rfl rfl ?_ | refine oQ (Q_lda rfl rfl rfl rfl rfl (by first | omega | (dsimp only; omega) | (simp; omega) | (simp; done))) rfl rfl ?_
        refine oQ (Q_call0 (toConic_con _ qlc) rfl rfl rfl) rfl rfl ?_
        refine oCall (hsp) [] 1 rfl rfl (Fits.mk' vHn rfl rfl (by simp)) rfl rfl ?_
        rintro r H1 hR
        obtain ⟨k0, sp0, hk0, hs0, rfl, rfl⟩ := listR_pos hcd hR
        refine ⟨.tuple [.slice 1 0 LL.length k0, .int 0], [(1, .ints 64 (LL.flatten ++ sp0))], rfl, rfl, rfl, ?_⟩
        refine oQ (Q_move rfl rfl) rfl rfl ?_
        refine oQ (Q_extract rfl rfl) rfl rfl ?_
        refine oQ (Q_extract rfl rfl) rfl rfl ?_
        refine oQ (Q_assign rfl rfl) rfl rfl ?_
        refine oQ (Q_assign rfl rfl) rfl rfl ?_
        refine OW_nil ?_
        all_goals with_reducible refine tN ?_
        all_goals (
            refine CW_seq ?_
            refine CW_region ?_
            refine oQ (Q_move rfl rfl) rfl rfl ?_
            first | refine oQ (Q_ldw rfl rfl rfl rfl (by first | omega | (dsimp only; omega) | (simp; omega) | (simp; done))) rfl rfl ?_ | refine oQ (Q_lda rfl rfl rfl rfl rfl (by first | omega | (dsimp only; omega) | (simp; omega) | (simp; done))) rfl rfl ?_
            refine oQ (Q_call0 (toConic_con _ qlc) rfl rfl rfl) rfl rfl ?_
            refine oCall (him) [] 1 rfl rfl (Fits.mk' vHn rfl rfl (by simp)) rfl rfl ?_
            rintro r H1 hR
            obtain ⟨k1, sp1, hk1, hs1, rfl, rfl⟩ := listR_pos hcd hR
            refine ⟨.tuple [.slice 2 0 LL.length k1, .int 0], [(2, .ints 64 (LL.flatten ++ sp1))], rfl, rfl, rfl, ?_⟩
            refine oQ (Q_move rfl rfl) rfl rfl ?_
            refine oQ (Q_extract rfl rfl) rfl rfl ?_
            refine oQ (Q_extract rfl rfl) rfl rfl ?_
            refine oQ (Q_assign rfl rfl) rfl rfl ?_
            refine oQ (Q_assign rfl rfl) rfl rfl ?_
            refine OW_nil ?_
            all_goals with_reducible refine tN ?_
            all_goals (
                refine CW_seq ?_
                refine CW_seq ?_
                refine CW_region ?_
                refine oQ (Q_move rfl rfl) rfl rfl ?_
                refine oQ (Q_move rfl rfl) rfl rfl ?_
                refine oQ (Q_call (eqPointS_same 64 64 LL sp1 sp0 k1 k0 h3 (by omega)) [(0, 2), (1, 1)] rfl rfl (Fits.mk' (vHc rfl (vHc rfl vHn)) rfl rfl (by simp)) rfl rfl) rfl rfl ?_
                refine oQ (Q_not rfl) rfl rfl ?_
                refine oQ (Q_move rfl rfl) rfl rfl ?_
                all_goals first | refine ogT rfl rfl (by with_reducible rfl) ?_ | refine og1 rfl rfl (by with_reducible rfl) rfl ?_ | refine og0 rfl rfl (by with_reducible rfl) rfl ?_ | refine ogP1 rfl rfl rfl (fun hg => ?_) (fun hg => ?_) | refine ogP0 rfl rfl rfl (fun hg => ?_) (fun hg => ?_)
                all_goals try simp only [decide_eq_true_eq, decide_eq_false_iff_not, beq_iff_eq, beq_eq_false_iff_ne, bne_iff_ne, bne_eq_false_iff_eq, Bool.not_eq_true', Bool.not_eq_false', Int.not_lt, Int.not_le, ne_eq, not_false_eq_true] at hg
                all_goals first | (refine oQ (Q_move rfl rfl) rfl rfl ?_) | skip
                all_goals first | refine ogT rfl rfl (by with_reducible rfl) ?_ | refine og1 rfl rfl (by with_reducible rfl) rfl ?_ | refine og0 rfl rfl (by with_reducible rfl) rfl ?_ | refine ogP1 rfl rfl rfl (fun hg => ?_) (fun hg => ?_) | refine ogP0 rfl rfl rfl (fun hg => ?_) (fun hg => ?_)
                all_goals try simp only [decide_eq_true_eq, decide_eq_false_iff_not, beq_iff_eq, beq_eq_false_iff_ne, bne_iff_ne, bne_eq_false_iff_eq, Bool.not_eq_true', Bool.not_eq_false', Int.not_lt, Int.not_le, ne_eq, not_false_eq_true] at hg
                all_goals first | (refine oQ (Q_move rfl rfl) rfl rfl ?_) | skip
                all_goals first | refine ogT rfl rfl (by with_reducible rfl) ?_ | refine og1 rfl rfl (by with_reducible rfl) rfl ?_ | refine og0 rfl rfl (by with_reducible rfl) rfl ?_ | refine ogP1 rfl rfl rfl (fun hg => ?_) (fun hg => ?_) | refine ogP0 rfl rfl rfl (fun hg => ?_) (fun hg => ?_)
                all_goals try simp only [decide_eq_true_eq, decide_eq_false_iff_not, beq_iff_eq, beq_eq_false_iff_ne, bne_iff_ne, bne_eq_false_iff_eq, Bool.not_eq_true', Bool.not_eq_false', Int.not_lt, Int.not_le, ne_eq, not_false_eq_true] at hg
                all_goals first | (refine oQ (Q_bin rfl rfl rfl) rfl rfl ?_) | skip
                all_goals first | refine oQ (Q_pick_t rfl (by with_reducible rfl) rfl rfl) rfl rfl ?_ | refine oQ (Q_pick_f rfl (by with_reducible rfl) rfl rfl) rfl rfl ?_
                all_goals refine OW_nil ?_
                all_goals with_reducible refine tN ?_
                all_goals (
                    first | refine CW_cond_t rfl (by with_reducible rfl) ?_ | refine CW_cond_f rfl (by with_reducible rfl) ?_ | refine CW_cond rfl (fun hc => ?_) (fun hc => ?_)
                    all_goals try simp only [decide_eq_true_eq, decide_eq_false_iff_not, beq_iff_eq, beq_eq_false_iff_ne, bne_iff_ne, bne_eq_false_iff_eq, Bool.not_eq_true', Bool.not_eq_false', Int.not_lt, Int.not_le, ne_eq, not_false_eq_true] at hc
                    all_goals try (exfalso; first | omega | (simp at hc; done); done)
                    all_goals first
                      | (
                        refine CW_skip ?_)
                      | (
                        refine CW_seq ?_
                        refine CW_region ?_
                        refine oQ (Q_assign rfl rfl) rfl rfl ?_
                        refine OW_nil ?_
                        all_goals with_reducible refine tN ?_
                        all_goals (
                            refine CW_ret ?_)))
                all_goals first
                  | with_reducible refine tR ?_
                  | with_reducible refine tE ?_
                  | (
                    with_reducible refine tN ?_
                    refine CW_seq ?_
                    refine CW_region ?_
                    refine oQ (Q_assign rfl rfl) rfl rfl ?_
                    refine OW_nil ?_
                    all_goals with_reducible refine tN ?_
                    all_goals (
                        refine CW_seq ?_
                        refine CW_region ?_
                        refine oQ (Q_move rfl rfl) rfl rfl ?_
                        refine oQ (Q_move rfl rfl) rfl rfl ?_
                        refine oCall (markPointS_con 101 64 (LL.flatten ++ sp1) LL.length k1 (by rw [List.length_append, hfl]; omega) (by omega) (by omega)) [(0, 2)] 0 rfl rfl (Fits.mk' (vHc rfl vHn) rfl rfl (by simp)) rfl rfl ?_
                        rintro r H1 ⟨rfl, rfl⟩
                        refine ⟨.int ((101 + LL.length * 3 : Nat) : Int), [(2, .ints 64 (seqL 101 (LL.length * 3) ++ (LL.flatten ++ sp1).drop (LL.length * 3)))], rfl, rfl, rfl, ?_⟩
                        refine oQ (Q_assign rfl rfl) rfl rfl ?_
                        refine OW_nil ?_
                        all_goals with_reducible refine tN ?_
                        all_goals (
                            refine CW_seq ?_
                            refine CW_region ?_
                            refine oQ (Q_assign rfl rfl) rfl rfl ?_
                            refine OW_nil ?_
                            all_goals with_reducible refine tN ?_
                            all_goals (
                                refine CW_seq ?_
                                refine CW_region ?_
                                refine oQ (Q_move rfl rfl) rfl rfl ?_
                                refine oQ (Q_move rfl rfl) rfl rfl ?_
                                refine oQ (Q_call (heldPointS_con 101 64 ((LL.flatten ++ sp1).drop (LL.length * 3)) LL.length k1 (by omega) (by omega)) [(0, 2)] rfl rfl (Fits.mk' (vHc rfl vHn) rfl rfl (by simp)) rfl rfl) rfl rfl ?_
                                refine oQ (Q_assign rfl rfl) rfl rfl ?_
                                refine OW_nil ?_
                                all_goals with_reducible refine tN ?_
                                all_goals (
                                    refine CW_seq ?_
                                    refine CW_seq ?_
                                    refine CW_region ?_
                                    refine oQ (Q_move rfl rfl) rfl rfl ?_
                                    refine oQ (Q_bin rfl rfl rfl) rfl rfl ?_
                                    refine OW_nil ?_
                                    all_goals with_reducible refine tN ?_
                                    all_goals (
                                        first | refine CW_cond_t rfl (by with_reducible rfl) ?_ | refine CW_cond_f rfl (by with_reducible rfl) ?_ | refine CW_cond rfl (fun hc => ?_) (fun hc => ?_)
                                        all_goals try simp only [decide_eq_true_eq, decide_eq_false_iff_not, beq_iff_eq, beq_eq_false_iff_ne, bne_iff_ne, bne_eq_false_iff_eq, Bool.not_eq_true', Bool.not_eq_false', Int.not_lt, Int.not_le, ne_eq, not_false_eq_true] at hc
                                        all_goals try (exfalso; first | omega | (simp at hc; done); done)
                                        all_goals first
                                          | (
                                            refine CW_skip ?_)
                                          | (
                                            refine CW_seq ?_
                                            refine CW_region ?_
                                            refine oQ (Q_assign rfl rfl) rfl rfl ?_
                                            refine OW_nil ?_
                                            all_goals with_reducible refine tN ?_
                                            all_goals (
                                                refine CW_ret ?_)))
                                    all_goals first
                                      | with_reducible refine tR ?_
                                      | with_reducible refine tE ?_
                                      | (
                                        with_reducible refine tN ?_
                                        refine CW_seq ?_
                                        refine CW_seq ?_
                                        refine CW_region ?_
                                        refine oQ (Q_move rfl rfl) rfl rfl ?_
                                        refine oQ (Q_move rfl rfl) rfl rfl ?_
                                        refine oQ (Q_bin rfl rfl rfl) rfl rfl ?_
                                        refine OW_nil ?_
                                        all_goals with_reducible refine tN ?_
                                        all_goals (
                                            first | refine CW_cond_t rfl (by with_reducible rfl) ?_ | refine CW_cond_f rfl (by with_reducible rfl) ?_ | refine CW_cond rfl (fun hc => ?_) (fun hc => ?_)
                                            all_goals try simp only [decide_eq_true_eq, decide_eq_false_iff_not, beq_iff_eq, beq_eq_false_iff_ne, bne_iff_ne, bne_eq_false_iff_eq, Bool.not_eq_true', Bool.not_eq_false', Int.not_lt, Int.not_le, ne_eq, not_false_eq_true] at hc
                                            all_goals try (exfalso; first | omega | (simp at hc; done); done)
                                            all_goals first
                                              | (
                                                refine CW_skip ?_)
                                              | (
                                                refine CW_seq ?_
                                                refine CW_region ?_
                                                refine oQ (Q_assign rfl rfl) rfl rfl ?_
                                                refine OW_nil ?_
                                                all_goals with_reducible refine tN ?_
                                                all_goals (
                                                    refine CW_ret ?_)))
                                        all_goals first
                                          | with_reducible refine tR ?_
                                          | with_reducible refine tE ?_
                                          | (
                                            with_reducible refine tN ?_
                                            refine CW_seq ?_
                                            refine CW_region ?_
                                            refine oQ (Q_move rfl rfl) rfl rfl ?_
                                            first | refine oQ (Q_ldw rfl rfl rfl rfl (by first | omega | (dsimp only; omega) | (simp; omega) | (simp; done))) rfl rfl ?_ | refine oQ (Q_lda rfl rfl rfl rfl rfl (by first | omega | (dsimp only; omega) | (simp; omega) | (simp; done))) rfl rfl ?_
                                            refine oQ (Q_call0 (toConic_con _ qlc) rfl rfl rfl) rfl rfl ?_
                                            refine oCall (him) [] 1 rfl rfl (Fits.mk' vHn rfl rfl (by simp)) rfl rfl ?_
                                            rintro r H1 hR
                                            obtain ⟨k2, sp2, hk2, hs2, rfl, rfl⟩ := listR_pos hcd hR
                                            refine ⟨.tuple [.slice 3 0 LL.length k2, .int 0], [(3, .ints 64 (LL.flatten ++ sp2))], rfl, rfl, rfl, ?_⟩
                                            refine oQ (Q_move rfl rfl) rfl rfl ?_
                                            refine oQ (Q_extract rfl rfl) rfl rfl ?_
                                            refine oQ (Q_extract rfl rfl) rfl rfl ?_
                                            refine oQ (Q_assign rfl rfl) rfl rfl ?_
                                            refine oQ (Q_assign rfl rfl) rfl rfl ?_
                                            refine OW_nil ?_
                                            all_goals with_reducible refine tN ?_
                                            all_goals (
                                                refine CW_seq ?_
                                                refine CW_seq ?_
                                                refine CW_region ?_
                                                refine oQ (Q_move rfl rfl) rfl rfl ?_
                                                refine oQ (Q_move rfl rfl) rfl rfl ?_
                                                refine oQ (Q_call (eqPointS_same 64 64 LL sp2 sp0 k2 k0 h3 (by omega)) [(0, 3), (1, 1)] rfl rfl (Fits.mk' (vHc rfl (vHc rfl vHn)) rfl rfl (by simp)) rfl rfl) rfl rfl ?_
                                                refine oQ (Q_not rfl) rfl rfl ?_
                                                refine oQ (Q_move rfl rfl) rfl rfl ?_
                                                all_goals first | refine ogT rfl rfl (by with_reducible rfl) ?_ | refine og1 rfl rfl (by with_reducible rfl) rfl ?_ | refine og0 rfl rfl (by with_reducible rfl) rfl ?_ | refine ogP1 rfl rfl rfl (fun hg => ?_) (fun hg => ?_) | refine ogP0 rfl rfl rfl (fun hg => ?_) (fun hg => ?_)
                                                all_goals try simp only [decide_eq_true_eq, decide_eq_false_iff_not, beq_iff_eq, beq_eq_false_iff_ne, bne_iff_ne, bne_eq_false_iff_eq, Bool.not_eq_true', Bool.not_eq_false', Int.not_lt, Int.not_le, ne_eq, not_false_eq_true] at hg
                                                all_goals first | (refine oQ (Q_move rfl rfl) rfl rfl ?_) | skip
                                                all_goals first | refine ogT rfl rfl (by with_reducible rfl) ?_ | refine og1 rfl rfl (by with_reducible rfl) rfl ?_ | refine og0 rfl rfl (by with_reducible rfl) rfl ?_ | refine ogP1 rfl rfl rfl (fun hg => ?_) (fun hg => ?_) | refine ogP0 rfl rfl rfl (fun hg => ?_) (fun hg => ?_)
                                                all_goals try simp only [decide_eq_true_eq, decide_eq_false_iff_not, beq_iff_eq, beq_eq_false_iff_ne, bne_iff_ne, bne_eq_false_iff_eq, Bool.not_eq_true', Bool.not_eq_false', Int.not_lt, Int.not_le, ne_eq, not_false_eq_true] at hg
                                                all_goals first | (refine oQ (Q_move rfl rfl) rfl rfl ?_) | skip
                                                all_goals first | refine ogT rfl rfl (by with_reducible rfl) ?_ | refine og1 rfl rfl (by with_reducible rfl) rfl ?_ | refine og0 rfl rfl (by with_reducible rfl) rfl ?_ | refine ogP1 rfl rfl rfl (fun hg => ?_) (fun hg => ?_) | refine ogP0 rfl rfl rfl (fun hg => ?_) (fun hg => ?_)
                                                all_goals try simp only [decide_eq_true_eq, decide_eq_false_iff_not, beq_iff_eq, beq_eq_false_iff_ne, bne_iff_ne, bne_eq_false_iff_eq, Bool.not_eq_true', Bool.not_eq_false', Int.not_lt, Int.not_le, ne_eq, not_false_eq_true] at hg
                                                all_goals first | (refine oQ (Q_bin rfl rfl rfl) rfl rfl ?_) | skip
                                                all_goals first | refine oQ (Q_pick_t rfl (by with_reducible rfl) rfl rfl) rfl rfl ?_ | refine oQ (Q_pick_f rfl (by with_reducible rfl) rfl rfl) rfl rfl ?_
                                                all_goals refine OW_nil ?_
                                                all_goals with_reducible refine tN ?_
                                                all_goals (
                                                    first | refine CW_cond_t rfl (by with_reducible rfl) ?_ | refine CW_cond_f rfl (by with_reducible rfl) ?_ | refine CW_cond rfl (fun hc => ?_) (fun hc => ?_)
                                                    all_goals try simp only [decide_eq_true_eq, decide_eq_false_iff_not, beq_iff_eq, beq_eq_false_iff_ne, bne_iff_ne, bne_eq_false_iff_eq, Bool.not_eq_true', Bool.not_eq_false', Int.not_lt, Int.not_le, ne_eq, not_false_eq_true] at hc
                                                    all_goals try (exfalso; first | omega | (simp at hc; done); done)
                                                    all_goals first
                                                      | (
                                                        refine CW_skip ?_)
                                                      | (
                                                        refine CW_seq ?_
                                                        refine CW_region ?_
                                                        refine oQ (Q_assign rfl rfl) rfl rfl ?_
                                                        refine OW_nil ?_
                                                        all_goals with_reducible refine tN ?_
                                                        all_goals (
                                                            refine CW_ret ?_)))
                                                all_goals first
                                                  | with_reducible refine tR ?_
                                                  | with_reducible refine tE ?_
                                                  | (
                                                    with_reducible refine tN ?_
                                                    refine CW_seq ?_
                                                    refine CW_region ?_
                                                    refine oQ (Q_assign rfl rfl) rfl rfl ?_
                                                    refine OW_nil ?_
                                                    all_goals with_reducible refine tN ?_
                                                    all_goals (
                                                        refine CW_seq ?_
                                                        refine CW_region ?_
                                                        refine oQ (Q_move rfl rfl) rfl rfl ?_
                                                        refine oQ (Q_move rfl rfl) rfl rfl ?_
                                                        refine oQ (Q_call (heldPointS_con 101 64 ((LL.flatten ++ sp1).drop (LL.length * 3)) LL.length k1 (by omega) (by omega)) [(0, 2)] rfl rfl (Fits.mk' (vHc rfl vHn) rfl rfl (by simp)) rfl rfl) rfl rfl ?_
                                                        refine oQ (Q_assign rfl rfl) rfl rfl ?_
                                                        refine OW_nil ?_
                                                        all_goals with_reducible refine tN ?_
                                                        all_goals (
                                                            refine CW_seq ?_
                                                            refine CW_seq ?_
                                                            refine CW_region ?_
                                                            refine oQ (Q_move rfl rfl) rfl rfl ?_
                                                            refine oQ (Q_bin rfl rfl rfl) rfl rfl ?_
                                                            refine OW_nil ?_
                                                            all_goals with_reducible refine tN ?_
                                                            all_goals (
                                                                first | refine CW_cond_t rfl (by with_reducible rfl) ?_ | refine CW_cond_f rfl (by with_reducible rfl) ?_ | refine CW_cond rfl (fun hc => ?_) (fun hc => ?_)
                                                                all_goals try simp only [decide_eq_true_eq, decide_eq_false_iff_not, beq_iff_eq, beq_eq_false_iff_ne, bne_iff_ne, bne_eq_false_iff_eq, Bool.not_eq_true', Bool.not_eq_false', Int.not_lt, Int.not_le, ne_eq, not_false_eq_true] at hc
                                                                all_goals try (exfalso; first | omega | (simp at hc; done); done)
                                                                all_goals first
                                                                  | (
                                                                    refine CW_skip ?_)
                                                                  | (
                                                                    refine CW_seq ?_
                                                                    refine CW_region ?_
                                                                    refine oQ (Q_assign rfl rfl) rfl rfl ?_
                                                                    refine OW_nil ?_
                                                                    all_goals with_reducible refine tN ?_
                                                                    all_goals (
                                                                        refine CW_ret ?_)))
                                                            all_goals first
                                                              | with_reducible refine tR ?_
                                                              | with_reducible refine tE ?_
                                                              | (
                                                                with_reducible refine tN ?_
                                                                refine CW_seq ?_
                                                                refine CW_seq ?_
                                                                refine CW_region ?_
                                                                refine oQ (Q_move rfl rfl) rfl rfl ?_
                                                                refine oQ (Q_move rfl rfl) rfl rfl ?_
                                                                refine oQ (Q_bin rfl rfl rfl) rfl rfl ?_
                                                                refine OW_nil ?_
                                                                all_goals with_reducible refine tN ?_
                                                                all_goals (
                                                                    first | refine CW_cond_t rfl (by with_reducible rfl) ?_ | refine CW_cond_f rfl (by with_reducible rfl) ?_ | refine CW_cond rfl (fun hc => ?_) (fun hc => ?_)
                                                                    all_goals try simp only [decide_eq_true_eq, decide_eq_false_iff_not, beq_iff_eq, beq_eq_false_iff_ne, bne_iff_ne, bne_eq_false_iff_eq, Bool.not_eq_true', Bool.not_eq_false', Int.not_lt, Int.not_le, ne_eq, not_false_eq_true] at hc
                                                                    all_goals try (exfalso; first | omega | (simp at hc; done); done)
                                                                    all_goals first
                                                                      | (
                                                                        refine CW_skip ?_)
                                                                      | (
                                                                        refine CW_seq ?_
                                                                        refine CW_region ?_
                                                                        refine oQ (Q_assign rfl rfl) rfl rfl ?_
                                                                        refine OW_nil ?_
                                                                        all_goals with_reducible refine tN ?_
                                                                        all_goals (
                                                                            refine CW_ret ?_)))
                                                                all_goals first
                                                                  | with_reducible refine tR ?_
                                                                  | with_reducible refine tE ?_
                                                                  | (
                                                                    with_reducible refine tN ?_
                                                                    refine CW_seq ?_
                                                                    refine CW_region ?_
                                                                    refine oQ (Q_assign rfl rfl) rfl rfl ?_
                                                                    refine OW_nil ?_
                                                                    all_goals with_reducible refine tN ?_
                                                                    all_goals (
                                                                        refine CW_ret ?_)))))))))))))))))
    all_goals (
        first | ((refine exitQ (.inr rfl) 0 (.cons (.tmp rfl rfl) .nil) ?_ rfl vHn rfl rfl); rfl) | (exfalso; simp at hg; done) | (exfalso; simp_all; done))
  · skip
    refine conW tab_ok [(0, .int p), (1, .arr c)] 0 [] [] Try.func8 rfl rfl rfl rfl rfl rfl rfl rfl rfl ?_
    refine CW_seq ?_
    refine CW_region ?_
    refine oBox rfl rfl rfl rfl rfl rfl ?_
    refine oQ (Q_assign rfl rfl) rfl rfl ?_
    refine OW_nil ?_
    all_goals with_reducible refine tN ?_
    all_goals (
        refine CW_seq ?_
        refine CW_region ?_
        refine oQ (Q_move rfl rfl) rfl rfl ?_
        first | refine oQ (Q_ldw rfl rfl rfl rfl (by first | omega | (dsimp only; omega) | (simp; omega) | (simp; done))) rfl rfl ?_ | refine oQ (Q_lda rfl rfl rfl rfl rfl (by first | omega | (dsimp only; omega) | (simp; omega) | (simp; done))) rfl rfl ?_
        refine oQ (Q_call0 (toConic_con _ qlc) rfl rfl rfl) rfl rfl ?_
        refine oCall (spec_PointsOfConic_con p c qlc) [] 0 rfl rfl (Fits.mk' vHn rfl rfl (by simp)) rfl rfl ?_
        rintro r H1 hR
        obtain ⟨rfl, rfl⟩ := listR_neg hcd hR
        refine ⟨.tuple [.nilsl, .int (codeB p (pointB p c))], [], rfl, rfl, rfl, ?_⟩
        refine oQ (Q_move rfl rfl) rfl rfl ?_
        refine oQ (Q_extract rfl rfl) rfl rfl ?_
        refine oQ (Q_extract rfl rfl) rfl rfl ?_
        refine oQ (Q_assign rfl rfl) rfl rfl ?_
        refine oQ (Q_assign rfl rfl) rfl rfl ?_
        refine OW_nil ?_
        all_goals with_reducible refine tN ?_
        all_goals (
            refine CW_seq ?_
            refine CW_region ?_
            refine oQ (Q_move rfl rfl) rfl rfl ?_
            first | refine oQ (Q_ldw rfl rfl rfl rfl (by first | omega | (dsimp only; omega) | (simp; omega) | (simp; done))) rfl rfl ?_ | refine oQ (Q_lda rfl rfl rfl rfl rfl (by first | omega | (dsimp only; omega) | (simp; omega) | (simp; done))) rfl rfl ?_
            refine oQ (Q_call0 (toConic_con _ qlc) rfl rfl rfl) rfl rfl ?_
            refine oCall (impl_PointsOfConic_con p c qlc) [] 0 rfl rfl (Fits.mk' vHn rfl rfl (by simp)) rfl rfl ?_
            rintro r H1 hR
            obtain ⟨rfl, rfl⟩ := listR_neg hcd hR
            refine ⟨.tuple [.nilsl, .int (codeB p (pointB p c))], [], rfl, rfl, rfl, ?_⟩
            refine oQ (Q_move rfl rfl) rfl rfl ?_
            refine oQ (Q_extract rfl rfl) rfl rfl ?_
            refine oQ (Q_extract rfl rfl) rfl rfl ?_
            refine oQ (Q_assign rfl rfl) rfl rfl ?_
            refine oQ (Q_assign rfl rfl) rfl rfl ?_
            refine OW_nil ?_
            all_goals with_reducible refine tN ?_
            all_goals (
                refine CW_seq ?_
                refine CW_seq ?_
                refine CW_region ?_
                refine oQ (Q_move rfl rfl) rfl rfl ?_
                refine oQ (Q_move rfl rfl) rfl rfl ?_
                refine oQ (Q_call0 (eqPointS_nn) rfl rfl rfl) rfl rfl ?_
                refine oQ (Q_not rfl) rfl rfl ?_
                refine oQ (Q_move rfl rfl) rfl rfl ?_
                all_goals first | refine ogT rfl rfl (by with_reducible rfl) ?_ | refine og1 rfl rfl (by with_reducible rfl) rfl ?_ | refine og0 rfl rfl (by with_reducible rfl) rfl ?_ | refine ogP1 rfl rfl rfl (fun hg => ?_) (fun hg => ?_) | refine ogP0 rfl rfl rfl (fun hg => ?_) (fun hg => ?_)
                all_goals try simp only [decide_eq_true_eq, decide_eq_false_iff_not, beq_iff_eq, beq_eq_false_iff_ne, bne_iff_ne, bne_eq_false_iff_eq, Bool.not_eq_true', Bool.not_eq_false', Int.not_lt, Int.not_le, ne_eq, not_false_eq_true] at hg
                all_goals first | (refine oQ (Q_move rfl rfl) rfl rfl ?_) | skip
                all_goals first | refine ogT rfl rfl (by with_reducible rfl) ?_ | refine og1 rfl rfl (by with_reducible rfl) rfl ?_ | refine og0 rfl rfl (by with_reducible rfl) rfl ?_ | refine ogP1 rfl rfl rfl (fun hg => ?_) (fun hg => ?_) | refine ogP0 rfl rfl rfl (fun hg => ?_) (fun hg => ?_)
                all_goals try simp only [decide_eq_true_eq, decide_eq_false_iff_not, beq_iff_eq, beq_eq_false_iff_ne, bne_iff_ne, bne_eq_false_iff_eq, Bool.not_eq_true', Bool.not_eq_false', Int.not_lt, Int.not_le, ne_eq, not_false_eq_true] at hg
                all_goals first | (refine oQ (Q_move rfl rfl) rfl rfl ?_) | skip
                all_goals first | refine ogT rfl rfl (by with_reducible rfl) ?_ | refine og1 rfl rfl (by with_reducible rfl) rfl ?_ | refine og0 rfl rfl (by with_reducible rfl) rfl ?_ | refine ogP1 rfl rfl rfl (fun hg => ?_) (fun hg => ?_) | refine ogP0 rfl rfl rfl (fun hg => ?_) (fun hg => ?_)
                all_goals try simp only [decide_eq_true_eq, decide_eq_false_iff_not, beq_iff_eq, beq_eq_false_iff_ne, bne_iff_ne, bne_eq_false_iff_eq, Bool.not_eq_true', Bool.not_eq_false', Int.not_lt, Int.not_le, ne_eq, not_false_eq_true] at hg
                all_goals first | (refine oQ (Q_bin rfl rfl rfl) rfl rfl ?_) | skip
                all_goals first | refine oQ (Q_pick_t rfl (by with_reducible rfl) rfl rfl) rfl rfl ?_ | refine oQ (Q_pick_f rfl (by with_reducible rfl) rfl rfl) rfl rfl ?_
                all_goals refine OW_nil ?_
                all_goals with_reducible refine tN ?_
                all_goals (
                    first | refine CW_cond_t rfl (by with_reducible rfl) ?_ | refine CW_cond_f rfl (by with_reducible rfl) ?_ | refine CW_cond rfl (fun hc => ?_) (fun hc => ?_)
                    all_goals try simp only [decide_eq_true_eq, decide_eq_false_iff_not, beq_iff_eq, beq_eq_false_iff_ne, bne_iff_ne, bne_eq_false_iff_eq, Bool.not_eq_true', Bool.not_eq_false', Int.not_lt, Int.not_le, ne_eq, not_false_eq_true] at hc
                    all_goals try (exfalso; first | omega | (simp at hc; done); done)
                    all_goals first
                      | (
                        refine CW_skip ?_)
                      | (
                        refine CW_seq ?_
                        refine CW_region ?_
                        refine oQ (Q_assign rfl rfl) rfl rfl ?_
                        refine OW_nil ?_
                        all_goals with_reducible refine tN ?_
                        all_goals (
                            refine CW_ret ?_)))
                all_goals first
                  | with_reducible refine tR ?_
                  | with_reducible refine tE ?_
                  | (
                    with_reducible refine tN ?_
                    refine CW_seq ?_
                    refine CW_region ?_
                    refine oQ (Q_assign rfl rfl) rfl rfl ?_
                    refine OW_nil ?_
                    all_goals with_reducible refine tN ?_
                    all_goals (
                        refine CW_seq ?_
                        refine CW_region ?_
                        refine oQ (Q_move rfl rfl) rfl rfl ?_
                        refine oQ (Q_move rfl rfl) rfl rfl ?_
                        refine oQ (Q_call0 (markPointS_nil 101) rfl rfl rfl) rfl rfl ?_
                        refine oQ (Q_assign rfl rfl) rfl rfl ?_
                        refine OW_nil ?_
                        all_goals with_reducible refine tN ?_
                        all_goals (
                            refine CW_seq ?_
                            refine CW_region ?_
                            refine oQ (Q_assign rfl rfl) rfl rfl ?_
                            refine OW_nil ?_
                            all_goals with_reducible refine tN ?_
                            all_goals (
                                refine CW_seq ?_
                                refine CW_region ?_
                                refine oQ (Q_move rfl rfl) rfl rfl ?_
                                refine oQ (Q_move rfl rfl) rfl rfl ?_
                                refine oQ (Q_call0 (heldPointS_nil 101) rfl rfl rfl) rfl rfl ?_
                                refine oQ (Q_assign rfl rfl) rfl rfl ?_
                                refine OW_nil ?_
                                all_goals with_reducible refine tN ?_
                                all_goals (
                                    refine CW_seq ?_
                                    refine CW_seq ?_
                                    refine CW_region ?_
                                    refine oQ (Q_move rfl rfl) rfl rfl ?_
                                    refine oQ (Q_bin rfl rfl rfl) rfl rfl ?_
                                    refine OW_nil ?_
                                    all_goals with_reducible refine tN ?_
                                    all_goals (
                                        first | refine CW_cond_t rfl (by with_reducible rfl) ?_ | refine CW_cond_f rfl (by with_reducible rfl) ?_ | refine CW_cond rfl (fun hc => ?_) (fun hc => ?_)
                                        all_goals try simp only [decide_eq_true_eq, decide_eq_false_iff_not, beq_iff_eq, beq_eq_false_iff_ne, bne_iff_ne, bne_eq_false_iff_eq, Bool.not_eq_true', Bool.not_eq_false', Int.not_lt, Int.not_le, ne_eq, not_false_eq_true] at hc
                                        all_goals try (exfalso; first | omega | (simp at hc; done); done)
                                        all_goals first
                                          | (
                                            refine CW_skip ?_)
                                          | (
                                            refine CW_seq ?_
                                            refine CW_region ?_
                                            refine oQ (Q_assign rfl rfl) rfl rfl ?_
                                            refine OW_nil ?_
                                            all_goals with_reducible refine tN ?_
                                            all_goals (
                                                refine CW_ret ?_)))
                                    all_goals first
                                      | with_reducible refine tR ?_
                                      | with_reducible refine tE ?_
                                      | (
                                        with_reducible refine tN ?_
                                        refine CW_seq ?_
                                        refine CW_seq ?_
                                        refine CW_region ?_
                                        refine oQ (Q_move rfl rfl) rfl rfl ?_
                                        refine oQ (Q_move rfl rfl) rfl rfl ?_
                                        refine oQ (Q_bin rfl rfl rfl) rfl rfl ?_
                                        refine OW_nil ?_
                                        all_goals with_reducible refine tN ?_
                                        all_goals (
                                            first | refine CW_cond_t rfl (by with_reducible rfl) ?_ | refine CW_cond_f rfl (by with_reducible rfl) ?_ | refine CW_cond rfl (fun hc => ?_) (fun hc => ?_)
                                            all_goals try simp only [decide_eq_true_eq, decide_eq_false_iff_not, beq_iff_eq, beq_eq_false_iff_ne, bne_iff_ne, bne_eq_false_iff_eq, Bool.not_eq_true', Bool.not_eq_false', Int.not_lt, Int.not_le, ne_eq, not_false_eq_true] at hc
                                            all_goals try (exfalso; first | omega | (simp at hc; done); done)
                                            all_goals first
                                              | (
                                                refine CW_skip ?_)
                                              | (
                                                refine CW_seq ?_
                                                refine CW_region ?_
                                                refine oQ (Q_assign rfl rfl) rfl rfl ?_
                                                refine OW_nil ?_
                                                all_goals with_reducible refine tN ?_
                                                all_goals (
                                                    refine CW_ret ?_)))
                                        all_goals first
                                          | with_reducible refine tR ?_
                                          | with_reducible refine tE ?_
                                          | (
                                            with_reducible refine tN ?_
                                            refine CW_seq ?_
                                            refine CW_region ?_
                                            refine oQ (Q_move rfl rfl) rfl rfl ?_
                                            first | refine oQ (Q_ldw rfl rfl rfl rfl (by first | omega | (dsimp only; omega) | (simp; omega) | (simp; done))) rfl rfl ?_ | refine oQ (Q_lda rfl rfl rfl rfl rfl (by first | omega | (dsimp only; omega) | (simp; omega) | (simp; done))) rfl rfl ?_
                                            refine oQ (Q_call0 (toConic_con _ qlc) rfl rfl rfl) rfl rfl ?_
                                            refine oCall (impl_PointsOfConic_con p c qlc) [] 0 rfl rfl (Fits.mk' vHn rfl rfl (by simp)) rfl rfl ?_
                                            rintro r H1 hR
                                            obtain ⟨rfl, rfl⟩ := listR_neg hcd hR
                                            refine ⟨.tuple [.nilsl, .int (codeB p (pointB p c))], [], rfl, rfl, rfl, ?_⟩
                                            refine oQ (Q_move rfl rfl) rfl rfl ?_
                                            refine oQ (Q_extract rfl rfl) rfl rfl ?_
                                            refine oQ (Q_extract rfl rfl) rfl rfl ?_
                                            refine oQ (Q_assign rfl rfl) rfl rfl ?_
                                            refine oQ (Q_assign rfl rfl) rfl rfl ?_
                                            refine OW_nil ?_
                                            all_goals with_reducible refine tN ?_
                                            all_goals (
                                                refine CW_seq ?_
                                                refine CW_seq ?_
                                                refine CW_region ?_
                                                refine oQ (Q_move rfl rfl) rfl rfl ?_
                                                refine oQ (Q_move rfl rfl) rfl rfl ?_
                                                refine oQ (Q_call0 (eqPointS_nn) rfl rfl rfl) rfl rfl ?_
                                                refine oQ (Q_not rfl) rfl rfl ?_
                                                refine oQ (Q_move rfl rfl) rfl rfl ?_
                                                all_goals first | refine ogT rfl rfl (by with_reducible rfl) ?_ | refine og1 rfl rfl (by with_reducible rfl) rfl ?_ | refine og0 rfl rfl (by with_reducible rfl) rfl ?_ | refine ogP1 rfl rfl rfl (fun hg => ?_) (fun hg => ?_) | refine ogP0 rfl rfl rfl (fun hg => ?_) (fun hg => ?_)
                                                all_goals try simp only [decide_eq_true_eq, decide_eq_false_iff_not, beq_iff_eq, beq_eq_false_iff_ne, bne_iff_ne, bne_eq_false_iff_eq, Bool.not_eq_true', Bool.not_eq_false', Int.not_lt, Int.not_le, ne_eq, not_false_eq_true] at hg
                                                all_goals first | (refine oQ (Q_move rfl rfl) rfl rfl ?_) | skip
                                                all_goals first | refine ogT rfl rfl (by with_reducible rfl) ?_ | refine og1 rfl rfl (by with_reducible rfl) rfl ?_ | refine og0 rfl rfl (by with_reducible rfl) rfl ?_ | refine ogP1 rfl rfl rfl (fun hg => ?_) (fun hg => ?_) | refine ogP0 rfl rfl rfl (fun hg => ?_) (fun hg => ?_)
                                                all_goals try simp only [decide_eq_true_eq, decide_eq_false_iff_not, beq_iff_eq, beq_eq_false_iff_ne, bne_iff_ne, bne_eq_false_iff_eq, Bool.not_eq_true', Bool.not_eq_false', Int.not_lt, Int.not_le, ne_eq, not_false_eq_true] at hg
                                                all_goals first | (refine oQ (Q_move rfl rfl) rfl rfl ?_) | skip
                                                all_goals first | refine ogT rfl rfl (by with_reducible rfl) ?_ | refine og1 rfl rfl (by with_reducible rfl) rfl ?_ | refine og0 rfl rfl (by with_reducible rfl) rfl ?_ | refine ogP1 rfl rfl rfl (fun hg => ?_) (fun hg => ?_) | refine ogP0 rfl rfl rfl (fun hg => ?_) (fun hg => ?_)
                                                all_goals try simp only [decide_eq_true_eq, decide_eq_false_iff_not, beq_iff_eq, beq_eq_false_iff_ne, bne_iff_ne, bne_eq_false_iff_eq, Bool.not_eq_true', Bool.not_eq_false', Int.not_lt, Int.not_le, ne_eq, not_false_eq_true] at hg
                                                all_goals first | (refine oQ (Q_bin rfl rfl rfl) rfl rfl ?_) | skip
                                                all_goals first | refine oQ (Q_pick_t rfl (by with_reducible rfl) rfl rfl) rfl rfl ?_ | refine oQ (Q_pick_f rfl (by with_reducible rfl) rfl rfl) rfl rfl ?_
                                                all_goals refine OW_nil ?_
                                                all_goals with_reducible refine tN ?_
                                                all_goals (
                                                    first | refine CW_cond_t rfl (by with_reducible rfl) ?_ | refine CW_cond_f rfl (by with_reducible rfl) ?_ | refine CW_cond rfl (fun hc => ?_) (fun hc => ?_)
                                                    all_goals try simp only [decide_eq_true_eq, decide_eq_false_iff_not, beq_iff_eq, beq_eq_false_iff_ne, bne_iff_ne, bne_eq_false_iff_eq, Bool.not_eq_true', Bool.not_eq_false', Int.not_lt, Int.not_le, ne_eq, not_false_eq_true] at hc
                                                    all_goals try (exfalso; first | omega | (simp at hc; done); done)
                                                    all_goals first
                                                      | (
                                                        refine CW_skip ?_)
                                                      | (
                                                        refine CW_seq ?_
                                                        refine CW_region ?_
                                                        refine oQ (Q_assign rfl rfl) rfl rfl ?_
                                                        refine OW_nil ?_
                                                        all_goals with_reducible refine tN ?_
                                                        all_goals (
                                                            refine CW_ret ?_)))
                                                all_goals first
                                                  | with_reducible refine tR ?_
                                                  | with_reducible refine tE ?_
                                                  | (
                                                    with_reducible refine tN ?_
                                                    refine CW_seq ?_
                                                    refine CW_region ?_
                                                    refine oQ (Q_assign rfl rfl) rfl rfl ?_
                                                    refine OW_nil ?_
                                                    all_goals with_reducible refine tN ?_
                                                    all_goals (
                                                        refine CW_seq ?_
                                                        refine CW_region ?_
                                                        refine oQ (Q_move rfl rfl) rfl rfl ?_
                                                        refine oQ (Q_move rfl rfl) rfl rfl ?_
                                                        refine oQ (Q_call0 (heldPointS_nil 101) rfl rfl rfl) rfl rfl ?_
                                                        refine oQ (Q_assign rfl rfl) rfl rfl ?_
                                                        refine OW_nil ?_
                                                        all_goals with_reducible refine tN ?_
                                                        all_goals (
                                                            refine CW_seq ?_
                                                            refine CW_seq ?_
                                                            refine CW_region ?_
                                                            refine oQ (Q_move rfl rfl) rfl rfl ?_
                                                            refine oQ (Q_bin rfl rfl rfl) rfl rfl ?_
                                                            refine OW_nil ?_
                                                            all_goals with_reducible refine tN ?_
                                                            all_goals (
                                                                first | refine CW_cond_t rfl (by with_reducible rfl) ?_ | refine CW_cond_f rfl (by with_reducible rfl) ?_ | refine CW_cond rfl (fun hc => ?_) (fun hc => ?_)
                                                                all_goals try simp only [decide_eq_true_eq, decide_eq_false_iff_not, beq_iff_eq, beq_eq_false_iff_ne, bne_iff_ne, bne_eq_false_iff_eq, Bool.not_eq_true', Bool.not_eq_false', Int.not_lt, Int.not_le, ne_eq, not_false_eq_true] at hc
                                                                all_goals try (exfalso; first | omega | (simp at hc; done); done)
                                                                all_goals first
                                                                  | (
                                                                    refine CW_skip ?_)
                                                                  | (
                                                                    refine CW_seq ?_
                                                                    refine CW_region ?_
                                                                    refine oQ (Q_assign rfl rfl) rfl rfl ?_
                                                                    refine OW_nil ?_
                                                                    all_goals with_reducible refine tN ?_
                                                                    all_goals (
                                                                        refine CW_ret ?_)))
                                                            all_goals first
                                                              | with_reducible refine tR ?_
                                                              | with_reducible refine tE ?_
                                                              | (
                                                                with_reducible refine tN ?_
                                                                refine CW_seq ?_
                                                                refine CW_seq ?_
                                                                refine CW_region ?_
                                                                refine oQ (Q_move rfl rfl) rfl rfl ?_
                                                                refine oQ (Q_move rfl rfl) rfl rfl ?_
                                                                refine oQ (Q_bin rfl rfl rfl) rfl rfl ?_
                                                                refine OW_nil ?_
                                                                all_goals with_reducible refine tN ?_
                                                                all_goals (
                                                                    first | refine CW_cond_t rfl (by with_reducible rfl) ?_ | refine CW_cond_f rfl (by with_reducible rfl) ?_ | refine CW_cond rfl (fun hc => ?_) (fun hc => ?_)
                                                                    all_goals try simp only [decide_eq_true_eq, decide_eq_false_iff_not, beq_iff_eq, beq_eq_false_iff_ne, bne_iff_ne, bne_eq_false_iff_eq, Bool.not_eq_true', Bool.not_eq_false', Int.not_lt, Int.not_le, ne_eq, not_false_eq_true] at hc
                                                                    all_goals try (exfalso; first | omega | (simp at hc; done); done)
                                                                    all_goals first
                                                                      | (
                                                                        refine CW_skip ?_)
                                                                      | (
                                                                        refine CW_seq ?_
                                                                        refine CW_region ?_
                                                                        refine oQ (Q_assign rfl rfl) rfl rfl ?_
                                                                        refine OW_nil ?_
                                                                        all_goals with_reducible refine tN ?_
                                                                        all_goals (
                                                                            refine CW_ret ?_)))
                                                                all_goals first
                                                                  | with_reducible refine tR ?_
                                                                  | with_reducible refine tE ?_
                                                                  | (
                                                                    with_reducible refine tN ?_
                                                                    refine CW_seq ?_
                                                                    refine CW_region ?_
                                                                    refine oQ (Q_assign rfl rfl) rfl rfl ?_
                                                                    refine OW_nil ?_
                                                                    all_goals with_reducible refine tN ?_
                                                                    all_goals (
                                                                        refine CW_ret ?_)))))))))))))))))
    all_goals (
        first | ((refine exitQ (.inr rfl) 0 (.cons (.tmp rfl rfl) .nil) ?_ rfl vHn rfl rfl); rfl) | (exfalso; simp at hg; done) | (exfalso; simp_all; done))
theorem law_FnExactMeetConic (p : Int) (c : List Int) (l : List Int) (qlc : c.length = 6) (qll : l.length = 3) : ConQ Try.prog [] 13 [.int p, .arr c, .arr l] [] (.bool true) := by
  by_cases hcd : codeB p (pointB p l && pointB p c) = 0
  · have h3 : ∀ x ∈ ((allPts p).filter fun m => (conV p c m == 0) && onB p m l), x.length = 3 := fun x hx => allPts_three (List.mem_filter.1 hx).1
    have hln : ((allPts p).filter fun m => (conV p c m == 0) && onB p m l).length ≤ 100000 := (by have h1 := allPts_len (codeB_zero.1 hcd).1; have h2 := List.length_filter_le (fun m => (conV p c m == 0) && onB p m l) (allPts p); omega)
    have hfl := flat3 h3
    generalize hLL : ((allPts p).filter fun m => (conV p c m == 0) && onB p m l) = LL at *
    have hsp := spec_MeetConic_con p c l qlc qll
    have him := impl_MeetConic_con p c l qlc qll
    rw [hLL] at hsp him
    refine conW tab_ok [(0, .int p), (1, .arr c), (2, .arr l)] 0 [] [] Try.func13 rfl rfl rfl rfl rfl rfl rfl rfl rfl ?_
    refine CW_seq ?_
    refine CW_region ?_
    refine oBox rfl rfl rfl rfl rfl rfl ?_
    refine oBox rfl rfl rfl rfl rfl rfl ?_
    refine oQ (Q_assign rfl rfl) rfl rfl ?_
    refine OW_nil ?_
    all_goals with_reducible refine tN ?_
    all_goals (
        refine CW_seq ?_
        refine CW_any (fun _ => false) 11 rfl lateOk (by decide +kernel) (fun hst => ?_)
        refine aQ 0 hst rfl rfl (by decide +kernel) (QX_of (Q_move rfl rfl) NE_move) rfl rfl ?_
        first | refine aQ 1 hst rfl rfl (by decide +kernel) (QX_of (Q_ldw rfl rfl rfl rfl (by first | omega | (dsimp only; omega) | (simp; omega) | (simp; done))) NE_load) rfl rfl ?_ | refine aQ 1 hst rfl rfl (by decide +kernel) (QX_of (Q_lda rfl rfl rfl rfl rfl (by first | omega | (dsimp only; omega) | (simp; omega) | (simp; done))) NE_load) rfl rfl ?_
        refine aQ 2 hst rfl rfl (by decide +kernel) (QX_call0 (toConic_con _ qlc) rfl rfl rfl) rfl rfl ?_
        first | refine aQ 3 hst rfl rfl (by decide +kernel) (QX_of (Q_ldw rfl rfl rfl rfl (by first | omega | (dsimp only; omega) | (simp; omega) | (simp; done))) NE_load) rfl rfl ?_ | refine aQ 3 hst rfl rfl (by decide +kernel) (QX_of (Q_lda rfl rfl rfl rfl rfl (by first | omega | (dsimp only; omega) | (simp; omega) | (simp; done))) NE_load) rfl rfl ?_
        refine aQ 4 hst rfl rfl (by decide +kernel) (QX_call0 (toLine_con _ qll) rfl rfl rfl) rfl rfl ?_
        refine AW_one (i := 5) (by decide +kernel) ?_
        refine gCall rfl rfl (hsp) [] 1 rfl rfl (Fits.mk' vHn rfl rfl (by simp)) rfl rfl rfl ?_
        rintro r H1 hR
        obtain ⟨k0, sp0, hk0, hs0, rfl, rfl⟩ := listR_pos hcd hR
        refine ⟨.tuple [.slice 2 0 LL.length k0, .int 0], [(2, .ints 64 (LL.flatten ++ sp0))], rfl, keep_pre _ _, rfl, rfl, ?_⟩
        refine aQ 6 hst rfl rfl (by decide +kernel) (QX_of (Q_move rfl rfl) NE_move) rfl rfl ?_
        refine aExt 7 hst rfl rfl (by decide +kernel) rfl rfl rfl rfl ?_
        refine aExt 8 hst rfl rfl (by decide +kernel) rfl rfl rfl rfl ?_
        refine aQ 9 hst rfl rfl (by decide +kernel) (QX_of (Q_assign rfl rfl) NE_assign) rfl rfl ?_
        refine aQ 10 hst rfl rfl (by decide +kernel) (QX_of (Q_assign rfl rfl) NE_assign) rfl rfl ?_
        refine AW_done (by decide +kernel) ?_
        all_goals with_reducible refine tN ?_
        all_goals (
            refine CW_seq ?_
            refine CW_any (fun _ => false) 11 rfl lateOk (by decide +kernel) (fun hst => ?_)
            refine aQ 0 hst rfl rfl (by decide +kernel) (QX_of (Q_move rfl rfl) NE_move) rfl rfl ?_
            first | refine aQ 1 hst rfl rfl (by decide +kernel) (QX_of (Q_ldw rfl rfl rfl rfl (by first | omega | (dsimp only; omega) | (simp; omega) | (simp; done))) NE_load) rfl rfl ?_ | refine aQ 1 hst rfl rfl (by decide +kernel) (QX_of (Q_lda rfl rfl rfl rfl rfl (by first | omega | (dsimp only; omega) | (simp; omega) | (simp; done))) NE_load) rfl rfl ?_
            refine aQ 2 hst rfl rfl (by decide +kernel) (QX_call0 (toConic_con _ qlc) rfl rfl rfl) rfl rfl ?_
            first | refine aQ 3 hst rfl rfl (by decide +kernel) (QX_of (Q_ldw rfl rfl rfl rfl (by first | omega | (dsimp only; omega) | (simp; omega) | (simp; done))) NE_load) rfl rfl ?_ | refine aQ 3 hst rfl rfl (by decide +kernel) (QX_of (Q_lda rfl rfl rfl rfl rfl (by first | omega | (dsimp only; omega) | (simp; omega) | (simp; done))) NE_load) rfl rfl ?_
            refine aQ 4 hst rfl rfl (by decide +kernel) (QX_call0 (toLine_con _ qll) rfl rfl rfl) rfl rfl ?_
            refine AW_one (i := 5) (by decide +kernel) ?_
            refine gCall rfl rfl (him) [] 1 rfl rfl (Fits.mk' vHn rfl rfl (by simp)) rfl rfl rfl ?_
            rintro r H1 hR
            obtain ⟨k1, sp1, hk1, hs1, rfl, rfl⟩ := listR_pos hcd hR
            refine ⟨.tuple [.slice 3 0 LL.length k1, .int 0], [(3, .ints 64 (LL.flatten ++ sp1))], rfl, keep_pre _ _, rfl, rfl, ?_⟩
            refine aQ 6 hst rfl rfl (by decide +kernel) (QX_of (Q_move rfl rfl) NE_move) rfl rfl ?_
            refine aExt 7 hst rfl rfl (by decide +kernel) rfl rfl rfl rfl ?_
            refine aExt 8 hst rfl rfl (by decide +kernel) rfl rfl rfl rfl ?_
            refine aQ 9 hst rfl rfl (by decide +kernel) (QX_of (Q_assign rfl rfl) NE_assign) rfl rfl ?_
            refine aQ 10 hst rfl rfl (by decide +kernel) (QX_of (Q_assign rfl rfl) NE_assign) rfl rfl ?_
            refine AW_done (by decide +kernel) ?_
            all_goals with_reducible refine tN ?_
            all_goals (
                refine CW_seq ?_
                refine CW_seq ?_
                refine CW_region ?_
                refine oQ (Q_move rfl rfl) rfl rfl ?_
                refine oQ (Q_move rfl rfl) rfl rfl ?_
                refine oQ (Q_call (eqPointS_same 64 64 LL sp1 sp0 k1 k0 h3 (by omega)) [(0, 3), (1, 2)] rfl rfl (Fits.mk' (vHc rfl (vHc rfl vHn)) rfl rfl (by simp)) rfl rfl) rfl rfl ?_
                refine oQ (Q_not rfl) rfl rfl ?_
                refine oQ (Q_move rfl rfl) rfl rfl ?_
                all_goals first | refine ogT rfl rfl (by with_reducible rfl) ?_ | refine og1 rfl rfl (by with_reducible rfl) rfl ?_ | refine og0 rfl rfl (by with_reducible rfl) rfl ?_ | refine ogP1 rfl rfl rfl (fun hg => ?_) (fun hg => ?_) | refine ogP0 rfl rfl rfl (fun hg => ?_) (fun hg => ?_)
                all_goals try simp only [decide_eq_true_eq, decide_eq_false_iff_not, beq_iff_eq, beq_eq_false_iff_ne, bne_iff_ne, bne_eq_false_iff_eq, Bool.not_eq_true', Bool.not_eq_false', Int.not_lt, Int.not_le, ne_eq, not_false_eq_true] at hg
                all_goals first | (refine oQ (Q_move rfl rfl) rfl rfl ?_) | skip
                all_goals first | refine ogT rfl rfl (by with_reducible rfl) ?_ | refine og1 rfl rfl (by with_reducible rfl) rfl ?_ | refine og0 rfl rfl (by with_reducible rfl) rfl ?_ | refine ogP1 rfl rfl rfl (fun hg => ?_) (fun hg => ?_) | refine ogP0 rfl rfl rfl (fun hg => ?_) (fun hg => ?_)
                all_goals try simp only [decide_eq_true_eq, decide_eq_false_iff_not, beq_iff_eq, beq_eq_false_iff_ne, bne_iff_ne, bne_eq_false_iff_eq, Bool.not_eq_true', Bool.not_eq_false', Int.not_lt, Int.not_le, ne_eq, not_false_eq_true] at hg
                all_goals first | (refine oQ (Q_move rfl rfl) rfl rfl ?_) | skip
                all_goals first | refine ogT rfl rfl (by with_reducible rfl) ?_ | refine og1 rfl rfl (by with_reducible rfl) rfl ?_ | refine og0 rfl rfl (by with_reducible rfl) rfl ?_ | refine ogP1 rfl rfl rfl (fun hg => ?_) (fun hg => ?_) | refine ogP0 rfl rfl rfl (fun hg => ?_) (fun hg => ?_)
                all_goals try simp only [decide_eq_true_eq, decide_eq_false_iff_not, beq_iff_eq, beq_eq_false_iff_ne, bne_iff_ne, bne_eq_false_iff_eq, Bool.not_eq_true', Bool.not_eq_false', Int.not_lt, Int.not_le, ne_eq, not_false_eq_true] at hg
                all_goals first | (refine oQ (Q_bin rfl rfl rfl) rfl rfl ?_) | skip
                all_goals first | refine oQ (Q_pick_t rfl (by with_reducible rfl) rfl rfl) rfl rfl ?_ | refine oQ (Q_pick_f rfl (by with_reducible rfl) rfl rfl) rfl rfl ?_
                all_goals refine OW_nil ?_
                all_goals with_reducible refine tN ?_
                all_goals (
                    first | refine CW_cond_t rfl (by with_reducible rfl) ?_ | refine CW_cond_f rfl (by with_reducible rfl) ?_ | refine CW_cond rfl (fun hc => ?_) (fun hc => ?_)
                    all_goals try simp only [decide_eq_true_eq, decide_eq_false_iff_not, beq_iff_eq, beq_eq_false_iff_ne, bne_iff_ne, bne_eq_false_iff_eq, Bool.not_eq_true', Bool.not_eq_false', Int.not_lt, Int.not_le, ne_eq, not_false_eq_true] at hc
                    all_goals try (exfalso; first | omega | (simp at hc; done); done)
                    all_goals first
                      | (
                        refine CW_skip ?_)
                      | (
                        refine CW_seq ?_
                        refine CW_region ?_
                        refine oQ (Q_assign rfl rfl) rfl rfl ?_
                        refine OW_nil ?_
                        all_goals with_reducible refine tN ?_
                        all_goals (
                            refine CW_ret ?_)))
                all_goals first
                  | with_reducible refine tR ?_
                  | with_reducible refine tE ?_
                  | (
                    with_reducible refine tN ?_
                    refine CW_seq ?_
                    refine CW_region ?_
                    refine oQ (Q_assign rfl rfl) rfl rfl ?_
                    refine OW_nil ?_
                    all_goals with_reducible refine tN ?_
                    all_goals (
                        refine CW_seq ?_
                        refine CW_region ?_
                        refine oQ (Q_move rfl rfl) rfl rfl ?_
                        refine oQ (Q_move rfl rfl) rfl rfl ?_
                        refine oCall (markPointS_con 101 64 (LL.flatten ++ sp1) LL.length k1 (by rw [List.length_append, hfl]; omega) (by omega) (by omega)) [(0, 3)] 0 rfl rfl (Fits.mk' (vHc rfl vHn) rfl rfl (by simp)) rfl rfl ?_
                        rintro r H1 ⟨rfl, rfl⟩
                        refine ⟨.int ((101 + LL.length * 3 : Nat) : Int), [(3, .ints 64 (seqL 101 (LL.length * 3) ++ (LL.flatten ++ sp1).drop (LL.length * 3)))], rfl, rfl, rfl, ?_⟩
                        refine oQ (Q_assign rfl rfl) rfl rfl ?_
                        refine OW_nil ?_
                        all_goals with_reducible refine tN ?_
                        all_goals (
                            refine CW_seq ?_
                            refine CW_region ?_
                            refine oQ (Q_assign rfl rfl) rfl rfl ?_
                            refine OW_nil ?_
                            all_goals with_reducible refine tN ?_
                            all_goals (
                                refine CW_seq ?_
                                refine CW_region ?_
                                refine oQ (Q_move rfl rfl) rfl rfl ?_
                                refine oQ (Q_move rfl rfl) rfl rfl ?_
                                refine oQ (Q_call (heldPointS_con 101 64 ((LL.flatten ++ sp1).drop (LL.length * 3)) LL.length k1 (by omega) (by omega)) [(0, 3)] rfl rfl (Fits.mk' (vHc rfl vHn) rfl rfl (by simp)) rfl rfl) rfl rfl ?_
                                refine oQ (Q_assign rfl rfl) rfl rfl ?_
                                refine OW_nil ?_
                                all_goals with_reducible refine tN ?_
                                all_goals (
                                    refine CW_seq ?_
                                    refine CW_seq ?_
                                    refine CW_region ?_
                                    refine oQ (Q_move rfl rfl) rfl rfl ?_
                                    refine oQ (Q_bin rfl rfl rfl) rfl rfl ?_
                                    refine OW_nil ?_
                                    all_goals with_reducible refine tN ?_
                                    all_goals (
                                        first | refine CW_cond_t rfl (by with_reducible rfl) ?_ | refine CW_cond_f rfl (by with_reducible rfl) ?_ | refine CW_cond rfl (fun hc => ?_) (fun hc => ?_)
                                        all_goals try simp only [decide_eq_true_eq, decide_eq_false_iff_not, beq_iff_eq, beq_eq_false_iff_ne, bne_iff_ne, bne_eq_false_iff_eq, Bool.not_eq_true', Bool.not_eq_false', Int.not_lt, Int.not_le, ne_eq, not_false_eq_true] at hc
                                        all_goals try (exfalso; first | omega | (simp at hc; done); done)
                                        all_goals first
                                          | (
                                            refine CW_skip ?_)
                                          | (
                                            refine CW_seq ?_
                                            refine CW_region ?_
                                            refine oQ (Q_assign rfl rfl) rfl rfl ?_
                                            refine OW_nil ?_
                                            all_goals with_reducible refine tN ?_
                                            all_goals (
                                                refine CW_ret ?_)))
                                    all_goals first
                                      | with_reducible refine tR ?_
                                      | with_reducible refine tE ?_
                                      | (
                                        with_reducible refine tN ?_
                                        refine CW_seq ?_
                                        refine CW_seq ?_
                                        refine CW_region ?_
                                        refine oQ (Q_move rfl rfl) rfl rfl ?_
                                        refine oQ (Q_move rfl rfl) rfl rfl ?_
                                        refine oQ (Q_bin rfl rfl rfl) rfl rfl ?_
                                        refine OW_nil ?_
                                        all_goals with_reducible refine tN ?_
                                        all_goals (
                                            first | refine CW_cond_t rfl (by with_reducible rfl) ?_ | refine CW_cond_f rfl (by with_reducible rfl) ?_ | refine CW_cond rfl (fun hc => ?_) (fun hc => ?_)
                                            all_goals try simp only [decide_eq_true_eq, decide_eq_false_iff_not, beq_iff_eq, beq_eq_false_iff_ne, bne_iff_ne, bne_eq_false_iff_eq, Bool.not_eq_true', Bool.not_eq_false', Int.not_lt, Int.not_le, ne_eq, not_false_eq_true] at hc
                                            all_goals try (exfalso; first | omega | (simp at hc; done); done)
                                            all_goals first
                                              | (
                                                refine CW_skip ?_)
                                              | (
                                                refine CW_seq ?_
                                                refine CW_region ?_
                                                refine oQ (Q_assign rfl rfl) rfl rfl ?_
                                                refine OW_nil ?_
                                                all_goals with_reducible refine tN ?_
                                                all_goals (
                                                    refine CW_ret ?_)))
                                        all_goals first
                                          | with_reducible refine tR ?_
                                          | with_reducible refine tE ?_
                                          | (
                                            with_reducible refine tN ?_
                                            refine CW_seq ?_
                                            refine CW_any (fun _ => false) 11 rfl lateOk (by decide +kernel) (fun hst => ?_)
                                            refine aQ 0 hst rfl rfl (by decide +kernel) (QX_of (Q_move rfl rfl) NE_move) rfl rfl ?_
                                            first | refine aQ 1 hst rfl rfl (by decide +kernel) (QX_of (Q_ldw rfl rfl rfl rfl (by first | omega | (dsimp only; omega) | (simp; omega) | (simp; done))) NE_load) rfl rfl ?_ | refine aQ 1 hst rfl rfl (by decide +kernel) (QX_of (Q_lda rfl rfl rfl rfl rfl (by first | omega | (dsimp only; omega) | (simp; omega) | (simp; done))) NE_load) rfl rfl ?_
                                            refine aQ 2 hst rfl rfl (by decide +kernel) (QX_call0 (toConic_con _ qlc) rfl rfl rfl) rfl rfl ?_
                                            first | refine aQ 3 hst rfl rfl (by decide +kernel) (QX_of (Q_ldw rfl rfl rfl rfl (by first | omega | (dsimp only; omega) | (simp; omega) | (simp; done))) NE_load) rfl rfl ?_ | refine aQ 3 hst rfl rfl (by decide +kernel) (QX_of (Q_lda rfl rfl rfl rfl rfl (by first | omega | (dsimp only; omega) | (simp; omega) | (simp; done))) NE_load) rfl rfl ?_
                                            refine aQ 4 hst rfl rfl (by decide +kernel) (QX_call0 (toLine_con _ qll) rfl rfl rfl) rfl rfl ?_
                                            refine AW_one (i := 5) (by decide +kernel) ?_
                                            refine gCall rfl rfl (him) [] 1 rfl rfl (Fits.mk' vHn rfl rfl (by simp)) rfl rfl rfl ?_
                                            rintro r H1 hR
                                            obtain ⟨k2, sp2, hk2, hs2, rfl, rfl⟩ := listR_pos hcd hR
                                            refine ⟨.tuple [.slice 4 0 LL.length k2, .int 0], [(4, .ints 64 (LL.flatten ++ sp2))], rfl, keep_pre _ _, rfl, rfl, ?_⟩
                                            refine aQ 6 hst rfl rfl (by decide +kernel) (QX_of (Q_move rfl rfl) NE_move) rfl rfl ?_
                                            refine aExt 7 hst rfl rfl (by decide +kernel) rfl rfl rfl rfl ?_
                                            refine aExt 8 hst rfl rfl (by decide +kernel) rfl rfl rfl rfl ?_
                                            refine aQ 9 hst rfl rfl (by decide +kernel) (QX_of (Q_assign rfl rfl) NE_assign) rfl rfl ?_
                                            refine aQ 10 hst rfl rfl (by decide +kernel) (QX_of (Q_assign rfl rfl) NE_assign) rfl rfl ?_
                                            refine AW_done (by decide +kernel) ?_
                                            all_goals with_reducible refine tN ?_
                                            all_goals (
                                                refine CW_seq ?_
                                                refine CW_seq ?_
                                                refine CW_region ?_
                                                refine oQ (Q_move rfl rfl) rfl rfl ?_
                                                refine oQ (Q_move rfl rfl) rfl rfl ?_
                                                refine oQ (Q_call (eqPointS_same 64 64 LL sp2 sp0 k2 k0 h3 (by omega)) [(0, 4), (1, 2)] rfl rfl (Fits.mk' (vHc rfl (vHc rfl vHn)) rfl rfl (by simp)) rfl rfl) rfl rfl ?_
                                                refine oQ (Q_not rfl) rfl rfl ?_
                                                refine oQ (Q_move rfl rfl) rfl rfl ?_
                                                all_goals first | refine ogT rfl rfl (by with_reducible rfl) ?_ | refine og1 rfl rfl (by with_reducible rfl) rfl ?_ | refine og0 rfl rfl (by with_reducible rfl) rfl ?_ | refine ogP1 rfl rfl rfl (fun hg => ?_) (fun hg => ?_) | refine ogP0 rfl rfl rfl (fun hg => ?_) (fun hg => ?_)
                                                all_goals try simp only [decide_eq_true_eq, decide_eq_false_iff_not, beq_iff_eq, beq_eq_false_iff_ne, bne_iff_ne, bne_eq_false_iff_eq, Bool.not_eq_true', Bool.not_eq_false', Int.not_lt, Int.not_le, ne_eq, not_false_eq_true] at hg
                                                all_goals first | (refine oQ (Q_move rfl rfl) rfl rfl ?_) | skip
                                                all_goals first | refine ogT rfl rfl (by with_reducible rfl) ?_ | refine og1 rfl rfl (by with_reducible rfl) rfl ?_ | refine og0 rfl rfl (by with_reducible rfl) rfl ?_ | refine ogP1 rfl rfl rfl (fun hg => ?_) (fun hg => ?_) | refine ogP0 rfl rfl rfl (fun hg => ?_) (fun hg => ?_)
                                                all_goals try simp only [decide_eq_true_eq, decide_eq_false_iff_not, beq_iff_eq, beq_eq_false_iff_ne, bne_iff_ne, bne_eq_false_iff_eq, Bool.not_eq_true', Bool.not_eq_false', Int.not_lt, Int.not_le, ne_eq, not_false_eq_true] at hg
                                                all_goals first | (refine oQ (Q_move rfl rfl) rfl rfl ?_) | skip
                                                all_goals first | refine ogT rfl rfl (by with_reducible rfl) ?_ | refine og1 rfl rfl (by with_reducible rfl) rfl ?_ | refine og0 rfl rfl (by with_reducible rfl) rfl ?_ | refine ogP1 rfl rfl rfl (fun hg => ?_) (fun hg => ?_) | refine ogP0 rfl rfl rfl (fun hg => ?_) (fun hg => ?_)
                                                all_goals try simp only [decide_eq_true_eq, decide_eq_false_iff_not, beq_iff_eq, beq_eq_false_iff_ne, bne_iff_ne, bne_eq_false_iff_eq, Bool.not_eq_true', Bool.not_eq_false', Int.not_lt, Int.not_le, ne_eq, not_false_eq_true] at hg
                                                all_goals first | (refine oQ (Q_bin rfl rfl rfl) rfl rfl ?_) | skip
                                                all_goals first | refine oQ (Q_pick_t rfl (by with_reducible rfl) rfl rfl) rfl rfl ?_ | refine oQ (Q_pick_f rfl (by with_reducible rfl) rfl rfl) rfl rfl ?_
                                                all_goals refine OW_nil ?_
                                                all_goals with_reducible refine tN ?_
                                                all_goals (
                                                    first | refine CW_cond_t rfl (by with_reducible rfl) ?_ | refine CW_cond_f rfl (by with_reducible rfl) ?_ | refine CW_cond rfl (fun hc => ?_) (fun hc => ?_)
                                                    all_goals try simp only [decide_eq_true_eq, decide_eq_false_iff_not, beq_iff_eq, beq_eq_false_iff_ne, bne_iff_ne, bne_eq_false_iff_eq, Bool.not_eq_true', Bool.not_eq_false', Int.not_lt, Int.not_le, ne_eq, not_false_eq_true] at hc
                                                    all_goals try (exfalso; first | omega | (simp at hc; done); done)
                                                    all_goals first
                                                      | (
                                                        refine CW_skip ?_)
                                                      | (
                                                        refine CW_seq ?_
                                                        refine CW_region ?_
                                                        refine oQ (Q_assign rfl rfl) rfl rfl ?_
                                                        refine OW_nil ?_
                                                        all_goals with_reducible refine tN ?_
                                                        all_goals (
                                                            refine CW_ret ?_)))
                                                all_goals first
                                                  | with_reducible refine tR ?_
                                                  | with_reducible refine tE ?_
                                                  | (
                                                    with_reducible refine tN ?_
                                                    refine CW_seq ?_
                                                    refine CW_region ?_
                                                    refine oQ (Q_assign rfl rfl) rfl rfl ?_
                                                    refine OW_nil ?_
                                                    all_goals with_reducible refine tN ?_
                                                    all_goals (
                                                        refine CW_seq ?_
                                                        refine CW_region ?_
                                                        refine oQ (Q_move rfl rfl) rfl rfl ?_
                                                        refine oQ (Q_move rfl rfl) rfl rfl ?_
                                                        refine oQ (Q_call (heldPointS_con 101 64 ((LL.flatten ++ sp1).drop (LL.length * 3)) LL.length k1 (by omega) (by omega)) [(0, 3)] rfl rfl (Fits.mk' (vHc rfl vHn) rfl rfl (by simp)) rfl rfl) rfl rfl ?_
                                                        refine oQ (Q_assign rfl rfl) rfl rfl ?_
                                                        refine OW_nil ?_
                                                        all_goals with_reducible refine tN ?_
                                                        all_goals (
                                                            refine CW_seq ?_
                                                            refine CW_seq ?_
                                                            refine CW_region ?_
                                                            refine oQ (Q_move rfl rfl) rfl rfl ?_
                                                            refine oQ (Q_bin rfl rfl rfl) rfl rfl ?_
                                                            refine OW_nil ?_
                                                            all_goals with_reducible refine tN ?_
                                                            all_goals (
                                                                first | refine CW_cond_t rfl (by with_reducible rfl) ?_ | refine CW_cond_f rfl (by with_reducible rfl) ?_ | refine CW_cond rfl (fun hc => ?_) (fun hc => ?_)
                                                                all_goals try simp only [decide_eq_true_eq, decide_eq_false_iff_not, beq_iff_eq, beq_eq_false_iff_ne, bne_iff_ne, bne_eq_false_iff_eq, Bool.not_eq_true', Bool.not_eq_false', Int.not_lt, Int.not_le, ne_eq, not_false_eq_true] at hc
                                                                all_goals try (exfalso; first | omega | (simp at hc; done); done)
                                                                all_goals first
                                                                  | (
                                                                    refine CW_skip ?_)
                                                                  | (
                                                                    refine CW_seq ?_
                                                                    refine CW_region ?_
                                                                    refine oQ (Q_assign rfl rfl) rfl rfl ?_
                                                                    refine OW_nil ?_
                                                                    all_goals with_reducible refine tN ?_
                                                                    all_goals (
                                                                        refine CW_ret ?_)))
                                                            all_goals first
                                                              | with_reducible refine tR ?_
                                                              | with_reducible refine tE ?_
                                                              | (
                                                                with_reducible refine tN ?_
                                                                refine CW_seq ?_
                                                                refine CW_seq ?_
                                                                refine CW_region ?_
                                                                refine oQ (Q_move rfl rfl) rfl rfl ?_
                                                                refine oQ (Q_move rfl rfl) rfl rfl ?_
                                                                refine oQ (Q_bin rfl rfl rfl) rfl rfl ?_
                                                                refine OW_nil ?_
                                                                all_goals with_reducible refine tN ?_
                                                                all_goals (
                                                                    first | refine CW_cond_t rfl (by with_reducible rfl) ?_ | refine CW_cond_f rfl (by with_reducible rfl) ?_ | refine CW_cond rfl (fun hc => ?_) (fun hc => ?_)
                                                                    all_goals try simp only [decide_eq_true_eq, decide_eq_false_iff_not, beq_iff_eq, beq_eq_false_iff_ne, bne_iff_ne, bne_eq_false_iff_eq, Bool.not_eq_true', Bool.not_eq_false', Int.not_lt, Int.not_le, ne_eq, not_false_eq_true] at hc
                                                                    all_goals try (exfalso; first | omega | (simp at hc; done); done)
                                                                    all_goals first
                                                                      | (
                                                                        refine CW_skip ?_)
                                                                      | (
                                                                        refine CW_seq ?_
                                                                        refine CW_region ?_
                                                                        refine oQ (Q_assign rfl rfl) rfl rfl ?_
                                                                        refine OW_nil ?_
                                                                        all_goals with_reducible refine tN ?_
                                                                        all_goals (
                                                                            refine CW_ret ?_)))
                                                                all_goals first
                                                                  | with_reducible refine tR ?_
                                                                  | with_reducible refine tE ?_
                                                                  | (
                                                                    with_reducible refine tN ?_
                                                                    refine CW_seq ?_
                                                                    refine CW_region ?_
                                                                    refine oQ (Q_assign rfl rfl) rfl rfl ?_
                                                                    refine OW_nil ?_
                                                                    all_goals with_reducible refine tN ?_
                                                                    all_goals (
                                                                        refine CW_ret ?_)))))))))))))))))
    all_goals (
        first | ((refine exitQ (.inr rfl) 0 (.cons (.tmp rfl rfl) .nil) ?_ rfl vHn rfl rfl); rfl) | (exfalso; simp at hg; done) | (exfalso; simp_all; done))
  · skip
    refine conW tab_ok [(0, .int p), (1, .arr c), (2, .arr l)] 0 [] [] Try.func13 rfl rfl rfl rfl rfl rfl rfl rfl rfl ?_
    refine CW_seq ?_
    refine CW_region ?_
    refine oBox rfl rfl rfl rfl rfl rfl ?_
    refine oBox rfl rfl rfl rfl rfl rfl ?_
    refine oQ (Q_assign rfl rfl) rfl rfl ?_
    refine OW_nil ?_
    all_goals with_reducible refine tN ?_
    all_goals (
        refine CW_seq ?_
        refine CW_any (fun _ => false) 11 rfl lateOk (by decide +kernel) (fun hst => ?_)
        refine aQ 0 hst rfl rfl (by decide +kernel) (QX_of (Q_move rfl rfl) NE_move) rfl rfl ?_
        first | refine aQ 1 hst rfl rfl (by decide +kernel) (QX_of (Q_ldw rfl rfl rfl rfl (by first | omega | (dsimp only; omega) | (simp; omega) | (simp; done))) NE_load) rfl rfl ?_ | refine aQ 1 hst rfl rfl (by decide +kernel) (QX_of (Q_lda rfl rfl rfl rfl rfl (by first | omega | (dsimp only; omega) | (simp; omega) | (simp; done))) NE_load) rfl rfl ?_
        refine aQ 2 hst rfl rfl (by decide +kernel) (QX_call0 (toConic_con _ qlc) rfl rfl rfl) rfl rfl ?_
        first | refine aQ 3 hst rfl rfl (by decide +kernel) (QX_of (Q_ldw rfl rfl rfl rfl (by first | omega | (dsimp only; omega) | (simp; omega) | (simp; done))) NE_load) rfl rfl ?_ | refine aQ 3 hst rfl rfl (by decide +kernel) (QX_of (Q_lda rfl rfl rfl rfl rfl (by first | omega | (dsimp only; omega) | (simp; omega) | (simp; done))) NE_load) rfl rfl ?_
        refine aQ 4 hst rfl rfl (by decide +kernel) (QX_call0 (toLine_con _ qll) rfl rfl rfl) rfl rfl ?_
        refine AW_one (i := 5) (by decide +kernel) ?_
        refine gCall rfl rfl (spec_MeetConic_con p c l qlc qll) [] 0 rfl rfl (Fits.mk' vHn rfl rfl (by simp)) rfl rfl rfl ?_
        rintro r H1 hR
        obtain ⟨rfl, rfl⟩ := listR_neg hcd hR
        refine ⟨.tuple [.nilsl, .int (codeB p (pointB p l && pointB p c))], [], rfl, keep_pre _ _, rfl, rfl, ?_⟩
        refine aQ 6 hst rfl rfl (by decide +kernel) (QX_of (Q_move rfl rfl) NE_move) rfl rfl ?_
        refine aExt 7 hst rfl rfl (by decide +kernel) rfl rfl rfl rfl ?_
        refine aExt 8 hst rfl rfl (by decide +kernel) rfl rfl rfl rfl ?_
        refine aQ 9 hst rfl rfl (by decide +kernel) (QX_of (Q_assign rfl rfl) NE_assign) rfl rfl ?_
        refine aQ 10 hst rfl rfl (by decide +kernel) (QX_of (Q_assign rfl rfl) NE_assign) rfl rfl ?_
        refine AW_done (by decide +kernel) ?_
        all_goals with_reducible refine tN ?_
        all_goals (
            refine CW_seq ?_
            refine CW_any (fun _ => false) 11 rfl lateOk (by decide +kernel) (fun hst => ?_)
            refine aQ 0 hst rfl rfl (by decide +kernel) (QX_of (Q_move rfl rfl) NE_move) rfl rfl ?_
            first | refine aQ 1 hst rfl rfl (by decide +kernel) (QX_of (Q_ldw rfl rfl rfl rfl (by first | omega | (dsimp only; omega) | (simp; omega) | (simp; done))) NE_load) rfl rfl ?_ | refine aQ 1 hst rfl rfl (by decide +kernel) (QX_of (Q_lda rfl rfl rfl rfl rfl (by first | omega | (dsimp only; omega) | (simp; omega) | (simp; done))) NE_load) rfl rfl ?_
            refine aQ 2 hst rfl rfl (by decide +kernel) (QX_call0 (toConic_con _ qlc) rfl rfl rfl) rfl rfl ?_
            first | refine aQ 3 hst rfl rfl (by decide +kernel) (QX_of (Q_ldw rfl rfl rfl rfl (by first | omega | (dsimp only; omega) | (simp; omega) | (simp; done))) NE_load) rfl rfl ?_ | refine aQ 3 hst rfl rfl (by decide +kernel) (QX_of (Q_lda rfl rfl rfl rfl rfl (by first | omega | (dsimp only; omega) | (simp; omega) | (simp; done))) NE_load) rfl rfl ?_
            refine aQ 4 hst rfl rfl (by decide +kernel) (QX_call0 (toLine_con _ qll) rfl rfl rfl) rfl rfl ?_
            refine AW_one (i := 5) (by decide +kernel) ?_
            refine gCall rfl rfl (impl_MeetConic_con p c l qlc qll) [] 0 rfl rfl (Fits.mk' vHn rfl rfl (by simp)) rfl rfl rfl ?_
            rintro r H1 hR
            obtain ⟨rfl, rfl⟩ := listR_neg hcd hR
            refine ⟨.tuple [.nilsl, .int (codeB p (pointB p l && pointB p c))], [], rfl, keep_pre _ _, rfl, rfl, ?_⟩
            refine aQ 6 hst rfl rfl (by decide +kernel) (QX_of (Q_move rfl rfl) NE_move) rfl rfl ?_
            refine aExt 7 hst rfl rfl (by decide +kernel) rfl rfl rfl rfl ?_
            refine aExt 8 hst rfl rfl (by decide +kernel) rfl rfl rfl rfl ?_
            refine aQ 9 hst rfl rfl (by decide +kernel) (QX_of (Q_assign rfl rfl) NE_assign) rfl rfl ?_
            refine aQ 10 hst rfl rfl (by decide +kernel) (QX_of (Q_assign rfl rfl) NE_assign) rfl rfl ?_
            refine AW_done (by decide +kernel) ?_
            all_goals with_reducible refine tN ?_
            all_goals (
                refine CW_seq ?_
                refine CW_seq ?_
                refine CW_region ?_
                refine oQ (Q_move rfl rfl) rfl rfl ?_
                refine oQ (Q_move rfl rfl) rfl rfl ?_
                refine oQ (Q_call0 (eqPointS_nn) rfl rfl rfl) rfl rfl ?_
                refine oQ (Q_not rfl) rfl rfl ?_
                refine oQ (Q_move rfl rfl) rfl rfl ?_
                all_goals first | refine ogT rfl rfl (by with_reducible rfl) ?_ | refine og1 rfl rfl (by with_reducible rfl) rfl ?_ | refine og0 rfl rfl (by with_reducible rfl) rfl ?_ | refine ogP1 rfl rfl rfl (fun hg => ?_) (fun hg => ?_) | refine ogP0 rfl rfl rfl (fun hg => ?_) (fun hg => ?_)
                all_goals try simp only [decide_eq_true_eq, decide_eq_false_iff_not, beq_iff_eq, beq_eq_false_iff_ne, bne_iff_ne, bne_eq_false_iff_eq, Bool.not_eq_true', Bool.not_eq_false', Int.not_lt, Int.not_le, ne_eq, not_false_eq_true] at hg
                all_goals first | (refine oQ (Q_move rfl rfl) rfl rfl ?_) | skip
                all_goals first | refine ogT rfl rfl (by with_reducible rfl) ?_ | refine og1 rfl rfl (by with_reducible rfl) rfl ?_ | refine og0 rfl rfl (by with_reducible rfl) rfl ?_ | refine ogP1 rfl rfl rfl (fun hg => ?_) (fun hg => ?_) | refine ogP0 rfl rfl rfl (fun hg => ?_) (fun hg => ?_)
                all_goals try simp only [decide_eq_true_eq, decide_eq_false_iff_not, beq_iff_eq, beq_eq_false_iff_ne, bne_iff_ne, bne_eq_false_iff_eq, Bool.not_eq_true', Bool.not_eq_false', Int.not_lt, Int.not_le, ne_eq, not_false_eq_true] at hg
                all_goals first | (refine oQ (Q_move rfl rfl) rfl rfl ?_) | skip
                all_goals first | refine ogT rfl rfl (by with_reducible rfl) ?_ | refine og1 rfl rfl (by with_reducible rfl) rfl ?_ | refine og0 rfl rfl (by with_reducible rfl) rfl ?_ | refine ogP1 rfl rfl rfl (fun hg => ?_) (fun hg => ?_) | refine ogP0 rfl rfl rfl (fun hg => ?_) (fun hg => ?_)
                all_goals try simp only [decide_eq_true_eq, decide_eq_false_iff_not, beq_iff_eq, beq_eq_false_iff_ne, bne_iff_ne, bne_eq_false_iff_eq, Bool.not_eq_true', Bool.not_eq_false', Int.not_lt, Int.not_le, ne_eq, not_false_eq_true] at hg
                all_goals first | (refine oQ (Q_bin rfl rfl rfl) rfl rfl ?_) | skip
                all_goals first | refine oQ (Q_pick_t rfl (by with_reducible rfl) rfl rfl) rfl rfl ?_ | refine oQ (Q_pick_f rfl (by with_reducible rfl) rfl rfl) rfl rfl ?_
                all_goals refine OW_nil ?_
                all_goals with_reducible refine tN ?_
                all_goals (
                    first | refine CW_cond_t rfl (by with_reducible rfl) ?_ | refine CW_cond_f rfl (by with_reducible rfl) ?_ | refine CW_cond rfl (fun hc => ?_) (fun hc => ?_)
                    all_goals try simp only [decide_eq_true_eq, decide_eq_false_iff_not, beq_iff_eq, beq_eq_false_iff_ne, bne_iff_ne, bne_eq_false_iff_eq, Bool.not_eq_true', Bool.not_eq_false', Int.not_lt, Int.not_le, ne_eq, not_false_eq_true] at hc
                    all_goals try (exfalso; first | omega | (simp at hc; done); done)
                    all_goals first
                      | (
                        refine CW_skip ?_)
                      | (
                        refine CW_seq ?_
                        refine CW_region ?_
                        refine oQ (Q_assign rfl rfl) rfl rfl ?_
                        refine OW_nil ?_
                        all_goals with_reducible refine tN ?_
                        all_goals (
                            refine CW_ret ?_)))
                all_goals first
                  | with_reducible refine tR ?_
                  | with_reducible refine tE ?_
                  | (
                    with_reducible refine tN ?_
                    refine CW_seq ?_
                    refine CW_region ?_
                    refine oQ (Q_assign rfl rfl) rfl rfl ?_
                    refine OW_nil ?_
                    all_goals with_reducible refine tN ?_
                    all_goals (
                        refine CW_seq ?_
                        refine CW_region ?_
                        refine oQ (Q_move rfl rfl) rfl rfl ?_
                        refine oQ (Q_move rfl rfl) rfl rfl ?_
                        refine oQ (Q_call0 (markPointS_nil 101) rfl rfl rfl) rfl rfl ?_
                        refine oQ (Q_assign rfl rfl) rfl rfl ?_
                        refine OW_nil ?_
                        all_goals with_reducible refine tN ?_
                        all_goals (
                            refine CW_seq ?_
                            refine CW_region ?_
                            refine oQ (Q_assign rfl rfl) rfl rfl ?_
                            refine OW_nil ?_
                            all_goals with_reducible refine tN ?_
                            all_goals (
                                refine CW_seq ?_
                                refine CW_region ?_
                                refine oQ (Q_move rfl rfl) rfl rfl ?_
                                refine oQ (Q_move rfl rfl) rfl rfl ?_
                                refine oQ (Q_call0 (heldPointS_nil 101) rfl rfl rfl) rfl rfl ?_
                                refine oQ (Q_assign rfl rfl) rfl rfl ?_
                                refine OW_nil ?_
                                all_goals with_reducible refine tN ?_
                                all_goals (
                                    refine CW_seq ?_
                                    refine CW_seq ?_
                                    refine CW_region ?_
                                    refine oQ (Q_move rfl rfl) rfl rfl ?_
                                    refine oQ (Q_bin rfl rfl rfl) rfl rfl ?_
                                    refine OW_nil ?_
                                    all_goals with_reducible refine tN ?_
                                    all_goals (
                                        first | refine CW_cond_t rfl (by with_reducible rfl) ?_ | refine CW_cond_f rfl (by with_reducible rfl) ?_ | refine CW_cond rfl (fun hc => ?_) (fun hc => ?_)
                                        all_goals try simp only [decide_eq_true_eq, decide_eq_false_iff_not, beq_iff_eq, beq_eq_false_iff_ne, bne_iff_ne, bne_eq_false_iff_eq, Bool.not_eq_true', Bool.not_eq_false', Int.not_lt, Int.not_le, ne_eq, not_false_eq_true] at hc
                                        all_goals try (exfalso; first | omega | (simp at hc; done); done)
                                        all_goals first
                                          | (
                                            refine CW_skip ?_)
                                          | (
                                            refine CW_seq ?_
                                            refine CW_region ?_
                                            refine oQ (Q_assign rfl rfl) rfl rfl ?_
                                            refine OW_nil ?_
                                            all_goals with_reducible refine tN ?_
                                            all_goals (
                                                refine CW_ret ?_)))
                                    all_goals first
                                      | with_reducible refine tR ?_
                                      | with_reducible refine tE ?_
                                      | (
                                        with_reducible refine tN ?_
                                        refine CW_seq ?_
                                        refine CW_seq ?_
                                        refine CW_region ?_
                                        refine oQ (Q_move rfl rfl) rfl rfl ?_
                                        refine oQ (Q_move rfl rfl) rfl rfl ?_
                                        refine oQ (Q_bin rfl rfl rfl) rfl rfl ?_
                                        refine OW_nil ?_
                                        all_goals with_reducible refine tN ?_
                                        all_goals (
                                            first | refine CW_cond_t rfl (by with_reducible rfl) ?_ | refine CW_cond_f rfl (by with_reducible rfl) ?_ | refine CW_cond rfl (fun hc => ?_) (fun hc => ?_)
                                            all_goals try simp only [decide_eq_true_eq, decide_eq_false_iff_not, beq_iff_eq, beq_eq_false_iff_ne, bne_iff_ne, bne_eq_false_iff_eq, Bool.not_eq_true', Bool.not_eq_false', Int.not_lt, Int.not_le, ne_eq, not_false_eq_true] at hc
                                            all_goals try (exfalso; first | omega | (simp at hc; done); done)
                                            all_goals first
                                              | (
                                                refine CW_skip ?_)
                                              | (
                                                refine CW_seq ?_
                                                refine CW_region ?_
                                                refine oQ (Q_assign rfl rfl) rfl rfl ?_
                                                refine OW_nil ?_
                                                all_goals with_reducible refine tN ?_
                                                all_goals (
                                                    refine CW_ret ?_)))
                                        all_goals first
                                          | with_reducible refine tR ?_
                                          | with_reducible refine tE ?_
                                          | (
                                            with_reducible refine tN ?_
                                            refine CW_seq ?_
                                            refine CW_any (fun _ => false) 11 rfl lateOk (by decide +kernel) (fun hst => ?_)
                                            refine aQ 0 hst rfl rfl (by decide +kernel) (QX_of (Q_move rfl rfl) NE_move) rfl rfl ?_
                                            first | refine aQ 1 hst rfl rfl (by decide +kernel) (QX_of (Q_ldw rfl rfl rfl rfl (by first | omega | (dsimp only; omega) | (simp; omega) | (simp; done))) NE_load) rfl rfl ?_ | refine aQ 1 hst rfl rfl (by decide +kernel) (QX_of (Q_lda rfl rfl rfl rfl rfl (by first | omega | (dsimp only; omega) | (simp; omega) | (simp; done))) NE_load) rfl rfl ?_
                                            refine aQ 2 hst rfl rfl (by decide +kernel) (QX_call0 (toConic_con _ qlc) rfl rfl rfl) rfl rfl ?_
                                            first | refine aQ 3 hst rfl rfl (by decide +kernel) (QX_of (Q_ldw rfl rfl rfl rfl (by first | omega | (dsimp only; omega) | (simp; omega) | (simp; done))) NE_load) rfl rfl ?_ | refine aQ 3 hst rfl rfl (by decide +kernel) (QX_of (Q_lda rfl rfl rfl rfl rfl (by first | omega | (dsimp only; omega) | (simp; omega) | (simp; done))) NE_load) rfl rfl ?_
                                            refine aQ 4 hst rfl rfl (by decide +kernel) (QX_call0 (toLine_con _ qll) rfl rfl rfl) rfl rfl ?_
                                            refine AW_one (i := 5) (by decide +kernel) ?_
                                            refine gCall rfl rfl (impl_MeetConic_con p c l qlc qll) [] 0 rfl rfl (Fits.mk' vHn rfl rfl (by simp)) rfl rfl rfl ?_
                                            rintro r H1 hR
                                            obtain ⟨rfl, rfl⟩ := listR_neg hcd hR
                                            refine ⟨.tuple [.nilsl, .int (codeB p (pointB p l && pointB p c))], [], rfl, keep_pre _ _, rfl, rfl, ?_⟩
                                            refine aQ 6 hst rfl rfl (by decide +kernel) (QX_of (Q_move rfl rfl) NE_move) rfl rfl ?_
                                            refine aExt 7 hst rfl rfl (by decide +kernel) rfl rfl rfl rfl ?_
                                            refine aExt 8 hst rfl rfl (by decide +kernel) rfl rfl rfl rfl ?_
                                            refine aQ 9 hst rfl rfl (by decide +kernel) (QX_of (Q_assign rfl rfl) NE_assign) rfl rfl ?_
                                            refine aQ 10 hst rfl rfl (by decide +kernel) (QX_of (Q_assign rfl rfl) NE_assign) rfl rfl ?_
                                            refine AW_done (by decide +kernel) ?_
                                            all_goals with_reducible refine tN ?_
                                            all_goals (
                                                refine CW_seq ?_
                                                refine CW_seq ?_
                                                refine CW_region ?_
                                                refine oQ (Q_move rfl rfl) rfl rfl ?_
                                                refine oQ (Q_move rfl rfl) rfl rfl ?_
                                                refine oQ (Q_call0 (eqPointS_nn) rfl rfl rfl) rfl rfl ?_
                                                refine oQ (Q_not rfl) rfl rfl ?_
                                                refine oQ (Q_move rfl rfl) rfl rfl ?_
                                                all_goals first | refine ogT rfl rfl (by with_reducible rfl) ?_ | refine og1 rfl rfl (by with_reducible rfl) rfl ?_ | refine og0 rfl rfl (by with_reducible rfl) rfl ?_ | refine ogP1 rfl rfl rfl (fun hg => ?_) (fun hg => ?_) | refine ogP0 rfl rfl rfl (fun hg => ?_) (fun hg => ?_)
                                                all_goals try simp only [decide_eq_true_eq, decide_eq_false_iff_not, beq_iff_eq, beq_eq_false_iff_ne, bne_iff_ne, bne_eq_false_iff_eq, Bool.not_eq_true', Bool.not_eq_false', Int.not_lt, Int.not_le, ne_eq, not_false_eq_true] at hg
                                                all_goals first | (refine oQ (Q_move rfl rfl) rfl rfl ?_) | skip
                                                all_goals first | refine ogT rfl rfl (by with_reducible rfl) ?_ | refine og1 rfl rfl (by with_reducible rfl) rfl ?_ | refine og0 rfl rfl (by with_reducible rfl) rfl ?_ | refine ogP1 rfl rfl rfl (fun hg => ?_) (fun hg => ?_) | refine ogP0 rfl rfl rfl (fun hg => ?_) (fun hg => ?_)
                                                all_goals try simp only [decide_eq_true_eq, decide_eq_false_iff_not, beq_iff_eq, beq_eq_false_iff_ne, bne_iff_ne, bne_eq_false_iff_eq, Bool.not_eq_true', Bool.not_eq_false', Int.not_lt, Int.not_le, ne_eq, not_false_eq_true] at hg
                                                all_goals first | (refine oQ (Q_move rfl rfl) rfl rfl ?_) | skip
                                                all_goals first | refine ogT rfl rfl (by with_reducible rfl) ?_ | refine og1 rfl rfl (by with_reducible rfl) rfl ?_ | refine og0 rfl rfl (by with_reducible rfl) rfl ?_ | refine ogP1 rfl rfl rfl (fun hg => ?_) (fun hg => ?_) | refine ogP0 rfl rfl rfl (fun hg => ?_) (fun hg => ?_)
                                                all_goals try simp only [decide_eq_true_eq, decide_eq_false_iff_not, beq_iff_eq, beq_eq_false_iff_ne, bne_iff_ne, bne_eq_false_iff_eq, Bool.not_eq_true', Bool.not_eq_false', Int.not_lt, Int.not_le, ne_eq, not_false_eq_true] at hg
                                                all_goals first | (refine oQ (Q_bin rfl rfl rfl) rfl rfl ?_) | skip
                                                all_goals first | refine oQ (Q_pick_t rfl (by with_reducible rfl) rfl rfl) rfl rfl ?_ | refine oQ (Q_pick_f rfl (by with_reducible rfl) rfl rfl) rfl rfl ?_
                                                all_goals refine OW_nil ?_
                                                all_goals with_reducible refine tN ?_
                                                all_goals (
                                                    first | refine CW_cond_t rfl (by with_reducible rfl) ?_ | refine CW_cond_f rfl (by with_reducible rfl) ?_ | refine CW_cond rfl (fun hc => ?_) (fun hc => ?_)
                                                    all_goals try simp only [decide_eq_true_eq, decide_eq_false_iff_not, beq_iff_eq, beq_eq_false_iff_ne, bne_iff_ne, bne_eq_false_iff_eq, Bool.not_eq_true', Bool.not_eq_false', Int.not_lt, Int.not_le, ne_eq, not_false_eq_true] at hc
                                                    all_goals try (exfalso; first | omega | (simp at hc; done); done)
                                                    all_goals first
                                                      | (
                                                        refine CW_skip ?_)
                                                      | (
                                                        refine CW_seq ?_
                                                        refine CW_region ?_
                                                        refine oQ (Q_assign rfl rfl) rfl rfl ?_
                                                        refine OW_nil ?_
                                                        all_goals with_reducible refine tN ?_
                                                        all_goals (
                                                            refine CW_ret ?_)))
                                                all_goals first
                                                  | with_reducible refine tR ?_
                                                  | with_reducible refine tE ?_
                                                  | (
                                                    with_reducible refine tN ?_
                                                    refine CW_seq ?_
                                                    refine CW_region ?_
                                                    refine oQ (Q_assign rfl rfl) rfl rfl ?_
                                                    refine OW_nil ?_
                                                    all_goals with_reducible refine tN ?_
                                                    all_goals (
                                                        refine CW_seq ?_
                                                        refine CW_region ?_
                                                        refine oQ (Q_move rfl rfl) rfl rfl ?_
                                                        refine oQ (Q_move rfl rfl) rfl rfl ?_
                                                        refine oQ (Q_call0 (heldPointS_nil 101) rfl rfl rfl) rfl rfl ?_
                                                        refine oQ (Q_assign rfl rfl) rfl rfl ?_
                                                        refine OW_nil ?_
                                                        all_goals with_reducible refine tN ?_
                                                        all_goals (
                                                            refine CW_seq ?_
                                                            refine CW_seq ?_
                                                            refine CW_region ?_
                                                            refine oQ (Q_move rfl rfl) rfl rfl ?_
                                                            refine oQ (Q_bin rfl rfl rfl) rfl rfl ?_
                                                            refine OW_nil ?_
                                                            all_goals with_reducible refine tN ?_
                                                            all_goals (
                                                                first | refine CW_cond_t rfl (by with_reducible rfl) ?_ | refine CW_cond_f rfl (by with_reducible rfl) ?_ | refine CW_cond rfl (fun hc => ?_) (fun hc => ?_)
                                                                all_goals try simp only [decide_eq_true_eq, decide_eq_false_iff_not, beq_iff_eq, beq_eq_false_iff_ne, bne_iff_ne, bne_eq_false_iff_eq, Bool.not_eq_true', Bool.not_eq_false', Int.not_lt, Int.not_le, ne_eq, not_false_eq_true] at hc
                                                                all_goals try (exfalso; first | omega | (simp at hc; done); done)
                                                                all_goals first
                                                                  | (
                                                                    refine CW_skip ?_)
                                                                  | (
                                                                    refine CW_seq ?_
                                                                    refine CW_region ?_
                                                                    refine oQ (Q_assign rfl rfl) rfl rfl ?_
                                                                    refine OW_nil ?_
                                                                    all_goals with_reducible refine tN ?_
                                                                    all_goals (
                                                                        refine CW_ret ?_)))
                                                            all_goals first
                                                              | with_reducible refine tR ?_
                                                              | with_reducible refine tE ?_
                                                              | (
                                                                with_reducible refine tN ?_
                                                                refine CW_seq ?_
                                                                refine CW_seq ?_
                                                                refine CW_region ?_
                                                                refine oQ (Q_move rfl rfl) rfl rfl ?_
                                                                refine oQ (Q_move rfl rfl) rfl rfl ?_
                                                                refine oQ (Q_bin rfl rfl rfl) rfl rfl ?_
                                                                refine OW_nil ?_
                                                                all_goals with_reducible refine tN ?_
                                                                all_goals (
                                                                    first | refine CW_cond_t rfl (by with_reducible rfl) ?_ | refine CW_cond_f rfl (by with_reducible rfl) ?_ | refine CW_cond rfl (fun hc => ?_) (fun hc => ?_)
                                                                    all_goals try simp only [decide_eq_true_eq, decide_eq_false_iff_not, beq_iff_eq, beq_eq_false_iff_ne, bne_iff_ne, bne_eq_false_iff_eq, Bool.not_eq_true', Bool.not_eq_false', Int.not_lt, Int.not_le, ne_eq, not_false_eq_true] at hc
                                                                    all_goals try (exfalso; first | omega | (simp at hc; done); done)
                                                                    all_goals first
                                                                      | (
                                                                        refine CW_skip ?_)
                                                                      | (
                                                                        refine CW_seq ?_
                                                                        refine CW_region ?_
                                                                        refine oQ (Q_assign rfl rfl) rfl rfl ?_
                                                                        refine OW_nil ?_
                                                                        all_goals with_reducible refine tN ?_
                                                                        all_goals (
                                                                            refine CW_ret ?_)))
                                                                all_goals first
                                                                  | with_reducible refine tR ?_
                                                                  | with_reducible refine tE ?_
                                                                  | (
                                                                    with_reducible refine tN ?_
                                                                    refine CW_seq ?_
                                                                    refine CW_region ?_
                                                                    refine oQ (Q_assign rfl rfl) rfl rfl ?_
                                                                    refine OW_nil ?_
                                                                    all_goals with_reducible refine tN ?_
                                                                    all_goals (
                                                                        refine CW_ret ?_)))))))))))))))))
    all_goals (
        first | ((refine exitQ (.inr rfl) 0 (.cons (.tmp rfl rfl) .nil) ?_ rfl vHn rfl rfl); rfl) | (exfalso; simp at hg; done) | (exfalso; simp_all; done))
theorem law_FnExactBasePoints (p : Int) (c : List Int) (d : List Int) (qlc : c.length = 6) (qld : d.length = 6) : ConQ Try.prog [] 14 [.int p, .arr c, .arr d] [] (.bool true) := by
  by_cases hcd : pencB p (pointB p c && pointB p d) c d = 0
  · have h3 : ∀ x ∈ ((allPts p).filter fun m => (conV p c m == 0) && (conV p d m == 0)), x.length = 3 := fun x hx => allPts_three (List.mem_filter.1 hx).1
    have hln : ((allPts p).filter fun m => (conV p c m == 0) && (conV p d m == 0)).length ≤ 100000 := (by have h1 := allPts_len (pencB_zero hcd).1; have h2 := List.length_filter_le (fun m => (conV p c m == 0) && (conV p d m == 0)) (allPts p); omega)
    have hfl := flat3 h3
    generalize hLL : ((allPts p).filter fun m => (conV p c m == 0) && (conV p d m == 0)) = LL at *
    have hsp := spec_BasePoints_con p c d qlc qld
    have him := impl_BasePoints_con p c d qlc qld
    rw [hLL] at hsp him
    refine conW tab_ok [(0, .int p), (1, .arr c), (2, .arr d)] 0 [] [] Try.func14 rfl rfl rfl rfl rfl rfl rfl rfl rfl ?_
    refine CW_seq ?_
    refine CW_region ?_
    refine oBox rfl rfl rfl rfl rfl rfl ?_
    refine oBox rfl rfl rfl rfl rfl rfl ?_
    refine oQ (Q_assign rfl rfl) rfl rfl ?_
    refine OW_nil ?_
    all_goals with_reducible refine tN ?_
    all_goals (
        refine CW_seq ?_
        refine CW_any (fun _ => false) 11 rfl lateOk (by decide +kernel) (fun hst => ?_)
        refine aQ 0 hst rfl rfl (by decide +kernel) (QX_of (Q_move rfl rfl) NE_move) rfl rfl ?_
        first | refine aQ 1 hst rfl rfl (by decide +kernel) (QX_of (Q_ldw rfl rfl rfl rfl (by first | omega | (dsimp only; omega) | (simp; omega) | (simp; done))) NE_load) rfl rfl ?_ | refine aQ 1 hst rfl rfl (by decide +kernel) (QX_of (Q_lda rfl rfl rfl rfl rfl (by first | omega | (dsimp only; omega) | (simp; omega) | (simp; done))) NE_load) rfl rfl ?_
        refine aQ 2 hst rfl rfl (by decide +kernel) (QX_call0 (toConic_con _ qlc) rfl rfl rfl) rfl rfl ?_
        first | refine aQ 3 hst rfl rfl (by decide +kernel) (QX_of (Q_ldw rfl rfl rfl rfl (by first | omega | (dsimp only; omega) | (simp; omega) | (simp; done))) NE_load) rfl rfl ?_ | refine aQ 3 hst rfl rfl (by decide +kernel) (QX_of (Q_lda rfl rfl rfl rfl rfl (by first | omega | (dsimp only; omega) | (simp; omega) | (simp; done))) NE_load) rfl rfl ?_
        refine aQ 4 hst rfl rfl (by decide +kernel) (QX_call0 (toConic_con _ qld) rfl rfl rfl) rfl rfl ?_
        refine AW_one (i := 5) (by decide +kernel) ?_
        refine gCall rfl rfl (hsp) [] 1 rfl rfl (Fits.mk' vHn rfl rfl (by simp)) rfl rfl rfl ?_
        rintro r H1 hR
        obtain ⟨k0, sp0, hk0, hs0, rfl, rfl⟩ := listR_pos hcd hR
        refine ⟨.tuple [.slice 2 0 LL.length k0, .int 0], [(2, .ints 64 (LL.flatten ++ sp0))], rfl, keep_pre _ _, rfl, rfl, ?_⟩
        refine aQ 6 hst rfl rfl (by decide +kernel) (QX_of (Q_move rfl rfl) NE_move) rfl rfl ?_
        refine aExt 7 hst rfl rfl (by decide +kernel) rfl rfl rfl rfl ?_
        refine aExt 8 hst rfl rfl (by decide +kernel) rfl rfl rfl rfl ?_
        refine aQ 9 hst rfl rfl (by decide +kernel) (QX_of (Q_assign rfl rfl) NE_assign) rfl rfl ?_
        refine aQ 10 hst rfl rfl (by decide +kernel) (QX_of (Q_assign rfl rfl) NE_assign) rfl rfl ?_
        refine AW_done (by decide +kernel) ?_
        all_goals with_reducible refine tN ?_
        all_goals (
            refine CW_seq ?_
            refine CW_any (fun _ => false) 11 rfl lateOk (by decide +kernel) (fun hst => ?_)
            refine aQ 0 hst rfl rfl (by decide +kernel) (QX_of (Q_move rfl rfl) NE_move) rfl rfl ?_
            first | refine aQ 1 hst rfl rfl (by decide +kernel) (QX_of (Q_ldw rfl rfl rfl rfl (by first | omega | (dsimp only; omega) | (simp; omega) | (simp; done))) NE_load) rfl rfl ?_ | refine aQ 1 hst rfl rfl (by decide +kernel) (QX_of (Q_lda rfl rfl rfl rfl rfl (by first | omega | (dsimp only; omega) | (simp; omega) | (simp; done))) NE_load) rfl rfl ?_
            refine aQ 2 hst rfl rfl (by decide +kernel) (QX_call0 (toConic_con _ qlc) rfl rfl rfl) rfl rfl ?_
            first | refine aQ 3 hst rfl rfl (by decide +kernel) (QX_of (Q_ldw rfl rfl rfl rfl (by first | omega | (dsimp only; omega) | (simp; omega) | (simp; done))) NE_load) rfl rfl ?_ | refine aQ 3 hst rfl rfl (by decide +kernel) (QX_of (Q_lda rfl rfl rfl rfl rfl (by first | omega | (dsimp only; omega) | (simp; omega) | (simp; done))) NE_load) rfl rfl ?_
            refine aQ 4 hst rfl rfl (by decide +kernel) (QX_call0 (toConic_con _ qld) rfl rfl rfl) rfl rfl ?_
            refine AW_one (i := 5) (by decide +kernel) ?_
            refine gCall rfl rfl (him) [] 1 rfl rfl (Fits.mk' vHn rfl rfl (by simp)) rfl rfl rfl ?_
            rintro r H1 hR
            obtain ⟨k1, sp1, hk1, hs1, rfl, rfl⟩ := listR_pos hcd hR
            refine ⟨.tuple [.slice 3 0 LL.length k1, .int 0], [(3, .ints 64 (LL.flatten ++ sp1))], rfl, keep_pre _ _, rfl, rfl, ?_⟩
            refine aQ 6 hst rfl rfl (by decide +kernel) (QX_of (Q_move rfl rfl) NE_move) rfl rfl ?_
            refine aExt 7 hst rfl rfl (by decide +kernel) rfl rfl rfl rfl ?_
            refine aExt 8 hst rfl rfl (by decide +kernel) rfl rfl rfl rfl ?_
            refine aQ 9 hst rfl rfl (by decide +kernel) (QX_of (Q_assign rfl rfl) NE_assign) rfl rfl ?_
            refine aQ 10 hst rfl rfl (by decide +kernel) (QX_of (Q_assign rfl rfl) NE_assign) rfl rfl ?_
            refine AW_done (by decide +kernel) ?_
            all_goals with_reducible refine tN ?_
            all_goals (
                refine CW_seq ?_
                refine CW_seq ?_
                refine CW_region ?_
                refine oQ (Q_move rfl rfl) rfl rfl ?_
                refine oQ (Q_move rfl rfl) rfl rfl ?_
                refine oQ (Q_call (eqPointS_same 64 64 LL sp1 sp0 k1 k0 h3 (by omega)) [(0, 3), (1, 2)] rfl rfl (Fits.mk' (vHc rfl (vHc rfl vHn)) rfl rfl (by simp)) rfl rfl) rfl rfl ?_
                refine oQ (Q_not rfl) rfl rfl ?_
                refine oQ (Q_move rfl rfl) rfl rfl ?_
                all_goals first | refine ogT rfl rfl (by with_reducible rfl) ?_ | refine og1 rfl rfl (by with_reducible rfl) rfl ?_ | refine og0 rfl rfl (by with_reducible rfl) rfl ?_ | refine ogP1 rfl rfl rfl (fun hg => ?_) (fun hg => ?_) | refine ogP0 rfl rfl rfl (fun hg => ?_) (fun hg => ?_)
                all_goals try simp only [decide_eq_true_eq, decide_eq_false_iff_not, beq_iff_eq, beq_eq_false_iff_ne, bne_iff_ne, bne_eq_false_iff_eq, Bool.not_eq_true', Bool.not_eq_false', Int.not_lt, Int.not_le, ne_eq, not_false_eq_true] at hg
                all_goals first | (refine oQ (Q_move rfl rfl) rfl rfl ?_) | skip
                all_goals first | refine ogT rfl rfl (by with_reducible rfl) ?_ | refine og1 rfl rfl (by with_reducible rfl) rfl ?_ | refine og0 rfl rfl (by with_reducible rfl) rfl ?_ | refine ogP1 rfl rfl rfl (fun hg => ?_) (fun hg => ?_) | refine ogP0 rfl rfl rfl (fun hg => ?_) (fun hg => ?_)
                all_goals try simp only [decide_eq_true_eq, decide_eq_false_iff_not, beq_iff_eq, beq_eq_false_iff_ne, bne_iff_ne, bne_eq_false_iff_eq, Bool.not_eq_true', Bool.not_eq_false', Int.not_lt, Int.not_le, ne_eq, not_false_eq_true] at hg
                all_goals first | (refine oQ (Q_move rfl rfl) rfl rfl ?_) | skip
                all_goals first | refine ogT rfl rfl (by with_reducible rfl) ?_ | refine og1 rfl rfl (by with_reducible rfl) rfl ?_ | refine og0 rfl rfl (by with_reducible rfl) rfl ?_ | refine ogP1 rfl rfl rfl (fun hg => ?_) (fun hg => ?_) | refine ogP0 rfl rfl rfl (fun hg => ?_) (fun hg => ?_)
                all_goals try simp only [decide_eq_true_eq, decide_eq_false_iff_not, beq_iff_eq, beq_eq_false_iff_ne, bne_iff_ne, bne_eq_false_iff_eq, Bool.not_eq_true', Bool.not_eq_false', Int.not_lt, Int.not_le, ne_eq, not_false_eq_true] at hg
                all_goals first | (refine oQ (Q_bin rfl rfl rfl) rfl rfl ?_) | skip
                all_goals first | refine oQ (Q_pick_t rfl (by with_reducible rfl) rfl rfl) rfl rfl ?_ | refine oQ (Q_pick_f rfl (by with_reducible rfl) rfl rfl) rfl rfl ?_
                all_goals refine OW_nil ?_
                all_goals with_reducible refine tN ?_
                all_goals (
                    first | refine CW_cond_t rfl (by with_reducible rfl) ?_ | refine CW_cond_f rfl (by with_reducible rfl) ?_ | refine CW_cond rfl (fun hc => ?_) (fun hc => ?_)
                    all_goals try simp only [decide_eq_true_eq, decide_eq_false_iff_not, beq_iff_eq, beq_eq_false_iff_ne, bne_iff_ne, bne_eq_false_iff_eq, Bool.not_eq_true', Bool.not_eq_false', Int.not_lt, Int.not_le, ne_eq, not_false_eq_true] at hc
                    all_goals try (exfalso; first | omega | (simp at hc; done); done)
                    all_goals first
                      | (
                        refine CW_skip ?_)
                      | (
                        refine CW_seq ?_
                        refine CW_region ?_
                        refine oQ (Q_assign rfl rfl) rfl rfl ?_
                        refine OW_nil ?_
                        all_goals with_reducible refine tN ?_
                        all_goals (
                            refine CW_ret ?_)))
                all_goals first
                  | with_reducible refine tR ?_
                  | with_reducible refine tE ?_
                  | (
                    with_reducible refine tN ?_
                    refine CW_seq ?_
                    refine CW_region ?_
                    refine oQ (Q_assign rfl rfl) rfl rfl ?_
                    refine OW_nil ?_
                    all_goals with_reducible refine tN ?_
                    all_goals (
                        refine CW_seq ?_
                        refine CW_region ?_
                        refine oQ (Q_move rfl rfl) rfl rfl ?_
                        refine oQ (Q_move rfl rfl) rfl rfl ?_
                        refine oCall (markPointS_con 101 64 (LL.flatten ++ sp1) LL.length k1 (by rw [List.length_append, hfl]; omega) (by omega) (by omega)) [(0, 3)] 0 rfl rfl (Fits.mk' (vHc rfl vHn) rfl rfl (by simp)) rfl rfl ?_
                        rintro r H1 ⟨rfl, rfl⟩
                        refine ⟨.int ((101 + LL.length * 3 : Nat) : Int), [(3, .ints 64 (seqL 101 (LL.length * 3) ++ (LL.flatten ++ sp1).drop (LL.length * 3)))], rfl, rfl, rfl, ?_⟩
                        refine oQ (Q_assign rfl rfl) rfl rfl ?_
                        refine OW_nil ?_
                        all_goals with_reducible refine tN ?_
                        all_goals (
                            refine CW_seq ?_
                            refine CW_region ?_
                            refine oQ (Q_assign rfl rfl) rfl rfl ?_
                            refine OW_nil ?_
                            all_goals with_reducible refine tN ?_
                            all_goals (
                                refine CW_seq ?_
                                refine CW_region ?_
                                refine oQ (Q_move rfl rfl) rfl rfl ?_
                                refine oQ (Q_move rfl rfl) rfl rfl ?_
                                refine oQ (Q_call (heldPointS_con 101 64 ((LL.flatten ++ sp1).drop (LL.length * 3)) LL.length k1 (by omega) (by omega)) [(0, 3)] rfl rfl (Fits.mk' (vHc rfl vHn) rfl rfl (by simp)) rfl rfl) rfl rfl ?_
                                refine oQ (Q_assign rfl rfl) rfl rfl ?_
                                refine OW_nil ?_
                                all_goals with_reducible refine tN ?_
                                all_goals (
                                    refine CW_seq ?_
                                    refine CW_seq ?_
                                    refine CW_region ?_
                                    refine oQ (Q_move rfl rfl) rfl rfl ?_
                                    refine oQ (Q_bin rfl rfl rfl) rfl rfl ?_
                                    refine OW_nil ?_
                                    all_goals with_reducible refine tN ?_
                                    all_goals (
                                        first | refine CW_cond_t rfl (by with_reducible rfl) ?_ | refine CW_cond_f rfl (by with_reducible rfl) ?_ | refine CW_cond rfl (fun hc => ?_) (fun hc => ?_)
                                        all_goals try simp only [decide_eq_true_eq, decide_eq_false_iff_not, beq_iff_eq, beq_eq_false_iff_ne, bne_iff_ne, bne_eq_false_iff_eq, Bool.not_eq_true', Bool.not_eq_false', Int.not_lt, Int.not_le, ne_eq, not_false_eq_true] at hc
                                        all_goals try (exfalso; first | omega | (simp at hc; done); done)
                                        all_goals first
                                          | (
                                            refine CW_skip ?_)
                                          | (
                                            refine CW_seq ?_
                                            refine CW_region ?_
                                            refine oQ (Q_assign rfl rfl) rfl rfl ?_
                                            refine OW_nil ?_
                                            all_goals with_reducible refine tN ?_
                                            all_goals (
                                                refine CW_ret ?_)))
                                    all_goals first
                                      | with_reducible refine tR ?_
                                      | with_reducible refine tE ?_
                                      | (
                                        with_reducible refine tN ?_
                                        refine CW_seq ?_
                                        refine CW_seq ?_
                                        refine CW_region ?_
                                        refine oQ (Q_move rfl rfl) rfl rfl ?_
                                        refine oQ (Q_move rfl rfl) rfl rfl ?_
                                        refine oQ (Q_bin rfl rfl rfl) rfl rfl ?_
                                        refine OW_nil ?_
                                        all_goals with_reducible refine tN ?_
                                        all_goals (
                                            first | refine CW_cond_t rfl (by with_reducible rfl) ?_ | refine CW_cond_f rfl (by with_reducible rfl) ?_ | refine CW_cond rfl (fun hc => ?_) (fun hc => ?_)
                                            all_goals try simp only [decide_eq_true_eq, decide_eq_false_iff_not, beq_iff_eq, beq_eq_false_iff_ne, bne_iff_ne, bne_eq_false_iff_eq, Bool.not_eq_true', Bool.not_eq_false', Int.not_lt, Int.not_le, ne_eq, not_false_eq_true] at hc
                                            all_goals try (exfalso; first | omega | (simp at hc; done); done)
                                            all_goals first
                                              | (
                                                refine CW_skip ?_)
                                              | (
                                                refine CW_seq ?_
                                                refine CW_region ?_
                                                refine oQ (Q_assign rfl rfl) rfl rfl ?_
                                                refine OW_nil ?_
                                                all_goals with_reducible refine tN ?_
                                                all_goals (
                                                    refine CW_ret ?_)))
                                        all_goals first
                                          | with_reducible refine tR ?_
                                          | with_reducible refine tE ?_
                                          | (
                                            with_reducible refine tN ?_
                                            refine CW_seq ?_
                                            refine CW_any (fun _ => false) 11 rfl lateOk (by decide +kernel) (fun hst => ?_)
                                            refine aQ 0 hst rfl rfl (by decide +kernel) (QX_of (Q_move rfl rfl) NE_move) rfl rfl ?_
                                            first | refine aQ 1 hst rfl rfl (by decide +kernel) (QX_of (Q_ldw rfl rfl rfl rfl (by first | omega | (dsimp only; omega) | (simp; omega) | (simp; done))) NE_load) rfl rfl ?_ | refine aQ 1 hst rfl rfl (by decide +kernel) (QX_of (Q_lda rfl rfl rfl rfl rfl (by first | omega | (dsimp only; omega) | (simp; omega) | (simp; done))) NE_load) rfl rfl ?_
                                            refine aQ 2 hst rfl rfl (by decide +kernel) (QX_call0 (toConic_con _ qlc) rfl rfl rfl) rfl rfl ?_
                                            first | refine aQ 3 hst rfl rfl (by decide +kernel) (QX_of (Q_ldw rfl rfl rfl rfl (by first | omega | (dsimp only; omega) | (simp; omega) | (simp; done))) NE_load) rfl rfl ?_ | refine aQ 3 hst rfl rfl (by decide +kernel) (QX_of (Q_lda rfl rfl rfl rfl rfl (by first | omega | (dsimp only; omega) | (simp; omega) | (simp; done))) NE_load) rfl rfl ?_
                                            refine aQ 4 hst rfl rfl (by decide +kernel) (QX_call0 (toConic_con _ qld) rfl rfl rfl) rfl rfl ?_
                                            refine AW_one (i := 5) (by decide +kernel) ?_
                                            refine gCall rfl rfl (him) [] 1 rfl rfl (Fits.mk' vHn rfl rfl (by simp)) rfl rfl rfl ?_
                                            rintro r H1 hR
                                            obtain ⟨k2, sp2, hk2, hs2, rfl, rfl⟩ := listR_pos hcd hR
                                            refine ⟨.tuple [.slice 4 0 LL.length k2, .int 0], [(4, .ints 64 (LL.flatten ++ sp2))], rfl, keep_pre _ _, rfl, rfl, ?_⟩
                                            refine aQ 6 hst rfl rfl (by decide +kernel) (QX_of (Q_move rfl rfl) NE_move) rfl rfl ?_
                                            refine aExt 7 hst rfl rfl (by decide +kernel) rfl rfl rfl rfl ?_
                                            refine aExt 8 hst rfl rfl (by decide +kernel) rfl rfl rfl rfl ?_
                                            refine aQ 9 hst rfl rfl (by decide +kernel) (QX_of (Q_assign rfl rfl) NE_assign) rfl rfl ?_
                                            refine aQ 10 hst rfl rfl (by decide +kernel) (QX_of (Q_assign rfl rfl) NE_assign) rfl rfl ?_
                                            refine AW_done (by decide +kernel) ?_
                                            all_goals with_reducible refine tN ?_
                                            all_goals (
                                                refine CW_seq ?_
                                                refine CW_seq ?_
                                                refine CW_region ?_
                                                refine oQ (Q_move rfl rfl) rfl rfl ?_
                                                refine oQ (Q_move rfl rfl) rfl rfl ?_
                                                refine oQ (Q_call (eqPointS_same 64 64 LL sp2 sp0 k2 k0 h3 (by omega)) [(0, 4), (1, 2)] rfl rfl (Fits.mk' (vHc rfl (vHc rfl vHn)) rfl rfl (by simp)) rfl rfl) rfl rfl ?_
                                                refine oQ (Q_not rfl) rfl rfl ?_
                                                refine oQ (Q_move rfl rfl) rfl rfl ?_
                                                all_goals first | refine ogT rfl rfl (by with_reducible rfl) ?_ | refine og1 rfl rfl (by with_reducible rfl) rfl ?_ | refine og0 rfl rfl (by with_reducible rfl) rfl ?_ | refine ogP1 rfl rfl rfl (fun hg => ?_) (fun hg => ?_) | refine ogP0 rfl rfl rfl (fun hg => ?_) (fun hg => ?_)
                                                all_goals try simp only [decide_eq_true_eq, decide_eq_false_iff_not, beq_iff_eq, beq_eq_false_iff_ne, bne_iff_ne, bne_eq_false_iff_eq, Bool.not_eq_true', Bool.not_eq_false', Int.not_lt, Int.not_le, ne_eq, not_false_eq_true] at hg
                                                all_goals first | (refine oQ (Q_move rfl rfl) rfl rfl ?_) | skip
                                                all_goals first | refine ogT rfl rfl (by with_reducible rfl) ?_ | refine og1 rfl rfl (by with_reducible rfl) rfl ?_ | refine og0 rfl rfl (by with_reducible rfl) rfl ?_ | refine ogP1 rfl rfl rfl (fun hg => ?_) (fun hg => ?_) | refine ogP0 rfl rfl rfl (fun hg => ?_) (fun hg => ?_)
                                                all_goals try simp only [decide_eq_true_eq, decide_eq_false_iff_not, beq_iff_eq, beq_eq_false_iff_ne, bne_iff_ne, bne_eq_false_iff_eq, Bool.not_eq_true', Bool.not_eq_false', Int.not_lt, Int.not_le, ne_eq, not_false_eq_true] at hg
                                                all_goals first | (refine oQ (Q_move rfl rfl) rfl rfl ?_) | skip
                                                all_goals first | refine ogT rfl rfl (by with_reducible rfl) ?_ | refine og1 rfl rfl (by with_reducible rfl) rfl ?_ | refine og0 rfl rfl (by with_reducible rfl) rfl ?_ | refine ogP1 rfl rfl rfl (fun hg => ?_) (fun hg => ?_) | refine ogP0 rfl rfl rfl (fun hg => ?_) (fun hg => ?_)
                                                all_goals try simp only [decide_eq_true_eq, decide_eq_false_iff_not, beq_iff_eq, beq_eq_false_iff_ne, bne_iff_ne, bne_eq_false_iff_eq, Bool.not_eq_true', Bool.not_eq_false', Int.not_lt, Int.not_le, ne_eq, not_false_eq_true] at hg
                                                all_goals first | (refine oQ (Q_bin rfl rfl rfl) rfl rfl ?_) | skip
                                                all_goals first | refine oQ (Q_pick_t rfl (by with_reducible rfl) rfl rfl) rfl rfl ?_ | refine oQ (Q_pick_f rfl (by with_reducible rfl) rfl rfl) rfl rfl ?_
                                                all_goals refine OW_nil ?_
                                                all_goals with_reducible refine tN ?_
                                                all_goals (
                                                    first | refine CW_cond_t rfl (by with_reducible rfl) ?_ | refine CW_cond_f rfl (by with_reducible rfl) ?_ | refine CW_cond rfl (fun hc => ?_) (fun hc => ?_)
                                                    all_goals try simp only [decide_eq_true_eq, decide_eq_false_iff_not, beq_iff_eq, beq_eq_false_iff_ne, bne_iff_ne, bne_eq_false_iff_eq, Bool.not_eq_true', Bool.not_eq_false', Int.not_lt, Int.not_le, ne_eq, not_false_eq_true] at hc
                                                    all_goals try (exfalso; first | omega | (simp at hc; done); done)
                                                    all_goals first
                                                      | (
                                                        refine CW_skip ?_)
                                                      | (
                                                        refine CW_seq ?_
                                                        refine CW_region ?_
                                                        refine oQ (Q_assign rfl rfl) rfl rfl ?_
                                                        refine OW_nil ?_
                                                        all_goals with_reducible refine tN ?_
                                                        all_goals (
                                                            refine CW_ret ?_)))
                                                all_goals first
                                                  | with_reducible refine tR ?_
                                                  | with_reducible refine tE ?_
                                                  | (
                                                    with_reducible refine tN ?_
                                                    refine CW_seq ?_
                                                    refine CW_region ?_
                                                    refine oQ (Q_assign rfl rfl) rfl rfl ?_
                                                    refine OW_nil ?_
                                                    all_goals with_reducible refine tN ?_
                                                    all_goals (
                                                        refine CW_seq ?_
                                                        refine CW_region ?_
                                                        refine oQ (Q_move rfl rfl) rfl rfl ?_
                                                        refine oQ (Q_move rfl rfl) rfl rfl ?_
                                                        refine oQ (Q_call (heldPointS_con 101 64 ((LL.flatten ++ sp1).drop (LL.length * 3)) LL.length k1 (by omega) (by omega)) [(0, 3)] rfl rfl (Fits.mk' (vHc rfl vHn) rfl rfl (by simp)) rfl rfl) rfl rfl ?_
                                                        refine oQ (Q_assign rfl rfl) rfl rfl ?_
                                                        refine OW_nil ?_
                                                        all_goals with_reducible refine tN ?_
                                                        all_goals (
                                                            refine CW_seq ?_
                                                            refine CW_seq ?_
                                                            refine CW_region ?_
                                                            refine oQ (Q_move rfl rfl) rfl rfl ?_
                                                            refine oQ (Q_bin rfl rfl rfl) rfl rfl ?_
                                                            refine OW_nil ?_
                                                            all_goals with_reducible refine tN ?_
                                                            all_goals (
                                                                first | refine CW_cond_t rfl (by with_reducible rfl) ?_ | refine CW_cond_f rfl (by with_reducible rfl) ?_ | refine CW_cond rfl (fun hc => ?_) (fun hc => ?_)
                                                                all_goals try simp only [decide_eq_true_eq, decide_eq_false_iff_not, beq_iff_eq, beq_eq_false_iff_ne, bne_iff_ne, bne_eq_false_iff_eq, Bool.not_eq_true', Bool.not_eq_false', Int.not_lt, Int.not_le, ne_eq, not_false_eq_true] at hc
                                                                all_goals try (exfalso; first | omega | (simp at hc; done); done)
                                                                all_goals first
                                                                  | (
                                                                    refine CW_skip ?_)
                                                                  | (
                                                                    refine CW_seq ?_
                                                                    refine CW_region ?_
                                                                    refine oQ (Q_assign rfl rfl) rfl rfl ?_
                                                                    refine OW_nil ?_
                                                                    all_goals with_reducible refine tN ?_
                                                                    all_goals (
                                                                        refine CW_ret ?_)))
                                                            all_goals first
                                                              | with_reducible refine tR ?_
                                                              | with_reducible refine tE ?_
                                                              | (
                                                                with_reducible refine tN ?_
                                                                refine CW_seq ?_
                                                                refine CW_seq ?_
                                                                refine CW_region ?_
                                                                refine oQ (Q_move rfl rfl) rfl rfl ?_
                                                                refine oQ (Q_move rfl rfl) rfl rfl ?_
                                                                refine oQ (Q_bin rfl rfl rfl) rfl rfl ?_
                                                                refine OW_nil ?_
                                                                all_goals with_reducible refine tN ?_
                                                                all_goals (
                                                                    first | refine CW_cond_t rfl (by with_reducible rfl) ?_ | refine CW_cond_f rfl (by with_reducible rfl) ?_ | refine CW_cond rfl (fun hc => ?_) (fun hc => ?_)
                                                                    all_goals try simp only [decide_eq_true_eq, decide_eq_false_iff_not, beq_iff_eq, beq_eq_false_iff_ne, bne_iff_ne, bne_eq_false_iff_eq, Bool.not_eq_true', Bool.not_eq_false', Int.not_lt, Int.not_le, ne_eq, not_false_eq_true] at hc
                                                                    all_goals try (exfalso; first | omega | (simp at hc; done); done)
                                                                    all_goals first
                                                                      | (
                                                                        refine CW_skip ?_)
                                                                      | (
                                                                        refine CW_seq ?_
                                                                        refine CW_region ?_
                                                                        refine oQ (Q_assign rfl rfl) rfl rfl ?_
                                                                        refine OW_nil ?_
                                                                        all_goals with_reducible refine tN ?_
                                                                        all_goals (
                                                                            refine CW_ret ?_)))
                                                                all_goals first
                                                                  | with_reducible refine tR ?_
                                                                  | with_reducible refine tE ?_
                                                                  | (
                                                                    with_reducible refine tN ?_
                                                                    refine CW_seq ?_
                                                                    refine CW_region ?_
                                                                    refine oQ (Q_assign rfl rfl) rfl rfl ?_
                                                                    refine OW_nil ?_
                                                                    all_goals with_reducible refine tN ?_
                                                                    all_goals (
                                                                        refine CW_ret ?_)))))))))))))))))
    all_goals (
        first | ((refine exitQ (.inr rfl) 0 (.cons (.tmp rfl rfl) .nil) ?_ rfl vHn rfl rfl); rfl) | (exfalso; simp at hg; done) | (exfalso; simp_all; done))
  · skip
    refine conW tab_ok [(0, .int p), (1, .arr c), (2, .arr d)] 0 [] [] Try.func14 rfl rfl rfl rfl rfl rfl rfl rfl rfl ?_
    refine CW_seq ?_
    refine CW_region ?_
    refine oBox rfl rfl rfl rfl rfl rfl ?_
    refine oBox rfl rfl rfl rfl rfl rfl ?_
    refine oQ (Q_assign rfl rfl) rfl rfl ?_
    refine OW_nil ?_
    all_goals with_reducible refine tN ?_
    all_goals (
        refine CW_seq ?_
        refine CW_any (fun _ => false) 11 rfl lateOk (by decide +kernel) (fun hst => ?_)
        refine aQ 0 hst rfl rfl (by decide +kernel) (QX_of (Q_move rfl rfl) NE_move) rfl rfl ?_
        first | refine aQ 1 hst rfl rfl (by decide +kernel) (QX_of (Q_ldw rfl rfl rfl rfl (by first | omega | (dsimp only; omega) | (simp; omega) | (simp; done))) NE_load) rfl rfl ?_ | refine aQ 1 hst rfl rfl (by decide +kernel) (QX_of (Q_lda rfl rfl rfl rfl rfl (by first | omega | (dsimp only; omega) | (simp; omega) | (simp; done))) NE_load) rfl rfl ?_
        refine aQ 2 hst rfl rfl (by decide +kernel) (QX_call0 (toConic_con _ qlc) rfl rfl rfl) rfl rfl ?_
        first | refine aQ 3 hst rfl rfl (by decide +kernel) (QX_of (Q_ldw rfl rfl rfl rfl (by first | omega | (dsimp only; omega) | (simp; omega) | (simp; done))) NE_load) rfl rfl ?_ | refine aQ 3 hst rfl rfl (by decide +kernel) (QX_of (Q_lda rfl rfl rfl rfl rfl (by first | omega | (dsimp only; omega) | (simp; omega) | (simp; done))) NE_load) rfl rfl ?_
        refine aQ 4 hst rfl rfl (by decide +kernel) (QX_call0 (toConic_con _ qld) rfl rfl rfl) rfl rfl ?_
        refine AW_one (i := 5) (by decide +kernel) ?_
        refine gCall rfl rfl (spec_BasePoints_con p c d qlc qld) [] 0 rfl rfl (Fits.mk' vHn rfl rfl (by simp)) rfl rfl rfl ?_
        rintro r H1 hR
        obtain ⟨rfl, rfl⟩ := listR_neg hcd hR
        refine ⟨.tuple [.nilsl, .int (pencB p (pointB p c && pointB p d) c d)], [], rfl, keep_pre _ _, rfl, rfl, ?_⟩
        refine aQ 6 hst rfl rfl (by decide +kernel) (QX_of (Q_move rfl rfl) NE_move) rfl rfl ?_
        refine aExt 7 hst rfl rfl (by decide +kernel) rfl rfl rfl rfl ?_
        refine aExt 8 hst rfl rfl (by decide +kernel) rfl rfl rfl rfl ?_
        refine aQ 9 hst rfl rfl (by decide +kernel) (QX_of (Q_assign rfl rfl) NE_assign) rfl rfl ?_
        refine aQ 10 hst rfl rfl (by decide +kernel) (QX_of (Q_assign rfl rfl) NE_assign) rfl rfl ?_
        refine AW_done (by decide +kernel) ?_
        all_goals with_reducible refine tN ?_
        all_goals (
            refine CW_seq ?_
            refine CW_any (fun _ => false) 11 rfl lateOk (by decide +kernel) (fun hst => ?_)
            refine aQ 0 hst rfl rfl (by decide +kernel) (QX_of (Q_move rfl rfl) NE_move) rfl rfl ?_
            first | refine aQ 1 hst rfl rfl (by decide +kernel) (QX_of (Q_ldw rfl rfl rfl rfl (by first | omega | (dsimp only; omega) | (simp; omega) | (simp; done))) NE_load) rfl rfl ?_ | refine aQ 1 hst rfl rfl (by decide +kernel) (QX_of (Q_lda rfl rfl rfl rfl rfl (by first | omega | (dsimp only; omega) | (simp; omega) | (simp; done))) NE_load) rfl rfl ?_
            refine aQ 2 hst rfl rfl (by decide +kernel) (QX_call0 (toConic_con _ qlc) rfl rfl rfl) rfl rfl ?_
            first | refine aQ 3 hst rfl rfl (by decide +kernel) (QX_of (Q_ldw rfl rfl rfl rfl (by first | omega | (dsimp only; omega) | (simp; omega) | (simp; done))) NE_load) rfl rfl ?_ | refine aQ 3 hst rfl rfl (by decide +kernel) (QX_of (Q_lda rfl rfl rfl rfl rfl (by first | omega | (dsimp only; omega) | (simp; omega) | (simp; done))) NE_load) rfl rfl ?_
            refine aQ 4 hst rfl rfl (by decide +kernel) (QX_call0 (toConic_con _ qld) rfl rfl rfl) rfl rfl ?_
            refine AW_one (i := 5) (by decide +kernel) ?_
            refine gCall rfl rfl (impl_BasePoints_con p c d qlc qld) [] 0 rfl rfl (Fits.mk' vHn rfl rfl (by simp)) rfl rfl rfl ?_
            rintro r H1 hR
            obtain ⟨rfl, rfl⟩ := listR_neg hcd hR
            refine ⟨.tuple [.nilsl, .int (pencB p (pointB p c && pointB p d) c d)], [], rfl, keep_pre _ _, rfl, rfl, ?_⟩
            refine aQ 6 hst rfl rfl (by decide +kernel) (QX_of (Q_move rfl rfl) NE_move) rfl rfl ?_
            refine aExt 7 hst rfl rfl (by decide +kernel) rfl rfl rfl rfl ?_
            refine aExt 8 hst rfl rfl (by decide +kernel) rfl rfl rfl rfl ?_
            refine aQ 9 hst rfl rfl (by decide +kernel) (QX_of (Q_assign rfl rfl) NE_assign) rfl rfl ?_
            refine aQ 10 hst rfl rfl (by decide +kernel) (QX_of (Q_assign rfl rfl) NE_assign) rfl rfl ?_
            refine AW_done (by decide +kernel) ?_
            all_goals with_reducible refine tN ?_
            all_goals (
                refine CW_seq ?_
                refine CW_seq ?_
                refine CW_region ?_
                refine oQ (Q_move rfl rfl) rfl rfl ?_
                refine oQ (Q_move rfl rfl) rfl rfl ?_
                refine oQ (Q_call0 (eqPointS_nn) rfl rfl rfl) rfl rfl ?_
                refine oQ (Q_not rfl) rfl rfl ?_
                refine oQ (Q_move rfl rfl) rfl rfl ?_
                all_goals first | refine ogT rfl rfl (by with_reducible rfl) ?_ | refine og1 rfl rfl (by with_reducible rfl) rfl ?_ | refine og0 rfl rfl (by with_reducible rfl) rfl ?_ | refine ogP1 rfl rfl rfl (fun hg => ?_) (fun hg => ?_) | refine ogP0 rfl rfl rfl (fun hg => ?_) (fun hg => ?_)
                all_goals try simp only [decide_eq_true_eq, decide_eq_false_iff_not, beq_iff_eq, beq_eq_false_iff_ne, bne_iff_ne, bne_eq_false_iff_eq, Bool.not_eq_true', Bool.not_eq_false', Int.not_lt, Int.not_le, ne_eq, not_false_eq_true] at hg
                all_goals first | (refine oQ (Q_move rfl rfl) rfl rfl ?_) | skip
                all_goals first | refine ogT rfl rfl (by with_reducible rfl) ?_ | refine og1 rfl rfl (by with_reducible rfl) rfl ?_ | refine og0 rfl rfl (by with_reducible rfl) rfl ?_ | refine ogP1 rfl rfl rfl (fun hg => ?_) (fun hg => ?_) | refine ogP0 rfl rfl rfl (fun hg => ?_) (fun hg => ?_)
                all_goals try simp only [decide_eq_true_eq, decide_eq_false_iff_not, beq_iff_eq, beq_eq_false_iff_ne, bne_iff_ne, bne_eq_false_iff_eq, Bool.not_eq_true', Bool.not_eq_false', Int.not_lt, Int.not_le, ne_eq, not_false_eq_true] at hg
                all_goals first | (refine oQ (Q_move rfl rfl) rfl rfl ?_) | skip
                all_goals first | refine ogT rfl rfl (by with_reducible rfl) ?_ | refine og1 rfl rfl (by with_reducible rfl) rfl ?_ | refine og0 rfl rfl (by with_reducible rfl) rfl ?_ | refine ogP1 rfl rfl rfl (fun hg => ?_) (fun hg => ?_) | refine ogP0 rfl rfl rfl (fun hg => ?_) (fun hg => ?_)
                all_goals try simp only [decide_eq_true_eq, decide_eq_false_iff_not, beq_iff_eq, beq_eq_false_iff_ne, bne_iff_ne, bne_eq_false_iff_eq, Bool.not_eq_true', Bool.not_eq_false', Int.not_lt, Int.not_le, ne_eq, not_false_eq_true] at hg
                all_goals first | (refine oQ (Q_bin rfl rfl rfl) rfl rfl ?_) | skip
                all_goals first | refine oQ (Q_pick_t rfl (by with_reducible rfl) rfl rfl) rfl rfl ?_ | refine oQ (Q_pick_f rfl (by with_reducible rfl) rfl rfl) rfl rfl ?_
                all_goals refine OW_nil ?_
                all_goals with_reducible refine tN ?_
                all_goals (
                    first | refine CW_cond_t rfl (by with_reducible rfl) ?_ | refine CW_cond_f rfl (by with_reducible rfl) ?_ | refine CW_cond rfl (fun hc => ?_) (fun hc => ?_)
                    all_goals try simp only [decide_eq_true_eq, decide_eq_false_iff_not, beq_iff_eq, beq_eq_false_iff_ne, bne_iff_ne, bne_eq_false_iff_eq, Bool.not_eq_true', Bool.not_eq_false', Int.not_lt, Int.not_le, ne_eq, not_false_eq_true] at hc
                    all_goals try (exfalso; first | omega | (simp at hc; done); done)
                    all_goals first
                      | (
                        refine CW_skip ?_)
                      | (
                        refine CW_seq ?_
                        refine CW_region ?_
                        refine oQ (Q_assign rfl rfl) rfl rfl ?_
                        refine OW_nil ?_
                        all_goals with_reducible refine tN ?_
                        all_goals (
                            refine CW_ret ?_)))
                all_goals first
                  | with_reducible refine tR ?_
                  | with_reducible refine tE ?_
                  | (
                    with_reducible refine tN ?_
                    refine CW_seq ?_
                    refine CW_region ?_
                    refine oQ (Q_assign rfl rfl) rfl rfl ?_
                    refine OW_nil ?_
                    all_goals with_reducible refine tN ?_
                    all_goals (
                        refine CW_seq ?_
                        refine CW_region ?_
                        refine oQ (Q_move rfl rfl) rfl rfl ?_
                        refine oQ (Q_move rfl rfl) rfl rfl ?_
                        refine oQ (Q_call0 (markPointS_nil 101) rfl rfl rfl) rfl rfl ?_
                        refine oQ (Q_assign rfl rfl) rfl rfl ?_
                        refine OW_nil ?_
                        all_goals with_reducible refine tN ?_
                        all_goals (
                            refine CW_seq ?_
                            refine CW_region ?_
                            refine oQ (Q_assign rfl rfl) rfl rfl ?_
                            refine OW_nil ?_
                            all_goals with_reducible refine tN ?_
                            all_goals (
                                refine CW_seq ?_
                                refine CW_region ?_
                                refine oQ (Q_move rfl rfl) rfl rfl ?_
                                refine oQ (Q_move rfl rfl) rfl rfl ?_
                                refine oQ (Q_call0 (heldPointS_nil 101) rfl rfl rfl) rfl rfl ?_
                                refine oQ (Q_assign rfl rfl) rfl rfl ?_
                                refine OW_nil ?_
                                all_goals with_reducible refine tN ?_
                                all_goals (
                                    refine CW_seq ?_
                                    refine CW_seq ?_
                                    refine CW_region ?_
                                    refine oQ (Q_move rfl rfl) rfl rfl ?_
                                    refine oQ (Q_bin rfl rfl rfl) rfl rfl ?_
                                    refine OW_nil ?_
                                    all_goals with_reducible refine tN ?_
                                    all_goals (
                                        first | refine CW_cond_t rfl (by with_reducible rfl) ?_ | refine CW_cond_f rfl (by with_reducible rfl) ?_ | refine CW_cond rfl (fun hc => ?_) (fun hc => ?_)
                                        all_goals try simp only [decide_eq_true_eq, decide_eq_false_iff_not, beq_iff_eq, beq_eq_false_iff_ne, bne_iff_ne, bne_eq_false_iff_eq, Bool.not_eq_true', Bool.not_eq_false', Int.not_lt, Int.not_le, ne_eq, not_false_eq_true] at hc
                                        all_goals try (exfalso; first | omega | (simp at hc; done); done)
                                        all_goals first
                                          | (
                                            refine CW_skip ?_)
                                          | (
                                            refine CW_seq ?_
                                            refine CW_region ?_
                                            refine oQ (Q_assign rfl rfl) rfl rfl ?_
                                            refine OW_nil ?_
                                            all_goals with_reducible refine tN ?_
                                            all_goals (
                                                refine CW_ret ?_)))
                                    all_goals first
                                      | with_reducible refine tR ?_
                                      | with_reducible refine tE ?_
                                      | (
                                        with_reducible refine tN ?_
                                        refine CW_seq ?_
                                        refine CW_seq ?_
                                        refine CW_region ?_
                                        refine oQ (Q_move rfl rfl) rfl rfl ?_
                                        refine oQ (Q_move rfl rfl) rfl rfl ?_
                                        refine oQ (Q_bin rfl rfl rfl) rfl rfl ?_
                                        refine OW_nil ?_
                                        all_goals with_reducible refine tN ?_
                                        all_goals (
                                            first | refine CW_cond_t rfl (by with_reducible rfl) ?_ | refine CW_cond_f rfl (by with_reducible rfl) ?_ | refine CW_cond rfl (fun hc => ?_) (fun hc => ?_)
                                            all_goals try simp only [decide_eq_true_eq, decide_eq_false_iff_not, beq_iff_eq, beq_eq_false_iff_ne, bne_iff_ne, bne_eq_false_iff_eq, Bool.not_eq_true', Bool.not_eq_false', Int.not_lt, Int.not_le, ne_eq, not_false_eq_true] at hc
                                            all_goals try (exfalso; first | omega | (simp at hc; done); done)
                                            all_goals first
                                              | (
                                                refine CW_skip ?_)
                                              | (
                                                refine CW_seq ?_
                                                refine CW_region ?_
                                                refine oQ (Q_assign rfl rfl) rfl rfl ?_
                                                refine OW_nil ?_
                                                all_goals with_reducible refine tN ?_
                                                all_goals (
                                                    refine CW_ret ?_)))
                                        all_goals first
                                          | with_reducible refine tR ?_
                                          | with_reducible refine tE ?_
                                          | (
                                            with_reducible refine tN ?_
                                            refine CW_seq ?_
                                            refine CW_any (fun _ => false) 11 rfl lateOk (by decide +kernel) (fun hst => ?_)
                                            refine aQ 0 hst rfl rfl (by decide +kernel) (QX_of (Q_move rfl rfl) NE_move) rfl rfl ?_
                                            first | refine aQ 1 hst rfl rfl (by decide +kernel) (QX_of (Q_ldw rfl rfl rfl rfl (by first | omega | (dsimp only; omega) | (simp; omega) | (simp; done))) NE_load) rfl rfl ?_ | refine aQ 1 hst rfl rfl (by decide +kernel) (QX_of (Q_lda rfl rfl rfl rfl rfl (by first | omega | (dsimp only; omega) | (simp; omega) | (simp; done))) NE_load) rfl rfl ?_
                                            refine aQ 2 hst rfl rfl (by decide +kernel) (QX_call0 (toConic_con _ qlc) rfl rfl rfl) rfl rfl ?_
                                            first | refine aQ 3 hst rfl rfl (by decide +kernel) (QX_of (Q_ldw rfl rfl rfl rfl (by first | omega | (dsimp only; omega) | (simp; omega) | (simp; done))) NE_load) rfl rfl ?_ | refine aQ 3 hst rfl rfl (by decide +kernel) (QX_of (Q_lda rfl rfl rfl rfl rfl (by first | omega | (dsimp only; omega) | (simp; omega) | (simp; done))) NE_load) rfl rfl ?_
                                            refine aQ 4 hst rfl rfl (by decide +kernel) (QX_call0 (toConic_con _ qld) rfl rfl rfl) rfl rfl ?_
                                            refine AW_one (i := 5) (by decide +kernel) ?_
                                            refine gCall rfl rfl (impl_BasePoints_con p c d qlc qld) [] 0 rfl rfl (Fits.mk' vHn rfl rfl (by simp)) rfl rfl rfl ?_
                                            rintro r H1 hR
                                            obtain ⟨rfl, rfl⟩ := listR_neg hcd hR
                                            refine ⟨.tuple [.nilsl, .int (pencB p (pointB p c && pointB p d) c d)], [], rfl, keep_pre _ _, rfl, rfl, ?_⟩
                                            refine aQ 6 hst rfl rfl (by decide +kernel) (QX_of (Q_move rfl rfl) NE_move) rfl rfl ?_
                                            refine aExt 7 hst rfl rfl (by decide +kernel) rfl rfl rfl rfl ?_
                                            refine aExt 8 hst rfl rfl (by decide +kernel) rfl rfl rfl rfl ?_
                                            refine aQ 9 hst rfl rfl (by decide +kernel) (QX_of (Q_assign rfl rfl) NE_assign) rfl rfl ?_
                                            refine aQ 10 hst rfl rfl (by decide +kernel) (QX_of (Q_assign rfl rfl) NE_assign) rfl rfl ?_
                                            refine AW_done (by decide +kernel) ?_
                                            all_goals with_reducible refine tN ?_
                                            all_goals (
                                                refine CW_seq ?_
                                                refine CW_seq ?_
                                                refine CW_region ?_
                                                refine oQ (Q_move rfl rfl) rfl rfl ?_
                                                refine oQ (Q_move rfl rfl) rfl rfl ?_
                                                refine oQ (Q_call0 (eqPointS_nn) rfl rfl rfl) rfl rfl ?_
                                                refine oQ (Q_not rfl) rfl rfl ?_
                                                refine oQ (Q_move rfl rfl) rfl rfl ?_
                                                all_goals first | refine ogT rfl rfl (by with_reducible rfl) ?_ | refine og1 rfl rfl (by with_reducible rfl) rfl ?_ | refine og0 rfl rfl (by with_reducible rfl) rfl ?_ | refine ogP1 rfl rfl rfl (fun hg => ?_) (fun hg => ?_) | refine ogP0 rfl rfl rfl (fun hg => ?_) (fun hg => ?_)
                                                all_goals try simp only [decide_eq_true_eq, decide_eq_false_iff_not, beq_iff_eq, beq_eq_false_iff_ne, bne_iff_ne, bne_eq_false_iff_eq, Bool.not_eq_true', Bool.not_eq_false', Int.not_lt, Int.not_le, ne_eq, not_false_eq_true] at hg
                                                all_goals first | (refine oQ (Q_move rfl rfl) rfl rfl ?_) | skip
                                                all_goals first | refine ogT rfl rfl (by with_reducible rfl) ?_ | refine og1 rfl rfl (by with_reducible rfl) rfl ?_ | refine og0 rfl rfl (by with_reducible rfl) rfl ?_ | refine ogP1 rfl rfl rfl (fun hg => ?_) (fun hg => ?_) | refine ogP0 rfl rfl rfl (fun hg => ?_) (fun hg => ?_)
                                                all_goals try simp only [decide_eq_true_eq, decide_eq_false_iff_not, beq_iff_eq, beq_eq_false_iff_ne, bne_iff_ne, bne_eq_false_iff_eq, Bool.not_eq_true', Bool.not_eq_false', Int.not_lt, Int.not_le, ne_eq, not_false_eq_true] at hg
                                                all_goals first | (refine oQ (Q_move rfl rfl) rfl rfl ?_) | skip
                                                all_goals first | refine ogT rfl rfl (by with_reducible rfl) ?_ | refine og1 rfl rfl (by with_reducible rfl) rfl ?_ | refine og0 rfl rfl (by with_reducible rfl) rfl ?_ | refine ogP1 rfl rfl rfl (fun hg => ?_) (fun hg => ?_) | refine ogP0 rfl rfl rfl (fun hg => ?_) (fun hg => ?_)
                                                all_goals try simp only [decide_eq_true_eq, decide_eq_false_iff_not, beq_iff_eq, beq_eq_false_iff_ne, bne_iff_ne, bne_eq_false_iff_eq, Bool.not_eq_true', Bool.not_eq_false', Int.not_lt, Int.not_le, ne_eq, not_false_eq_true] at hg
                                                all_goals first | (refine oQ (Q_bin rfl rfl rfl) rfl rfl ?_) | skip
                                                all_goals first | refine oQ (Q_pick_t rfl (by with_reducible rfl) rfl rfl) rfl rfl ?_ | refine oQ (Q_pick_f rfl (by with_reducible rfl) rfl rfl) rfl rfl ?_
                                                all_goals refine OW_nil ?_
                                                all_goals with_reducible refine tN ?_
                                                all_goals (
                                                    first | refine CW_cond_t rfl (by with_reducible rfl) ?_ | refine CW_cond_f rfl (by with_reducible rfl) ?_ | refine CW_cond rfl (fun hc => ?_) (fun hc => ?_)
                                                    all_goals try simp only [decide_eq_true_eq, decide_eq_false_iff_not, beq_iff_eq, beq_eq_false_iff_ne, bne_iff_ne, bne_eq_false_iff_eq, Bool.not_eq_true', Bool.not_eq_false', Int.not_lt, Int.not_le, ne_eq, not_false_eq_true] at hc
                                                    all_goals try (exfalso; first | omega | (simp at hc; done); done)
                                                    all_goals first
                                                      | (
                                                        refine CW_skip ?_)
                                                      | (
                                                        refine CW_seq ?_
                                                        refine CW_region ?_
                                                        refine oQ (Q_assign rfl rfl) rfl rfl ?_
                                                        refine OW_nil ?_
                                                        all_goals with_reducible refine tN ?_
                                                        all_goals (
                                                            refine CW_ret ?_)))
                                                all_goals first
                                                  | with_reducible refine tR ?_
                                                  | with_reducible refine tE ?_
                                                  | (
                                                    with_reducible refine tN ?_
                                                    refine CW_seq ?_
                                                    refine CW_region ?_
                                                    refine oQ (Q_assign rfl rfl) rfl rfl ?_
                                                    refine OW_nil ?_
                                                    all_goals with_reducible refine tN ?_
                                                    all_goals (
                                                        refine CW_seq ?_
                                                        refine CW_region ?_
                                                        refine oQ (Q_move rfl rfl) rfl rfl ?_
                                                        refine oQ (Q_move rfl rfl) rfl rfl ?_
                                                        refine oQ (Q_call0 (heldPointS_nil 101) rfl rfl rfl) rfl rfl ?_
                                                        refine oQ (Q_assign rfl rfl) rfl rfl ?_
                                                        refine OW_nil ?_
                                                        all_goals with_reducible refine tN ?_
                                                        all_goals (
                                                            refine CW_seq ?_
                                                            refine CW_seq ?_
                                                            refine CW_region ?_
                                                            refine oQ (Q_move rfl rfl) rfl rfl ?_
                                                            refine oQ (Q_bin rfl rfl rfl) rfl rfl ?_
                                                            refine OW_nil ?_
                                                            all_goals with_reducible refine tN ?_
                                                            all_goals (
                                                                first | refine CW_cond_t rfl (by with_reducible rfl) ?_ | refine CW_cond_f rfl (by with_reducible rfl) ?_ | refine CW_cond rfl (fun hc => ?_) (fun hc => ?_)
                                                                all_goals try simp only [decide_eq_true_eq, decide_eq_false_iff_not, beq_iff_eq, beq_eq_false_iff_ne, bne_iff_ne, bne_eq_false_iff_eq, Bool.not_eq_true', Bool.not_eq_false', Int.not_lt, Int.not_le, ne_eq, not_false_eq_true] at hc
                                                                all_goals try (exfalso; first | omega | (simp at hc; done); done)
                                                                all_goals first
                                                                  | (
                                                                    refine CW_skip ?_)
                                                                  | (
                                                                    refine CW_seq ?_
                                                                    refine CW_region ?_
                                                                    refine oQ (Q_assign rfl rfl) rfl rfl ?_
                                                                    refine OW_nil ?_
                                                                    all_goals with_reducible refine tN ?_
                                                                    all_goals (
                                                                        refine CW_ret ?_)))
                                                            all_goals first
                                                              | with_reducible refine tR ?_
                                                              | with_reducible refine tE ?_
                                                              | (
                                                                with_reducible refine tN ?_
                                                                refine CW_seq ?_
                                                                refine CW_seq ?_
                                                                refine CW_region ?_
                                                                refine oQ (Q_move rfl rfl) rfl rfl ?_
                                                                refine oQ (Q_move rfl rfl) rfl rfl ?_
                                                                refine oQ (Q_bin rfl rfl rfl) rfl rfl ?_
                                                                refine OW_nil ?_
                                                                all_goals with_reducible refine tN ?_
                                                                all_goals (
                                                                    first | refine CW_cond_t rfl (by with_reducible rfl) ?_ | refine CW_cond_f rfl (by with_reducible rfl) ?_ | refine CW_cond rfl (fun hc => ?_) (fun hc => ?_)
                                                                    all_goals try simp only [decide_eq_true_eq, decide_eq_false_iff_not, beq_iff_eq, beq_eq_false_iff_ne, bne_iff_ne, bne_eq_false_iff_eq, Bool.not_eq_true', Bool.not_eq_false', Int.not_lt, Int.not_le, ne_eq, not_false_eq_true] at hc
                                                                    all_goals try (exfalso; first | omega | (simp at hc; done); done)
                                                                    all_goals first
                                                                      | (
                                                                        refine CW_skip ?_)
                                                                      | (
                                                                        refine CW_seq ?_
                                                                        refine CW_region ?_
                                                                        refine oQ (Q_assign rfl rfl) rfl rfl ?_
                                                                        refine OW_nil ?_
                                                                        all_goals with_reducible refine tN ?_
                                                                        all_goals (
                                                                            refine CW_ret ?_)))
                                                                all_goals first
                                                                  | with_reducible refine tR ?_
                                                                  | with_reducible refine tE ?_
                                                                  | (
                                                                    with_reducible refine tN ?_
                                                                    refine CW_seq ?_
                                                                    refine CW_region ?_
                                                                    refine oQ (Q_assign rfl rfl) rfl rfl ?_
                                                                    refine OW_nil ?_
                                                                    all_goals with_reducible refine tN ?_
                                                                    all_goals (
                                                                        refine CW_ret ?_)))))))))))))))))
    all_goals (
        first | ((refine exitQ (.inr rfl) 0 (.cons (.tmp rfl rfl) .nil) ?_ rfl vHn rfl rfl); rfl) | (exfalso; simp at hg; done) | (exfalso; simp_all; done))
end Go.Proofs.Ytgfncdejnjikpaa
