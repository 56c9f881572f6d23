/- MoebiusAt of both sides, and its law. Printed by gen_m3.py. -/
import Derived.Test.YtgfncdejnjikpaaM2
namespace Go.Proofs.Ytgfncdejnjikpaa
attribute [local irreducible] CW OW QW QOp Con thenP inBlockP
set_option maxRecDepth 10000
set_option linter.unusedSimpArgs false
set_option linter.unusedVariables false
theorem codeP_zero {p : Int} {b : Bool} {l : List Int} (h : codeP p b l = 0) : primeB p = true ∧ b = false ∧ placesB p l = true := by
  unfold codeP at h
  cases h1 : primeB p <;> cases h2 : b <;> cases h3 : placesB p l <;> simp_all
theorem badM_one {p a b c d : Int} (h : badM p [a, b, c, d] 1 = false) (hp : primeB p = true) : moebB p [a, b, c, d] = true ∧ (0 ≤ a ∧ a < p) ∧ (0 ≤ b ∧ b < p) ∧ (0 ≤ c ∧ c < p) ∧ (0 ≤ d ∧ d < p) := by
  have h1 : moebB p [a, b, c, d] = true := by
    have : badM p [a, b, c, d] 1 = !moebB p [a, b, c, d] := by simp [badM, anyF, elemAt, List.range, List.range.loop]
    rw [this] at h
    simpa using h
  have h2 : normB p [a, b, c, d] = true := by simp only [moebB, Bool.and_eq_true] at h1; exact h1.1
  have hN := norm_list h2
  exact ⟨h1, hN a (by simp), hN b (by simp), hN c (by simp), hN d (by simp)⟩
def mAtC (p a b c d x : Int) : Int := codeP p (badM p [a, b, c, d] 1) [x]
def mAtV (p a b c d x : Int) : Int := if mAtC p a b c d x = 0 then atP p a b c d x else 0
theorem mAt_tup {p a b c d x v : Int} (h : v = mAtV p a b c d x) : V.tuple [.int v, .int (mAtC p a b c d x)] = V.tuple [.int (mAtV p a b c d x), .int (mAtC p a b c d x)] := by rw [h]
theorem spec_MoebiusAt_con (p a b c d x : Int) : ConQ Try.prog [] 20 [.int p, .arr [a, b, c, d], .int x] [] (.tuple [.int (mAtV p a b c d x), .int (mAtC p a b c d x)]) := by
  refine conW tab_ok [(0, .int p), (1, .arr [a, b, c, d]), (2, .int x)] 0 [] [] Try.func20 rfl rfl rfl rfl rfl rfl rfl rfl rfl ?_
  refine CW_seq ?_
  refine CW_region ?_
  refine oBox rfl rfl rfl rfl rfl rfl ?_
  refine oQ (Q_assign rfl rfl) rfl rfl ?_
  refine oQ (Q_assign rfl rfl) rfl rfl ?_
  refine OW_nil ?_
  all_goals with_reducible refine tN ?_
  all_goals (
      refine CW_seq ?_
      refine CW_seq ?_
      refine CW_region ?_
      refine oQ (Q_move rfl rfl) rfl rfl ?_
      first | refine oQ (Q_ldw rfl rfl rfl rfl (by first | omega | (dsimp only; omega) | (simp; omega) | (simp; done))) rfl rfl ?_ | refine oQ (Q_lda rfl rfl rfl rfl rfl (by first | omega | (dsimp only; omega) | (simp; omega) | (simp; done))) rfl rfl ?_
      refine oBsl rfl rfl rfl rfl (.inr ⟨rfl, rfl, by decide⟩) rfl rfl rfl rfl rfl rfl ?_
      refine oQ (Q_move rfl rfl) rfl rfl ?_
      refine oBsl (zl := []) rfl rfl rfl rfl (.inl ⟨rfl, rfl⟩) rfl rfl rfl rfl rfl rfl ?_
      refine oQ (Q_call (l05Code_row p 34 [a, b, c, d] 1 1 (by simp) (by omega) 2 [x] 1 1 (by simp) (by omega)) [(0, 1), (1, 2)] rfl rfl (Fits.mk' (vHc rfl (vHc rfl vHn)) rfl rfl (by simp)) rfl rfl) rfl rfl ?_
      refine oQ (Q_assign rfl rfl) rfl rfl ?_
      refine OW_nil ?_
      all_goals with_reducible refine tN ?_
      all_goals (
          refine CW_seq ?_
          refine CW_region ?_
          refine oQ (Q_move rfl rfl) rfl rfl ?_
          refine oQ (Q_bin rfl rfl rfl) rfl rfl ?_
          refine OW_nil ?_
          all_goals with_reducible refine tN ?_
          all_goals (
              first | refine CW_cond_t rfl (by with_reducible rfl) ?_ | refine CW_cond_f rfl (by with_reducible rfl) ?_ | refine CW_cond rfl (fun hc => ?_) (fun hc => ?_)
              all_goals try simp only [decide_eq_true_eq, decide_eq_false_iff_not, beq_iff_eq, beq_eq_false_iff_ne, bne_iff_ne, bne_eq_false_iff_eq, Bool.not_eq_true', Bool.not_eq_false', Int.not_lt, Int.not_le, ne_eq, not_false_eq_true] at hc
              all_goals first
                | (
                  refine CW_skip ?_)
                | (
                  refine CW_seq ?_
                  refine CW_region ?_
                  refine oQ (Q_move rfl rfl) rfl rfl ?_
                  refine oQ (Q_assign rfl rfl) rfl rfl ?_
                  refine oQ (Q_assign rfl rfl) rfl rfl ?_
                  refine OW_nil ?_
                  all_goals with_reducible refine tN ?_
                  all_goals (
                      refine CW_ret ?_))))
      all_goals first
        | with_reducible refine tR ?_
        | with_reducible refine tE ?_
        | (
          with_reducible refine tN ?_
          refine CW_seq ?_
          refine CW_region ?_
          refine oQ (Q_move rfl rfl) rfl rfl ?_
          first | refine oQ (Q_ldw rfl rfl rfl rfl (by first | omega | (dsimp only; omega) | (simp; omega) | (simp; done))) rfl rfl ?_ | refine oQ (Q_lda rfl rfl rfl rfl rfl (by first | omega | (dsimp only; omega) | (simp; omega) | (simp; done))) rfl rfl ?_
          refine oQ (Q_move rfl rfl) rfl rfl ?_
          (have hz := codeP_zero (show codeP p (badM p [a, b, c, d] 1) [x] = 0 from hc))
          (have hm := badM_one hz.2.1 hz.1)
          (have hx : 0 ≤ x ∧ x ≤ p := by have := hz.2.2; simp [placesB] at this; exact this)
          refine oQ (Q_call0 (l05At_con p a b c d x hz.1 hm.2.1 hm.2.2.1 hm.2.2.2.1 hm.2.2.2.2 hx) rfl rfl rfl) rfl rfl ?_
          refine oQ (Q_assign rfl rfl) rfl rfl ?_
          refine oQ (Q_assign rfl rfl) rfl rfl ?_
          refine OW_nil ?_
          all_goals with_reducible refine tN ?_
          all_goals (
              refine CW_ret ?_)))
  all_goals (
      refine exitQ (.inr rfl) 0 (.cons (.tmp rfl rfl) (.cons (.tmp rfl rfl) .nil)) ?_ rfl vHn rfl rfl
      first
        | exact mAt_tup (show (0 : Int) = mAtV p a b c d x from (if_neg hc).symm)
        | ((have hc' : mAtC p a b c d x = 0 := hc); (have := mAt_tup (show atP p a b c d x = mAtV p a b c d x from (if_pos hc').symm)); rw [hc'] at this ⊢; exact this))
theorem impl_MoebiusAt_con (p a b c d x : Int) : ConQ Try.prog [] 22 [.int p, .arr [a, b, c, d], .int x] [] (.tuple [.int (mAtV p a b c d x), .int (mAtC p a b c d x)]) := by
  refine conW tab_ok [(0, .int p), (1, .arr [a, b, c, d]), (2, .int x)] 0 [] [] Try.func22 rfl rfl rfl rfl rfl rfl rfl rfl rfl ?_
  refine CW_seq ?_
  refine CW_region ?_
  refine oBox rfl rfl rfl rfl rfl rfl ?_
  refine oQ (Q_assign rfl rfl) rfl rfl ?_
  refine oQ (Q_assign rfl rfl) rfl rfl ?_
  refine OW_nil ?_
  all_goals with_reducible refine tN ?_
  all_goals (
      refine CW_seq ?_
      refine CW_seq ?_
      refine CW_region ?_
      refine oQ (Q_move rfl rfl) rfl rfl ?_
      first | refine oQ (Q_ldw rfl rfl rfl rfl (by first | omega | (dsimp only; omega) | (simp; omega) | (simp; done))) rfl rfl ?_ | refine oQ (Q_lda rfl rfl rfl rfl rfl (by first | omega | (dsimp only; omega) | (simp; omega) | (simp; done))) rfl rfl ?_
      refine oBsl rfl rfl rfl rfl (.inr ⟨rfl, rfl, by decide⟩) rfl rfl rfl rfl rfl rfl ?_
      refine oQ (Q_move rfl rfl) rfl rfl ?_
      refine oBsl (zl := []) rfl rfl rfl rfl (.inl ⟨rfl, rfl⟩) rfl rfl rfl rfl rfl rfl ?_
      refine oQ (Q_call (moebiusCode_row p [a, b, c, d] 1 1 (by simp) (by omega) 2 [x] 1 1 (by simp) (by omega)) [(0, 1), (1, 2)] rfl rfl (Fits.mk' (vHc rfl (vHc rfl vHn)) rfl rfl (by simp)) rfl rfl) rfl rfl ?_
      refine oQ (Q_assign rfl rfl) rfl rfl ?_
      refine OW_nil ?_
      all_goals with_reducible refine tN ?_
      all_goals (
          refine CW_seq ?_
          refine CW_region ?_
          refine oQ (Q_move rfl rfl) rfl rfl ?_
          refine oQ (Q_bin rfl rfl rfl) rfl rfl ?_
          refine OW_nil ?_
          all_goals with_reducible refine tN ?_
          all_goals (
              first | refine CW_cond_t rfl (by with_reducible rfl) ?_ | refine CW_cond_f rfl (by with_reducible rfl) ?_ | refine CW_cond rfl (fun hc => ?_) (fun hc => ?_)
              all_goals try simp only [decide_eq_true_eq, decide_eq_false_iff_not, beq_iff_eq, beq_eq_false_iff_ne, bne_iff_ne, bne_eq_false_iff_eq, Bool.not_eq_true', Bool.not_eq_false', Int.not_lt, Int.not_le, ne_eq, not_false_eq_true] at hc
              all_goals first
                | (
                  refine CW_skip ?_)
                | (
                  refine CW_seq ?_
                  refine CW_region ?_
                  refine oQ (Q_move rfl rfl) rfl rfl ?_
                  refine oQ (Q_assign rfl rfl) rfl rfl ?_
                  refine oQ (Q_assign rfl rfl) rfl rfl ?_
                  refine OW_nil ?_
                  all_goals with_reducible refine tN ?_
                  all_goals (
                      refine CW_ret ?_))))
      all_goals first
        | with_reducible refine tR ?_
        | with_reducible refine tE ?_
        | (
          with_reducible refine tN ?_
          refine CW_seq ?_
          refine CW_region ?_
          first | refine oQ (Q_ldw rfl rfl rfl rfl (by first | omega | (dsimp only; omega) | (simp; omega) | (simp; done))) rfl rfl ?_ | refine oQ (Q_lda rfl rfl rfl rfl rfl (by first | omega | (dsimp only; omega) | (simp; omega) | (simp; done))) rfl rfl ?_
          refine oQ (Q_move rfl rfl) rfl rfl ?_
          refine oQ (Q_move rfl rfl) rfl rfl ?_
          (have hz := codeP_zero (show codeP p (badM p [a, b, c, d] 1) [x] = 0 from hc))
          (have hm := badM_one hz.2.1 hz.1)
          (have hx : 0 ≤ x ∧ x ≤ p := by have := hz.2.2; simp [placesB] at this; exact this)
          refine oQ (Q_call0 (at_con p a b c d x hz.1 hm.2.1 hm.2.2.1 hm.2.2.2.1 hm.2.2.2.2 hx) rfl rfl rfl) rfl rfl ?_
          refine oQ (Q_assign rfl rfl) rfl rfl ?_
          refine oQ (Q_assign rfl rfl) rfl rfl ?_
          refine OW_nil ?_
          all_goals with_reducible refine tN ?_
          all_goals (
              refine CW_ret ?_)))
  all_goals (
      refine exitQ (.inr rfl) 0 (.cons (.tmp rfl rfl) (.cons (.tmp rfl rfl) .nil)) ?_ rfl vHn rfl rfl
      first
        | exact mAt_tup (show (0 : Int) = mAtV p a b c d x from (if_neg hc).symm)
        | ((have hc' : mAtC p a b c d x = 0 := hc); (have := mAt_tup (show atP p a b c d x = mAtV p a b c d x from (if_pos hc').symm)); rw [hc'] at this ⊢; exact this))
theorem toMoebius_con (l : List Int) (hl : l.length = 4) : ConQ Try.prog [] 21 [.arr l] [] (.arr l) := by
  refine conW tab_ok [(0, .arr l)] 0 [] [] Try.func21 rfl rfl rfl rfl rfl rfl rfl rfl rfl ?_
  refine CW_seq ?_
  refine CW_region ?_
  refine oBox rfl rfl rfl rfl rfl rfl ?_
  refine oAlloc rfl rfl rfl rfl rfl rfl rfl ?_
  refine OW_nil ?_
  all_goals with_reducible refine tN ?_
  all_goals (
      refine CW_seq ?_
      refine CW_region ?_
      refine oAlloc rfl rfl rfl rfl rfl rfl rfl ?_
      refine OW_nil ?_
      all_goals with_reducible refine tN ?_
      all_goals (
          refine CW_seq ?_
          refine CW_seq ?_
          refine CW_region ?_
          refine oQ (Q_assign rfl rfl) rfl rfl ?_
          refine OW_nil ?_
          all_goals with_reducible refine tN ?_
          all_goals (
              refine CW_block ?_
              refine CW_loop (ι := Nat) (fun i => i ≤ 4) (fun i => ⟨[(1, .ptr 0 0), (2, .ptr 1 0), (3, .ptr 2 0), (4, .int i)], [(0, .ints 31 l), (1, .ints 34 [0, 0, 0, 0]), (2, .ints 34 (l.take i ++ List.replicate (4 - i) 0))], 3⟩) (fun i => 4 - i) 0 ?_ ?_ ?_
              · first | trivial | omega | (simp; done) | (simp; omega)
              · refine View.mk' [] rfl rfl rfl ?_ ?_
                repeat' first | exact vFn | refine vFc rfl ?_ | exact vHn | refine vHc rfl ?_ | refine vFc (congrArg (fun z => some (V.int z)) ?_) ?_ | refine vHc (congrArg (fun z => some (Blk.ints _ z)) ?_) ?_ | refine vFc (congrArg (fun z => some (V.bool z)) ?_) ?_
              intro i hi
              refine CW_seq ?_
              refine CW_seq ?_
              refine CW_region ?_
              refine oQ (Q_move rfl rfl) rfl rfl ?_
              refine oQ (Q_bin rfl rfl rfl) rfl rfl ?_
              refine OW_nil ?_
              all_goals with_reducible refine tN ?_
              all_goals (
                  first | refine CW_cond_t rfl (by with_reducible rfl) ?_ | refine CW_cond_f rfl (by with_reducible rfl) ?_ | refine CW_cond rfl (fun hc => ?_) (fun hc => ?_)
                  all_goals try simp only [decide_eq_true_eq, decide_eq_false_iff_not, beq_iff_eq, beq_eq_false_iff_ne, bne_iff_ne, bne_eq_false_iff_eq, Bool.not_eq_true', Bool.not_eq_false', Int.not_lt, Int.not_le, ne_eq, not_false_eq_true] at hc
                  all_goals first
                    | (
                      refine CW_skip ?_)
                    | (
                      refine CW_exit ?_))
              all_goals first
                | with_reducible refine tR ?_
                | with_reducible refine tE ?_
                | (
                  with_reducible refine tN ?_
                  refine CW_seq ?_
                  refine CW_block ?_
                  refine CW_region ?_
                  refine oQ (Q_move rfl rfl) rfl rfl ?_
                  refine oQ (Q_move rfl rfl) rfl rfl ?_
                  first | refine oQ (Q_ixa0 rfl rfl rfl rfl rfl rfl (by first | omega | (dsimp only; omega) | (simp; omega) | (simp; done))) rfl rfl ?_ | refine oQ (Q_ixa1 rfl rfl rfl rfl rfl rfl (by first | omega | (dsimp only; omega) | (simp; omega) | (simp; done))) rfl rfl ?_
                  refine oQ (Q_ld rfl rfl rfl rfl (by first | omega | (dsimp only; omega) | (simp; omega) | (simp; done))) rfl rfl ?_
                  first | refine oQ (Q_ixa0 rfl rfl rfl rfl rfl rfl (by first | omega | (dsimp only; omega) | (simp; omega) | (simp; done))) rfl rfl ?_ | refine oQ (Q_ixa1 rfl rfl rfl rfl rfl rfl (by first | omega | (dsimp only; omega) | (simp; omega) | (simp; done))) rfl rfl ?_
                  refine oSt rfl rfl rfl rfl rfl (by first | omega | (dsimp only; omega) | (simp; omega) | (simp; done)) ?_
                  refine OW_nil ?_
                  all_goals first | with_reducible refine bN ?_ | with_reducible refine bE ?_ | with_reducible refine bR ?_ | refine bX rfl ?_
                  all_goals with_reducible refine tN ?_
                  all_goals (
                      refine CW_region ?_
                      refine oQ (Q_move rfl rfl) rfl rfl ?_
                      first | refine oQ (Q_binu rfl rfl rfl (by omega)) rfl rfl ?_ | refine oQ (Q_bin rfl rfl rfl) rfl rfl ?_
                      refine oQ (Q_assign rfl rfl) rfl rfl ?_
                      refine OW_nil ?_))
              all_goals first
                | with_reducible refine tR ?_
                | with_reducible refine tE ?_
                | (
                  with_reducible refine tN ?_
                  refine ⟨i + 1, ?_, ?_, View.mk' [] rfl rfl rfl ?_ ?_⟩
                  · omega
                  · omega
                  all_goals (repeat' first | exact vFn | refine vFc rfl ?_ | exact vHn | refine vHc rfl ?_ | refine vFc (congrArg (fun z => some (V.int z)) ?_) ?_ | refine vHc (congrArg (fun z => some (Blk.ints _ z)) ?_) ?_ | refine vFc (congrArg (fun z => some (V.bool z)) ?_) ?_)
                  all_goals exact fill_set (by omega) hl)
              all_goals first | with_reducible refine bN ?_ | with_reducible refine bE ?_ | with_reducible refine bR ?_ | refine bX rfl ?_)
          all_goals with_reducible refine tN ?_
          all_goals (
              refine CW_seq ?_
              refine CW_region ?_
              first | refine oQ (Q_ldw rfl rfl rfl rfl (by first | omega | (dsimp only; omega) | (simp; omega) | (simp; done))) rfl rfl ?_ | refine oQ (Q_lda rfl rfl rfl rfl rfl (by first | omega | (dsimp only; omega) | (simp; omega) | (simp; done))) rfl rfl ?_
              first | refine oStw rfl rfl rfl rfl (by first | omega | (dsimp only; omega) | (simp; omega) | (simp; done)) (by first | omega | (dsimp only; omega) | (simp; omega) | (simp; done)) ?_ | refine oSta rfl rfl rfl rfl (by first | omega | (dsimp only; omega) | (simp; omega) | (simp; done)) (by first | omega | (dsimp only; omega) | (simp; omega) | (simp; done)) ?_
              refine OW_nil ?_
              all_goals with_reducible refine tN ?_
              all_goals (
                  refine CW_ret ?_))))
  all_goals (
      have e : i = 4 := by omega
      subst e
      refine exitQ (.inr rfl) 0 (.cons (.arr rfl rfl rfl rfl (by simp [hl])) .nil) ?_ rfl vHn rfl rfl
      simp [resV, ← hl])
theorem law_FnExactMoebiusAt (p : Int) (l : List Int) (x : Int) (hl : l.length = 4) : ConQ Try.prog [] 4 [.int p, .arr l, .int x] [] (.bool true) := by
  match l, hl with
  | [a, b, c, d], hl =>
    refine conW tab_ok [(0, .int p), (1, .arr [a, b, c, d]), (2, .int x)] 0 [] [] Try.func4 rfl rfl rfl rfl rfl rfl rfl rfl rfl ?_
    refine CW_seq ?_
    refine CW_region ?_
    refine oBox rfl rfl rfl rfl rfl rfl ?_
    refine oQ (Q_assign rfl rfl) rfl rfl ?_
    refine OW_nil ?_
    all_goals with_reducible refine tN ?_
    all_goals (
        refine CW_seq ?_
        refine CW_region ?_
        refine oQ (Q_move rfl rfl) rfl rfl ?_
        first | refine oQ (Q_ldw rfl rfl rfl rfl (by first | omega | (dsimp only; omega) | (simp; omega) | (simp; done))) rfl rfl ?_ | refine oQ (Q_lda rfl rfl rfl rfl rfl (by first | omega | (dsimp only; omega) | (simp; omega) | (simp; done))) rfl rfl ?_
        refine oQ (Q_call0 (toMoebius_con _ hl) rfl rfl rfl) rfl rfl ?_
        refine oQ (Q_move rfl rfl) rfl rfl ?_
        refine oQ (Q_call0 (spec_MoebiusAt_con _ _ _ _ _ _) rfl rfl rfl) rfl rfl ?_
        refine oQ (Q_move rfl rfl) rfl rfl ?_
        refine oQ (Q_extract rfl rfl) rfl rfl ?_
        refine oQ (Q_extract rfl rfl) rfl rfl ?_
        refine oQ (Q_assign rfl rfl) rfl rfl ?_
        refine oQ (Q_assign rfl rfl) rfl rfl ?_
        refine OW_nil ?_
        all_goals with_reducible refine tN ?_
        all_goals (
            refine CW_seq ?_
            refine CW_region ?_
            refine oQ (Q_move rfl rfl) rfl rfl ?_
            first | refine oQ (Q_ldw rfl rfl rfl rfl (by first | omega | (dsimp only; omega) | (simp; omega) | (simp; done))) rfl rfl ?_ | refine oQ (Q_lda rfl rfl rfl rfl rfl (by first | omega | (dsimp only; omega) | (simp; omega) | (simp; done))) rfl rfl ?_
            refine oQ (Q_call0 (toMoebius_con _ hl) rfl rfl rfl) rfl rfl ?_
            refine oQ (Q_move rfl rfl) rfl rfl ?_
            refine oQ (Q_call0 (impl_MoebiusAt_con _ _ _ _ _ _) rfl rfl rfl) rfl rfl ?_
            refine oQ (Q_move rfl rfl) rfl rfl ?_
            refine oQ (Q_extract rfl rfl) rfl rfl ?_
            refine oQ (Q_extract rfl rfl) rfl rfl ?_
            refine oQ (Q_assign rfl rfl) rfl rfl ?_
            refine oQ (Q_assign rfl rfl) rfl rfl ?_
            refine OW_nil ?_
            all_goals with_reducible refine tN ?_
            all_goals (
                refine CW_seq ?_
                refine CW_seq ?_
                refine CW_region ?_
                refine oQ (Q_move rfl rfl) rfl rfl ?_
                refine oQ (Q_move rfl rfl) rfl rfl ?_
                refine oQ (Q_bin rfl rfl rfl) rfl rfl ?_
                refine oQ (Q_move rfl rfl) rfl rfl ?_
                all_goals first | refine ogT rfl rfl (by with_reducible rfl) ?_ | refine og1 rfl rfl (by with_reducible rfl) rfl ?_ | refine og0 rfl rfl (by with_reducible rfl) rfl ?_ | refine ogP1 rfl rfl rfl (fun hg => ?_) (fun hg => ?_) | refine ogP0 rfl rfl rfl (fun hg => ?_) (fun hg => ?_)
                all_goals try simp only [decide_eq_true_eq, decide_eq_false_iff_not, beq_iff_eq, beq_eq_false_iff_ne, bne_iff_ne, bne_eq_false_iff_eq, Bool.not_eq_true', Bool.not_eq_false', Int.not_lt, Int.not_le, ne_eq, not_false_eq_true] at hg
                all_goals first | (refine oQ (Q_move rfl rfl) rfl rfl ?_) | skip
                all_goals first | refine ogT rfl rfl (by with_reducible rfl) ?_ | refine og1 rfl rfl (by with_reducible rfl) rfl ?_ | refine og0 rfl rfl (by with_reducible rfl) rfl ?_ | refine ogP1 rfl rfl rfl (fun hg => ?_) (fun hg => ?_) | refine ogP0 rfl rfl rfl (fun hg => ?_) (fun hg => ?_)
                all_goals try simp only [decide_eq_true_eq, decide_eq_false_iff_not, beq_iff_eq, beq_eq_false_iff_ne, bne_iff_ne, bne_eq_false_iff_eq, Bool.not_eq_true', Bool.not_eq_false', Int.not_lt, Int.not_le, ne_eq, not_false_eq_true] at hg
                all_goals first | (refine oQ (Q_move rfl rfl) rfl rfl ?_) | skip
                all_goals first | refine ogT rfl rfl (by with_reducible rfl) ?_ | refine og1 rfl rfl (by with_reducible rfl) rfl ?_ | refine og0 rfl rfl (by with_reducible rfl) rfl ?_ | refine ogP1 rfl rfl rfl (fun hg => ?_) (fun hg => ?_) | refine ogP0 rfl rfl rfl (fun hg => ?_) (fun hg => ?_)
                all_goals try simp only [decide_eq_true_eq, decide_eq_false_iff_not, beq_iff_eq, beq_eq_false_iff_ne, bne_iff_ne, bne_eq_false_iff_eq, Bool.not_eq_true', Bool.not_eq_false', Int.not_lt, Int.not_le, ne_eq, not_false_eq_true] at hg
                all_goals first | (refine oQ (Q_bin rfl rfl rfl) rfl rfl ?_) | skip
                all_goals first | refine oQ (Q_pick_t rfl (by with_reducible rfl) rfl rfl) rfl rfl ?_ | refine oQ (Q_pick_f rfl (by with_reducible rfl) rfl rfl) rfl rfl ?_
                all_goals refine OW_nil ?_
                all_goals with_reducible refine tN ?_
                all_goals (
                    first | refine CW_cond_t rfl (by with_reducible rfl) ?_ | refine CW_cond_f rfl (by with_reducible rfl) ?_ | refine CW_cond rfl (fun hc => ?_) (fun hc => ?_)
                    all_goals try simp only [decide_eq_true_eq, decide_eq_false_iff_not, beq_iff_eq, beq_eq_false_iff_ne, bne_iff_ne, bne_eq_false_iff_eq, Bool.not_eq_true', Bool.not_eq_false', Int.not_lt, Int.not_le, ne_eq, not_false_eq_true] at hc
                    all_goals first
                      | (
                        refine CW_skip ?_)
                      | (
                        refine CW_seq ?_
                        refine CW_region ?_
                        refine oQ (Q_assign rfl rfl) rfl rfl ?_
                        refine OW_nil ?_
                        all_goals with_reducible refine tN ?_
                        all_goals (
                            refine CW_ret ?_)))
                all_goals first
                  | with_reducible refine tR ?_
                  | with_reducible refine tE ?_
                  | (
                    with_reducible refine tN ?_
                    refine CW_seq ?_
                    refine CW_region ?_
                    refine oQ (Q_assign rfl rfl) rfl rfl ?_
                    refine OW_nil ?_
                    all_goals with_reducible refine tN ?_
                    all_goals (
                        refine CW_ret ?_)))))
    all_goals (
        first
          | exact exitQ (.inr rfl) 0 (.cons (.tmp rfl rfl) .nil) rfl rfl vHn rfl rfl
          | (exfalso; exact absurd trivial hc)
          | (exfalso; simp_all; done))
end Go.Proofs.Ytgfncdejnjikpaa
