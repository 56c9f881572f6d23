/- Contracts of the laws' helpers for lists of arrays of numbers. Printed by gen_b5.py. -/
import Derived.Test.YtlhlnaehfjojiaaDoorB1
namespace Go.Proofs.YtlhlnaehfjojiaaDoor
attribute [local irreducible] CW OW QW QOp Con thenP inBlockP
set_option maxRecDepth 10000
set_option linter.unusedSimpArgs false
set_option linter.unusedVariables false
theorem putI_mid : ∀ (m l pre post : List Int), l.length = m.length → putI (pre ++ (l ++ post)) pre.length m = pre ++ (m ++ post)
  | [], l, pre, post, h => by
    have : l = [] := List.eq_nil_of_length_eq_zero h
    simp [putI, this]
  | x :: m, [], pre, post, h => by simp at h
  | x :: m, y :: l, pre, post, h => by
    have ih := putI_mid m l (pre ++ [x]) post (by simpa using h)
    simp only [List.length_append, List.length_cons, List.length_nil, Nat.zero_add, List.append_assoc, List.cons_append, List.nil_append] at ih
    simp only [putI]
    refine Eq.trans ?_ ih
    congr 1
    simp
theorem put_fill {L : List Int} {sz i n N : Nat} (h : i < n) (hL : L.length = n * sz) (hN : n ≤ N) :
    putI (L.take (i * sz) ++ List.replicate ((N - i) * sz) 0) (i * sz) ((L.drop (i * sz)).take sz) = L.take ((i + 1) * sz) ++ List.replicate ((N - (i + 1)) * sz) 0 := by
  have h1 : (i + 1) * sz ≤ n * sz := Nat.mul_le_mul_right sz h
  have e0 : (i + 1) * sz = i * sz + sz := by rw [Nat.add_mul, Nat.one_mul]
  have e1 : (N - i) * sz = sz + (N - (i + 1)) * sz := by
    rw [show N - i = (N - (i + 1)) + 1 by omega, Nat.add_mul, Nat.one_mul, Nat.add_comm]
  have hl : (L.take (i * sz)).length = i * sz := by simp; omega
  rw [e1, ← List.replicate_append_replicate]
  have := putI_mid ((L.drop (i * sz)).take sz) (List.replicate sz 0) (L.take (i * sz)) (List.replicate ((N - (i + 1)) * sz) 0) (by simp; omega)
  rw [hl] at this
  rw [this, e0, List.take_add, List.append_assoc]
theorem take_elem {A B : List Int} {sz i n : Nat} (hi : i < n) (h : A.take (n * sz) = B.take (n * sz)) : (A.drop (i * sz)).take sz = (B.drop (i * sz)).take sz := by
  have h1 : (i + 1) * sz ≤ n * sz := Nat.mul_le_mul_right sz hi
  rw [Nat.add_mul, Nat.one_mul] at h1
  have := congrArg (fun l => (l.drop (i * sz)).take sz) h
  simp only [List.drop_take, List.take_take] at this
  rwa [Nat.min_eq_left (by omega)] at this
def padS (sz j : Nat) : List Int := (List.replicate j (mark :: List.replicate (sz - 1) 0)).flatten
theorem padS_length (sz j : Nat) (h : 0 < sz) : (padS sz j).length = j * sz := by
  simp [padS]
  rw [Nat.sub_add_cancel h]
theorem padS_snoc (sz j : Nat) : padS sz (j + 1) = padS sz j ++ (mark :: List.replicate (sz - 1) 0) := by
  simp [padS, List.replicate_succ']
theorem put_pad {L : List Int} {sz j n N : Nat} (hs : 0 < sz) (h : n + j < N) (hL : L.length = n * sz) :
    putI (L ++ padS sz j ++ List.replicate ((N - n - j) * sz) 0) ((n + j) * sz) (mark :: List.replicate (sz - 1) 0) = L ++ padS sz (j + 1) ++ List.replicate ((N - n - (j + 1)) * sz) 0 := by
  have e1 : (N - n - j) * sz = sz + (N - n - (j + 1)) * sz := by
    rw [show N - n - j = (N - n - (j + 1)) + 1 by omega, Nat.add_mul, Nat.one_mul, Nat.add_comm]
  have hl : (L ++ padS sz j).length = (n + j) * sz := by rw [List.length_append, hL, padS_length sz j hs, Nat.add_mul]
  rw [e1, ← List.replicate_append_replicate]
  have := putI_mid (mark :: List.replicate (sz - 1) 0) (List.replicate sz 0) (L ++ padS sz j) (List.replicate ((N - n - (j + 1)) * sz) 0) (by simp; omega)
  rw [hl] at this
  rw [this, padS_snoc]
  simp

theorem toPoint_con (l : List Int) (hl : l.length = 3) : ConQ Tryd.prog [] 20 [.arr l] [] (.arr l) := by
  refine conW tab_ok [(0, .arr l)] 0 [] [] Tryd.func20 rfl rfl rfl rfl rfl rfl rfl rfl rfl ?_
  refine cR ?_
  refine oBox rfl rfl rfl rfl rfl rfl ?_
  refine oAlloc rfl rfl rfl rfl rfl rfl rfl ?_
  refine oN ?_
  refine cR ?_
  refine oAlloc rfl rfl rfl rfl rfl rfl rfl ?_
  refine oN ?_
  refine CW_seq ?_
  refine cR ?_
  refine oA rfl rfl ?_
  refine oN ?_
  refine CW_block ?_
  refine CW_loop (ι := Nat) (fun i => i ≤ 3) (fun i => ⟨[(1, .ptr 0 0), (2, .ptr 1 0), (3, .ptr 2 0), (4, .int i)], [(0, .ints 31 l), (1, .ints 35 [0, 0, 0]), (2, .ints 35 (l.take i ++ List.replicate (3 - i) 0))], 3⟩) (fun i => 3 - i) 0 ?_ ?_ ?_
  · first | trivial | omega | (simp; done) | (simp; omega)
  · refine View.mk' [] rfl rfl rfl ?_ ?_
    repeat' first | exact vFn | refine vFc rfl ?_ | exact vHn | refine vHc rfl ?_ | refine vFc (congrArg (fun z => some (V.int z)) ?_) ?_ | refine vHc (congrArg (fun z => some (Blk.ints _ z)) ?_) ?_ | refine vFc (congrArg (fun z => some (V.bool z)) ?_) ?_ | refine vFs rfl rfl ?_ ?_
  intro i hi
  refine CW_seq ?_
  refine cR ?_
  refine oM rfl rfl ?_
  refine oQ (Q_bin rfl rfl rfl) rfl rfl ?_
  refine oN ?_
  first | refine cT rfl ?_ | refine cF rfl ?_ | refine CW_cond rfl (fun hc => ?_) (fun hc => ?_)
  all_goals try simp only [s1, s2, s3, s4, s5, s6, s7, s8, s9, s10, s11, s12] at hc
  all_goals first
    | (
     refine CW_skip ?_)
    | (
     refine CW_exit ?_)
  all_goals first
    | with_reducible refine tR ?_
    | with_reducible refine tE ?_
    | (
     with_reducible refine tN ?_
     refine CW_seq ?_
     refine CW_block ?_
     refine CW_region ?_
     iterate 2 refine oM rfl rfl ?_
     first | refine oQ (Ia0 rfl rfl rfl rfl rfl rfl) rfl rfl ?_ | refine oQ (Ia1 rfl rfl rfl rfl rfl rfl) rfl rfl ?_
     refine oQ (Ld rfl rfl rfl rfl) rfl rfl ?_
     first | refine oQ (Ia0 rfl rfl rfl rfl rfl rfl) rfl rfl ?_ | refine oQ (Ia1 rfl rfl rfl rfl rfl rfl) rfl rfl ?_
     refine oS rfl rfl rfl rfl rfl ?_
     refine OW_nil ?_
     all_goals first | with_reducible refine bN ?_ | with_reducible refine bE ?_ | with_reducible refine bR ?_ | refine bX rfl ?_
     all_goals with_reducible refine tN ?_
     all_goals (
      refine CW_region ?_
      refine oM rfl rfl ?_
      first | refine oQ (Q_binu rfl rfl rfl (by omega)) rfl rfl ?_ | refine oQ (Q_bin rfl rfl rfl) rfl rfl ?_
      refine oA rfl rfl ?_
      refine OW_nil ?_))
  all_goals first
    | with_reducible refine tR ?_
    | with_reducible refine tE ?_
    | (
     with_reducible refine tN ?_
     refine ⟨i + 1, ?_, ?_, View.mk' [] rfl rfl rfl ?_ ?_⟩
     · omega
     · omega
     all_goals (repeat' first | exact vFn | refine vFc rfl ?_ | exact vHn | refine vHc rfl ?_ | refine vFc (congrArg (fun z => some (V.int z)) ?_) ?_ | refine vHc (congrArg (fun z => some (Blk.ints _ z)) ?_) ?_ | refine vFc (congrArg (fun z => some (V.bool z)) ?_) ?_ | refine vFs rfl rfl ?_ ?_)
     all_goals exact fill_set (by omega) hl)
  all_goals first | with_reducible refine bN ?_ | with_reducible refine bE ?_ | with_reducible refine bR ?_ | refine bX rfl ?_
  all_goals with_reducible refine tN ?_
  all_goals (
   refine cR ?_
   first | refine oQ (Lw rfl rfl rfl rfl) rfl rfl ?_ | refine oQ (La rfl rfl rfl rfl rfl) rfl rfl ?_
   first | refine oSw rfl rfl rfl rfl ?_ | refine oSa rfl rfl rfl rfl ?_
   refine oN ?_
   refine CW_ret ?_)
  all_goals (
   have e : i = 3 := by omega
   subst e
   refine exitQ (.inr rfl) 0 (.cons (.arr rfl rfl rfl rfl (by simp [hl])) .nil) ?_ rfl vHn rfl rfl
   simp [resV, ← hl])
theorem eqPoint_con (a b : List Int) (ha : a.length = 3) (hb : b.length = 3) : ConQ Tryd.prog [] 35 [.arr a, .arr b] [] (.bool (decide (a = b))) := by
  refine conW tab_ok [(0, .arr a), (1, .arr b)] 0 [] [] Tryd.func35 rfl rfl rfl rfl rfl rfl rfl rfl rfl ?_
  refine cR ?_
  iterate 2 refine oBox rfl rfl rfl rfl rfl rfl ?_
  refine oA rfl rfl ?_
  refine oN ?_
  refine CW_seq ?_
  refine cR ?_
  refine oA rfl rfl ?_
  refine oN ?_
  refine CW_block ?_
  refine CW_loop (ι := Nat) (fun i => i ≤ 3 ∧ a.take i = b.take i) (fun i => ⟨[(2, .ptr 0 0), (3, .ptr 1 0), (5, .int i)], [(0, .ints 35 a), (1, .ints 35 b)], 2⟩) (fun i => 3 - i) 0 ?_ ?_ ?_
  · exact ⟨Nat.zero_le _, rfl⟩
  · refine View.mk' [] rfl rfl rfl ?_ ?_
    repeat' first | exact vFn | refine vFc rfl ?_ | exact vHn | refine vHc rfl ?_ | refine vFc (congrArg (fun z => some (V.int z)) ?_) ?_ | refine vHc (congrArg (fun z => some (Blk.ints _ z)) ?_) ?_ | refine vFc (congrArg (fun z => some (V.bool z)) ?_) ?_ | refine vFs rfl rfl ?_ ?_
  rintro i ⟨hi, hi2⟩
  refine CW_seq ?_
  refine cR ?_
  refine oM rfl rfl ?_
  refine oQ (Q_bin rfl rfl rfl) rfl rfl ?_
  refine oN ?_
  first | refine cT rfl ?_ | refine cF rfl ?_ | refine CW_cond rfl (fun hc => ?_) (fun hc => ?_)
  all_goals try simp only [s1, s2, s3, s4, s5, s6, s7, s8, s9, s10, s11, s12] at hc
  all_goals first
    | (
     refine CW_skip ?_)
    | (
     refine CW_exit ?_)
  all_goals first
    | with_reducible refine tR ?_
    | with_reducible refine tE ?_
    | (
     with_reducible refine tN ?_
     refine CW_seq ?_
     refine CW_block ?_
     refine CW_seq ?_
     refine CW_draw lateOk (by decide +kernel) ?_
     refine qM rfl rfl ?_
     first | refine qQ (Ia0 rfl rfl rfl rfl rfl rfl) rfl rfl ?_ | refine qQ (Ia1 rfl rfl rfl rfl rfl rfl) rfl rfl ?_
     refine qQ (Ld rfl rfl rfl rfl) rfl rfl ?_
     refine qM rfl rfl ?_
     first | refine qQ (Ia0 rfl rfl rfl rfl rfl rfl) rfl rfl ?_ | refine qQ (Ia1 rfl rfl rfl rfl rfl rfl) rfl rfl ?_
     refine qQ (Ld rfl rfl rfl rfl) rfl rfl ?_
     refine qQ (Q_bin rfl rfl rfl) rfl rfl ?_
     refine QW_nil ?_
     all_goals with_reducible refine tN ?_
     all_goals (
      first | refine cT rfl ?_ | refine cF rfl ?_ | refine CW_cond rfl (fun hc => ?_) (fun hc => ?_)
      all_goals try simp only [s1, s2, s3, s4, s5, s6, s7, s8, s9, s10, s11, s12] at hc
      all_goals first
        | (
         refine CW_skip ?_)
        | (
         refine cR ?_
         refine oA rfl rfl ?_
         refine oN ?_
         refine CW_ret ?_))
     all_goals first | with_reducible refine bN ?_ | with_reducible refine bE ?_ | with_reducible refine bR ?_ | refine bX rfl ?_
     all_goals first
       | with_reducible refine tR ?_
       | with_reducible refine tE ?_
       | (
        with_reducible refine tN ?_
        refine CW_region ?_
        refine oM rfl rfl ?_
        first | refine oQ (Q_binu rfl rfl rfl (by omega)) rfl rfl ?_ | refine oQ (Q_bin rfl rfl rfl) rfl rfl ?_
        refine oA rfl rfl ?_
        refine OW_nil ?_))
  all_goals first
    | with_reducible refine tR ?_
    | with_reducible refine tE ?_
    | (
     with_reducible refine tN ?_
     refine ⟨i + 1, ?_, ?_, View.mk' [] rfl rfl rfl ?_ ?_⟩
     · exact ⟨by omega, take_eq_snoc (by omega) (by omega) hi2 hc⟩
     · omega
     all_goals (repeat' first | exact vFn | refine vFc rfl ?_ | exact vHn | refine vHc rfl ?_ | refine vFc (congrArg (fun z => some (V.int z)) ?_) ?_ | refine vHc (congrArg (fun z => some (Blk.ints _ z)) ?_) ?_ | refine vFc (congrArg (fun z => some (V.bool z)) ?_) ?_ | refine vFs rfl rfl ?_ ?_))
  all_goals first | with_reducible refine bN ?_ | with_reducible refine bE ?_ | with_reducible refine bR ?_ | refine bX rfl ?_
  all_goals first
    | with_reducible refine tR ?_
    | with_reducible refine tE ?_
    | (
     with_reducible refine tN ?_
     refine cR ?_
     refine oA rfl rfl ?_
     refine oN ?_
     refine CW_ret ?_)
  all_goals (
   refine exitQ (.inr rfl) 0 (.cons (.tmp rfl rfl) .nil) ?_ rfl vHn rfl rfl
   simp only [resV, V.bool.injEq]
   first
     | (have e : i = 3 := (by omega); subst e; rw [List.take_of_length_le (by omega), List.take_of_length_le (by omega)] at hi2; simp [hi2]; done)
     | (have h9 := take_ne (A := a) (B := b) (n := 3) (by omega) (by omega) (by omega) hc; symm; exact decide_eq_false (fun h => h9 (by rw [h]))))
theorem eqPointS_con (t t' : TypeId) (A B : List Int) (n k m k' : Nat) (hn : n * 3 ≤ A.length) (hm : m * 3 ≤ B.length) (h6 : n ≤ 1000000000 ∧ m ≤ 1000000000) : ConQ Tryd.prog [] 16 [.slice 0 0 n k, .slice 1 0 m k'] [(0, .ints t A), (1, .ints t' B)] (.bool (decide (A.take (n * 3) = B.take (m * 3)))) := by
  refine conW tab_ok [(0, .slice 0 0 n k), (1, .slice 1 0 m k')] 2 [0, 1] [0, 1] Tryd.func16 rfl rfl rfl rfl rfl rfl rfl rfl rfl ?_
  refine cR ?_
  refine oA rfl rfl ?_
  refine oN ?_
  refine CW_seq ?_
  refine cR ?_
  refine oM rfl rfl ?_
  first | refine oQ (Q_len rfl rfl rfl rfl) rfl rfl ?_ | refine oQ (Q_len0 rfl rfl rfl rfl) rfl rfl ?_
  refine oM rfl rfl ?_
  first | refine oQ (Q_len rfl rfl rfl rfl) rfl rfl ?_ | refine oQ (Q_len0 rfl rfl rfl rfl) rfl rfl ?_
  refine oQ (Q_bin rfl rfl rfl) rfl rfl ?_
  refine oN ?_
  first | refine cT rfl ?_ | refine cF rfl ?_ | refine CW_cond rfl (fun hc => ?_) (fun hc => ?_)
  all_goals try simp only [s1, s2, s3, s4, s5, s6, s7, s8, s9, s10, s11, s12] at hc
  all_goals first
    | (
     refine CW_skip ?_)
    | (
     refine cR ?_
     refine oA rfl rfl ?_
     refine oN ?_
     refine CW_ret ?_)
  all_goals first
    | with_reducible refine tR ?_
    | with_reducible refine tE ?_
    | (
     with_reducible refine tN ?_
     refine CW_seq ?_
     refine cR ?_
     refine oA rfl rfl ?_
     refine oN ?_
     refine CW_block ?_
     refine CW_loop (ι := Nat) (fun i => i ≤ n ∧ n = m ∧ A.take (i * 3) = B.take (i * 3)) (fun i => ⟨[(0, .slice 0 0 n k), (1, .slice 1 0 m k'), (5, .int i)], [(0, .ints t A), (1, .ints t' B)], 2⟩) (fun i => n - i) 0 ?_ ?_ ?_
     · exact ⟨Nat.zero_le _, by omega, by simp⟩
     · refine View.mk' [] rfl rfl rfl ?_ ?_
       repeat' first | exact vFn | refine vFc rfl ?_ | exact vHn | refine vHc rfl ?_ | refine vFc (congrArg (fun z => some (V.int z)) ?_) ?_ | refine vHc (congrArg (fun z => some (Blk.ints _ z)) ?_) ?_ | refine vFc (congrArg (fun z => some (V.bool z)) ?_) ?_ | refine vFs rfl rfl ?_ ?_
     intro i hi
     obtain ⟨hi1, hi2, hi3⟩ := hi
     refine CW_seq ?_
     refine cR ?_
     iterate 2 refine oM rfl rfl ?_
     first | refine oQ (Q_len rfl rfl rfl rfl) rfl rfl ?_ | refine oQ (Q_len0 rfl rfl rfl rfl) rfl rfl ?_
     refine oQ (Q_bin rfl rfl rfl) rfl rfl ?_
     refine oN ?_
     first | refine cT rfl ?_ | refine cF rfl ?_ | refine CW_cond rfl (fun hc => ?_) (fun hc => ?_)
     all_goals try simp only [s1, s2, s3, s4, s5, s6, s7, s8, s9, s10, s11, s12] at hc
     all_goals first
       | (
        refine CW_skip ?_)
       | (
        refine CW_exit ?_)
     all_goals first
       | with_reducible refine tR ?_
       | with_reducible refine tE ?_
       | (
        with_reducible refine tN ?_
        refine CW_seq ?_
        refine CW_block ?_
        refine CW_seq ?_
        refine CW_draw lateOk (by decide +kernel) ?_
        iterate 2 refine qM rfl rfl ?_
        first | refine qQ (Q_ixs0z 3 rfl rfl rfl rfl rfl rfl (by first | omega | (dsimp only; omega) | (simp; omega) | (simp; done))) rfl rfl ?_ | refine qQ (Q_ixsz 3 rfl rfl rfl rfl rfl rfl (by first | omega | (dsimp only; omega) | (simp; omega) | (simp; done))) rfl rfl ?_
        first | refine qQ (Lw rfl rfl rfl rfl) rfl rfl ?_ | refine qQ (La rfl rfl rfl rfl rfl) rfl rfl ?_
        iterate 2 refine qM rfl rfl ?_
        first | refine qQ (Q_ixs0z 3 rfl rfl rfl rfl rfl rfl (by first | omega | (dsimp only; omega) | (simp; omega) | (simp; done))) rfl rfl ?_ | refine qQ (Q_ixsz 3 rfl rfl rfl rfl rfl rfl (by first | omega | (dsimp only; omega) | (simp; omega) | (simp; done))) rfl rfl ?_
        first | refine qQ (Lw rfl rfl rfl rfl) rfl rfl ?_ | refine qQ (La rfl rfl rfl rfl rfl) rfl rfl ?_
        refine qQ (Q_call0 (eqPoint_con _ _ (by simp; omega) (by simp; omega)) rfl rfl rfl) rfl rfl ?_
        refine qQ (Q_not rfl) rfl rfl ?_
        refine QW_nil ?_
        all_goals with_reducible refine tN ?_
        all_goals (
         first | refine cT rfl ?_ | refine cF rfl ?_ | refine CW_cond rfl (fun hc => ?_) (fun hc => ?_)
         all_goals try simp only [s1, s2, s3, s4, s5, s6, s7, s8, s9, s10, s11, s12] at hc
         all_goals first
           | (
            refine CW_skip ?_)
           | (
            refine cR ?_
            refine oA rfl rfl ?_
            refine oN ?_
            refine CW_ret ?_))
        all_goals first | with_reducible refine bN ?_ | with_reducible refine bE ?_ | with_reducible refine bR ?_ | refine bX rfl ?_
        all_goals first
          | with_reducible refine tR ?_
          | with_reducible refine tE ?_
          | (
           with_reducible refine tN ?_
           refine CW_region ?_
           refine oM rfl rfl ?_
           first | refine oQ (Q_binu rfl rfl rfl (by omega)) rfl rfl ?_ | refine oQ (Q_bin rfl rfl rfl) rfl rfl ?_
           refine oA rfl rfl ?_
           refine OW_nil ?_))
     all_goals first
       | with_reducible refine tR ?_
       | with_reducible refine tE ?_
       | (
        with_reducible refine tN ?_
        refine ⟨i + 1, ?_, ?_, View.mk' [] rfl rfl rfl ?_ ?_⟩
        · exact ⟨by omega, hi2, by rw [Nat.add_mul, Nat.one_mul, List.take_add, List.take_add, hi3, hc]⟩
        · omega
        all_goals (repeat' first | exact vFn | refine vFc rfl ?_ | exact vHn | refine vHc rfl ?_ | refine vFc (congrArg (fun z => some (V.int z)) ?_) ?_ | refine vHc (congrArg (fun z => some (Blk.ints _ z)) ?_) ?_ | refine vFc (congrArg (fun z => some (V.bool z)) ?_) ?_ | refine vFs rfl rfl ?_ ?_))
     all_goals first | with_reducible refine bN ?_ | with_reducible refine bE ?_ | with_reducible refine bR ?_ | refine bX rfl ?_
     all_goals first
       | with_reducible refine tR ?_
       | with_reducible refine tE ?_
       | (
        with_reducible refine tN ?_
        refine cR ?_
        refine oA rfl rfl ?_
        refine oN ?_
        refine CW_ret ?_))
  all_goals (
   refine exitQ (.inr rfl) 2 (.cons (.tmp rfl rfl) .nil) ?_ rfl (vHc rfl (vHc rfl vHn)) rfl rfl
   simp only [resV, V.bool.injEq]
   first
     | (have e : i = n := (by omega); subst e; subst hi2; simp [hi3]; done)
     | (have h9 : A.take (n * 3) ≠ B.take (n * 3) := (fun h => hc (take_elem (show i < n by omega) h)); subst hi2; symm; exact decide_eq_false h9)
     | (symm; rw [decide_eq_false_iff_not]; intro h; have := congrArg List.length h; simp at this; omega))
end Go.Proofs.YtlhlnaehfjojiaaDoor
