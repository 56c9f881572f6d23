/- Contracts of the laws' helpers for lists of numbers. -/
import Derived.Test.YtlhlnaehfjojiaaDoorA2
import Derived.Test.YtlhlnaehfjojiaaDoorEngI
namespace Go.Proofs.YtlhlnaehfjojiaaDoor
attribute [local irreducible] CW OW QW QOp Con thenP inBlockP
set_option maxRecDepth 10000
set_option linter.unusedSimpArgs false
set_option linter.unusedVariables false
/-- the room that the laws leave behind a copy -/
def roomN (n : Nat) : Nat := if n % 6 = 5 then 0 else if n % 3 = 0 then 1 else n
theorem roomN_le (n : Nat) : roomN n ≤ n + 1 := by unfold roomN; split <;> (try split) <;> omega
def mark : Int := -7000000000000000101
theorem fill_set' {L : List Int} {i N : Nat} (h : i < L.length) (hL : L.length ≤ N) : (L.take i ++ List.replicate (N - i) 0).set i (L.getD i 0) = L.take (i + 1) ++ List.replicate (N - (i + 1)) 0 := by
  have e : N - i = (N - (i + 1)) + 1 := by omega
  rw [e, List.replicate_succ, take_snoc h, List.set_append_right _ _ (by simp; omega)]
  have : i - (L.take i).length = 0 := by simp; omega
  rw [this]
  simp
theorem pad_set {L : List Int} {i N : Nat} (m : Int) (h : L.length + i < N) : (L ++ List.replicate i m ++ List.replicate (N - L.length - i) 0).set (L.length + i) m = L ++ List.replicate (i + 1) m ++ List.replicate (N - L.length - (i + 1)) 0 := by
  have e : N - L.length - i = (N - L.length - (i + 1)) + 1 := by omega
  rw [e, List.replicate_succ, List.set_append_right _ _ (by simp)]
  have : L.length + i - (L ++ List.replicate i m).length = 0 := by simp
  rw [this, List.set_cons_zero, List.replicate_succ']
  simp
theorem take_eq_snoc {A B : List Int} {i : Nat} (hA : i < A.length) (hB : i < B.length) (h : A.take i = B.take i) (h2 : A.getD i 0 = B.getD i 0) : A.take (i + 1) = B.take (i + 1) := by
  rw [take_snoc hA, take_snoc hB, h, h2]
theorem take_ne {A B : List Int} {i n : Nat} (hA : i < A.length) (hB : i < B.length) (hn : i < n) (h2 : A.getD i 0 ≠ B.getD i 0) : A.take n ≠ B.take n := by
  intro h
  apply h2
  have := congrArg (fun l => l.getD i 0) h
  simpa [List.getD, List.getElem?_take, hn] using this
theorem eqInt64S_con (t t' : TypeId) (A B : List Int) (n k m k' : Nat) (hn : n ≤ A.length) (hm : m ≤ B.length) (h6 : n ≤ 1000000000 ∧ m ≤ 1000000000) : ConQ Tryd.prog [] 28 [.slice 0 0 n k, .slice 1 0 m k'] [(0, .ints t A), (1, .ints t' B)] (.bool (decide (A.take n = B.take m))) := by
  refine conW tab_ok [(0, .slice 0 0 n k), (1, .slice 1 0 m k')] 2 [0, 1] [0, 1] Tryd.func28 rfl rfl rfl rfl rfl rfl rfl rfl rfl ?_
  refine cR ?_
  refine oA rfl rfl ?_
  refine oN ?_
  refine CW_seq ?_
  refine cR ?_
  refine oM rfl rfl ?_
  first | refine oQ (Q_len rfl rfl rfl rfl) rfl rfl ?_ | refine oQ (Q_len0 rfl rfl rfl rfl) rfl rfl ?_
  refine oM rfl rfl ?_
  first | refine oQ (Q_len rfl rfl rfl rfl) rfl rfl ?_ | refine oQ (Q_len0 rfl rfl rfl rfl) rfl rfl ?_
  refine oQ (Q_bin rfl rfl rfl) rfl rfl ?_
  refine oN ?_
  first | refine cT rfl ?_ | refine cF rfl ?_ | refine CW_cond rfl (fun hc => ?_) (fun hc => ?_)
  all_goals try simp only [s1, s2, s3, s4, s5, s6, s7, s8, s9, s10, s11, s12] at hc
  all_goals first
    | (
     refine CW_skip ?_)
    | (
     refine cR ?_
     refine oA rfl rfl ?_
     refine oN ?_
     refine CW_ret ?_)
  all_goals first
    | with_reducible refine tR ?_
    | with_reducible refine tE ?_
    | (
     with_reducible refine tN ?_
     refine CW_seq ?_
     refine cR ?_
     refine oA rfl rfl ?_
     refine oN ?_
     refine CW_block ?_
     refine CW_loop (ι := Nat) (fun i => i ≤ n ∧ n = m ∧ A.take i = B.take i) (fun i => ⟨[(0, .slice 0 0 n k), (1, .slice 1 0 m k'), (5, .int i)], [(0, .ints t A), (1, .ints t' B)], 2⟩) (fun i => n - i) 0 ?_ ?_ ?_
     · exact ⟨Nat.zero_le _, by omega, rfl⟩
     · refine View.mk' [] rfl rfl rfl ?_ ?_
       repeat' first | exact vFn | refine vFc rfl ?_ | exact vHn | refine vHc rfl ?_ | refine vFc (congrArg (fun z => some (V.int z)) ?_) ?_ | refine vHc (congrArg (fun z => some (Blk.ints _ z)) ?_) ?_ | refine vFc (congrArg (fun z => some (V.bool z)) ?_) ?_ | refine vFs rfl rfl ?_ ?_
     intro i hi
     obtain ⟨hi1, hi2, hi3⟩ := hi
     refine CW_seq ?_
     refine cR ?_
     iterate 2 refine oM rfl rfl ?_
     first | refine oQ (Q_len rfl rfl rfl rfl) rfl rfl ?_ | refine oQ (Q_len0 rfl rfl rfl rfl) rfl rfl ?_
     refine oQ (Q_bin rfl rfl rfl) rfl rfl ?_
     refine oN ?_
     first | refine cT rfl ?_ | refine cF rfl ?_ | refine CW_cond rfl (fun hc => ?_) (fun hc => ?_)
     all_goals try simp only [s1, s2, s3, s4, s5, s6, s7, s8, s9, s10, s11, s12] at hc
     all_goals first
       | (
        refine CW_skip ?_)
       | (
        refine CW_exit ?_)
     all_goals first
       | with_reducible refine tR ?_
       | with_reducible refine tE ?_
       | (
        with_reducible refine tN ?_
        refine CW_seq ?_
        refine CW_block ?_
        refine CW_seq ?_
        refine CW_draw lateOk (by decide +kernel) ?_
        iterate 2 refine qM rfl rfl ?_
        first | refine qQ (Is0 rfl rfl rfl rfl rfl rfl) rfl rfl ?_ | refine qQ (Is1 rfl rfl rfl rfl rfl rfl) rfl rfl ?_
        refine qQ (Ld rfl rfl rfl rfl) rfl rfl ?_
        iterate 2 refine qM rfl rfl ?_
        first | refine qQ (Is0 rfl rfl rfl rfl rfl rfl) rfl rfl ?_ | refine qQ (Is1 rfl rfl rfl rfl rfl rfl) rfl rfl ?_
        refine qQ (Ld rfl rfl rfl rfl) rfl rfl ?_
        refine qQ (Q_bin rfl rfl rfl) rfl rfl ?_
        refine QW_nil ?_
        all_goals with_reducible refine tN ?_
        all_goals (
         first | refine cT rfl ?_ | refine cF rfl ?_ | refine CW_cond rfl (fun hc => ?_) (fun hc => ?_)
         all_goals try simp only [s1, s2, s3, s4, s5, s6, s7, s8, s9, s10, s11, s12] at hc
         all_goals first
           | (
            refine CW_skip ?_)
           | (
            refine cR ?_
            refine oA rfl rfl ?_
            refine oN ?_
            refine CW_ret ?_))
        all_goals first | with_reducible refine bN ?_ | with_reducible refine bE ?_ | with_reducible refine bR ?_ | refine bX rfl ?_
        all_goals first
          | with_reducible refine tR ?_
          | with_reducible refine tE ?_
          | (
           with_reducible refine tN ?_
           refine CW_region ?_
           refine oM rfl rfl ?_
           first | refine oQ (Q_binu rfl rfl rfl (by omega)) rfl rfl ?_ | refine oQ (Q_bin rfl rfl rfl) rfl rfl ?_
           refine oA rfl rfl ?_
           refine OW_nil ?_))
     all_goals first
       | with_reducible refine tR ?_
       | with_reducible refine tE ?_
       | (
        with_reducible refine tN ?_
        refine ⟨i + 1, ?_, ?_, View.mk' [] rfl rfl rfl ?_ ?_⟩
        · exact ⟨by omega, hi2, take_eq_snoc (by omega) (by omega) hi3 hc⟩
        · omega
        all_goals (repeat' first | exact vFn | refine vFc rfl ?_ | exact vHn | refine vHc rfl ?_ | refine vFc (congrArg (fun z => some (V.int z)) ?_) ?_ | refine vHc (congrArg (fun z => some (Blk.ints _ z)) ?_) ?_ | refine vFc (congrArg (fun z => some (V.bool z)) ?_) ?_ | refine vFs rfl rfl ?_ ?_))
     all_goals first | with_reducible refine bN ?_ | with_reducible refine bE ?_ | with_reducible refine bR ?_ | refine bX rfl ?_
     all_goals first
       | with_reducible refine tR ?_
       | with_reducible refine tE ?_
       | (
        with_reducible refine tN ?_
        refine cR ?_
        refine oA rfl rfl ?_
        refine oN ?_
        refine CW_ret ?_))
  all_goals (
   refine exitQ (.inr rfl) 2 (.cons (.tmp rfl rfl) .nil) ?_ rfl (vHc rfl (vHc rfl vHn)) rfl rfl
   simp only [resV, V.bool.injEq]
   first
     | (have e : i = n := (by omega); subst e; subst hi2; simp [hi3]; done)
     | (have h9 := take_ne (A := A) (B := B) (n := n) (by omega) (by omega) (by omega) hc; subst hi2; symm; exact decide_eq_false h9)
     | (symm; rw [decide_eq_false_iff_not]; intro h; have := congrArg List.length h; simp at this; omega))
end Go.Proofs.YtlhlnaehfjojiaaDoor
