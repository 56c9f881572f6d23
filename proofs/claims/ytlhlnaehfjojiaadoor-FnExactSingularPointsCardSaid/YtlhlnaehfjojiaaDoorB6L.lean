/- Contracts of the laws' helpers for lists of lines and conics; marks in lists of arrays. Printed by gen_b6.py. -/
import Derived.Test.YtlhlnaehfjojiaaDoorB4
import Derived.Test.YtlhlnaehfjojiaaDoorB5
namespace Go.Proofs.YtlhlnaehfjojiaaDoor
attribute [local irreducible] CW OW QW QOp Con thenP inBlockP
set_option maxRecDepth 10000
set_option linter.unusedSimpArgs false
set_option linter.unusedVariables false
theorem toLine_con (l : List Int) (hl : l.length = 3) : ConQ Tryd.prog [] 26 [.arr l] [] (.arr l) := by
  refine conW tab_ok [(0, .arr l)] 0 [] [] Tryd.func26 rfl rfl rfl rfl rfl rfl rfl rfl rfl ?_
  refine cR ?_
  refine oBox rfl rfl rfl rfl rfl rfl ?_
  refine oAlloc rfl rfl rfl rfl rfl rfl rfl ?_
  refine oN ?_
  refine cR ?_
  refine oAlloc rfl rfl rfl rfl rfl rfl rfl ?_
  refine oN ?_
  refine CW_seq ?_
  refine cR ?_
  refine oA rfl rfl ?_
  refine oN ?_
  refine CW_block ?_
  refine CW_loop (ι := Nat) (fun i => i ≤ 3) (fun i => ⟨[(1, .ptr 0 0), (2, .ptr 1 0), (3, .ptr 2 0), (4, .int i)], [(0, .ints 31 l), (1, .ints 32 [0, 0, 0]), (2, .ints 32 (l.take i ++ List.replicate (3 - i) 0))], 3⟩) (fun i => 3 - i) 0 ?_ ?_ ?_
  · first | trivial | omega | (simp; done) | (simp; omega)
  · refine View.mk' [] rfl rfl rfl ?_ ?_
    repeat' first | exact vFn | refine vFc rfl ?_ | exact vHn | refine vHc rfl ?_ | refine vFc (congrArg (fun z => some (V.int z)) ?_) ?_ | refine vHc (congrArg (fun z => some (Blk.ints _ z)) ?_) ?_ | refine vFc (congrArg (fun z => some (V.bool z)) ?_) ?_ | refine vFs rfl rfl ?_ ?_
  intro i hi
  refine CW_seq ?_
  refine cR ?_
  refine oM rfl rfl ?_
  refine oQ (Q_bin rfl rfl rfl) rfl rfl ?_
  refine oN ?_
  first | refine cT rfl ?_ | refine cF rfl ?_ | refine CW_cond rfl (fun hc => ?_) (fun hc => ?_)
  all_goals try simp only [s1, s2, s3, s4, s5, s6, s7, s8, s9, s10, s11, s12] at hc
  all_goals first
    | (
     refine CW_skip ?_)
    | (
     refine CW_exit ?_)
  all_goals first
    | with_reducible refine tR ?_
    | with_reducible refine tE ?_
    | (
     with_reducible refine tN ?_
     refine CW_seq ?_
     refine CW_block ?_
     refine CW_region ?_
     iterate 2 refine oM rfl rfl ?_
     first | refine oQ (Ia0 rfl rfl rfl rfl rfl rfl) rfl rfl ?_ | refine oQ (Ia1 rfl rfl rfl rfl rfl rfl) rfl rfl ?_
     refine oQ (Ld rfl rfl rfl rfl) rfl rfl ?_
     first | refine oQ (Ia0 rfl rfl rfl rfl rfl rfl) rfl rfl ?_ | refine oQ (Ia1 rfl rfl rfl rfl rfl rfl) rfl rfl ?_
     refine oS rfl rfl rfl rfl rfl ?_
     refine OW_nil ?_
     all_goals first | with_reducible refine bN ?_ | with_reducible refine bE ?_ | with_reducible refine bR ?_ | refine bX rfl ?_
     all_goals with_reducible refine tN ?_
     all_goals (
      refine CW_region ?_
      refine oM rfl rfl ?_
      first | refine oQ (Q_binu rfl rfl rfl (by omega)) rfl rfl ?_ | refine oQ (Q_bin rfl rfl rfl) rfl rfl ?_
      refine oA rfl rfl ?_
      refine OW_nil ?_))
  all_goals first
    | with_reducible refine tR ?_
    | with_reducible refine tE ?_
    | (
     with_reducible refine tN ?_
     refine ⟨i + 1, ?_, ?_, View.mk' [] rfl rfl rfl ?_ ?_⟩
     · omega
     · omega
     all_goals (repeat' first | exact vFn | refine vFc rfl ?_ | exact vHn | refine vHc rfl ?_ | refine vFc (congrArg (fun z => some (V.int z)) ?_) ?_ | refine vHc (congrArg (fun z => some (Blk.ints _ z)) ?_) ?_ | refine vFc (congrArg (fun z => some (V.bool z)) ?_) ?_ | refine vFs rfl rfl ?_ ?_)
     all_goals exact fill_set (by omega) hl)
  all_goals first | with_reducible refine bN ?_ | with_reducible refine bE ?_ | with_reducible refine bR ?_ | refine bX rfl ?_
  all_goals with_reducible refine tN ?_
  all_goals (
   refine cR ?_
   first | refine oQ (Lw rfl rfl rfl rfl) rfl rfl ?_ | refine oQ (La rfl rfl rfl rfl rfl) rfl rfl ?_
   first | refine oSw rfl rfl rfl rfl ?_ | refine oSa rfl rfl rfl rfl ?_
   refine oN ?_
   refine CW_ret ?_)
  all_goals (
   have e : i = 3 := by omega
   subst e
   refine exitQ (.inr rfl) 0 (.cons (.arr rfl rfl rfl rfl (by simp [hl])) .nil) ?_ rfl vHn rfl rfl
   simp [resV, ← hl])
theorem eqLine_con (a b : List Int) (ha : a.length = 3) (hb : b.length = 3) : ConQ Tryd.prog [] 22 [.arr a, .arr b] [] (.bool (decide (a = b))) := by
  refine conW tab_ok [(0, .arr a), (1, .arr b)] 0 [] [] Tryd.func22 rfl rfl rfl rfl rfl rfl rfl rfl rfl ?_
  refine cR ?_
  iterate 2 refine oBox rfl rfl rfl rfl rfl rfl ?_
  refine oA rfl rfl ?_
  refine oN ?_
  refine CW_seq ?_
  refine cR ?_
  refine oA rfl rfl ?_
  refine oN ?_
  refine CW_block ?_
  refine CW_loop (ι := Nat) (fun i => i ≤ 3 ∧ a.take i = b.take i) (fun i => ⟨[(2, .ptr 0 0), (3, .ptr 1 0), (5, .int i)], [(0, .ints 32 a), (1, .ints 32 b)], 2⟩) (fun i => 3 - i) 0 ?_ ?_ ?_
  · exact ⟨Nat.zero_le _, rfl⟩
  · refine View.mk' [] rfl rfl rfl ?_ ?_
    repeat' first | exact vFn | refine vFc rfl ?_ | exact vHn | refine vHc rfl ?_ | refine vFc (congrArg (fun z => some (V.int z)) ?_) ?_ | refine vHc (congrArg (fun z => some (Blk.ints _ z)) ?_) ?_ | refine vFc (congrArg (fun z => some (V.bool z)) ?_) ?_ | refine vFs rfl rfl ?_ ?_
  rintro i ⟨hi, hi2⟩
  refine CW_seq ?_
  refine cR ?_
  refine oM rfl rfl ?_
  refine oQ (Q_bin rfl rfl rfl) rfl rfl ?_
  refine oN ?_
  first | refine cT rfl ?_ | refine cF rfl ?_ | refine CW_cond rfl (fun hc => ?_) (fun hc => ?_)
  all_goals try simp only [s1, s2, s3, s4, s5, s6, s7, s8, s9, s10, s11, s12] at hc
  all_goals first
    | (
     refine CW_skip ?_)
    | (
     refine CW_exit ?_)
  all_goals first
    | with_reducible refine tR ?_
    | with_reducible refine tE ?_
    | (
     with_reducible refine tN ?_
     refine CW_seq ?_
     refine CW_block ?_
     refine CW_seq ?_
     refine CW_draw lateOk (by decide +kernel) ?_
     refine qM rfl rfl ?_
     first | refine qQ (Ia0 rfl rfl rfl rfl rfl rfl) rfl rfl ?_ | refine qQ (Ia1 rfl rfl rfl rfl rfl rfl) rfl rfl ?_
     refine qQ (Ld rfl rfl rfl rfl) rfl rfl ?_
     refine qM rfl rfl ?_
     first | refine qQ (Ia0 rfl rfl rfl rfl rfl rfl) rfl rfl ?_ | refine qQ (Ia1 rfl rfl rfl rfl rfl rfl) rfl rfl ?_
     refine qQ (Ld rfl rfl rfl rfl) rfl rfl ?_
     refine qQ (Q_bin rfl rfl rfl) rfl rfl ?_
     refine QW_nil ?_
     all_goals with_reducible refine tN ?_
     all_goals (
      first | refine cT rfl ?_ | refine cF rfl ?_ | refine CW_cond rfl (fun hc => ?_) (fun hc => ?_)
      all_goals try simp only [s1, s2, s3, s4, s5, s6, s7, s8, s9, s10, s11, s12] at hc
      all_goals first
        | (
         refine CW_skip ?_)
        | (
         refine cR ?_
         refine oA rfl rfl ?_
         refine oN ?_
         refine CW_ret ?_))
     all_goals first | with_reducible refine bN ?_ | with_reducible refine bE ?_ | with_reducible refine bR ?_ | refine bX rfl ?_
     all_goals first
       | with_reducible refine tR ?_
       | with_reducible refine tE ?_
       | (
        with_reducible refine tN ?_
        refine CW_region ?_
        refine oM rfl rfl ?_
        first | refine oQ (Q_binu rfl rfl rfl (by omega)) rfl rfl ?_ | refine oQ (Q_bin rfl rfl rfl) rfl rfl ?_
        refine oA rfl rfl ?_
        refine OW_nil ?_))
  all_goals first
    | with_reducible refine tR ?_
    | with_reducible refine tE ?_
    | (
     with_reducible refine tN ?_
     refine ⟨i + 1, ?_, ?_, View.mk' [] rfl rfl rfl ?_ ?_⟩
     · exact ⟨by omega, take_eq_snoc (by omega) (by omega) hi2 hc⟩
     · omega
     all_goals (repeat' first | exact vFn | refine vFc rfl ?_ | exact vHn | refine vHc rfl ?_ | refine vFc (congrArg (fun z => some (V.int z)) ?_) ?_ | refine vHc (congrArg (fun z => some (Blk.ints _ z)) ?_) ?_ | refine vFc (congrArg (fun z => some (V.bool z)) ?_) ?_ | refine vFs rfl rfl ?_ ?_))
  all_goals first | with_reducible refine bN ?_ | with_reducible refine bE ?_ | with_reducible refine bR ?_ | refine bX rfl ?_
  all_goals first
    | with_reducible refine tR ?_
    | with_reducible refine tE ?_
    | (
     with_reducible refine tN ?_
     refine cR ?_
     refine oA rfl rfl ?_
     refine oN ?_
     refine CW_ret ?_)
  all_goals (
   refine exitQ (.inr rfl) 0 (.cons (.tmp rfl rfl) .nil) ?_ rfl vHn rfl rfl
   simp only [resV, V.bool.injEq]
   first
     | (have e : i = 3 := (by omega); subst e; rw [List.take_of_length_le (by omega), List.take_of_length_le (by omega)] at hi2; simp [hi2]; done)
     | (have h9 := take_ne (A := a) (B := b) (n := 3) (by omega) (by omega) (by omega) hc; symm; exact decide_eq_false (fun h => h9 (by rw [h]))))
end Go.Proofs.YtlhlnaehfjojiaaDoor
