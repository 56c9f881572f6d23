/- Searches for lines by closures; the inner closure of freePoints. Printed by gen_r11.py. -/
import Derived.Test.YtmcmbpoebhjecaaR10
import Derived.Test.YtmcmbpoebhjecaaQ2
namespace Go.Proofs.Ytmcmbpoebhjecaa
attribute [local irreducible] CW OW QW QOp Con thenP inBlockP
set_option maxRecDepth 10000
set_option linter.unusedSimpArgs false
set_option linter.unusedVariables false

theorem idxLine2 (f : Nat) (t0 : TypeId) (L0 : List Int) (t1 : TypeId) (L1 : List Int) (g : List Int → Bool) (tM : TypeId) (L : List (List Int)) (sp : List Int) (k ck : Nat) (hk : k = L.length) (h3 : ∀ x ∈ L, x.length = 3) (hk9 : L.length ≤ 1000000000) (hf : ∀ m, m ∈ L → ConQ Try.prog [] f [.arr m, .ptr 1000 0, .ptr 1001 0] [(1000, .ints t0 L0), (1001, .ints t1 L1)] (.bool (g m))) : ConQ Try.prog [] 117 [.slice 0 0 k ck, .func f [] [.ptr 1000 0, .ptr 1001 0]] [(0, .ints tM (L.flatten ++ sp)), (1000, .ints t0 L0), (1001, .ints t1 L1)] (.int (idxL g L)) := by
  have hfl := flat3 h3
  refine conW tab_ok [(0, .slice 0 0 k ck), (1, .func f [] [.ptr 1000 0, .ptr 1001 0])] 1 [0, 1000, 1001] [0, 1000, 1001] Try.func117 rfl rfl rfl rfl rfl rfl rfl rfl rfl ?_
  refine cR ?_
  refine oA rfl rfl ?_
  refine oN ?_
  refine CW_seq ?_
  refine cR ?_
  refine oM rfl rfl ?_
  first | refine oQ (Q_len rfl rfl rfl rfl) rfl rfl ?_ | refine oQ (Q_len0 rfl rfl rfl rfl) rfl rfl ?_
  refine oM rfl rfl ?_
  refine oN ?_
  refine CW_block ?_
  refine CW_loop (ι := Nat) (fun i => i ≤ L.length ∧ ∀ j, j < i → g (L.getD j []) = false) (fun i => ⟨[(0, .slice 0 0 k ck), (1, .func f [] [.ptr 1000 0, .ptr 1001 0]), (7, .int k), (8, .int i)], [(0, .ints tM (L.flatten ++ sp)), (1000, .ints t0 L0), (1001, .ints t1 L1)], 1⟩) (fun i => L.length - i) 0 ?_ ?_ ?_
  · exact ⟨Nat.zero_le _, fun j h => absurd h (Nat.not_lt_zero _)⟩
  · refine View.mk' [] rfl rfl rfl ?_ ?_
    repeat' first | exact vFn | refine vFc rfl ?_ | exact vHn | refine vHc rfl ?_ | refine vFc (congrArg (fun z => some (V.int z)) ?_) ?_ | refine vHc (congrArg (fun z => some (Blk.ints _ z)) ?_) ?_ | refine vFc (congrArg (fun z => some (V.bool z)) ?_) ?_ | refine vFs rfl rfl ?_ ?_
  rintro i ⟨hi, hi2⟩
  refine cR ?_
  refine oQ (Q_bin rfl rfl rfl) rfl rfl ?_
  refine oN ?_
  refine CW_seq ?_
  first | refine cT rfl ?_ | refine cF rfl ?_ | refine CW_cond rfl (fun hc => ?_) (fun hc => ?_)
  all_goals try simp only [s1, s2, s3, s4, s5, s6, s7, s8, s9, s10, s11, s12] at hc
  all_goals first
    | (
     refine CW_skip ?_)
    | (
     refine CW_exit ?_)
  all_goals first
    | with_reducible refine tR ?_
    | with_reducible refine tE ?_
    | (
     with_reducible refine tN ?_
     refine CW_seq ?_
     refine CW_block ?_
     refine cR ?_
     refine oM rfl rfl ?_
     refine oA rfl rfl ?_
     refine oN ?_
     refine cR ?_
     iterate 3 refine oM rfl rfl ?_
     first | refine oQ (Q_ixs0z 3 rfl rfl rfl rfl rfl rfl (by first | omega | (dsimp only; omega) | (simp; omega) | (simp; done))) rfl rfl ?_ | refine oQ (Q_ixsz 3 rfl rfl rfl rfl rfl rfl (by first | omega | (dsimp only; omega) | (simp; omega) | (simp; done))) rfl rfl ?_
     refine oQ (Q_lda (n := 3) rfl rfl rfl rfl rfl (by rw [List.length_append, hfl]; omega)) rfl rfl ?_; rw [flat_get h3 (show i < L.length by omega)]
     refine oQ (Q_callf (hf _ (getD_mem (by omega))) [] rfl rfl rfl (Fits.mk' (vHc rfl (vHc rfl vHn)) rfl rfl (by simp)) rfl rfl) rfl rfl ?_
     refine oN ?_
     first | refine cT rfl ?_ | refine cF rfl ?_ | refine CW_cond rfl (fun hc => ?_) (fun hc => ?_)
     all_goals try simp only [s1, s2, s3, s4, s5, s6, s7, s8, s9, s10, s11, s12] at hc
     all_goals first
       | (
        refine CW_skip ?_)
       | (
        refine cR ?_
        refine oM rfl rfl ?_
        refine oA rfl rfl ?_
        refine oN ?_
        refine CW_ret ?_)
     all_goals first | with_reducible refine bN ?_ | with_reducible refine bE ?_ | with_reducible refine bR ?_ | refine bX rfl ?_
     all_goals first
       | with_reducible refine tR ?_
       | with_reducible refine tE ?_
       | (
        with_reducible refine tN ?_
        refine CW_region ?_
        first | refine oQ (Q_binu rfl rfl rfl (by omega)) rfl rfl ?_ | refine oQ (Q_bin rfl rfl rfl) rfl rfl ?_
        refine oM rfl rfl ?_
        refine OW_nil ?_))
  all_goals first
    | with_reducible refine tR ?_
    | with_reducible refine tE ?_
    | (
     with_reducible refine tN ?_
     refine ⟨i + 1, ?_, ?_, View.mk' [] rfl rfl rfl ?_ ?_⟩
     · refine ⟨by omega, fun j hj => ?_⟩
       by_cases e : j = i
       · subst e; exact hc
       · exact hi2 j (by omega)
     · omega
     all_goals (repeat' first | exact vFn | refine vFc rfl ?_ | exact vHn | refine vHc rfl ?_ | refine vFc (congrArg (fun z => some (V.int z)) ?_) ?_ | refine vHc (congrArg (fun z => some (Blk.ints _ z)) ?_) ?_ | refine vFc (congrArg (fun z => some (V.bool z)) ?_) ?_ | refine vFs rfl rfl ?_ ?_))
  all_goals first | with_reducible refine bN ?_ | with_reducible refine bE ?_ | with_reducible refine bR ?_ | refine bX rfl ?_
  all_goals first
    | with_reducible refine tR ?_
    | with_reducible refine tE ?_
    | (
     with_reducible refine tN ?_
     refine cR ?_
     refine oA rfl rfl ?_
     refine oN ?_
     refine CW_ret ?_)
  all_goals (
   refine exitQ (.inr rfl) 1 (.cons (.tmp rfl rfl) .nil) ?_ rfl (vHc rfl (vHc rfl (vHc rfl vHn))) rfl rfl
   first
     | exact congrArg V.int (idxL_found (by omega) hi2 hc).symm
     | exact congrArg V.int (idxL_none (fun j hj => hi2 j (by omega))).symm)
theorem hasLine2 (f : Nat) (t0 : TypeId) (L0 : List Int) (t1 : TypeId) (L1 : List Int) (g : List Int → Bool) (tM : TypeId) (L : List (List Int)) (sp : List Int) (k ck : Nat) (hk : k = L.length) (h3 : ∀ x ∈ L, x.length = 3) (hk9 : L.length ≤ 1000000000) (hf : ∀ m, m ∈ L → ConQ Try.prog [] f [.arr m, .ptr 1000 0, .ptr 1001 0] [(1000, .ints t0 L0), (1001, .ints t1 L1)] (.bool (g m))) : ConQ Try.prog [] 100 [.slice 0 0 k ck, .func f [] [.ptr 1000 0, .ptr 1001 0]] [(0, .ints tM (L.flatten ++ sp)), (1000, .ints t0 L0), (1001, .ints t1 L1)] (.bool (L.any g)) := by
  refine conW tab_ok [(0, .slice 0 0 k ck), (1, .func f [] [.ptr 1000 0, .ptr 1001 0])] 1 [0, 1000, 1001] [0, 1000, 1001] Try.func100 rfl rfl rfl rfl rfl rfl rfl rfl rfl ?_
  refine cR ?_
  refine oA rfl rfl ?_
  refine oN ?_
  refine cR ?_
  iterate 2 refine oM rfl rfl ?_
  refine oQ (Q_call (idxLine2 f t0 L0 t1 L1 g tM L sp k ck hk h3 hk9 hf) [] rfl rfl (Fits.mk' (vHc rfl (vHc rfl (vHc rfl vHn))) rfl rfl (by simp)) rfl rfl) rfl rfl ?_
  refine oQ (Q_bin rfl rfl rfl) rfl rfl ?_
  refine oA rfl rfl ?_
  refine oN ?_
  refine CW_ret ?_
  all_goals (
   refine exitQ (.inr rfl) 1 (.cons (.tmp rfl rfl) .nil) ?_ rfl (vHc rfl (vHc rfl (vHc rfl vHn))) rfl rfl
   exact congrArg V.bool idxL_any)
theorem freeOn_con (t0 : TypeId) (p : Int) (t1 : TypeId) (m l : List Int) (hp : primeB p = true) (hm : m.length = 3) (hl : l.length = 3) (h1 : sm 13 m) (h2 : sm 13 l) : ConQ Try.prog [] 101 [.arr l, .ptr 1000 0, .ptr 1001 0] [(1000, .ints t0 [p]), (1001, .ints t1 m)] (.bool (onB p m l)) := by
  refine conW tab_ok [(0, .arr l), (1, .ptr 1000 0), (2, .ptr 1001 0)] 0 [1000, 1001] [1000, 1001] Try.func101 rfl rfl rfl rfl rfl rfl rfl rfl rfl ?_
  refine cR ?_
  refine oBox rfl rfl rfl rfl rfl rfl ?_
  refine oA rfl rfl ?_
  refine oN ?_
  refine cR ?_
  refine oQ (Ld rfl rfl rfl rfl) rfl rfl ?_
  refine oQ (Q_ldw rfl rfl rfl rfl hm) rfl rfl ?_
  refine oQ (Q_ldw rfl rfl rfl rfl hl) rfl rfl ?_
  refine oQ (Q_call0 (isOn_con p m l hp hm hl h1 h2) rfl rfl rfl) rfl rfl ?_
  refine oA rfl rfl ?_
  refine oN ?_
  refine CW_ret ?_
  all_goals (
   ((refine exitQ (.inr rfl) 0 (.cons (.tmp rfl rfl) .nil) ?_ rfl (vHc rfl (vHc rfl vHn)) rfl rfl); rfl))
theorem indexP_con (L : List (List Int)) (sp : List Int) (k : Nat) (h3 : ∀ x ∈ L, x.length = 3) (a : List Int) (ha : a.length = 3) (hn9 : L.length ≤ 1000000000) : ConQ Try.prog [] 116 [.slice 0 0 L.length k, .arr a] [(0, .ints 49 (L.flatten ++ sp))] (.int (idxL (fun x => decide (a = x)) L)) := by
  have hf3 := flat3 h3
  have h3i : ∀ i, i < L.length → (L.getD i []).length = 3 := fun i hi => h3 _ (getD_mem hi)
  refine conW tab_ok [(0, .slice 0 0 L.length k), (1, .arr a)] 1 [0] [0] Try.func116 rfl rfl rfl rfl rfl rfl rfl rfl rfl ?_
  refine cR ?_
  refine oBox rfl rfl rfl rfl rfl rfl ?_
  refine oA rfl rfl ?_
  refine oN ?_
  refine CW_seq ?_
  refine cR ?_
  refine oM rfl rfl ?_
  first | refine oQ (Q_len rfl rfl rfl rfl) rfl rfl ?_ | refine oQ (Q_len0 rfl rfl rfl rfl) rfl rfl ?_
  refine oM rfl rfl ?_
  refine oN ?_
  refine CW_block ?_
  refine CW_loop (ι := Nat) (fun i => i ≤ L.length ∧ ∀ j, j < i → (fun x => decide (a = x)) ((L).getD j []) = false) (fun i => ⟨[(0, .slice 0 0 L.length k), (3, .ptr 1 0), (7, .int (L.length : Nat)), (8, .int (i : Nat))], [(0, .ints 49 (L.flatten ++ sp)), (1, .ints 49 a)], 2⟩) (fun i => L.length - i) 0 ?_ ?_ ?_
  · exact ⟨Nat.zero_le _, fun i h => absurd h (Nat.not_lt_zero _)⟩
  · refine View.mk' [] rfl rfl rfl ?_ ?_
    repeat' first | exact vFn | refine vFc rfl ?_ | exact vHn | refine vHc rfl ?_ | refine vFc (congrArg (fun z => some (V.int z)) ?_) ?_ | refine vHc (congrArg (fun z => some (Blk.ints _ z)) ?_) ?_ | refine vFc (congrArg (fun z => some (V.bool z)) ?_) ?_ | refine vFs rfl rfl ?_ ?_
  rintro i ⟨hi, hi2⟩
  refine cR ?_
  refine oQ (Q_bin rfl rfl rfl) rfl rfl ?_
  refine oN ?_
  refine CW_seq ?_
  first | refine cT rfl ?_ | refine cF rfl ?_ | refine CW_cond rfl (fun hc => ?_) (fun hc => ?_)
  all_goals try simp only [s1, s2, s3, s4, s5, s6, s7, s8, s9, s10, s11, s12] at hc
  all_goals first
    | (
     refine CW_skip ?_)
    | (
     refine CW_exit ?_)
  all_goals first
    | with_reducible refine tR ?_
    | with_reducible refine tE ?_
    | (
     with_reducible refine tN ?_
     refine CW_seq ?_
     refine CW_block ?_
     refine cR ?_
     refine oM rfl rfl ?_
     refine oA rfl rfl ?_
     refine oN ?_
     refine CW_seq ?_
     refine CW_draw lateOk (by decide +kernel) ?_
     refine qQ (Q_ldw rfl rfl rfl rfl ha) rfl rfl ?_
     iterate 2 refine qM rfl rfl ?_
     (have h3i_ := h3i i (by omega)); refine qQ (Q_ixs0z 3 rfl rfl rfl rfl rfl rfl (by omega)) rfl rfl ?_
     refine qQ (Q_lda (n := 3) rfl rfl rfl rfl rfl (by rw [List.length_append, hf3]; omega)) rfl rfl ?_; rw [flat_get h3 (show i < L.length by omega)]
     refine qQ (Q_arrb rfl rfl rfl rfl rfl rfl rfl rfl rfl ha h3i_) rfl rfl ?_
     refine QW_nil ?_
     all_goals with_reducible refine tN ?_
     all_goals (
      first | refine cT rfl ?_ | refine cF rfl ?_ | refine CW_cond rfl (fun hc => ?_) (fun hc => ?_)
      all_goals try simp only [s1, s2, s3, s4, s5, s6, s7, s8, s9, s10, s11, s12] at hc
      all_goals first
        | (
         refine CW_skip ?_)
        | (
         refine cR ?_
         refine oM rfl rfl ?_
         refine oA rfl rfl ?_
         refine oN ?_
         refine CW_ret ?_))
     all_goals first | with_reducible refine bN ?_ | with_reducible refine bE ?_ | with_reducible refine bR ?_ | refine bX rfl ?_
     all_goals first
       | with_reducible refine tR ?_
       | with_reducible refine tE ?_
       | (
        with_reducible refine tN ?_
        refine CW_region ?_
        first | refine oQ (Q_binu rfl rfl rfl (by omega)) rfl rfl ?_ | refine oQ (Q_bin rfl rfl rfl) rfl rfl ?_
        refine oM rfl rfl ?_
        refine OW_nil ?_))
  all_goals first
    | with_reducible refine tR ?_
    | with_reducible refine tE ?_
    | (
     with_reducible refine tN ?_
     refine ⟨i + 1, ?_, ?_, View.mk' [] rfl rfl rfl ?_ ?_⟩
     · refine ⟨by omega, fun j hj => ?_⟩
       by_cases e : j = i
       · subst e; exact decide_eq_false hc
       · exact hi2 j (by omega)
     · omega
     all_goals (repeat' first | exact vFn | refine vFc rfl ?_ | exact vHn | refine vHc rfl ?_ | refine vFc (congrArg (fun z => some (V.int z)) ?_) ?_ | refine vHc (congrArg (fun z => some (Blk.ints _ z)) ?_) ?_ | refine vFc (congrArg (fun z => some (V.bool z)) ?_) ?_ | refine vFs rfl rfl ?_ ?_))
  all_goals first | with_reducible refine bN ?_ | with_reducible refine bE ?_ | with_reducible refine bR ?_ | refine bX rfl ?_
  all_goals first
    | with_reducible refine tR ?_
    | with_reducible refine tE ?_
    | (
     with_reducible refine tN ?_
     refine cR ?_
     refine oA rfl rfl ?_
     refine oN ?_
     refine CW_ret ?_)
  all_goals (
   refine exitQ (.inr rfl) 1 (.cons (.tmp rfl rfl) .nil) ?_ rfl (vHc rfl vHn) rfl rfl
   first
     | exact congrArg V.int (idxL_found (by omega) hi2 (decide_eq_true hc)).symm
     | exact congrArg V.int (idxL_none (fun j hj => hi2 j (by simp at *; omega))).symm
     | rfl)
theorem containsP_con (L : List (List Int)) (sp : List Int) (k : Nat) (h3 : ∀ x ∈ L, x.length = 3) (a : List Int) (ha : a.length = 3) (hn9 : L.length ≤ 1000000000) : ConQ Try.prog [] 99 [.slice 0 0 L.length k, .arr a] [(0, .ints 49 (L.flatten ++ sp))] (.bool ((L).any fun x => decide (a = x))) := by
  refine conW tab_ok [(0, .slice 0 0 L.length k), (1, .arr a)] 1 [0] [0] Try.func99 rfl rfl rfl rfl rfl rfl rfl rfl rfl ?_
  refine cR ?_
  refine oBox rfl rfl rfl rfl rfl rfl ?_
  refine oA rfl rfl ?_
  refine oN ?_
  refine cR ?_
  refine oM rfl rfl ?_
  refine oQ (Q_ldw rfl rfl rfl rfl ha) rfl rfl ?_
  refine oQ (Q_call (indexP_con L sp k h3 a ha hn9) [] rfl rfl (Fits.mk' (vHc rfl vHn) rfl rfl (by simp)) rfl rfl) rfl rfl ?_
  refine oQ (Q_bin rfl rfl rfl) rfl rfl ?_
  refine oA rfl rfl ?_
  refine oN ?_
  refine CW_ret ?_
  all_goals (
   refine exitQ (.inr rfl) 1 (.cons (.tmp rfl rfl) .nil) ?_ rfl (vHc rfl vHn) rfl rfl
   exact congrArg V.bool idxL_any)
theorem indexP_nil  (a : List Int) (ha : a.length = 3) : ConQ Try.prog [] 116 [.nilsl, .arr a] [] (.int (idxL (fun x => decide (a = x)) ([] : List (List Int)))) := by
  refine conW tab_ok [(0, .nilsl), (1, .arr a)] 0 [] [] Try.func116 rfl rfl rfl rfl rfl rfl rfl rfl rfl ?_
  refine cR ?_
  refine oBox rfl rfl rfl rfl rfl rfl ?_
  refine oA rfl rfl ?_
  refine oN ?_
  refine CW_seq ?_
  refine cR ?_
  refine oM rfl rfl ?_
  first | refine oQ (Q_len rfl rfl rfl rfl) rfl rfl ?_ | refine oQ (Q_len0 rfl rfl rfl rfl) rfl rfl ?_
  refine oM rfl rfl ?_
  refine oN ?_
  refine CW_block ?_
  refine CW_loop (ι := Nat) (fun i => i ≤ 0 ∧ ∀ j, j < i → (fun x => decide (a = x)) ((([] : List (List Int))).getD j []) = false) (fun i => ⟨[(0, .nilsl), (3, .ptr 0 0), (7, .int (0 : Nat)), (8, .int (i : Nat))], [(0, .ints 49 a)], 1⟩) (fun i => 0 - i) 0 ?_ ?_ ?_
  · exact ⟨Nat.zero_le _, fun i h => absurd h (Nat.not_lt_zero _)⟩
  · refine View.mk' [] rfl rfl rfl ?_ ?_
    repeat' first | exact vFn | refine vFc rfl ?_ | exact vHn | refine vHc rfl ?_ | refine vFc (congrArg (fun z => some (V.int z)) ?_) ?_ | refine vHc (congrArg (fun z => some (Blk.ints _ z)) ?_) ?_ | refine vFc (congrArg (fun z => some (V.bool z)) ?_) ?_ | refine vFs rfl rfl ?_ ?_
  rintro i ⟨hi, hi2⟩
  refine cR ?_
  refine oQ (Q_bin rfl rfl rfl) rfl rfl ?_
  refine oN ?_
  refine CW_seq ?_
  first | refine cT rfl ?_ | refine cF rfl ?_ | refine CW_cond rfl (fun hc => ?_) (fun hc => ?_)
  all_goals try simp only [s1, s2, s3, s4, s5, s6, s7, s8, s9, s10, s11, s12] at hc
  all_goals try (exfalso; first | omega | (simp at hc; done); done)
  all_goals first
    | (
     refine CW_skip ?_)
    | (
     refine CW_exit ?_)
  all_goals first
    | with_reducible refine tR ?_
    | with_reducible refine tE ?_
    | (
     with_reducible refine tN ?_
     refine CW_seq ?_
     refine CW_block ?_
     refine cR ?_
     refine oM rfl rfl ?_
     refine oA rfl rfl ?_
     refine oN ?_
     refine CW_seq ?_
     refine CW_draw lateOk (by decide +kernel) ?_
     first | refine qQ (Lw rfl rfl rfl rfl) rfl rfl ?_ | refine qQ (La rfl rfl rfl rfl rfl) rfl rfl ?_
     iterate 2 refine qM rfl rfl ?_
     first | refine qQ (Q_ixs0z 3 rfl rfl rfl rfl rfl rfl (by first | omega | (dsimp only; omega) | (simp; omega) | (simp; done))) rfl rfl ?_ | refine qQ (Q_ixsz 3 rfl rfl rfl rfl rfl rfl (by first | omega | (dsimp only; omega) | (simp; omega) | (simp; done))) rfl rfl ?_
     first | refine qQ (Lw rfl rfl rfl rfl) rfl rfl ?_ | refine qQ (La rfl rfl rfl rfl rfl) rfl rfl ?_
     refine qQ (Q_arrb rfl rfl rfl rfl rfl rfl rfl rfl rfl (by first | omega | (dsimp only; omega) | (simp; omega) | (simp; done)) (by first | omega | (dsimp only; omega) | (simp; omega) | (simp; done))) rfl rfl ?_
     refine QW_nil ?_
     all_goals with_reducible refine tN ?_
     all_goals (
      first | refine cT rfl ?_ | refine cF rfl ?_ | refine CW_cond rfl (fun hc => ?_) (fun hc => ?_)
      all_goals try simp only [s1, s2, s3, s4, s5, s6, s7, s8, s9, s10, s11, s12] at hc
      all_goals try (exfalso; first | omega | (simp at hc; done); done)
      all_goals first
        | (
         refine CW_skip ?_)
        | (
         refine cR ?_
         refine oM rfl rfl ?_
         refine oA rfl rfl ?_
         refine oN ?_
         refine CW_ret ?_))
     all_goals first | with_reducible refine bN ?_ | with_reducible refine bE ?_ | with_reducible refine bR ?_ | refine bX rfl ?_
     all_goals first
       | with_reducible refine tR ?_
       | with_reducible refine tE ?_
       | (
        with_reducible refine tN ?_
        refine CW_region ?_
        first | refine oQ (Q_binu rfl rfl rfl (by omega)) rfl rfl ?_ | refine oQ (Q_bin rfl rfl rfl) rfl rfl ?_
        refine oM rfl rfl ?_
        refine OW_nil ?_))
  all_goals first
    | with_reducible refine tR ?_
    | with_reducible refine tE ?_
    | (
     with_reducible refine tN ?_
     refine ⟨i + 1, ?_, ?_, View.mk' [] rfl rfl rfl ?_ ?_⟩
     · refine ⟨by omega, fun j hj => ?_⟩
       by_cases e : j = i
       · subst e; exact decide_eq_false hc
       · exact hi2 j (by omega)
     · omega
     all_goals (repeat' first | exact vFn | refine vFc rfl ?_ | exact vHn | refine vHc rfl ?_ | refine vFc (congrArg (fun z => some (V.int z)) ?_) ?_ | refine vHc (congrArg (fun z => some (Blk.ints _ z)) ?_) ?_ | refine vFc (congrArg (fun z => some (V.bool z)) ?_) ?_ | refine vFs rfl rfl ?_ ?_))
  all_goals first | with_reducible refine bN ?_ | with_reducible refine bE ?_ | with_reducible refine bR ?_ | refine bX rfl ?_
  all_goals first
    | with_reducible refine tR ?_
    | with_reducible refine tE ?_
    | (
     with_reducible refine tN ?_
     refine cR ?_
     refine oA rfl rfl ?_
     refine oN ?_
     refine CW_ret ?_)
  all_goals (
   refine exitQ (.inr rfl) 0 (.cons (.tmp rfl rfl) .nil) ?_ rfl vHn rfl rfl
   first
     | exact congrArg V.int (idxL_found (by omega) hi2 (decide_eq_true hc)).symm
     | exact congrArg V.int (idxL_none (fun j hj => hi2 j (by simp at *; omega))).symm
     | rfl)
theorem containsP_nil  (a : List Int) (ha : a.length = 3) : ConQ Try.prog [] 99 [.nilsl, .arr a] [] (.bool ((([] : List (List Int))).any fun x => decide (a = x))) := by
  refine conW tab_ok [(0, .nilsl), (1, .arr a)] 0 [] [] Try.func99 rfl rfl rfl rfl rfl rfl rfl rfl rfl ?_
  refine cR ?_
  refine oBox rfl rfl rfl rfl rfl rfl ?_
  refine oA rfl rfl ?_
  refine oN ?_
  refine cR ?_
  refine oM rfl rfl ?_
  refine oQ (Q_ldw rfl rfl rfl rfl ha) rfl rfl ?_
  refine oQ (Q_call0 (indexP_nil  a ha ) rfl rfl rfl) rfl rfl ?_
  refine oQ (Q_bin rfl rfl rfl) rfl rfl ?_
  refine oA rfl rfl ?_
  refine oN ?_
  refine CW_ret ?_
  all_goals (
   refine exitQ (.inr rfl) 0 (.cons (.tmp rfl rfl) .nil) ?_ rfl vHn rfl rfl
   exact congrArg V.bool idxL_any)
end Go.Proofs.Ytmcmbpoebhjecaa
