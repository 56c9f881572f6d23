/- What the last text of KindOfConic needs, part 7: contracts of functions and plain mathematics. No conditions beyond those each theorem states. -/
import Derived.Test.YtoiolpgmilobnaaBKindOfConicF
namespace Go.Proofs.Ytoiolpgmilobnaa
attribute [local irreducible] CW OW QW QOp Con thenP inBlockP AW QX RW
set_option maxRecDepth 10000
set_option linter.unusedSimpArgs false
set_option linter.unusedVariables false
theorem matrix_con6 (p a b c d e f : Int) (hp : primeB p = true) (h1 : sm 13 [a, b, c, d, e, f]) : ConQ Try.prog [] 46 [.arr [a, b, c, d, e, f], .int p] [] (.arr (matV p [a, b, c, d, e, f])) := by
  have hpb := prime_bd hp
  have hA := h1 a (by simp)
  have hB := h1 b (by simp)
  have hC := h1 c (by simp)
  have hrl : (matRaw [a, b, c, d, e, f]).length = 9 := rfl
  refine conW tab_ok [(0, .arr [a, b, c, d, e, f]), (1, .int p)] 0 [] [] Try.func46 rfl rfl rfl rfl rfl rfl rfl rfl rfl ?_
  refine cR ?_
  refine oBox rfl rfl rfl rfl rfl rfl ?_
  refine oAlloc rfl rfl rfl rfl rfl rfl rfl ?_
  refine oN ?_
  refine cR ?_
  first | refine oQ (Ia0 rfl rfl rfl rfl rfl rfl) rfl rfl ?_ | refine oQ (Ia1 rfl rfl rfl rfl rfl rfl) rfl rfl ?_
  first | refine oQ (Q_ldc rfl rfl rfl rfl rfl) rfl rfl ?_ | refine oQ (Ld rfl rfl rfl rfl) rfl rfl ?_
  first | refine oQ (Q_binu rfl rfl rfl (by omega)) rfl rfl ?_ | refine oQ (Q_bin rfl rfl rfl) rfl rfl ?_
  first | refine oQ (Ia0 rfl rfl rfl rfl rfl rfl) rfl rfl ?_ | refine oQ (Ia1 rfl rfl rfl rfl rfl rfl) rfl rfl ?_
  first | refine oQ (Q_ldc rfl rfl rfl rfl rfl) rfl rfl ?_ | refine oQ (Ld rfl rfl rfl rfl) rfl rfl ?_
  first | refine oQ (Ia0 rfl rfl rfl rfl rfl rfl) rfl rfl ?_ | refine oQ (Ia1 rfl rfl rfl rfl rfl rfl) rfl rfl ?_
  first | refine oQ (Q_ldc rfl rfl rfl rfl rfl) rfl rfl ?_ | refine oQ (Ld rfl rfl rfl rfl) rfl rfl ?_
  refine oQ (Q_build (r := [2 * a, d, e]) rfl rfl rfl rfl rfl rfl rfl rfl) rfl rfl ?_
  first | refine oQ (Ia0 rfl rfl rfl rfl rfl rfl) rfl rfl ?_ | refine oQ (Ia1 rfl rfl rfl rfl rfl rfl) rfl rfl ?_
  first | refine oQ (Q_ldc rfl rfl rfl rfl rfl) rfl rfl ?_ | refine oQ (Ld rfl rfl rfl rfl) rfl rfl ?_
  first | refine oQ (Ia0 rfl rfl rfl rfl rfl rfl) rfl rfl ?_ | refine oQ (Ia1 rfl rfl rfl rfl rfl rfl) rfl rfl ?_
  first | refine oQ (Q_ldc rfl rfl rfl rfl rfl) rfl rfl ?_ | refine oQ (Ld rfl rfl rfl rfl) rfl rfl ?_
  first | refine oQ (Q_binu rfl rfl rfl (by omega)) rfl rfl ?_ | refine oQ (Q_bin rfl rfl rfl) rfl rfl ?_
  first | refine oQ (Ia0 rfl rfl rfl rfl rfl rfl) rfl rfl ?_ | refine oQ (Ia1 rfl rfl rfl rfl rfl rfl) rfl rfl ?_
  first | refine oQ (Q_ldc rfl rfl rfl rfl rfl) rfl rfl ?_ | refine oQ (Ld rfl rfl rfl rfl) rfl rfl ?_
  refine oQ (Q_build (r := [d, 2 * b, f]) rfl rfl rfl rfl rfl rfl rfl rfl) rfl rfl ?_
  first | refine oQ (Ia0 rfl rfl rfl rfl rfl rfl) rfl rfl ?_ | refine oQ (Ia1 rfl rfl rfl rfl rfl rfl) rfl rfl ?_
  first | refine oQ (Q_ldc rfl rfl rfl rfl rfl) rfl rfl ?_ | refine oQ (Ld rfl rfl rfl rfl) rfl rfl ?_
  first | refine oQ (Ia0 rfl rfl rfl rfl rfl rfl) rfl rfl ?_ | refine oQ (Ia1 rfl rfl rfl rfl rfl rfl) rfl rfl ?_
  first | refine oQ (Q_ldc rfl rfl rfl rfl rfl) rfl rfl ?_ | refine oQ (Ld rfl rfl rfl rfl) rfl rfl ?_
  first | refine oQ (Ia0 rfl rfl rfl rfl rfl rfl) rfl rfl ?_ | refine oQ (Ia1 rfl rfl rfl rfl rfl rfl) rfl rfl ?_
  first | refine oQ (Q_ldc rfl rfl rfl rfl rfl) rfl rfl ?_ | refine oQ (Ld rfl rfl rfl rfl) rfl rfl ?_
  first | refine oQ (Q_binu rfl rfl rfl (by omega)) rfl rfl ?_ | refine oQ (Q_bin rfl rfl rfl) rfl rfl ?_
  refine oQ (Q_build (r := [e, f, 2 * c]) rfl rfl rfl rfl rfl rfl rfl rfl) rfl rfl ?_
  refine oQ (Q_build (r := matRaw [a, b, c, d, e, f]) rfl rfl rfl rfl rfl rfl rfl rfl) rfl rfl ?_
  refine oAlloc rfl rfl rfl rfl rfl rfl rfl ?_
  first | refine oSw rfl rfl rfl rfl ?_ | refine oSa rfl rfl rfl rfl ?_
  refine oN ?_
  refine CW_seq ?_
  refine cR ?_
  refine oM rfl rfl ?_
  refine oN ?_
  refine CW_block ?_
  refine CW_loop (ι := Nat) (fun i => i ≤ 3) (fun i => ⟨[(1, .int p), (4, .ptr 1 0), (5, .ptr 2 0), (33, .int i)], [(1, .ints 64 [0, 0, 0, 0, 0, 0, 0, 0, 0]), (2, .ints 64 (((matRaw [a, b, c, d, e, f]).take (i * 3)).map (· % p) ++ (matRaw [a, b, c, d, e, f]).drop (i * 3)))], 3⟩) (fun i => 3 - i) 0 ?_ ?_ ?_
  · first | trivial | omega | (simp; done) | (simp; omega)
  · refine View.mk' [] rfl rfl rfl ?_ ?_
    repeat' first | exact vFn | refine vFc rfl ?_ | exact vHn | refine vHc rfl ?_ | refine vFc (congrArg (fun z => some (V.int z)) ?_) ?_ | refine vHc (congrArg (fun z => some (Blk.ints _ z)) ?_) ?_ | refine vFc (congrArg (fun z => some (V.bool z)) ?_) ?_ | refine vFs rfl rfl ?_ ?_
  intro i hi
  refine cR ?_
  refine oQ (Q_bin rfl rfl rfl) rfl rfl ?_
  refine oN ?_
  refine CW_seq ?_
  first | refine cT rfl ?_ | refine cF rfl ?_ | refine CW_cond rfl (fun hc => ?_) (fun hc => ?_)
  all_goals try simp only [s1, s2, s3, s4, s5, s6, s7, s8, s9, s10, s11, s12] at hc
  all_goals first
    | (
     refine CW_skip ?_)
    | (
     refine CW_exit ?_)
  all_goals first
    | with_reducible refine tR ?_
    | with_reducible refine tE ?_
    | (
     with_reducible refine tN ?_
     refine CW_seq ?_
     refine CW_block ?_
     refine cR ?_
     refine oM rfl rfl ?_
     refine oA rfl rfl ?_
     refine oN ?_
     refine cR ?_
     refine oM rfl rfl ?_
     refine oN ?_
     refine CW_block ?_
     refine CW_loop (ι := Nat) (fun k => k ≤ 3) (fun k => ⟨[(1, .int p), (4, .ptr 1 0), (5, .ptr 2 0), (6, .int i), (33, .int i), (36, .int k)], [(1, .ints 64 [0, 0, 0, 0, 0, 0, 0, 0, 0]), (2, .ints 64 (((matRaw [a, b, c, d, e, f]).take (i * 3 + k)).map (· % p) ++ (matRaw [a, b, c, d, e, f]).drop (i * 3 + k)))], 3⟩) (fun k => 3 - k) 0 ?_ ?_ ?_
     · first | trivial | omega | (simp; done) | (simp; omega)
     · refine View.mk' [] rfl rfl rfl ?_ ?_
       repeat' first | exact vFn | refine vFc rfl ?_ | exact vHn | refine vHc rfl ?_ | refine vFc (congrArg (fun z => some (V.int z)) ?_) ?_ | refine vHc (congrArg (fun z => some (Blk.ints _ z)) ?_) ?_ | refine vFc (congrArg (fun z => some (V.bool z)) ?_) ?_ | refine vFs rfl rfl ?_ ?_
     intro k hk
     have hml : (((matRaw [a, b, c, d, e, f]).take (i * 3 + k)).map (· % p)).length = min (i * 3 + k) 9 := by rw [List.length_map, List.length_take, hrl]
     have hqq : k < 3 → i * 3 + k < 9 := fun h => by omega
     refine cR ?_
     refine oQ (Q_bin rfl rfl rfl) rfl rfl ?_
     refine oN ?_
     refine CW_seq ?_
     first | refine cT rfl ?_ | refine cF rfl ?_ | refine CW_cond rfl (fun hc => ?_) (fun hc => ?_)
     all_goals try simp only [s1, s2, s3, s4, s5, s6, s7, s8, s9, s10, s11, s12] at hc
     all_goals first
       | (
        refine CW_skip ?_)
       | (
        refine CW_exit ?_)
     all_goals first
       | with_reducible refine tR ?_
       | with_reducible refine tE ?_
       | (
        with_reducible refine tN ?_
        refine CW_seq ?_
        refine CW_block ?_
        refine cR ?_
        refine oM rfl rfl ?_
        refine oA rfl rfl ?_
        refine oN ?_
        refine CW_any (fun i => List.elem i [11]) 12 rfl lateOk (by decide +kernel) (fun hst => ?_)
        refine aP 0 hst rfl rfl (by decide +kernel) (PX_move rfl rfl) rfl rfl ?_
        refine aP 1 hst rfl rfl (by decide +kernel) (PX_move rfl rfl) rfl rfl ?_
        refine aP 2 hst rfl rfl (by decide +kernel) (PX_move rfl rfl) rfl rfl ?_
        refine aP 3 hst rfl rfl (by decide +kernel) (PX_move rfl rfl) rfl rfl ?_
        refine aQ 4 hst rfl rfl (by decide +kernel) (QX_of (Q_ixa0z 3 rfl rfl rfl rfl rfl rfl (by omega)) NE_ix) rfl rfl ?_
        refine aQ 5 hst rfl rfl (by decide +kernel) (QX_of (Q_ixa1 rfl rfl rfl rfl rfl rfl (by omega)) NE_ix) rfl rfl ?_
        refine aQ 6 hst rfl rfl (by decide +kernel) (QX_of (Q_ldc rfl rfl rfl rfl (mid_get (by omega) (by omega))) NE_load) rfl rfl ?_
        refine aP 7 hst rfl rfl (by decide +kernel) (PX_move rfl rfl) rfl rfl ?_
        refine aQ 8 hst rfl rfl (by decide +kernel) (QX_call0 (mod_con _ _ (by omega) (by omega)) rfl rfl rfl) rfl rfl ?_
        refine aQ 9 hst rfl rfl (by decide +kernel) (QX_of (Q_ixa0z 3 rfl rfl rfl rfl rfl rfl (by omega)) NE_ix) rfl rfl ?_
        refine aQ 10 hst rfl rfl (by decide +kernel) (QX_of (Q_ixa1 rfl rfl rfl rfl rfl rfl (by omega)) NE_ix) rfl rfl ?_
        refine AW_last [11] rfl (by decide +kernel) rfl ?_
        refine oS rfl rfl rfl rfl rfl ?_
        refine OW_nil (npN ?_)
        all_goals first | with_reducible refine bN ?_ | with_reducible refine bE ?_ | with_reducible refine bR ?_ | refine bX rfl ?_
        all_goals with_reducible refine tN ?_
        all_goals (
         refine CW_region ?_
         first | refine oQ (Q_binu rfl rfl rfl (by omega)) rfl rfl ?_ | refine oQ (Q_bin rfl rfl rfl) rfl rfl ?_
         refine oM rfl rfl ?_
         refine OW_nil ?_))
     all_goals first
       | with_reducible refine tR ?_
       | with_reducible refine tE ?_
       | (
        with_reducible refine tN ?_
        refine ⟨k + 1, ?_, ?_, View.mk' [] rfl rfl rfl ?_ ?_⟩
        · omega
        · omega
        all_goals (repeat' first | exact vFn | refine vFc rfl ?_ | exact vHn | refine vHc rfl ?_ | refine vFc (congrArg (fun z => some (V.int z)) ?_) ?_ | refine vHc (congrArg (fun z => some (Blk.ints _ z)) ?_) ?_ | refine vFc (congrArg (fun z => some (V.bool z)) ?_) ?_ | refine vFs rfl rfl ?_ ?_)
        all_goals (rw [mid_set (by omega) (by omega), ← Nat.add_assoc, take_snoc (show i * 3 + k < (matRaw [a, b, c, d, e, f]).length by omega), List.map_append]; rfl))
     all_goals first | with_reducible refine bN ?_ | with_reducible refine bE ?_ | with_reducible refine bR ?_ | refine bX rfl ?_
     all_goals first | with_reducible refine bN ?_ | with_reducible refine bE ?_ | with_reducible refine bR ?_ | refine bX rfl ?_
     all_goals with_reducible refine tN ?_
     all_goals (
      refine CW_region ?_
      first | refine oQ (Q_binu rfl rfl rfl (by omega)) rfl rfl ?_ | refine oQ (Q_bin rfl rfl rfl) rfl rfl ?_
      refine oM rfl rfl ?_
      refine OW_nil ?_))
  all_goals first
    | with_reducible refine tR ?_
    | with_reducible refine tE ?_
    | (
     with_reducible refine tN ?_
     refine ⟨i + 1, ?_, ?_, View.mk' [] rfl rfl rfl ?_ ?_⟩
     · omega
     · omega
     all_goals (repeat' first | exact vFn | refine vFc rfl ?_ | exact vHn | refine vHc rfl ?_ | refine vFc (congrArg (fun z => some (V.int z)) ?_) ?_ | refine vHc (congrArg (fun z => some (Blk.ints _ z)) ?_) ?_ | refine vFc (congrArg (fun z => some (V.bool z)) ?_) ?_ | refine vFs rfl rfl ?_ ?_)
     all_goals (have e3 : k = 3 := by omega)
     all_goals (subst e3; simp only [Nat.add_mul, Nat.one_mul]))
  all_goals first | with_reducible refine bN ?_ | with_reducible refine bE ?_ | with_reducible refine bR ?_ | refine bX rfl ?_
  all_goals with_reducible refine tN ?_
  all_goals (
   refine cR ?_
   first | refine oQ (Lw rfl rfl rfl rfl) rfl rfl ?_ | refine oQ (La rfl rfl rfl rfl rfl) rfl rfl ?_
   first | refine oSw rfl rfl rfl rfl ?_ | refine oSa rfl rfl rfl rfl ?_
   refine oN ?_
   refine CW_ret ?_)
  all_goals (
   have e3 : i = 3 := by omega
   subst e3
   (refine exitQ (.inr rfl) 0 (.cons (.arr rfl rfl rfl rfl (by first | omega | (dsimp only; omega) | (simp; omega) | (simp; done))) .nil) ?_ rfl vHn rfl rfl); rfl)
theorem matrix_con (p : Int) (c : List Int) (hp : primeB p = true) (hc6 : c.length = 6) (h1 : sm 13 c) : ConQ Try.prog [] 46 [.arr c, .int p] [] (.arr (matV p c)) := by
  match c, hc6, h1 with
  | [a, b, c, d, e, f], _, h1 => exact matrix_con6 p a b c d e f hp h1
theorem matV_length {p : Int} {c : List Int} (hc6 : c.length = 6) : (matV p c).length = 9 := by
  match c, hc6 with
  | [a, b, c, d, e, f], _ => rfl
theorem l03Rows_con6 (p a b c d e f : Int) (hp : primeB p = true) (h1 : modB p [a, b, c, d, e, f] = true) : Con Try.prog [] 78 [.int p, .arr [a, b, c, d, e, f]] [] (fun r H' => r = .slice 3 0 3 3 ∧ H' = [(0, .ints 2 [2 * a % p, d, e]), (1, .ints 2 [d, 2 * b % p, f]), (2, .ints 2 [e, f, 2 * c % p]), (3, .vals 103 [.slice 0 0 3 3, .slice 1 0 3 3, .slice 2 0 3 3])]) := by
  have hpb := prime_bd hp
  simp only [modB, List.all_cons, List.all_nil, Bool.and_true, Bool.and_eq_true, decide_eq_true_eq] at h1
  obtain ⟨hA, hB, hC, hD, hE, hF⟩ := h1
  have eA : (2 * a).tmod p = 2 * a % p := Int.tmod_eq_emod_of_nonneg (by omega)
  have eB : (2 * b).tmod p = 2 * b % p := Int.tmod_eq_emod_of_nonneg (by omega)
  have eC : (2 * c).tmod p = 2 * c % p := Int.tmod_eq_emod_of_nonneg (by omega)
  refine conW tab_ok [(0, .int p), (1, .arr [a, b, c, d, e, f])] 0 [] [] Try.func78 rfl rfl rfl rfl rfl rfl rfl rfl rfl ?_
  refine cR ?_
  refine oBox rfl rfl rfl rfl rfl rfl ?_
  refine oA rfl rfl ?_
  refine oN ?_
  refine CW_seq ?_
  refine CW_any (fun _ => false) 32 rfl lateOk (by decide +kernel) (fun hst => ?_)
  first | refine aQ 0 hst rfl rfl (by decide +kernel) (QX_of (Ia0 rfl rfl rfl rfl rfl rfl) NE_ix) rfl rfl ?_ | refine aQ 0 hst rfl rfl (by decide +kernel) (QX_of (Ia1 rfl rfl rfl rfl rfl rfl) NE_ix) rfl rfl ?_
  first | refine aQ 1 hst rfl rfl (by decide +kernel) (QX_of (Q_ldc rfl rfl rfl rfl rfl) NE_load) rfl rfl ?_ | refine aQ 1 hst rfl rfl (by decide +kernel) (QX_of (Ld rfl rfl rfl rfl) NE_load) rfl rfl ?_
  first | refine aQ 2 hst rfl rfl (by decide +kernel) (QX_of (Q_binu rfl rfl rfl (by omega)) NE_bin) rfl rfl ?_ | refine aQ 2 hst rfl rfl (by decide +kernel) (QX_of (Q_bin rfl rfl rfl) NE_bin) rfl rfl ?_
  refine aP 3 hst rfl rfl (by decide +kernel) (PX_move rfl rfl) rfl rfl ?_
  refine aQ 4 hst rfl rfl (by decide +kernel) (QX_of (Q_rem rfl rfl (by omega)) NE_bin) rfl rfl ?_; rw [eA]
  first | refine aQ 5 hst rfl rfl (by decide +kernel) (QX_of (Ia0 rfl rfl rfl rfl rfl rfl) NE_ix) rfl rfl ?_ | refine aQ 5 hst rfl rfl (by decide +kernel) (QX_of (Ia1 rfl rfl rfl rfl rfl rfl) NE_ix) rfl rfl ?_
  first | refine aQ 6 hst rfl rfl (by decide +kernel) (QX_of (Q_ldc rfl rfl rfl rfl rfl) NE_load) rfl rfl ?_ | refine aQ 6 hst rfl rfl (by decide +kernel) (QX_of (Ld rfl rfl rfl rfl) NE_load) rfl rfl ?_
  first | refine aQ 7 hst rfl rfl (by decide +kernel) (QX_of (Ia0 rfl rfl rfl rfl rfl rfl) NE_ix) rfl rfl ?_ | refine aQ 7 hst rfl rfl (by decide +kernel) (QX_of (Ia1 rfl rfl rfl rfl rfl rfl) NE_ix) rfl rfl ?_
  first | refine aQ 8 hst rfl rfl (by decide +kernel) (QX_of (Q_ldc rfl rfl rfl rfl rfl) NE_load) rfl rfl ?_ | refine aQ 8 hst rfl rfl (by decide +kernel) (QX_of (Ld rfl rfl rfl rfl) NE_load) rfl rfl ?_
  first | refine aQ 10 hst rfl rfl (by decide +kernel) (QX_of (Ia0 rfl rfl rfl rfl rfl rfl) NE_ix) rfl rfl ?_ | refine aQ 10 hst rfl rfl (by decide +kernel) (QX_of (Ia1 rfl rfl rfl rfl rfl rfl) NE_ix) rfl rfl ?_
  first | refine aQ 11 hst rfl rfl (by decide +kernel) (QX_of (Q_ldc rfl rfl rfl rfl rfl) NE_load) rfl rfl ?_ | refine aQ 11 hst rfl rfl (by decide +kernel) (QX_of (Ld rfl rfl rfl rfl) NE_load) rfl rfl ?_
  first | refine aQ 12 hst rfl rfl (by decide +kernel) (QX_of (Ia0 rfl rfl rfl rfl rfl rfl) NE_ix) rfl rfl ?_ | refine aQ 12 hst rfl rfl (by decide +kernel) (QX_of (Ia1 rfl rfl rfl rfl rfl rfl) NE_ix) rfl rfl ?_
  first | refine aQ 13 hst rfl rfl (by decide +kernel) (QX_of (Q_ldc rfl rfl rfl rfl rfl) NE_load) rfl rfl ?_ | refine aQ 13 hst rfl rfl (by decide +kernel) (QX_of (Ld rfl rfl rfl rfl) NE_load) rfl rfl ?_
  first | refine aQ 14 hst rfl rfl (by decide +kernel) (QX_of (Q_binu rfl rfl rfl (by omega)) NE_bin) rfl rfl ?_ | refine aQ 14 hst rfl rfl (by decide +kernel) (QX_of (Q_bin rfl rfl rfl) NE_bin) rfl rfl ?_
  refine aP 15 hst rfl rfl (by decide +kernel) (PX_move rfl rfl) rfl rfl ?_
  refine aQ 16 hst rfl rfl (by decide +kernel) (QX_of (Q_rem rfl rfl (by omega)) NE_bin) rfl rfl ?_; rw [eB]
  first | refine aQ 17 hst rfl rfl (by decide +kernel) (QX_of (Ia0 rfl rfl rfl rfl rfl rfl) NE_ix) rfl rfl ?_ | refine aQ 17 hst rfl rfl (by decide +kernel) (QX_of (Ia1 rfl rfl rfl rfl rfl rfl) NE_ix) rfl rfl ?_
  first | refine aQ 18 hst rfl rfl (by decide +kernel) (QX_of (Q_ldc rfl rfl rfl rfl rfl) NE_load) rfl rfl ?_ | refine aQ 18 hst rfl rfl (by decide +kernel) (QX_of (Ld rfl rfl rfl rfl) NE_load) rfl rfl ?_
  first | refine aQ 20 hst rfl rfl (by decide +kernel) (QX_of (Ia0 rfl rfl rfl rfl rfl rfl) NE_ix) rfl rfl ?_ | refine aQ 20 hst rfl rfl (by decide +kernel) (QX_of (Ia1 rfl rfl rfl rfl rfl rfl) NE_ix) rfl rfl ?_
  first | refine aQ 21 hst rfl rfl (by decide +kernel) (QX_of (Q_ldc rfl rfl rfl rfl rfl) NE_load) rfl rfl ?_ | refine aQ 21 hst rfl rfl (by decide +kernel) (QX_of (Ld rfl rfl rfl rfl) NE_load) rfl rfl ?_
  first | refine aQ 22 hst rfl rfl (by decide +kernel) (QX_of (Ia0 rfl rfl rfl rfl rfl rfl) NE_ix) rfl rfl ?_ | refine aQ 22 hst rfl rfl (by decide +kernel) (QX_of (Ia1 rfl rfl rfl rfl rfl rfl) NE_ix) rfl rfl ?_
  first | refine aQ 23 hst rfl rfl (by decide +kernel) (QX_of (Q_ldc rfl rfl rfl rfl rfl) NE_load) rfl rfl ?_ | refine aQ 23 hst rfl rfl (by decide +kernel) (QX_of (Ld rfl rfl rfl rfl) NE_load) rfl rfl ?_
  first | refine aQ 24 hst rfl rfl (by decide +kernel) (QX_of (Ia0 rfl rfl rfl rfl rfl rfl) NE_ix) rfl rfl ?_ | refine aQ 24 hst rfl rfl (by decide +kernel) (QX_of (Ia1 rfl rfl rfl rfl rfl rfl) NE_ix) rfl rfl ?_
  first | refine aQ 25 hst rfl rfl (by decide +kernel) (QX_of (Q_ldc rfl rfl rfl rfl rfl) NE_load) rfl rfl ?_ | refine aQ 25 hst rfl rfl (by decide +kernel) (QX_of (Ld rfl rfl rfl rfl) NE_load) rfl rfl ?_
  first | refine aQ 26 hst rfl rfl (by decide +kernel) (QX_of (Q_binu rfl rfl rfl (by omega)) NE_bin) rfl rfl ?_ | refine aQ 26 hst rfl rfl (by decide +kernel) (QX_of (Q_bin rfl rfl rfl) NE_bin) rfl rfl ?_
  refine aP 27 hst rfl rfl (by decide +kernel) (PX_move rfl rfl) rfl rfl ?_
  refine aQ 28 hst rfl rfl (by decide +kernel) (QX_of (Q_rem rfl rfl (by omega)) NE_bin) rfl rfl ?_; rw [eC]
  refine AW_three (i := 9) (j := 19) (k := 29) (by decide +kernel) ?_ ?_ ?_
  all_goals first
    | (
     refine gBsl (zl := []) (r := [2 * a % p, d, e]) rfl rfl rfl rfl rfl rfl (.inl ⟨rfl, rfl⟩) rfl rfl rfl rfl rfl rfl ?_
     refine AW_two (i := 19) (j := 29) (by decide +kernel) ?_ ?_
     all_goals first
       | (
        refine gBsl (zl := []) (r := [d, 2 * b % p, f]) rfl rfl rfl rfl rfl rfl (.inl ⟨rfl, rfl⟩) rfl rfl rfl rfl rfl rfl ?_
        refine AW_one (i := 29) (by decide +kernel) ?_
        refine gBsl (zl := []) (r := [e, f, 2 * c % p]) rfl rfl rfl rfl rfl rfl (.inl ⟨rfl, rfl⟩) rfl rfl rfl rfl rfl rfl ?_
        refine AW_one (i := 30) (by decide +kernel) ?_
        refine gBslv (r := [.slice 1 0 3 3, .slice 2 0 3 3, .slice 3 0 3 3]) rfl rfl rfl rfl rfl rfl rfl rfl rfl rfl rfl rfl rfl rfl rfl ?_
        refine aQ 31 hst rfl rfl (by decide +kernel) (QX_of (Q_assign rfl rfl) NE_assign) rfl rfl ?_
        refine AW_done (by decide +kernel) ?_)
       | (
        refine gBsl (zl := []) (r := [e, f, 2 * c % p]) rfl rfl rfl rfl rfl rfl (.inl ⟨rfl, rfl⟩) rfl rfl rfl rfl rfl rfl ?_
        refine AW_one (i := 19) (by decide +kernel) ?_
        refine gBsl (zl := []) (r := [d, 2 * b % p, f]) rfl rfl rfl rfl rfl rfl (.inl ⟨rfl, rfl⟩) rfl rfl rfl rfl rfl rfl ?_
        refine AW_one (i := 30) (by decide +kernel) ?_
        refine gBslv (r := [.slice 1 0 3 3, .slice 3 0 3 3, .slice 2 0 3 3]) rfl rfl rfl rfl rfl rfl rfl rfl rfl rfl rfl rfl rfl rfl rfl ?_
        refine aQ 31 hst rfl rfl (by decide +kernel) (QX_of (Q_assign rfl rfl) NE_assign) rfl rfl ?_
        refine AW_done (by decide +kernel) ?_))
    | (
     refine gBsl (zl := []) (r := [d, 2 * b % p, f]) rfl rfl rfl rfl rfl rfl (.inl ⟨rfl, rfl⟩) rfl rfl rfl rfl rfl rfl ?_
     refine AW_two (i := 9) (j := 29) (by decide +kernel) ?_ ?_
     all_goals first
       | (
        refine gBsl (zl := []) (r := [2 * a % p, d, e]) rfl rfl rfl rfl rfl rfl (.inl ⟨rfl, rfl⟩) rfl rfl rfl rfl rfl rfl ?_
        refine AW_one (i := 29) (by decide +kernel) ?_
        refine gBsl (zl := []) (r := [e, f, 2 * c % p]) rfl rfl rfl rfl rfl rfl (.inl ⟨rfl, rfl⟩) rfl rfl rfl rfl rfl rfl ?_
        refine AW_one (i := 30) (by decide +kernel) ?_
        refine gBslv (r := [.slice 2 0 3 3, .slice 1 0 3 3, .slice 3 0 3 3]) rfl rfl rfl rfl rfl rfl rfl rfl rfl rfl rfl rfl rfl rfl rfl ?_
        refine aQ 31 hst rfl rfl (by decide +kernel) (QX_of (Q_assign rfl rfl) NE_assign) rfl rfl ?_
        refine AW_done (by decide +kernel) ?_)
       | (
        refine gBsl (zl := []) (r := [e, f, 2 * c % p]) rfl rfl rfl rfl rfl rfl (.inl ⟨rfl, rfl⟩) rfl rfl rfl rfl rfl rfl ?_
        refine AW_one (i := 9) (by decide +kernel) ?_
        refine gBsl (zl := []) (r := [2 * a % p, d, e]) rfl rfl rfl rfl rfl rfl (.inl ⟨rfl, rfl⟩) rfl rfl rfl rfl rfl rfl ?_
        refine AW_one (i := 30) (by decide +kernel) ?_
        refine gBslv (r := [.slice 3 0 3 3, .slice 1 0 3 3, .slice 2 0 3 3]) rfl rfl rfl rfl rfl rfl rfl rfl rfl rfl rfl rfl rfl rfl rfl ?_
        refine aQ 31 hst rfl rfl (by decide +kernel) (QX_of (Q_assign rfl rfl) NE_assign) rfl rfl ?_
        refine AW_done (by decide +kernel) ?_))
    | (
     refine gBsl (zl := []) (r := [e, f, 2 * c % p]) rfl rfl rfl rfl rfl rfl (.inl ⟨rfl, rfl⟩) rfl rfl rfl rfl rfl rfl ?_
     refine AW_two (i := 9) (j := 19) (by decide +kernel) ?_ ?_
     all_goals first
       | (
        refine gBsl (zl := []) (r := [2 * a % p, d, e]) rfl rfl rfl rfl rfl rfl (.inl ⟨rfl, rfl⟩) rfl rfl rfl rfl rfl rfl ?_
        refine AW_one (i := 19) (by decide +kernel) ?_
        refine gBsl (zl := []) (r := [d, 2 * b % p, f]) rfl rfl rfl rfl rfl rfl (.inl ⟨rfl, rfl⟩) rfl rfl rfl rfl rfl rfl ?_
        refine AW_one (i := 30) (by decide +kernel) ?_
        refine gBslv (r := [.slice 2 0 3 3, .slice 3 0 3 3, .slice 1 0 3 3]) rfl rfl rfl rfl rfl rfl rfl rfl rfl rfl rfl rfl rfl rfl rfl ?_
        refine aQ 31 hst rfl rfl (by decide +kernel) (QX_of (Q_assign rfl rfl) NE_assign) rfl rfl ?_
        refine AW_done (by decide +kernel) ?_)
       | (
        refine gBsl (zl := []) (r := [d, 2 * b % p, f]) rfl rfl rfl rfl rfl rfl (.inl ⟨rfl, rfl⟩) rfl rfl rfl rfl rfl rfl ?_
        refine AW_one (i := 9) (by decide +kernel) ?_
        refine gBsl (zl := []) (r := [2 * a % p, d, e]) rfl rfl rfl rfl rfl rfl (.inl ⟨rfl, rfl⟩) rfl rfl rfl rfl rfl rfl ?_
        refine AW_one (i := 30) (by decide +kernel) ?_
        refine gBslv (r := [.slice 3 0 3 3, .slice 2 0 3 3, .slice 1 0 3 3]) rfl rfl rfl rfl rfl rfl rfl rfl rfl rfl rfl rfl rfl rfl rfl ?_
        refine aQ 31 hst rfl rfl (by decide +kernel) (QX_of (Q_assign rfl rfl) NE_assign) rfl rfl ?_
        refine AW_done (by decide +kernel) ?_))
  all_goals with_reducible refine tN ?_
  all_goals (
   refine CW_ret ?_)
  all_goals (
   first
     | exact exitH (r0 := .slice 3 0 3 3) (H0 := [(0, .ints 2 [2 * a % p, d, e]), (1, .ints 2 [d, 2 * b % p, f]), (2, .ints 2 [e, f, 2 * c % p]), (3, .vals 103 [.slice 0 0 3 3, .slice 1 0 3 3, .slice 2 0 3 3])]) (.inr rfl) [(0, 1), (1, 2), (2, 3), (3, 4)] 4 (.cons (.tmp rfl rfl) .nil) rfl rfl rfl (vHc rfl (vHc rfl (vHc rfl (vHc rfl vHn)))) rfl rfl ⟨rfl, rfl⟩
     | exact exitH (r0 := .slice 3 0 3 3) (H0 := [(0, .ints 2 [2 * a % p, d, e]), (1, .ints 2 [d, 2 * b % p, f]), (2, .ints 2 [e, f, 2 * c % p]), (3, .vals 103 [.slice 0 0 3 3, .slice 1 0 3 3, .slice 2 0 3 3])]) (.inr rfl) [(0, 1), (1, 3), (2, 2), (3, 4)] 4 (.cons (.tmp rfl rfl) .nil) rfl rfl rfl (vHc rfl (vHc rfl (vHc rfl (vHc rfl vHn)))) rfl rfl ⟨rfl, rfl⟩
     | exact exitH (r0 := .slice 3 0 3 3) (H0 := [(0, .ints 2 [2 * a % p, d, e]), (1, .ints 2 [d, 2 * b % p, f]), (2, .ints 2 [e, f, 2 * c % p]), (3, .vals 103 [.slice 0 0 3 3, .slice 1 0 3 3, .slice 2 0 3 3])]) (.inr rfl) [(0, 2), (1, 1), (2, 3), (3, 4)] 4 (.cons (.tmp rfl rfl) .nil) rfl rfl rfl (vHc rfl (vHc rfl (vHc rfl (vHc rfl vHn)))) rfl rfl ⟨rfl, rfl⟩
     | exact exitH (r0 := .slice 3 0 3 3) (H0 := [(0, .ints 2 [2 * a % p, d, e]), (1, .ints 2 [d, 2 * b % p, f]), (2, .ints 2 [e, f, 2 * c % p]), (3, .vals 103 [.slice 0 0 3 3, .slice 1 0 3 3, .slice 2 0 3 3])]) (.inr rfl) [(0, 2), (1, 3), (2, 1), (3, 4)] 4 (.cons (.tmp rfl rfl) .nil) rfl rfl rfl (vHc rfl (vHc rfl (vHc rfl (vHc rfl vHn)))) rfl rfl ⟨rfl, rfl⟩
     | exact exitH (r0 := .slice 3 0 3 3) (H0 := [(0, .ints 2 [2 * a % p, d, e]), (1, .ints 2 [d, 2 * b % p, f]), (2, .ints 2 [e, f, 2 * c % p]), (3, .vals 103 [.slice 0 0 3 3, .slice 1 0 3 3, .slice 2 0 3 3])]) (.inr rfl) [(0, 3), (1, 1), (2, 2), (3, 4)] 4 (.cons (.tmp rfl rfl) .nil) rfl rfl rfl (vHc rfl (vHc rfl (vHc rfl (vHc rfl vHn)))) rfl rfl ⟨rfl, rfl⟩
     | exact exitH (r0 := .slice 3 0 3 3) (H0 := [(0, .ints 2 [2 * a % p, d, e]), (1, .ints 2 [d, 2 * b % p, f]), (2, .ints 2 [e, f, 2 * c % p]), (3, .vals 103 [.slice 0 0 3 3, .slice 1 0 3 3, .slice 2 0 3 3])]) (.inr rfl) [(0, 3), (1, 2), (2, 1), (3, 4)] 4 (.cons (.tmp rfl rfl) .nil) rfl rfl rfl (vHc rfl (vHc rfl (vHc rfl (vHc rfl vHn)))) rfl rfl ⟨rfl, rfl⟩)
theorem l03Rows_con (p : Int) (c : List Int) (hp : primeB p = true) (hc6 : c.length = 6) (h1 : modB p c = true) : Con Try.prog [] 78 [.int p, .arr c] [] (fun r H' => r = .slice 3 0 3 3 ∧ H' = [(0, .ints 2 ((matV p c).take 3)), (1, .ints 2 (((matV p c).drop 3).take 3)), (2, .ints 2 (((matV p c).drop 6).take 3)), (3, .vals 103 [.slice 0 0 3 3, .slice 1 0 3 3, .slice 2 0 3 3])]) := by
  match c, hc6, h1 with
  | [a, b, c, d, e, f], _, h1 =>
    have := l03Rows_con6 p a b c d e f hp h1
    have hpb := prime_bd hp
    simp only [modB, List.all_cons, List.all_nil, Bool.and_true, Bool.and_eq_true, decide_eq_true_eq] at h1
    obtain ⟨hA, hB, hC, hD, hE, hF⟩ := h1
    simp only [matV, Int.emod_eq_of_lt hD.1 (show d < p by omega), Int.emod_eq_of_lt hE.1 (show e < p by omega), Int.emod_eq_of_lt hF.1 (show f < p by omega)]
    exact this
end Go.Proofs.Ytoiolpgmilobnaa
namespace Go.Proofs.Ytoiolpgmilobnaa
/-! ### a line has p + 1 points -/
abbrev N3 := Nat × Nat × Nat
end Go.Proofs.Ytoiolpgmilobnaa
namespace Go.Proofs.Ytoiolpgmilobnaa
theorem point_mem {p : Int} {a : List Int} (ha : a.length = 3) (h : pointB p a = true) : a ∈ allPts p := by
  match a, ha with
  | [x, y, z], _ =>
    have hp := pointB_prime h
    have hb := prime_bd hp
    have hm := mod_list (pointB_mod h)
    simp only [pointB, normB, Bool.and_eq_true, beq_iff_eq] at h
    have hf := h.2.2
    have hx := hm x (by simp)
    have hy := hm y (by simp)
    have hz := hm z (by simp)
    have hof : ∀ w : Int, 0 ≤ w → w < p → ∃ k : Nat, k < p.toNat ∧ w = (k : Int) := fun w h0 h1 => ⟨w.toNat, by omega, by omega⟩
    simp only [allPts, row1, rows2, row2, List.mem_append, List.mem_map, List.mem_flatMap, List.mem_singleton, List.mem_range]
    simp only [fnz] at hf
    by_cases h1 : x = 0
    · subst h1
      by_cases h2 : y = 0
      · subst h2
        by_cases h3 : z = 0
        · subst h3; simp at hf
        · left; left
          simp at hf
          simp_all
      · left; right
        simp [h2] at hf
        subst hf
        obtain ⟨k, hk, rfl⟩ := hof z hz.1 hz.2
        exact ⟨k, hk, rfl⟩
    · right
      simp [h1] at hf
      subst hf
      obtain ⟨j, hj, rfl⟩ := hof y hy.1 hy.2
      obtain ⟨k, hk, rfl⟩ := hof z hz.1 hz.2
      exact ⟨j, hj, k, hk, rfl⟩
end Go.Proofs.Ytoiolpgmilobnaa
namespace Go.Proofs.Ytoiolpgmilobnaa
set_option linter.unusedVariables false
theorem fac_inv {p : Int} (hp : primeB p = true) {l : List Int} (h : fnz (l.map (· % p)) ≠ 0) : fnz (l.map (· % p)) * facP p l % p = 1 := by
  have hb := prime_bd hp
  rcases fnz_mem (l.map (· % p)) with h0 | h0
  · exact absurd h0 h
  · obtain ⟨x, _, hx⟩ := List.mem_map.1 h0
    have h1 := Int.emod_nonneg x (show p ≠ 0 by omega)
    have h2 := Int.emod_lt_of_pos x (show 0 < p by omega)
    exact (inv_spec hp (by omega) (by omega)).2.2
end Go.Proofs.Ytoiolpgmilobnaa
namespace Go.Proofs.Ytoiolpgmilobnaa
set_option maxRecDepth 10000
set_option linter.unusedSimpArgs false
set_option linter.unusedVariables false
theorem fnz_norm {p f : Int} (hp : primeB p = true) : ∀ l : List Int, fnz (l.map (· % p)) * f % p = 1 → fnz (l.map fun x => x % p * f % p) = 1
  | [], h => by simp [fnz] at h
  | a :: r, h => by
    simp only [List.map_cons, fnz] at h ⊢
    by_cases h0 : a % p = 0
    · rw [if_pos h0] at h
      rw [if_pos (by rw [h0]; simp)]
      exact fnz_norm hp r h
    · rw [if_neg h0] at h
      rw [if_neg (by rw [h]; decide)]
      exact h
theorem norm_mem {p : Int} (hp : primeB p = true) {l : List Int} (hl : l.length = 3) (h : facP p l ≠ 0) : normL p l ∈ allPts p := by
  have hb := prime_bd hp
  refine point_mem (by rw [normL_length]; exact hl) ?_
  have hz : fnz (l.map (· % p)) ≠ 0 := fun e => h ((fac_zero hp l).2 e)
  simp only [pointB, normB, Bool.and_eq_true, beq_iff_eq]
  refine ⟨hp, ?_, fnz_norm hp l (fac_inv hp hz)⟩
  rw [modB, List.all_eq_true]
  intro x hx
  obtain ⟨y, _, rfl⟩ := List.mem_map.1 hx
  have h1 := Int.emod_nonneg (y % p * facP p l) (show p ≠ 0 by omega)
  have h2 := Int.emod_lt_of_pos (y % p * facP p l) (show 0 < p by omega)
  simp only [Bool.and_eq_true, decide_eq_true_eq]
  omega
attribute [local irreducible] CW OW QW QOp Con thenP inBlockP AW QX RW
def crossT (a b : List Int) : List Int := [a.getD 1 0 * b.getD 2 0 - a.getD 2 0 * b.getD 1 0, a.getD 2 0 * b.getD 0 0 - a.getD 0 0 * b.getD 2 0, a.getD 0 0 * b.getD 1 0 - a.getD 1 0 * b.getD 0 0]
attribute [local simp] normL_length
@[simp] theorem crossT_len (a b : List Int) : (crossT a b).length = 3 := rfl
end Go.Proofs.Ytoiolpgmilobnaa
namespace Go.Proofs.Ytoiolpgmilobnaa
set_option maxRecDepth 10000
set_option linter.unusedSimpArgs false
set_option linter.unusedVariables false
set_option linter.unusedSectionVars false
open Lean.Grind
theorem rk_ex {p : Int} (hp : primeB p = true) {M : Nat → List Int} {m w : Nat} (hM : ∀ i, i < m → rwB p w (M i)) : ∃ r, rkP p M m w r := by
  have hb := prime_bd hp
  have hp0 : 0 < p := by omega
  have key : ∀ i, i ≤ m → ∃ (E : Nat → List Int) (r : Nat) (P : Nat → Nat), (∀ k, k < r → rwB p w (E k)) ∧ EcI p M i w E r P := by
    intro i
    induction i with
    | zero => exact fun _ => ⟨fun _ => [], 0, fun _ => 0, fun k hk => absurd hk (Nat.not_lt_zero _), EcI_start p M w _ _⟩
    | succ i ih =>
      intro hi
      obtain ⟨E, r, P, h1, h2⟩ := ih (by omega)
      by_cases hl : ldI (rdc p E P w (M i) r) < 0
      · exact ⟨E, r, P, h1, EcI_skip hp h2 (hM i (by omega)) h1 hl⟩
      · obtain ⟨a1, a2, a3⟩ := ldI_at hl
        have hB := rdc_B (E := E) (P := P) hp0 (hM i (by omega)) r
        rw [hB.1] at a1
        refine ⟨fun k => if k < r then lsL p (E k) (normL p (rdc p E P w (M i) r)) ((E k).getD (ldI (rdc p E P w (M i) r)).toNat 0) w else normL p (rdc p E P w (M i) r), r + 1, _, fun k hk => ?_, EcI_put hp h2 (hM i (by omega)) h1 (Nat.le_refl r) a1 a2 a3 (fun k hk => if_pos hk) (if_neg (Nat.lt_irrefl r)) (fun k h1 h2 => absurd h1 (by omega))⟩
        dsimp only
        split
        · exact rwB_ls hp0 _ _ _ _
        · exact rwB_no hp0 hB
  obtain ⟨E, r, P, _, h⟩ := key m (Nat.le_refl m)
  exact ⟨r, fun n _ hn hF => ⟨_, P, (h n hn hF).1, (h n hn hF).2⟩⟩
theorem rk_spec {p : Int} (hp : primeB p = true) {M : Nat → List Int} {m w : Nat} (hM : ∀ i, i < m → rwB p w (M i)) : rkP p M m w (rkI p M m w) := by
  obtain ⟨r, h⟩ := rk_ex hp hM
  rw [rk_eq hp h]; exact h
section
variable {F : Type} [CommRing F]
theorem null_ex (h1 : (1 : F) ≠ 0) {E : Nat → Nat → F} {r w : Nat} {P : Nat → Nat} (h : Ech E r w P) (hr : r < w) : ∃ x, NullV E r w x ∧ ∃ j, j < w ∧ x j ≠ 0 := by
  apply Classical.byContradiction
  intro hn
  have hx : ∀ x, NullV E r w x → ∀ j, j < w → x j = 0 := fun x hx j hj => Classical.byContradiction fun e => hn ⟨x, hx, j, hj, e⟩
  have hex : ∀ c, ∃ i, c < w → i < r ∧ P i = c := fun c => by
    by_cases hc : c < w
    · obtain ⟨i, hi, e⟩ := (ech_piv h1 h hc).2 (fun x g _ => hx x g c hc)
      exact ⟨i, fun _ => ⟨hi, e⟩⟩
    · exact ⟨0, fun g => absurd g hc⟩
  have := pigeon w r (fun c => Classical.choose (hex c)) (fun c hc => (Classical.choose_spec (hex c) hc).1) (fun c d hc hd e => by
    rw [← (Classical.choose_spec (hex c) hc).2, ← (Classical.choose_spec (hex d) hd).2]; exact congrArg P e)
  omega
theorem ech_w (h1 : (1 : F) ≠ 0) {E : Nat → Nat → F} {r w : Nat} {P : Nat → Nat} (h : Ech E r w P) : r ≤ w :=
  pigeon r w P h.lt (fun i j hi hj e => ech_inj h1 h hi hj e)
end
theorem rk_le {p : Int} (hp : primeB p = true) {M : Nat → List Int} {m w : Nat} (hM : ∀ i, i < m → rwB p w (M i)) : rkI p M m w ≤ w := by
  obtain ⟨n, _, e, hF, _⟩ := fld_of hp
  obtain ⟨E, P, h, _⟩ := rk_spec hp hM n e hF
  exact ech_w hF.1 h
/-! ### conics -/
def mR (p : Int) (c : List Int) : Nat → List Int := fun i => ((matV p c).drop (i * 3)).take 3
theorem mR_B {p : Int} (hp : primeB p = true) {c : List Int} (hc6 : c.length = 6) : ∀ i, i < 3 → rwB p 3 (mR p c i) := by
  have hb := prime_bd hp
  match c, hc6 with
  | [a, b, c', d, e, f], _ =>
    have hm : ∀ x : Int, 0 ≤ x % p ∧ x % p < p := fun x => ⟨Int.emod_nonneg _ (by omega), Int.emod_lt_of_pos _ (by omega)⟩
    intro i hi
    have : i = 0 ∨ i = 1 ∨ i = 2 := by omega
    rcases this with rfl | rfl | rfl
    all_goals refine ⟨rfl, fun j => ?_⟩
    all_goals (have hj : j = 0 ∨ j = 1 ∨ j = 2 ∨ 3 ≤ j := by omega)
    all_goals rcases hj with rfl | rfl | rfl | hj
    all_goals first | exact hm _ | (have e : ∀ u v w : Int, ([u, v, w] : List Int).getD j 0 = 0 := fun u v w => by simp [List.getD, hj]
                                    show 0 ≤ ([_, _, _] : List Int).getD j 0 ∧ ([_, _, _] : List Int).getD j 0 < p
                                    rw [e]; omega)
def ptsQ (p : Int) (c : List Int) : List (List Int) := (allPts p).filter fun m => conV p c m == 0
noncomputable def kdV (p : Int) (c : List Int) : Int := if rkI p (mR p c) 3 3 = 3 then 0 else if rkI p (mR p c) 3 3 = 2 then (if 1 < (ptsQ p c).length then 1 else 2) else 3
section
variable {F : Type} [CommRing F]
theorem sing_alg {t A B C D G H X Y Z s : F} (ht : t = 1 + 1) (r0 : 0 + t * A * X + D * Y + G * Z = 0) (r1 : 0 + D * X + t * B * Y + H * Z = 0) (r2 : 0 + G * X + H * Y + t * C * Z = 0) : t * (A * (X * s * (X * s)) + B * (Y * s * (Y * s)) + C * (Z * s * (Z * s)) + D * (X * s * (Y * s)) + G * (X * s * (Z * s)) + H * (Y * s * (Z * s))) = 0 := by
  have e : t * (A * (X * s * (X * s)) + B * (Y * s * (Y * s)) + C * (Z * s * (Z * s)) + D * (X * s * (Y * s)) + G * (X * s * (Z * s)) + H * (Y * s * (Z * s))) = s * s * (X * (0 + t * A * X + D * Y + G * Z) + Y * (0 + D * X + t * B * Y + H * Z) + Z * (0 + G * X + H * Y + t * C * Z)) := by subst ht; grind
  rw [e, r0, r1, r2]; grind
end
theorem con_eq (p a b c d e f x y z : Int) : conV p [a, b, c, d, e, f] [x, y, z] = (a * (x * x) + b * (y * y) + c * (z * z) + d * (x * y) + e * (x * z) + f * (y * z)) % p := by
  simp [conV, dotT, pw]
/-- a conic whose matrix is not of rank 3 has a point -/
theorem sing_pt {p : Int} (hp : primeB p = true) {c : List Int} (hc6 : c.length = 6) (hr : rkI p (mR p c) 3 3 < 3) : 0 < (ptsQ p c).length := by
  have hb := prime_bd hp
  obtain ⟨n, _, en, hF, hk⟩ := fld_of hp
  obtain ⟨E, P, hE, hN⟩ := rk_spec hp (mR_B hp hc6) n en hF
  obtain ⟨x, hx, j, hj, hne⟩ := null_ex hF.1 hE hr
  have hx' := (hN x).2 hx
  obtain ⟨k0, e0⟩ := hk (x 0)
  obtain ⟨k1, e1⟩ := hk (x 1)
  obtain ⟨k2, e2⟩ := hk (x 2)
  have hfz : facP p [(k0 : Int), (k1 : Int), (k2 : Int)] ≠ 0 := fun e => by
    have h := fnz_all.1 ((fac_zero hp _).1 e)
    have g0 := h k0 (by simp)
    have g1 := h k1 (by simp)
    have g2 := h k2 (by simp)
    rw [en] at g0 g1 g2
    have : j = 0 ∨ j = 1 ∨ j = 2 := by omega
    rcases this with rfl | rfl | rfl
    · exact hne (by rw [← e0]; exact (ic_z n).2 g0)
    · exact hne (by rw [← e1]; exact (ic_z n).2 g1)
    · exact hne (by rw [← e2]; exact (ic_z n).2 g2)
  have hz : conV p c (normL p [(k0 : Int), (k1 : Int), (k2 : Int)]) = 0 := by
    generalize hf : facP p [(k0 : Int), (k1 : Int), (k2 : Int)] = fa
    have hn : normL p [(k0 : Int), (k1 : Int), (k2 : Int)] = [k0 % p * fa % p, k1 % p * fa % p, k2 % p * fa % p] := by unfold normL; rw [hf]; rfl
    rw [hn]
    match c, hc6 with
    | [a, b, c', d, e, f], _ =>
      rw [con_eq]
      have r0 := hx' 0 (by omega)
      have r1 := hx' 1 (by omega)
      have r2 := hx' 2 (by omega)
      change (0 + (ic (2 * a % p) : Fin n) * x 0 + ic (d % p) * x 1 + ic (e % p) * x 2) = 0 at r0
      change (0 + (ic (d % p) : Fin n) * x 0 + ic (2 * b % p) * x 1 + ic (f % p) * x 2) = 0 at r1
      change (0 + (ic (e % p) : Fin n) * x 0 + ic (f % p) * x 1 + ic (2 * c' % p) * x 2) = 0 at r2
      rw [en] at r0 r1 r2 ⊢
      simp only [ic_mod n, ic_mul] at r0 r1 r2
      refine (ic_z (R := Fin n) n).1 ?_
      simp only [ic_add, ic_mul, ic_mod n, e0, e1, e2]
      have h2 : (ic 2 : Fin n) ≠ 0 := fun h => by
        have := (ic_z n).1 h
        rw [← en, Int.emod_eq_of_lt (by omega) (by omega)] at this
        omega
      have h2' : (ic 2 : Fin n) = 1 + 1 := by
        show (ic (1 + 1) : Fin n) = 1 + 1
        rw [ic_add, ic_one]
      have := sing_alg (s := ic fa) h2' r0 r1 r2
      exact (hF.2.1 _ _ this).resolve_left h2
  have hm : normL p [(k0 : Int), (k1 : Int), (k2 : Int)] ∈ ptsQ p c := by
    unfold ptsQ
    rw [List.mem_filter]
    exact ⟨norm_mem hp rfl hfz, by rw [hz]; rfl⟩
  exact List.length_pos_of_mem hm
theorem rk_pos {p : Int} (hp : primeB p = true) {c : List Int} (hc6 : c.length = 6) (hc : pointB p c = true) : rkI p (mR p c) 3 3 ≠ 0 := by
  intro h0
  obtain ⟨n, _, en, hF, _⟩ := fld_of hp
  obtain ⟨E, P, hE, hN⟩ := rk_spec hp (mR_B hp hc6) n en hF
  rw [h0] at hN
  have hz : ∀ i j, i < 3 → j < 3 → (mR p c i).getD j 0 = 0 := fun i j hi hj => by
    have := (hN (dl j)).2 (fun k hk => absurd hk (Nat.not_lt_zero _)) i hi
    rw [dt_dl _ hj] at this
    have b := (mR_B hp hc6 i hi).2 j
    exact ic_small b.1 (by omega) this
  match c, hc6 with
  | [a, b, c', d, e, f], _ =>
    have z0 : 2 * a % p = 0 := hz 0 0 (by omega) (by omega)
    have z1 : d % p = 0 := hz 0 1 (by omega) (by omega)
    have z2 : e % p = 0 := hz 0 2 (by omega) (by omega)
    have z3 : 2 * b % p = 0 := hz 1 1 (by omega) (by omega)
    have z4 : f % p = 0 := hz 1 2 (by omega) (by omega)
    have z5 : 2 * c' % p = 0 := hz 2 2 (by omega) (by omega)
    simp only [pointB, normB, modB, List.all_cons, List.all_nil, Bool.and_true, Bool.and_eq_true, decide_eq_true_eq, beq_iff_eq] at hc
    obtain ⟨_, ⟨⟨a1, a2⟩, ⟨b1, b2⟩, ⟨c1, c2⟩, ⟨d1, d2⟩, ⟨e1, e2⟩, ⟨f1, f2⟩⟩, hfz⟩ := hc
    have ea : a = 0 ∧ b = 0 ∧ c' = 0 ∧ d = 0 ∧ e = 0 ∧ f = 0 := by
      rcases prime_cases hp with rfl | rfl | rfl | rfl | rfl <;> omega
    obtain ⟨rfl, rfl, rfl, rfl, rfl, rfl⟩ := ea
    simp [fnz] at hfz
/-- the reference's road to the kind -/
theorem kd_ref {p : Int} (hp : primeB p = true) {c : List Int} (hc6 : c.length = 6) (hc : pointB p c = true) : kdV p c = if rkI p (mR p c) 3 3 = 3 then 0 else if rkI p (mR p c) 3 3 = 1 then 3 else if (ptsQ p c).length = 1 then 2 else 1 := by
  have h1 := rk_le hp (mR_B hp hc6)
  have h2 := rk_pos hp hc6 hc
  have h3 := sing_pt hp hc6
  unfold kdV
  generalize rkI p (mR p c) 3 3 = r at *
  have : r = 1 ∨ r = 2 ∨ r = 3 := by omega
  rcases this with rfl | rfl | rfl
  · simp
  · have := h3 (by omega)
    simp only [show ¬ (2 : Nat) = 3 by decide, show ¬ (2 : Nat) = 1 by decide, if_false, if_true]
    by_cases e : (ptsQ p c).length = 1
    · rw [if_pos e, if_neg (by omega)]
    · rw [if_neg e, if_pos (by omega)]
  · simp
end Go.Proofs.Ytoiolpgmilobnaa
namespace Go.Proofs.Ytoiolpgmilobnaa
set_option maxRecDepth 10000
set_option linter.unusedSimpArgs false
set_option linter.unusedVariables false
theorem matV_B {p : Int} (hp : primeB p = true) {c : List Int} (hc6 : c.length = 6) : ∀ j, 0 ≤ (matV p c).getD j 0 ∧ (matV p c).getD j 0 < p := by
  have hb := prime_bd hp
  have hl := matV_length (p := p) hc6
  intro j
  by_cases hj : j < 9
  · have h := (mR_B hp hc6 (j / 3) (by omega)).2 (j % 3)
    have e : (mR p c (j / 3)).getD (j % 3) 0 = (matV p c).getD j 0 := by
      unfold mR
      have : j / 3 * 3 + j % 3 = j := by omega
      have h3 : j % 3 < 3 := by omega
      simp only [List.getD, List.getElem?_take, List.getElem?_drop, h3, if_true, this]
    rw [e] at h; exact h
  · have : (matV p c).getD j 0 = 0 := by simp [List.getD, show (matV p c).length ≤ j by omega]
    rw [this]; omega
attribute [local irreducible] CW OW QW QOp Con thenP inBlockP AW QX RW AX
theorem kind_con (p : Int) (c : List Int) (hp : primeB p = true) (hc6 : c.length = 6) (h1 : sm 13 c) : ConQ Try.prog [] 42 [.arr c, .int p] [] (.int (kdV p c)) := by
  have hml := matV_length (p := p) hc6
  refine conW tab_ok [(0, .arr c), (1, .int p)] 0 [] [] Try.func42 rfl rfl rfl rfl rfl rfl rfl rfl rfl ?_
  refine cR ?_
  refine oBox rfl rfl rfl rfl rfl rfl ?_
  refine oA rfl rfl ?_
  refine oN ?_
  refine cR ?_
  refine oQ (Q_ldw rfl rfl rfl rfl hc6) rfl rfl ?_
  refine oM rfl rfl ?_
  refine oQ (Q_call0 (matrix_con p c hp hc6 h1) rfl rfl rfl) rfl rfl ?_
  refine oAlloc rfl rfl rfl rfl rfl rfl rfl ?_
  first | refine oSw rfl rfl rfl rfl ?_ | refine oSa rfl rfl rfl rfl ?_
  refine oN ?_
  iterate 2 refine CW_seq ?_
  refine CW_any (fun _ => false) 10 rfl lateOk (by decide +kernel) (fun hst => ?_)
  refine aP 0 hst rfl rfl (by decide +kernel) (PX_move rfl rfl) rfl rfl ?_
  first | refine aQ 1 hst rfl rfl (by decide +kernel) (QX_of (Q_ixa0z 3 rfl rfl rfl rfl rfl rfl (by first | omega | (dsimp only; omega) | (simp; omega) | (simp; done))) NE_ix) rfl rfl ?_ | refine aQ 1 hst rfl rfl (by decide +kernel) (QX_of (Q_ixaz 3 rfl rfl rfl rfl rfl rfl (by first | omega | (dsimp only; omega) | (simp; omega) | (simp; done))) NE_ix) rfl rfl ?_
  refine aQ 2 hst rfl rfl (by decide +kernel) (QX_of (Q_slaF rfl rfl rfl rfl) NE_slice) rfl rfl ?_
  first | refine aQ 3 hst rfl rfl (by decide +kernel) (QX_of (Q_ixa0z 3 rfl rfl rfl rfl rfl rfl (by first | omega | (dsimp only; omega) | (simp; omega) | (simp; done))) NE_ix) rfl rfl ?_ | refine aQ 3 hst rfl rfl (by decide +kernel) (QX_of (Q_ixaz 3 rfl rfl rfl rfl rfl rfl (by first | omega | (dsimp only; omega) | (simp; omega) | (simp; done))) NE_ix) rfl rfl ?_
  refine aQ 4 hst rfl rfl (by decide +kernel) (QX_of (Q_slaF rfl rfl rfl rfl) NE_slice) rfl rfl ?_
  first | refine aQ 5 hst rfl rfl (by decide +kernel) (QX_of (Q_ixa0z 3 rfl rfl rfl rfl rfl rfl (by first | omega | (dsimp only; omega) | (simp; omega) | (simp; done))) NE_ix) rfl rfl ?_ | refine aQ 5 hst rfl rfl (by decide +kernel) (QX_of (Q_ixaz 3 rfl rfl rfl rfl rfl rfl (by first | omega | (dsimp only; omega) | (simp; omega) | (simp; done))) NE_ix) rfl rfl ?_
  refine aQ 6 hst rfl rfl (by decide +kernel) (QX_of (Q_slaF rfl rfl rfl rfl) NE_slice) rfl rfl ?_
  refine AW_one (i := 7) (by decide +kernel) ?_
  refine gBslv rfl rfl rfl rfl rfl rfl rfl rfl rfl rfl rfl rfl rfl rfl rfl ?_
  refine AW_one (i := 8) (by decide +kernel) ?_
  refine gCall rfl rfl (reduced33_con p 64 (matV p c) 3 3 3 3 hml hp (matV_B hp hc6)) [(0, 2), (1, 1)] 6 rfl rfl (Fits.mk' (vHc rfl (vHc rfl vHn)) rfl rfl (by simp)) rfl rfl rfl ?_
  rintro r H1 ⟨kO, A, K, S, rfl, hA, _, rfl⟩
  refine ⟨.slice 8 0 (rkI p (mR p c) 3 3) kO, [(2, .vals 103 [.slice 1 0 3 3, .slice 1 3 3 3, .slice 1 6 3 3]), (1, .ints 64 (matV p c)), (5, .ints 2 (A 0 ++ S 0)), (6, .ints 2 (A 1 ++ S 1)), (7, .ints 2 (A 2 ++ S 2)), (8, .vals 103 ([.slice 5 0 3 (K 0), .slice 6 0 3 (K 1), .slice 7 0 3 (K 2)] ++ List.replicate (kO - 3) .bot))], (by simp only [scM, List.all_cons, List.all_nil, ids_bots]; rfl), keep_pre _ _, rfl, (by simp only [List.map_cons, List.map_nil, ren_bots]; rfl), ?_⟩
  first | refine aQ 9 hst rfl rfl (by decide +kernel) (QX_of (Q_len rfl rfl rfl rfl) NE_len) rfl rfl ?_ | refine aQ 9 hst rfl rfl (by decide +kernel) (QX_of (Q_len0 rfl rfl rfl rfl) NE_len) rfl rfl ?_
  refine AW_done (by decide +kernel) ?_
  all_goals with_reducible refine tN ?_
  all_goals (
   refine CW_block ?_
   refine cR ?_
   refine oQ (Q_bin rfl rfl rfl) rfl rfl ?_
   refine oA rfl rfl ?_
   refine oN ?_
   first | refine cT rfl ?_ | refine cF rfl ?_ | refine CW_cond rfl (fun hc => ?_) (fun hc => ?_)
   all_goals try simp only [s1, s2, s3, s4, s5, s6, s7, s8, s9, s10, s11, s12] at hc
   all_goals first
     | (
      refine cR ?_
      refine oA rfl rfl ?_
      refine oN ?_
      refine CW_ret ?_)
     | (
      refine cR ?_
      refine oQ (Q_bin rfl rfl rfl) rfl rfl ?_
      refine oA rfl rfl ?_
      refine oN ?_
      first | refine cT rfl ?_ | refine cF rfl ?_ | refine CW_cond rfl (fun hc => ?_) (fun hc => ?_)
      all_goals try simp only [s1, s2, s3, s4, s5, s6, s7, s8, s9, s10, s11, s12] at hc
      all_goals first
        | (
         refine CW_skip ?_)
        | (
         refine CW_seq ?_
         refine cR ?_
         refine oQ (Q_ldw rfl rfl rfl rfl hc6) rfl rfl ?_
         refine oM rfl rfl ?_
         refine oCall (cpoints_con c p hp hc6 h1) [] 1 rfl rfl (Fits.mk' vHn rfl rfl (by first | (simp; done) | exact glOk rfl rfl rfl)) rfl rfl ?_
         rintro r H1 ⟨k, sp, hk, hsp, rfl, rfl⟩
         refine ⟨.slice 9 0 (ptsQ p c).length k, [(9, .ints 32 ((ptsQ p c).flatten ++ sp))], rfl, rfl, rfl, ?_⟩
         first | refine oQ (Q_len rfl rfl rfl rfl) rfl rfl ?_ | refine oQ (Q_len0 rfl rfl rfl rfl) rfl rfl ?_
         refine oQ (Q_bin rfl rfl rfl) rfl rfl ?_
         refine oN ?_
         first | refine cT rfl ?_ | refine cF rfl ?_ | refine CW_cond rfl (fun hc => ?_) (fun hc => ?_)
         all_goals try simp only [s1, s2, s3, s4, s5, s6, s7, s8, s9, s10, s11, s12] at hc
         all_goals first
           | (
            refine CW_skip ?_)
           | (
            refine cR ?_
            refine oA rfl rfl ?_
            refine oN ?_
            refine CW_ret ?_)
         all_goals first
           | with_reducible refine tR ?_
           | with_reducible refine tE ?_
           | (
            with_reducible refine tN ?_
            refine cR ?_
            refine oA rfl rfl ?_
            refine oN ?_
            refine CW_ret ?_)))
   all_goals first | with_reducible refine bN ?_ | with_reducible refine bE ?_ | with_reducible refine bR ?_ | refine bX rfl ?_)
  all_goals first
    | with_reducible refine tR ?_
    | with_reducible refine tE ?_
    | (
     with_reducible refine tN ?_
     refine cR ?_
     refine oA rfl rfl ?_
     refine oN ?_
     refine CW_ret ?_)
  all_goals (
   refine exitQ (.inr rfl) 0 (.cons (.tmp rfl rfl) .nil) ?_ rfl vHn rfl rfl
   refine congrArg V.int ?_
   unfold kdV
   first
     | (rw [if_pos (by omega)]; done)
     | (rw [if_neg (by omega), if_pos (by omega), if_pos (by omega)]; done)
     | (rw [if_neg (by omega), if_pos (by omega), if_neg (by omega)]; done)
     | (rw [if_neg (by omega), if_neg (by omega)]; done))
theorem l03Kind_con (p : Int) (c : List Int) (hp : primeB p = true) (hc6 : c.length = 6) (hpt : pointB p c = true) : ConQ Try.prog [] 40 [.int p, .arr c] [] (.int (kdV p c)) := by
  have h1 := pointB_mod hpt
  have hec := echelon33_con p (mR p c) 3 3 3 3 hp (mR_B hp hc6)
  rw [kd_ref hp hc6 hpt]
  refine conW tab_ok [(0, .int p), (1, .arr c)] 0 [] [] Try.func40 rfl rfl rfl rfl rfl rfl rfl rfl rfl ?_
  refine cR ?_
  refine oBox rfl rfl rfl rfl rfl rfl ?_
  refine oA rfl rfl ?_
  refine oN ?_
  refine CW_seq ?_
  refine cR ?_
  iterate 2 refine oM rfl rfl ?_
  refine oQ (Q_ldw rfl rfl rfl rfl hc6) rfl rfl ?_
  refine oCall (l03Rows_con p c hp hc6 h1) [] 4 rfl rfl (Fits.mk' vHn rfl rfl (by simp)) rfl rfl ?_
  rintro r H1 ⟨rfl, rfl⟩
  refine ⟨.slice 4 0 3 3, [(1, .ints 2 (mR p c 0)), (2, .ints 2 (mR p c 1)), (3, .ints 2 (mR p c 2)), (4, .vals 103 [.slice 1 0 3 3, .slice 2 0 3 3, .slice 3 0 3 3])], rfl, rfl, rfl, ?_⟩
  refine oCall hec [(0, 4), (1, 1), (2, 2), (3, 3)] 5 rfl rfl (Fits.mk' (vHc rfl (vHc rfl (vHc rfl (vHc rfl vHn)))) rfl rfl (by simp)) rfl rfl ?_
  rintro r H1 ⟨kO, rfl, rfl⟩
  refine ⟨.slice 9 0 (rkI p (mR p c) 3 3) kO, [(4, .vals 103 [.slice 1 0 3 3, .slice 2 0 3 3, .slice 3 0 3 3]), (1, .ints 2 (mR p c 0)), (2, .ints 2 (mR p c 1)), (3, .ints 2 (mR p c 2))], rfl, rfl, rfl, ?_⟩
  first | refine oQ (Q_len rfl rfl rfl rfl) rfl rfl ?_ | refine oQ (Q_len0 rfl rfl rfl rfl) rfl rfl ?_
  refine oA rfl rfl ?_
  refine oN ?_
  refine CW_block ?_
  refine cR ?_
  refine oM rfl rfl ?_
  refine oQ (Q_bin rfl rfl rfl) rfl rfl ?_
  refine oA rfl rfl ?_
  refine oN ?_
  first | refine cT rfl ?_ | refine cF rfl ?_ | refine CW_cond rfl (fun hc => ?_) (fun hc => ?_)
  all_goals try simp only [s1, s2, s3, s4, s5, s6, s7, s8, s9, s10, s11, s12] at hc
  all_goals first
    | (
     refine cR ?_
     refine oA rfl rfl ?_
     refine oN ?_
     refine CW_ret ?_)
    | (
     refine cR ?_
     refine oM rfl rfl ?_
     refine oQ (Q_bin rfl rfl rfl) rfl rfl ?_
     refine oA rfl rfl ?_
     refine oN ?_
     first | refine cT rfl ?_ | refine cF rfl ?_ | refine CW_cond rfl (fun hc => ?_) (fun hc => ?_)
     all_goals try simp only [s1, s2, s3, s4, s5, s6, s7, s8, s9, s10, s11, s12] at hc
     all_goals first
       | (
        refine cR ?_
        refine oA rfl rfl ?_
        refine oN ?_
        refine CW_ret ?_)
       | (
        refine cR ?_
        refine oM rfl rfl ?_
        refine oQ (Q_ldw rfl rfl rfl rfl hc6) rfl rfl ?_
        refine oCall (l03Points_con p c hp hc6 h1) [] 1 rfl rfl (Fits.mk' vHn rfl rfl (by first | (simp; done) | exact glOk rfl rfl rfl)) rfl rfl ?_
        rintro r H1 ⟨k, sp, hk, hsp, rfl, rfl⟩
        refine ⟨.slice 10 0 (ptsQ p c).length k, [(10, .ints 32 ((ptsQ p c).flatten ++ sp))], rfl, rfl, rfl, ?_⟩
        first | refine oQ (Q_len rfl rfl rfl rfl) rfl rfl ?_ | refine oQ (Q_len0 rfl rfl rfl rfl) rfl rfl ?_
        refine oQ (Q_bin rfl rfl rfl) rfl rfl ?_
        refine oA rfl rfl ?_
        refine oN ?_
        first | refine cT rfl ?_ | refine cF rfl ?_ | refine CW_cond rfl (fun hc => ?_) (fun hc => ?_)
        all_goals try simp only [s1, s2, s3, s4, s5, s6, s7, s8, s9, s10, s11, s12] at hc
        all_goals first
          | (
           refine CW_skip ?_)
          | (
           refine cR ?_
           refine oA rfl rfl ?_
           refine oN ?_
           refine CW_ret ?_)))
  all_goals first | with_reducible refine bN ?_ | with_reducible refine bE ?_ | with_reducible refine bR ?_ | refine bX rfl ?_
  all_goals first
    | with_reducible refine tR ?_
    | with_reducible refine tE ?_
    | (
     with_reducible refine tN ?_
     refine cR ?_
     refine oA rfl rfl ?_
     refine oN ?_
     refine CW_ret ?_)
  all_goals (
   refine exitQ (.inr rfl) 0 (.cons (.tmp rfl rfl) .nil) ?_ rfl vHn rfl rfl
   refine congrArg V.int ?_
   first
     | (rw [if_pos (by omega)]; done)
     | (rw [if_neg (by omega), if_pos (by omega)]; done)
     | (rw [if_neg (by omega), if_neg (by omega), if_pos (by omega)]; done)
     | (rw [if_neg (by omega), if_neg (by omega), if_neg (by omega)]; done))
noncomputable def kocV (p : Int) (c : List Int) : Int := if codeB p (pointB p c) = 0 then kdV p c else 0
theorem impl_KindOfConic_con (p : Int) (c : List Int) (hc6 : c.length = 6) : ConQ Try.prog [] 13 [.int p, .arr c] [] (.tuple [.int (kocV p c), .int (codeB p (pointB p c))]) := by
  refine conW tab_ok [(0, .int p), (1, .arr c)] 0 [] [] Try.func13 rfl rfl rfl rfl rfl rfl rfl rfl rfl ?_
  refine cR ?_
  refine oBox rfl rfl rfl rfl rfl rfl ?_
  iterate 2 refine oA rfl rfl ?_
  refine oN ?_
  refine CW_seq ?_
  refine cR ?_
  refine oM rfl rfl ?_
  refine oQ (Q_ldw rfl rfl rfl rfl hc6) rfl rfl ?_
  refine oBsl1 hc6 rfl rfl rfl rfl rfl rfl rfl rfl rfl rfl ?_
  refine oQ (Q_call (conicsCode_one p true c hc6) [(0, 1)] rfl rfl (Fits.mk' (vHc rfl vHn) rfl rfl (by first | (simp; done) | exact glOk rfl rfl rfl)) rfl rfl) rfl rfl ?_
  refine oA rfl rfl ?_
  refine oN ?_
  refine cR ?_
  refine oM rfl rfl ?_
  refine oQ (Q_bin rfl rfl rfl) rfl rfl ?_
  refine oN ?_
  first | refine cT rfl ?_ | refine cF rfl ?_ | refine CW_cond rfl (fun hc => ?_) (fun hc => ?_)
  all_goals try simp only [s1, s2, s3, s4, s5, s6, s7, s8, s9, s10, s11, s12] at hc
  all_goals first
    | (
     refine CW_skip ?_)
    | (
     refine cR ?_
     refine oM rfl rfl ?_
     iterate 2 refine oA rfl rfl ?_
     refine oN ?_
     refine CW_ret ?_)
  all_goals first
    | with_reducible refine tR ?_
    | with_reducible refine tE ?_
    | (
     with_reducible refine tN ?_
     refine cR ?_
     refine oQ (Q_ldw rfl rfl rfl rfl hc6) rfl rfl ?_
     refine oM rfl rfl ?_
     (have hc0 : codeB p (pointB p c) = 0 := hc)
     (have hcc := codeB_zero.1 hc0)
     refine oQ (Q_call0 (kind_con p c hcc.1 hc6 (sm_point hcc.2)) rfl rfl rfl) rfl rfl ?_
     iterate 2 refine oA rfl rfl ?_
     refine oN ?_
     refine CW_ret ?_)
  all_goals (
   refine exitQ (.inr rfl) 0 (.cons (.tmp rfl rfl) (.cons (.tmp rfl rfl) .nil)) ?_ rfl vHn rfl rfl
   first
     | (have hc0 : ¬ codeB p (pointB p c) = 0 := hc
        show V.tuple [.int 0, .int (codeB p (pointB p c))] = _
        unfold kocV; (rw [if_neg hc0]; done))
     | (have hc0 : codeB p (pointB p c) = 0 := hc
        unfold kocV; rw [if_pos hc0, hc0]; first | done | rfl))
theorem spec_KindOfConic_con (p : Int) (c : List Int) (hc6 : c.length = 6) : ConQ Try.prog [] 11 [.int p, .arr c] [] (.tuple [.int (kocV p c), .int (codeB p (pointB p c))]) := by
  refine conW tab_ok [(0, .int p), (1, .arr c)] 0 [] [] Try.func11 rfl rfl rfl rfl rfl rfl rfl rfl rfl ?_
  refine cR ?_
  refine oBox rfl rfl rfl rfl rfl rfl ?_
  iterate 2 refine oA rfl rfl ?_
  refine oN ?_
  refine CW_seq ?_
  refine cR ?_
  refine oM rfl rfl ?_
  refine oQ (Q_ldw rfl rfl rfl rfl hc6) rfl rfl ?_
  refine oQ (Q_call0 (l03Code_nil p c hc6) rfl rfl rfl) rfl rfl ?_
  refine oA rfl rfl ?_
  refine oN ?_
  refine cR ?_
  refine oM rfl rfl ?_
  refine oQ (Q_bin rfl rfl rfl) rfl rfl ?_
  refine oN ?_
  first | refine cT rfl ?_ | refine cF rfl ?_ | refine CW_cond rfl (fun hc => ?_) (fun hc => ?_)
  all_goals try simp only [s1, s2, s3, s4, s5, s6, s7, s8, s9, s10, s11, s12] at hc
  all_goals first
    | (
     refine CW_skip ?_)
    | (
     refine cR ?_
     refine oM rfl rfl ?_
     iterate 2 refine oA rfl rfl ?_
     refine oN ?_
     refine CW_ret ?_)
  all_goals first
    | with_reducible refine tR ?_
    | with_reducible refine tE ?_
    | (
     with_reducible refine tN ?_
     refine cR ?_
     refine oM rfl rfl ?_
     refine oQ (Q_ldw rfl rfl rfl rfl hc6) rfl rfl ?_
     (have hc0 : codeB p (pointB p c) = 0 := hc)
     (have hcc := codeB_zero.1 hc0)
     refine oQ (Q_call0 (l03Kind_con p c hcc.1 hc6 hcc.2) rfl rfl rfl) rfl rfl ?_
     iterate 2 refine oA rfl rfl ?_
     refine oN ?_
     refine CW_ret ?_)
  all_goals (
   refine exitQ (.inr rfl) 0 (.cons (.tmp rfl rfl) (.cons (.tmp rfl rfl) .nil)) ?_ rfl vHn rfl rfl
   first
     | (have hc0 : ¬ codeB p (pointB p c) = 0 := hc
        show V.tuple [.int 0, .int (codeB p (pointB p c))] = _
        unfold kocV; (rw [if_neg hc0]; done))
     | (have hc0 : codeB p (pointB p c) = 0 := hc
        unfold kocV; rw [if_pos hc0, hc0]; first | done | rfl))
end Go.Proofs.Ytoiolpgmilobnaa
namespace Go.Proofs.Ytoiolpgmilobnaa
attribute [local irreducible] CW OW QW QOp Con thenP inBlockP AW QX RW
set_option maxRecDepth 10000
set_option linter.unusedSimpArgs false
set_option linter.unusedVariables false
theorem law_FnExactKindOfConic (p : Int) (c : List Int) (qlc : c.length = 6) : ConQ Try.prog [] 3 [.int p, .arr c] [] (.bool true) := by
  have hsp := spec_KindOfConic_con p c qlc
  have him := impl_KindOfConic_con p c qlc
  generalize kocV p c = vv at *
  generalize codeB p (pointB p c) = cc at *
  refine conW tab_ok [(0, .int p), (1, .arr c)] 0 [] [] Try.func3 rfl rfl rfl rfl rfl rfl rfl rfl rfl ?_
  refine cR ?_
  refine oBox rfl rfl rfl rfl rfl rfl ?_
  refine oA rfl rfl ?_
  refine oN ?_
  refine cR ?_
  refine oM rfl rfl ?_
  first | refine oQ (Lw rfl rfl rfl rfl) rfl rfl ?_ | refine oQ (La rfl rfl rfl rfl rfl) rfl rfl ?_
  refine oQ (Q_call0 (toConic_con _ qlc) rfl rfl rfl) rfl rfl ?_
  refine oQ (Q_call0 (hsp) rfl rfl rfl) rfl rfl ?_
  refine oM rfl rfl ?_
  iterate 2 refine oQ (Q_extract rfl rfl) rfl rfl ?_
  iterate 2 refine oA rfl rfl ?_
  refine oN ?_
  refine cR ?_
  refine oM rfl rfl ?_
  first | refine oQ (Lw rfl rfl rfl rfl) rfl rfl ?_ | refine oQ (La rfl rfl rfl rfl rfl) rfl rfl ?_
  refine oQ (Q_call0 (toConic_con _ qlc) rfl rfl rfl) rfl rfl ?_
  refine oQ (Q_call0 (him) rfl rfl rfl) rfl rfl ?_
  refine oM rfl rfl ?_
  iterate 2 refine oQ (Q_extract rfl rfl) rfl rfl ?_
  iterate 2 refine oA rfl rfl ?_
  refine oN ?_
  refine CW_seq ?_
  refine cR ?_
  iterate 2 refine oM rfl rfl ?_
  refine oQ (Q_bin rfl rfl rfl) rfl rfl ?_
  refine oM rfl rfl ?_
  all_goals first | refine oT rfl rfl ?_ | refine o1 rfl rfl rfl ?_ | refine o0 rfl rfl rfl ?_ | refine ogP1 rfl rfl rfl (fun hg => ?_) (fun hg => ?_) | refine ogP0 rfl rfl rfl (fun hg => ?_) (fun hg => ?_)
  all_goals try simp only [s1, s2, s3, s4, s5, s6, s7, s8, s9, s10, s11, s12] at hg
  all_goals first | (refine oM rfl rfl ?_) | skip
  all_goals first | refine oT rfl rfl ?_ | refine o1 rfl rfl rfl ?_ | refine o0 rfl rfl rfl ?_ | refine ogP1 rfl rfl rfl (fun hg => ?_) (fun hg => ?_) | refine ogP0 rfl rfl rfl (fun hg => ?_) (fun hg => ?_)
  all_goals try simp only [s1, s2, s3, s4, s5, s6, s7, s8, s9, s10, s11, s12] at hg
  all_goals first | (refine oM rfl rfl ?_) | skip
  all_goals first | refine oT rfl rfl ?_ | refine o1 rfl rfl rfl ?_ | refine o0 rfl rfl rfl ?_ | refine ogP1 rfl rfl rfl (fun hg => ?_) (fun hg => ?_) | refine ogP0 rfl rfl rfl (fun hg => ?_) (fun hg => ?_)
  all_goals try simp only [s1, s2, s3, s4, s5, s6, s7, s8, s9, s10, s11, s12] at hg
  all_goals first | (refine oQ (Q_bin rfl rfl rfl) rfl rfl ?_) | skip
  all_goals first | refine oQ (Q_pick_t rfl (by with_reducible rfl) rfl rfl) rfl rfl ?_ | refine oQ (Q_pick_f rfl (by with_reducible rfl) rfl rfl) rfl rfl ?_
  all_goals refine oN ?_
  all_goals (
   first | refine cT rfl ?_ | refine cF rfl ?_ | refine CW_cond rfl (fun hc => ?_) (fun hc => ?_)
   all_goals try simp only [s1, s2, s3, s4, s5, s6, s7, s8, s9, s10, s11, s12] at hc
   all_goals try (exfalso; first | omega | (simp at hc; done); done)
   all_goals first
     | (
      refine CW_skip ?_)
     | (
      refine cR ?_
      refine oA rfl rfl ?_
      refine oN ?_
      refine CW_ret ?_))
  all_goals first
    | with_reducible refine tR ?_
    | with_reducible refine tE ?_
    | (
     with_reducible refine tN ?_
     refine cR ?_
     refine oA rfl rfl ?_
     refine oN ?_
     refine CW_ret ?_)
  all_goals (
   first | ((refine exitQ (.inr rfl) 0 (.cons (.tmp rfl rfl) .nil) ?_ rfl vHn rfl rfl); rfl) | (exfalso; simp at hg; done) | (exfalso; simp_all; done))
end Go.Proofs.Ytoiolpgmilobnaa
