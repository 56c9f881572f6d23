/- Conversions of arrays, and whether an array is normal. Printed by gen_a2.py. -/
import Derived.Test.YtendffbpmpobnaaDoorA1
namespace Go.Proofs.YtendffbpmpobnaaDoor
attribute [local irreducible] CW OW QW QOp Con thenP inBlockP
set_option maxRecDepth 10000
set_option linter.unusedSimpArgs false
set_option linter.unusedVariables false
theorem fill_set {L : List Int} {i N : Nat} (h : i < N) (hL : L.length = N) : (L.take i ++ List.replicate (N - i) 0).set i (L.getD i 0) = L.take (i + 1) ++ List.replicate (N - (i + 1)) 0 := by
  have e : N - i = (N - (i + 1)) + 1 := by omega
  rw [e, List.replicate_succ, take_snoc (by omega), List.set_append_right _ _ (by simp; omega)]
  have : i - (L.take i).length = 0 := by simp; omega
  rw [this]
  simp
theorem toQuadric_con (l : List Int) (hl : l.length = 10) : ConQ Tryd.prog [] 13 [.arr l] [] (.arr l) := by
  refine conW tab_ok [(0, .arr l)] 0 [] [] Tryd.func13 rfl rfl rfl rfl rfl rfl rfl rfl rfl ?_
  refine cR ?_
  refine oBox rfl rfl rfl rfl rfl rfl ?_
  refine oAlloc rfl rfl rfl rfl rfl rfl rfl ?_
  refine oN ?_
  refine cR ?_
  refine oAlloc rfl rfl rfl rfl rfl rfl rfl ?_
  refine oN ?_
  refine CW_seq ?_
  refine cR ?_
  refine oA rfl rfl ?_
  refine oN ?_
  refine CW_block ?_
  refine CW_loop (ι := Nat) (fun i => i ≤ 10) (fun i => ⟨[(1, .ptr 0 0), (2, .ptr 1 0), (3, .ptr 2 0), (4, .int i)], [(0, .ints 22 l), (1, .ints 26 [0, 0, 0, 0, 0, 0, 0, 0, 0, 0]), (2, .ints 26 (l.take i ++ List.replicate (10 - i) 0))], 3⟩) (fun i => 10 - i) 0 ?_ ?_ ?_
  · first | trivial | omega | (simp; done) | (simp; omega)
  · refine View.mk' [] rfl rfl rfl ?_ ?_
    repeat' first | exact vFn | refine vFc rfl ?_ | exact vHn | refine vHc rfl ?_ | refine vFc (congrArg (fun z => some (V.int z)) ?_) ?_ | refine vHc (congrArg (fun z => some (Blk.ints _ z)) ?_) ?_ | refine vFc (congrArg (fun z => some (V.bool z)) ?_) ?_ | refine vFs rfl rfl ?_ ?_
  intro i hi
  refine CW_seq ?_
  refine cR ?_
  refine oM rfl rfl ?_
  refine oQ (Q_bin rfl rfl rfl) rfl rfl ?_
  refine oN ?_
  first | refine cT rfl ?_ | refine cF rfl ?_ | refine CW_cond rfl (fun hc => ?_) (fun hc => ?_)
  all_goals try simp only [s1, s2, s3, s4, s5, s6, s7, s8, s9, s10, s11, s12] at hc
  all_goals first
    | (
     refine CW_skip ?_)
    | (
     refine CW_exit ?_)
  all_goals first
    | with_reducible refine tR ?_
    | with_reducible refine tE ?_
    | (
     with_reducible refine tN ?_
     refine CW_seq ?_
     refine CW_block ?_
     refine CW_region ?_
     iterate 2 refine oM rfl rfl ?_
     first | refine oQ (Ia0 rfl rfl rfl rfl rfl rfl) rfl rfl ?_ | refine oQ (Ia1 rfl rfl rfl rfl rfl rfl) rfl rfl ?_
     refine oQ (Ld rfl rfl rfl rfl) rfl rfl ?_
     first | refine oQ (Ia0 rfl rfl rfl rfl rfl rfl) rfl rfl ?_ | refine oQ (Ia1 rfl rfl rfl rfl rfl rfl) rfl rfl ?_
     refine oS rfl rfl rfl rfl rfl ?_
     refine OW_nil ?_
     all_goals first | with_reducible refine bN ?_ | with_reducible refine bE ?_ | with_reducible refine bR ?_ | refine bX rfl ?_
     all_goals with_reducible refine tN ?_
     all_goals (
      refine CW_region ?_
      refine oM rfl rfl ?_
      first | refine oQ (Q_binu rfl rfl rfl (by omega)) rfl rfl ?_ | refine oQ (Q_bin rfl rfl rfl) rfl rfl ?_
      refine oA rfl rfl ?_
      refine OW_nil ?_))
  all_goals first
    | with_reducible refine tR ?_
    | with_reducible refine tE ?_
    | (
     with_reducible refine tN ?_
     refine ⟨i + 1, ?_, ?_, View.mk' [] rfl rfl rfl ?_ ?_⟩
     · omega
     · omega
     all_goals (repeat' first | exact vFn | refine vFc rfl ?_ | exact vHn | refine vHc rfl ?_ | refine vFc (congrArg (fun z => some (V.int z)) ?_) ?_ | refine vHc (congrArg (fun z => some (Blk.ints _ z)) ?_) ?_ | refine vFc (congrArg (fun z => some (V.bool z)) ?_) ?_ | refine vFs rfl rfl ?_ ?_)
     all_goals exact fill_set (by omega) hl)
  all_goals first | with_reducible refine bN ?_ | with_reducible refine bE ?_ | with_reducible refine bR ?_ | refine bX rfl ?_
  all_goals with_reducible refine tN ?_
  all_goals (
   refine cR ?_
   first | refine oQ (Lw rfl rfl rfl rfl) rfl rfl ?_ | refine oQ (La rfl rfl rfl rfl rfl) rfl rfl ?_
   first | refine oSw rfl rfl rfl rfl ?_ | refine oSa rfl rfl rfl rfl ?_
   refine oN ?_
   refine CW_ret ?_)
  all_goals (
   have e : i = 10 := by omega
   subst e
   refine exitQ (.inr rfl) 0 (.cons (.arr rfl rfl rfl rfl (by simp [hl])) .nil) ?_ rfl vHn rfl rfl
   simp [resV, ← hl])
theorem toSpot_con (l : List Int) (hl : l.length = 4) : ConQ Tryd.prog [] 14 [.arr l] [] (.arr l) := by
  refine conW tab_ok [(0, .arr l)] 0 [] [] Tryd.func14 rfl rfl rfl rfl rfl rfl rfl rfl rfl ?_
  refine cR ?_
  refine oBox rfl rfl rfl rfl rfl rfl ?_
  refine oAlloc rfl rfl rfl rfl rfl rfl rfl ?_
  refine oN ?_
  refine cR ?_
  refine oAlloc rfl rfl rfl rfl rfl rfl rfl ?_
  refine oN ?_
  refine CW_seq ?_
  refine cR ?_
  refine oA rfl rfl ?_
  refine oN ?_
  refine CW_block ?_
  refine CW_loop (ι := Nat) (fun i => i ≤ 4) (fun i => ⟨[(1, .ptr 0 0), (2, .ptr 1 0), (3, .ptr 2 0), (4, .int i)], [(0, .ints 23 l), (1, .ints 28 [0, 0, 0, 0]), (2, .ints 28 (l.take i ++ List.replicate (4 - i) 0))], 3⟩) (fun i => 4 - i) 0 ?_ ?_ ?_
  · first | trivial | omega | (simp; done) | (simp; omega)
  · refine View.mk' [] rfl rfl rfl ?_ ?_
    repeat' first | exact vFn | refine vFc rfl ?_ | exact vHn | refine vHc rfl ?_ | refine vFc (congrArg (fun z => some (V.int z)) ?_) ?_ | refine vHc (congrArg (fun z => some (Blk.ints _ z)) ?_) ?_ | refine vFc (congrArg (fun z => some (V.bool z)) ?_) ?_ | refine vFs rfl rfl ?_ ?_
  intro i hi
  refine CW_seq ?_
  refine cR ?_
  refine oM rfl rfl ?_
  refine oQ (Q_bin rfl rfl rfl) rfl rfl ?_
  refine oN ?_
  first | refine cT rfl ?_ | refine cF rfl ?_ | refine CW_cond rfl (fun hc => ?_) (fun hc => ?_)
  all_goals try simp only [s1, s2, s3, s4, s5, s6, s7, s8, s9, s10, s11, s12] at hc
  all_goals first
    | (
     refine CW_skip ?_)
    | (
     refine CW_exit ?_)
  all_goals first
    | with_reducible refine tR ?_
    | with_reducible refine tE ?_
    | (
     with_reducible refine tN ?_
     refine CW_seq ?_
     refine CW_block ?_
     refine CW_region ?_
     iterate 2 refine oM rfl rfl ?_
     first | refine oQ (Ia0 rfl rfl rfl rfl rfl rfl) rfl rfl ?_ | refine oQ (Ia1 rfl rfl rfl rfl rfl rfl) rfl rfl ?_
     refine oQ (Ld rfl rfl rfl rfl) rfl rfl ?_
     first | refine oQ (Ia0 rfl rfl rfl rfl rfl rfl) rfl rfl ?_ | refine oQ (Ia1 rfl rfl rfl rfl rfl rfl) rfl rfl ?_
     refine oS rfl rfl rfl rfl rfl ?_
     refine OW_nil ?_
     all_goals first | with_reducible refine bN ?_ | with_reducible refine bE ?_ | with_reducible refine bR ?_ | refine bX rfl ?_
     all_goals with_reducible refine tN ?_
     all_goals (
      refine CW_region ?_
      refine oM rfl rfl ?_
      first | refine oQ (Q_binu rfl rfl rfl (by omega)) rfl rfl ?_ | refine oQ (Q_bin rfl rfl rfl) rfl rfl ?_
      refine oA rfl rfl ?_
      refine OW_nil ?_))
  all_goals first
    | with_reducible refine tR ?_
    | with_reducible refine tE ?_
    | (
     with_reducible refine tN ?_
     refine ⟨i + 1, ?_, ?_, View.mk' [] rfl rfl rfl ?_ ?_⟩
     · omega
     · omega
     all_goals (repeat' first | exact vFn | refine vFc rfl ?_ | exact vHn | refine vHc rfl ?_ | refine vFc (congrArg (fun z => some (V.int z)) ?_) ?_ | refine vHc (congrArg (fun z => some (Blk.ints _ z)) ?_) ?_ | refine vFc (congrArg (fun z => some (V.bool z)) ?_) ?_ | refine vFs rfl rfl ?_ ?_)
     all_goals exact fill_set (by omega) hl)
  all_goals first | with_reducible refine bN ?_ | with_reducible refine bE ?_ | with_reducible refine bR ?_ | refine bX rfl ?_
  all_goals with_reducible refine tN ?_
  all_goals (
   refine cR ?_
   first | refine oQ (Lw rfl rfl rfl rfl) rfl rfl ?_ | refine oQ (La rfl rfl rfl rfl rfl) rfl rfl ?_
   first | refine oSw rfl rfl rfl rfl ?_ | refine oSa rfl rfl rfl rfl ?_
   refine oN ?_
   refine CW_ret ?_)
  all_goals (
   have e : i = 4 := by omega
   subst e
   refine exitQ (.inr rfl) 0 (.cons (.arr rfl rfl rfl rfl (by simp [hl])) .nil) ?_ rfl vHn rfl rfl
   simp [resV, ← hl])
theorem spec_l08Quadric_con (p : Int) (l : List Int) (hl : l.length = 10) : ConQ Tryd.prog [] 88 [.int p, .arr l] [] (.bool (primeB p && normB p l)) := by
  refine conW tab_ok [(0, .int p), (1, .arr l)] 0 [] [] Tryd.func88 rfl rfl rfl rfl rfl rfl rfl rfl rfl ?_
  refine cR ?_
  refine oBox rfl rfl rfl rfl rfl rfl ?_
  refine oA rfl rfl ?_
  refine oN ?_
  refine cR ?_
  refine oM rfl rfl ?_
  refine oQ (Q_call0 (l01Prime_con _) rfl rfl rfl) rfl rfl ?_
  refine oM rfl rfl ?_
  all_goals first | refine oT rfl rfl ?_ | refine o1 rfl rfl rfl ?_ | refine o0 rfl rfl rfl ?_ | refine ogP1 rfl rfl rfl (fun hg => ?_) (fun hg => ?_) | refine ogP0 rfl rfl rfl (fun hg => ?_) (fun hg => ?_)
  all_goals try simp only [s1, s2, s3, s4, s5, s6, s7, s8, s9, s10, s11, s12] at hg
  all_goals first | (refine oM rfl rfl ?_) | skip
  all_goals first | refine oT rfl rfl ?_ | refine o1 rfl rfl rfl ?_ | refine o0 rfl rfl rfl ?_ | refine ogP1 rfl rfl rfl (fun hg => ?_) (fun hg => ?_) | refine ogP0 rfl rfl rfl (fun hg => ?_) (fun hg => ?_)
  all_goals try simp only [s1, s2, s3, s4, s5, s6, s7, s8, s9, s10, s11, s12] at hg
  all_goals first | (refine oQ (Q_slaF rfl rfl rfl rfl) rfl rfl ?_) | skip
  all_goals first | refine oT rfl rfl ?_ | refine o1 rfl rfl rfl ?_ | refine o0 rfl rfl rfl ?_ | refine ogP1 rfl rfl rfl (fun hg => ?_) (fun hg => ?_) | refine ogP0 rfl rfl rfl (fun hg => ?_) (fun hg => ?_)
  all_goals try simp only [s1, s2, s3, s4, s5, s6, s7, s8, s9, s10, s11, s12] at hg
  all_goals first | ((have hb := prime_bd hg); refine oQ (Q_call (l01Normal_con p 26 l 10 10 (by omega) (by omega) (by omega)) [] rfl rfl (Fits.mk' (vHc rfl vHn) rfl rfl (by simp)) rfl rfl) rfl rfl ?_) | skip
  all_goals first | refine oQ (Q_pick_t rfl (by with_reducible rfl) rfl rfl) rfl rfl ?_ | refine oQ (Q_pick_f rfl (by with_reducible rfl) rfl rfl) rfl rfl ?_
  all_goals first | (refine oA rfl rfl ?_)
  all_goals refine oN ?_
  all_goals (
   refine CW_ret ?_)
  all_goals (
   refine exitQ (.inr rfl) 0 (.cons (.tmp rfl rfl) .nil) ?_ rfl vHn rfl rfl
   simp only [resV, ren, V.bool.injEq, ← hl, List.take_length]
   simp [hg])
theorem spec_l08Is_con (p : Int) (l : List Int) (hl : l.length = 4) : ConQ Tryd.prog [] 89 [.int p, .arr l] [] (.bool (primeB p && normB p l)) := by
  refine conW tab_ok [(0, .int p), (1, .arr l)] 0 [] [] Tryd.func89 rfl rfl rfl rfl rfl rfl rfl rfl rfl ?_
  refine cR ?_
  refine oBox rfl rfl rfl rfl rfl rfl ?_
  refine oA rfl rfl ?_
  refine oN ?_
  refine cR ?_
  refine oM rfl rfl ?_
  refine oQ (Q_call0 (l01Prime_con _) rfl rfl rfl) rfl rfl ?_
  refine oM rfl rfl ?_
  all_goals first | refine oT rfl rfl ?_ | refine o1 rfl rfl rfl ?_ | refine o0 rfl rfl rfl ?_ | refine ogP1 rfl rfl rfl (fun hg => ?_) (fun hg => ?_) | refine ogP0 rfl rfl rfl (fun hg => ?_) (fun hg => ?_)
  all_goals try simp only [s1, s2, s3, s4, s5, s6, s7, s8, s9, s10, s11, s12] at hg
  all_goals first | (refine oM rfl rfl ?_) | skip
  all_goals first | refine oT rfl rfl ?_ | refine o1 rfl rfl rfl ?_ | refine o0 rfl rfl rfl ?_ | refine ogP1 rfl rfl rfl (fun hg => ?_) (fun hg => ?_) | refine ogP0 rfl rfl rfl (fun hg => ?_) (fun hg => ?_)
  all_goals try simp only [s1, s2, s3, s4, s5, s6, s7, s8, s9, s10, s11, s12] at hg
  all_goals first | (refine oQ (Q_slaF rfl rfl rfl rfl) rfl rfl ?_) | skip
  all_goals first | refine oT rfl rfl ?_ | refine o1 rfl rfl rfl ?_ | refine o0 rfl rfl rfl ?_ | refine ogP1 rfl rfl rfl (fun hg => ?_) (fun hg => ?_) | refine ogP0 rfl rfl rfl (fun hg => ?_) (fun hg => ?_)
  all_goals try simp only [s1, s2, s3, s4, s5, s6, s7, s8, s9, s10, s11, s12] at hg
  all_goals first | ((have hb := prime_bd hg); refine oQ (Q_call (l01Normal_con p 28 l 4 4 (by omega) (by omega) (by omega)) [] rfl rfl (Fits.mk' (vHc rfl vHn) rfl rfl (by simp)) rfl rfl) rfl rfl ?_) | skip
  all_goals first | refine oQ (Q_pick_t rfl (by with_reducible rfl) rfl rfl) rfl rfl ?_ | refine oQ (Q_pick_f rfl (by with_reducible rfl) rfl rfl) rfl rfl ?_
  all_goals first | (refine oA rfl rfl ?_)
  all_goals refine oN ?_
  all_goals (
   refine CW_ret ?_)
  all_goals (
   refine exitQ (.inr rfl) 0 (.cons (.tmp rfl rfl) .nil) ?_ rfl vHn rfl rfl
   simp only [resV, ren, V.bool.injEq, ← hl, List.take_length]
   simp [hg])
theorem impl_IsQuadric_con (p : Int) (l : List Int) (hl : l.length = 10) : ConQ Tryd.prog [] 93 [.int p, .arr l] [] (.bool (primeB p && normB p l)) := by
  refine conW tab_ok [(0, .int p), (1, .arr l)] 0 [] [] Tryd.func93 rfl rfl rfl rfl rfl rfl rfl rfl rfl ?_
  refine cR ?_
  refine oBox rfl rfl rfl rfl rfl rfl ?_
  refine oA rfl rfl ?_
  refine oN ?_
  refine cR ?_
  refine oM rfl rfl ?_
  refine oQ (Q_call0 (isPrime_con _) rfl rfl rfl) rfl rfl ?_
  refine oM rfl rfl ?_
  all_goals first | refine oT rfl rfl ?_ | refine o1 rfl rfl rfl ?_ | refine o0 rfl rfl rfl ?_ | refine ogP1 rfl rfl rfl (fun hg => ?_) (fun hg => ?_) | refine ogP0 rfl rfl rfl (fun hg => ?_) (fun hg => ?_)
  all_goals try simp only [s1, s2, s3, s4, s5, s6, s7, s8, s9, s10, s11, s12] at hg
  all_goals first | (refine oM rfl rfl ?_) | skip
  all_goals first | refine oT rfl rfl ?_ | refine o1 rfl rfl rfl ?_ | refine o0 rfl rfl rfl ?_ | refine ogP1 rfl rfl rfl (fun hg => ?_) (fun hg => ?_) | refine ogP0 rfl rfl rfl (fun hg => ?_) (fun hg => ?_)
  all_goals try simp only [s1, s2, s3, s4, s5, s6, s7, s8, s9, s10, s11, s12] at hg
  all_goals first | (refine oQ (Q_slaF rfl rfl rfl rfl) rfl rfl ?_) | skip
  all_goals first | refine oT rfl rfl ?_ | refine o1 rfl rfl rfl ?_ | refine o0 rfl rfl rfl ?_ | refine ogP1 rfl rfl rfl (fun hg => ?_) (fun hg => ?_) | refine ogP0 rfl rfl rfl (fun hg => ?_) (fun hg => ?_)
  all_goals try simp only [s1, s2, s3, s4, s5, s6, s7, s8, s9, s10, s11, s12] at hg
  all_goals first | ((have hb := prime_bd hg); refine oQ (Q_call (isNormal_con p 26 l 10 10 (by omega) (by omega) (by omega)) [] rfl rfl (Fits.mk' (vHc rfl vHn) rfl rfl (by simp)) rfl rfl) rfl rfl ?_) | skip
  all_goals first | refine oQ (Q_pick_t rfl (by with_reducible rfl) rfl rfl) rfl rfl ?_ | refine oQ (Q_pick_f rfl (by with_reducible rfl) rfl rfl) rfl rfl ?_
  all_goals first | (refine oA rfl rfl ?_)
  all_goals refine oN ?_
  all_goals (
   refine CW_ret ?_)
  all_goals (
   refine exitQ (.inr rfl) 0 (.cons (.tmp rfl rfl) .nil) ?_ rfl vHn rfl rfl
   simp only [resV, ren, V.bool.injEq, ← hl, List.take_length]
   simp [hg])
theorem impl_IsSpot_con (p : Int) (l : List Int) (hl : l.length = 4) : ConQ Tryd.prog [] 112 [.int p, .arr l] [] (.bool (primeB p && normB p l)) := by
  refine conW tab_ok [(0, .int p), (1, .arr l)] 0 [] [] Tryd.func112 rfl rfl rfl rfl rfl rfl rfl rfl rfl ?_
  refine cR ?_
  refine oBox rfl rfl rfl rfl rfl rfl ?_
  refine oA rfl rfl ?_
  refine oN ?_
  refine cR ?_
  refine oM rfl rfl ?_
  refine oQ (Q_call0 (isPrime_con _) rfl rfl rfl) rfl rfl ?_
  refine oM rfl rfl ?_
  all_goals first | refine oT rfl rfl ?_ | refine o1 rfl rfl rfl ?_ | refine o0 rfl rfl rfl ?_ | refine ogP1 rfl rfl rfl (fun hg => ?_) (fun hg => ?_) | refine ogP0 rfl rfl rfl (fun hg => ?_) (fun hg => ?_)
  all_goals try simp only [s1, s2, s3, s4, s5, s6, s7, s8, s9, s10, s11, s12] at hg
  all_goals first | (refine oM rfl rfl ?_) | skip
  all_goals first | refine oT rfl rfl ?_ | refine o1 rfl rfl rfl ?_ | refine o0 rfl rfl rfl ?_ | refine ogP1 rfl rfl rfl (fun hg => ?_) (fun hg => ?_) | refine ogP0 rfl rfl rfl (fun hg => ?_) (fun hg => ?_)
  all_goals try simp only [s1, s2, s3, s4, s5, s6, s7, s8, s9, s10, s11, s12] at hg
  all_goals first | (refine oQ (Q_slaF rfl rfl rfl rfl) rfl rfl ?_) | skip
  all_goals first | refine oT rfl rfl ?_ | refine o1 rfl rfl rfl ?_ | refine o0 rfl rfl rfl ?_ | refine ogP1 rfl rfl rfl (fun hg => ?_) (fun hg => ?_) | refine ogP0 rfl rfl rfl (fun hg => ?_) (fun hg => ?_)
  all_goals try simp only [s1, s2, s3, s4, s5, s6, s7, s8, s9, s10, s11, s12] at hg
  all_goals first | ((have hb := prime_bd hg); refine oQ (Q_call (isNormal_con p 28 l 4 4 (by omega) (by omega) (by omega)) [] rfl rfl (Fits.mk' (vHc rfl vHn) rfl rfl (by simp)) rfl rfl) rfl rfl ?_) | skip
  all_goals first | refine oQ (Q_pick_t rfl (by with_reducible rfl) rfl rfl) rfl rfl ?_ | refine oQ (Q_pick_f rfl (by with_reducible rfl) rfl rfl) rfl rfl ?_
  all_goals first | (refine oA rfl rfl ?_)
  all_goals refine oN ?_
  all_goals (
   refine CW_ret ?_)
  all_goals (
   refine exitQ (.inr rfl) 0 (.cons (.tmp rfl rfl) .nil) ?_ rfl vHn rfl rfl
   simp only [resV, ren, V.bool.injEq, ← hl, List.take_length]
   simp [hg])
end Go.Proofs.YtendffbpmpobnaaDoor
