/- The laws of functions of a prime and a list of numbers. Printed by gen_l2.py. -/
import Derived.Test.YtgfncdejnjikpaaB1
import Derived.Test.YtgfncdejnjikpaaB2
import Derived.Test.YtgfncdejnjikpaaB3
import Derived.Test.YtgfncdejnjikpaaB7
namespace Go.Proofs.Ytgfncdejnjikpaa
attribute [local irreducible] CW OW QW QOp Con thenP inBlockP
set_option maxRecDepth 10000
set_option linter.unusedSimpArgs false
set_option linter.unusedVariables false
theorem copyR_f {t : TypeId} {H0 : Hp} {l : List Int} {n : Nat} {m : List Int} {r : V} {H' : Hp} (h : copyR t H0 l n m false r H') : r = .slice 1 0 n (n + roomN n) ∧ H' = H0 ++ [(1, .ints t (l ++ m))] := by
  unfold copyR at h
  rwa [if_neg (by simp)] at h
theorem copyR_t {t : TypeId} {H0 : Hp} {l : List Int} {n : Nat} {m : List Int} {r : V} {H' : Hp} (h : copyR t H0 l n m true r H') : n = 0 ∧ r = .nilsl ∧ H' = H0 ∨ r = .slice 1 0 n (n + roomN n) ∧ H' = H0 ++ [(1, .ints t (l ++ m))] := by
  unfold copyR at h
  split at h
  · rename_i h'; exact .inl ⟨by simpa using h', h.1, h.2⟩
  · exact .inr h
theorem eqCubic_con (a b : List Int) (ha : a.length = 10) (hb : b.length = 10) : ConQ Try.prog [] 18 [.arr a, .arr b] [] (.bool (decide (a = b))) := by
  refine conW tab_ok [(0, .arr a), (1, .arr b)] 0 [] [] Try.func18 rfl rfl rfl rfl rfl rfl rfl rfl rfl ?_
  refine cR ?_
  iterate 2 refine oBox rfl rfl rfl rfl rfl rfl ?_
  refine oA rfl rfl ?_
  refine oN ?_
  refine CW_seq ?_
  refine cR ?_
  refine oA rfl rfl ?_
  refine oN ?_
  refine CW_block ?_
  refine CW_loop (ι := Nat) (fun i => i ≤ 10 ∧ a.take i = b.take i) (fun i => ⟨[(2, .ptr 0 0), (3, .ptr 1 0), (5, .int i)], [(0, .ints 24 a), (1, .ints 24 b)], 2⟩) (fun i => 10 - i) 0 ?_ ?_ ?_
  · exact ⟨Nat.zero_le _, rfl⟩
  · refine View.mk' [] rfl rfl rfl ?_ ?_
    repeat' first | exact vFn | refine vFc rfl ?_ | exact vHn | refine vHc rfl ?_ | refine vFc (congrArg (fun z => some (V.int z)) ?_) ?_ | refine vHc (congrArg (fun z => some (Blk.ints _ z)) ?_) ?_ | refine vFc (congrArg (fun z => some (V.bool z)) ?_) ?_ | refine vFs rfl rfl ?_ ?_
  rintro i ⟨hi, hi2⟩
  refine CW_seq ?_
  refine cR ?_
  refine oM rfl rfl ?_
  refine oQ (Q_bin rfl rfl rfl) rfl rfl ?_
  refine oN ?_
  first | refine cT rfl ?_ | refine cF rfl ?_ | refine CW_cond rfl (fun hc => ?_) (fun hc => ?_)
  all_goals try simp only [s1, s2, s3, s4, s5, s6, s7, s8, s9, s10, s11, s12] at hc
  all_goals first
    | (
     refine CW_skip ?_)
    | (
     refine CW_exit ?_)
  all_goals first
    | with_reducible refine tR ?_
    | with_reducible refine tE ?_
    | (
     with_reducible refine tN ?_
     refine CW_seq ?_
     refine CW_block ?_
     refine CW_seq ?_
     refine CW_draw lateOk (by decide +kernel) ?_
     refine qM rfl rfl ?_
     first | refine qQ (Ia0 rfl rfl rfl rfl rfl rfl) rfl rfl ?_ | refine qQ (Ia1 rfl rfl rfl rfl rfl rfl) rfl rfl ?_
     refine qQ (Ld rfl rfl rfl rfl) rfl rfl ?_
     refine qM rfl rfl ?_
     first | refine qQ (Ia0 rfl rfl rfl rfl rfl rfl) rfl rfl ?_ | refine qQ (Ia1 rfl rfl rfl rfl rfl rfl) rfl rfl ?_
     refine qQ (Ld rfl rfl rfl rfl) rfl rfl ?_
     refine qQ (Q_bin rfl rfl rfl) rfl rfl ?_
     refine QW_nil ?_
     all_goals with_reducible refine tN ?_
     all_goals (
      first | refine cT rfl ?_ | refine cF rfl ?_ | refine CW_cond rfl (fun hc => ?_) (fun hc => ?_)
      all_goals try simp only [s1, s2, s3, s4, s5, s6, s7, s8, s9, s10, s11, s12] at hc
      all_goals first
        | (
         refine CW_skip ?_)
        | (
         refine cR ?_
         refine oA rfl rfl ?_
         refine oN ?_
         refine CW_ret ?_))
     all_goals first | with_reducible refine bN ?_ | with_reducible refine bE ?_ | with_reducible refine bR ?_ | refine bX rfl ?_
     all_goals first
       | with_reducible refine tR ?_
       | with_reducible refine tE ?_
       | (
        with_reducible refine tN ?_
        refine CW_region ?_
        refine oM rfl rfl ?_
        first | refine oQ (Q_binu rfl rfl rfl (by omega)) rfl rfl ?_ | refine oQ (Q_bin rfl rfl rfl) rfl rfl ?_
        refine oA rfl rfl ?_
        refine OW_nil ?_))
  all_goals first
    | with_reducible refine tR ?_
    | with_reducible refine tE ?_
    | (
     with_reducible refine tN ?_
     refine ⟨i + 1, ?_, ?_, View.mk' [] rfl rfl rfl ?_ ?_⟩
     · exact ⟨by omega, take_eq_snoc (by omega) (by omega) hi2 hc⟩
     · omega
     all_goals (repeat' first | exact vFn | refine vFc rfl ?_ | exact vHn | refine vHc rfl ?_ | refine vFc (congrArg (fun z => some (V.int z)) ?_) ?_ | refine vHc (congrArg (fun z => some (Blk.ints _ z)) ?_) ?_ | refine vFc (congrArg (fun z => some (V.bool z)) ?_) ?_ | refine vFs rfl rfl ?_ ?_))
  all_goals first | with_reducible refine bN ?_ | with_reducible refine bE ?_ | with_reducible refine bR ?_ | refine bX rfl ?_
  all_goals first
    | with_reducible refine tR ?_
    | with_reducible refine tE ?_
    | (
     with_reducible refine tN ?_
     refine cR ?_
     refine oA rfl rfl ?_
     refine oN ?_
     refine CW_ret ?_)
  all_goals (
   refine exitQ (.inr rfl) 0 (.cons (.tmp rfl rfl) .nil) ?_ rfl vHn rfl rfl
   simp only [resV, V.bool.injEq]
   first
     | (have e : i = 10 := (by omega); subst e; rw [List.take_of_length_le (by omega), List.take_of_length_le (by omega)] at hi2; simp [hi2]; done)
     | (have h9 := take_ne (A := a) (B := b) (n := 10) (by omega) (by omega) (by omega) hc; symm; exact decide_eq_false (fun h => h9 (by rw [h]))))
theorem law_FnExactCubicByFive_row (p : Int) (l : List Int) (o n k : Nat) (hl : l.length = n)  : ConQ Try.prog [] 3 [.int p, .slice 0 o n k] [(0, .ro o l)] (.bool true) := by
  have hroom := roomN_le n
  have tvl := cubV_length p l
  have tvn := cubV_length p []
  have et : (l ++ (List.replicate (roomN n) mark)).take n = l := by rw [← hl]; exact List.take_left
  refine conW tab_ok [(0, .int p), (1, .slice 0 o n k)] 1 [0] [] Try.func3 rfl rfl rfl rfl rfl rfl rfl rfl rfl ?_
  refine cR ?_
  refine oA rfl rfl ?_
  refine oN ?_
  refine CW_seq ?_
  refine cR ?_
  refine oM rfl rfl ?_
  first | refine oQ (Q_len rfl rfl rfl rfl) rfl rfl ?_ | refine oQ (Q_len0 rfl rfl rfl rfl) rfl rfl ?_
  refine oQ (Q_bin rfl rfl rfl) rfl rfl ?_
  refine oN ?_
  first | refine cT rfl ?_ | refine cF rfl ?_ | refine CW_cond rfl (fun hc => ?_) (fun hc => ?_)
  all_goals try simp only [s1, s2, s3, s4, s5, s6, s7, s8, s9, s10, s11, s12] at hc
  all_goals first
    | (
     refine CW_skip ?_)
    | (
     refine cR ?_
     refine oA rfl rfl ?_
     refine oN ?_
     refine CW_ret ?_)
  all_goals first
    | with_reducible refine tR ?_
    | with_reducible refine tE ?_
    | (
     with_reducible refine tN ?_
     refine cR ?_
     iterate 2 refine oM rfl rfl ?_
     (have hn : n ≤ 1000000 := by omega)
     (have hs := spec_CubicByFive_con p 2 (l ++ (List.replicate (roomN n) mark)) n (n + roomN n) (by simp; try omega) (by omega))
     (have hi := impl_CubicByFive_con p 2 (l ++ (List.replicate (roomN n) mark)) n (n + roomN n) (by simp; try omega) (by omega))
     (rw [et] at hs hi)
     refine oCall (toInt64S_row l o n k false hl hn) [] 2 rfl rfl (Fits.mk' (vHc rfl vHn) rfl rfl (by simp)) rfl rfl ?_
     rintro r H1 hR
     obtain ⟨rfl, rfl⟩ := copyR_f hR
     refine ⟨.slice 2 0 n (n + roomN n), [(0, .ro o l), (2, .ints 2 (l ++ (List.replicate (roomN n) mark)))], rfl, rfl, rfl, ?_⟩
     refine oQ (Q_call hs [(0, 2)] rfl rfl (Fits.mk' (vHc rfl vHn) rfl rfl (by simp)) rfl rfl) rfl rfl ?_
     refine oM rfl rfl ?_
     iterate 2 refine oQ (Q_extract rfl rfl) rfl rfl ?_
     refine oAlloc rfl rfl rfl rfl rfl rfl rfl ?_
     first | refine oSw rfl rfl rfl rfl ?_ | refine oSa rfl rfl rfl rfl ?_
     refine oA rfl rfl ?_
     refine oN ?_
     refine cR ?_
     refine oM rfl rfl ?_
     refine oCall (toInt64S_row l o n k false hl hn) [] 2 rfl rfl (Fits.mk' (vHc rfl vHn) rfl rfl (by simp)) rfl rfl ?_
     rintro r H1 hR
     obtain ⟨rfl, rfl⟩ := copyR_f hR
     refine ⟨.slice 5 0 n (n + roomN n), [(0, .ro o l), (5, .ints 2 (l ++ (List.replicate (roomN n) mark)))], rfl, rfl, rfl, ?_⟩
     refine oA rfl rfl ?_
     refine oN ?_
     refine cR ?_
     iterate 2 refine oM rfl rfl ?_
     refine oQ (Q_call hi [(0, 5)] rfl rfl (Fits.mk' (vHc rfl vHn) rfl rfl (by simp)) rfl rfl) rfl rfl ?_
     refine oM rfl rfl ?_
     iterate 2 refine oQ (Q_extract rfl rfl) rfl rfl ?_
     refine oAlloc rfl rfl rfl rfl rfl rfl rfl ?_
     first | refine oSw rfl rfl rfl rfl ?_ | refine oSa rfl rfl rfl rfl ?_
     refine oA rfl rfl ?_
     refine oN ?_
     refine CW_seq ?_
     refine cR ?_
     first | refine oQ (Lw rfl rfl rfl rfl) rfl rfl ?_ | refine oQ (La rfl rfl rfl rfl rfl) rfl rfl ?_
     first | refine oQ (Lw rfl rfl rfl rfl) rfl rfl ?_ | refine oQ (La rfl rfl rfl rfl rfl) rfl rfl ?_
     refine oQ (Q_call0 (eqCubic_con _ _ (cubV_length _ _) (cubV_length _ _)) rfl rfl rfl) rfl rfl ?_
     refine oQ (Q_not rfl) rfl rfl ?_
     refine oM rfl rfl ?_
     all_goals first | refine oT rfl rfl ?_ | refine o1 rfl rfl rfl ?_ | refine o0 rfl rfl rfl ?_ | refine ogP1 rfl rfl rfl (fun hg => ?_) (fun hg => ?_) | refine ogP0 rfl rfl rfl (fun hg => ?_) (fun hg => ?_)
     all_goals try simp only [s1, s2, s3, s4, s5, s6, s7, s8, s9, s10, s11, s12] at hg
     all_goals first | (refine oM rfl rfl ?_) | skip
     all_goals first | refine oT rfl rfl ?_ | refine o1 rfl rfl rfl ?_ | refine o0 rfl rfl rfl ?_ | refine ogP1 rfl rfl rfl (fun hg => ?_) (fun hg => ?_) | refine ogP0 rfl rfl rfl (fun hg => ?_) (fun hg => ?_)
     all_goals try simp only [s1, s2, s3, s4, s5, s6, s7, s8, s9, s10, s11, s12] at hg
     all_goals first | (refine oM rfl rfl ?_) | skip
     all_goals first | refine oT rfl rfl ?_ | refine o1 rfl rfl rfl ?_ | refine o0 rfl rfl rfl ?_ | refine ogP1 rfl rfl rfl (fun hg => ?_) (fun hg => ?_) | refine ogP0 rfl rfl rfl (fun hg => ?_) (fun hg => ?_)
     all_goals try simp only [s1, s2, s3, s4, s5, s6, s7, s8, s9, s10, s11, s12] at hg
     all_goals first | (refine oQ (Q_bin rfl rfl rfl) rfl rfl ?_) | skip
     all_goals first | refine oQ (Q_pick_t rfl (by with_reducible rfl) rfl rfl) rfl rfl ?_ | refine oQ (Q_pick_f rfl (by with_reducible rfl) rfl rfl) rfl rfl ?_
     all_goals refine oN ?_
     all_goals (
      first | refine cT rfl ?_ | refine cF rfl ?_ | refine CW_cond rfl (fun hc => ?_) (fun hc => ?_)
      all_goals try simp only [s1, s2, s3, s4, s5, s6, s7, s8, s9, s10, s11, s12] at hc
      all_goals first
        | (
         refine CW_skip ?_)
        | (
         refine cR ?_
         refine oA rfl rfl ?_
         refine oN ?_
         refine CW_ret ?_))
     all_goals first
       | with_reducible refine tR ?_
       | with_reducible refine tE ?_
       | (
        with_reducible refine tN ?_
        refine CW_seq ?_
        refine cR ?_
        iterate 2 refine oM rfl rfl ?_
        refine oCall (toInt64S_row l o n k false hl hn) [] 2 rfl rfl (Fits.mk' (vHc rfl vHn) rfl rfl (by simp)) rfl rfl ?_
        rintro r H1 hR
        obtain ⟨rfl, rfl⟩ := copyR_f hR
        refine ⟨.slice 8 0 n (n + roomN n), [(0, .ro o l), (8, .ints 2 (l ++ (List.replicate (roomN n) mark)))], rfl, rfl, rfl, ?_⟩
        refine oQ (Q_call (intactInt64S_con 2 2 (l ++ (List.replicate (roomN n) mark)) (l ++ (List.replicate (roomN n) mark)) n (by simp [hl]) (by simp [hl]) (by omega)) [(0, 5), (1, 8)] rfl rfl (Fits.mk' (vHc rfl (vHc rfl vHn)) rfl rfl (by simp)) rfl rfl) rfl rfl ?_
        refine oQ (Q_not rfl) rfl rfl ?_
        refine oN ?_
        first | refine cT rfl ?_ | refine cF rfl ?_ | refine CW_cond rfl (fun hc => ?_) (fun hc => ?_)
        all_goals try simp only [s1, s2, s3, s4, s5, s6, s7, s8, s9, s10, s11, s12] at hc
        all_goals first
          | (
           refine CW_skip ?_)
          | (
           refine cR ?_
           refine oA rfl rfl ?_
           refine oN ?_
           refine CW_ret ?_)
        all_goals first
          | with_reducible refine tR ?_
          | with_reducible refine tE ?_
          | (
           with_reducible refine tN ?_
           refine cR ?_
           iterate 2 refine oM rfl rfl ?_
           refine oCall (toInt64S_row l o n k true hl hn) [] 2 rfl rfl (Fits.mk' (vHc rfl vHn) rfl rfl (by simp)) rfl rfl ?_
           rintro r H1 hR
           rcases copyR_t hR with ⟨e0, rfl, rfl⟩ | ⟨rfl, rfl⟩
           all_goals first | refine ⟨.nilsl, [(0, .ro o l)], rfl, rfl, rfl, ?_⟩ | refine ⟨.slice 10 0 n (n + roomN n), [(0, .ro o l), (10, .ints 2 (l ++ (List.replicate (roomN n) mark)))], rfl, rfl, rfl, ?_⟩
           all_goals first | refine oQ (Q_call0 (impl_CubicByFive_nil p) rfl rfl rfl) rfl rfl ?_ | refine oQ (Q_call hi [(0, 10)] rfl rfl (Fits.mk' (vHc rfl vHn) rfl rfl (by simp)) rfl rfl) rfl rfl ?_
           all_goals first | (refine oM rfl rfl ?_)
           all_goals first | (refine oQ (Q_extract rfl rfl) rfl rfl ?_)
           all_goals first | (refine oQ (Q_extract rfl rfl) rfl rfl ?_)
           all_goals first | (refine oAlloc rfl rfl rfl rfl rfl rfl rfl ?_)
           all_goals first | refine oSw rfl rfl rfl rfl ?_ | refine oSa rfl rfl rfl rfl ?_
           all_goals first | (refine oA rfl rfl ?_)
           all_goals refine oN ?_
           all_goals (
            refine CW_seq ?_
            refine cR ?_
            first | refine oQ (Lw rfl rfl rfl rfl) rfl rfl ?_ | refine oQ (La rfl rfl rfl rfl rfl) rfl rfl ?_
            first | refine oQ (Lw rfl rfl rfl rfl) rfl rfl ?_ | refine oQ (La rfl rfl rfl rfl rfl) rfl rfl ?_
            refine oQ (Q_call0 (eqCubic_con _ _ (cubV_length _ _) (cubV_length _ _)) rfl rfl rfl) rfl rfl ?_
            refine oQ (Q_not rfl) rfl rfl ?_
            refine oM rfl rfl ?_
            all_goals first | refine oT rfl rfl ?_ | refine o1 rfl rfl rfl ?_ | refine o0 rfl rfl rfl ?_ | refine ogP1 rfl rfl rfl (fun hg => ?_) (fun hg => ?_) | refine ogP0 rfl rfl rfl (fun hg => ?_) (fun hg => ?_)
            all_goals try simp only [s1, s2, s3, s4, s5, s6, s7, s8, s9, s10, s11, s12] at hg
            all_goals first | (refine oM rfl rfl ?_) | skip
            all_goals first | refine oT rfl rfl ?_ | refine o1 rfl rfl rfl ?_ | refine o0 rfl rfl rfl ?_ | refine ogP1 rfl rfl rfl (fun hg => ?_) (fun hg => ?_) | refine ogP0 rfl rfl rfl (fun hg => ?_) (fun hg => ?_)
            all_goals try simp only [s1, s2, s3, s4, s5, s6, s7, s8, s9, s10, s11, s12] at hg
            all_goals first | (refine oM rfl rfl ?_) | skip
            all_goals first | refine oT rfl rfl ?_ | refine o1 rfl rfl rfl ?_ | refine o0 rfl rfl rfl ?_ | refine ogP1 rfl rfl rfl (fun hg => ?_) (fun hg => ?_) | refine ogP0 rfl rfl rfl (fun hg => ?_) (fun hg => ?_)
            all_goals try simp only [s1, s2, s3, s4, s5, s6, s7, s8, s9, s10, s11, s12] at hg
            all_goals first | (refine oQ (Q_bin rfl rfl rfl) rfl rfl ?_) | skip
            all_goals first | refine oQ (Q_pick_t rfl (by with_reducible rfl) rfl rfl) rfl rfl ?_ | refine oQ (Q_pick_f rfl (by with_reducible rfl) rfl rfl) rfl rfl ?_
            all_goals refine oN ?_
            all_goals (
             first | refine cT rfl ?_ | refine cF rfl ?_ | refine CW_cond rfl (fun hc => ?_) (fun hc => ?_)
             all_goals try simp only [s1, s2, s3, s4, s5, s6, s7, s8, s9, s10, s11, s12] at hc
             all_goals first
               | (
                refine CW_skip ?_)
               | (
                refine cR ?_
                refine oA rfl rfl ?_
                refine oN ?_
                refine CW_ret ?_))
            all_goals first
              | with_reducible refine tR ?_
              | with_reducible refine tE ?_
              | (
               with_reducible refine tN ?_
               refine cR ?_
               refine oA rfl rfl ?_
               refine oN ?_
               refine CW_ret ?_)))))
  all_goals (
   first
     | exact exitQ (.inr rfl) 1 (.cons (.tmp rfl rfl) .nil) rfl rfl (vHc rfl vHn) rfl rfl
     | (exfalso; exact absurd trivial hc)
     | (exfalso; simp_all; done)
     | (exfalso; have e9 : l = [] := List.eq_nil_of_length_eq_zero (by omega); subst e9; simp_all; done))
theorem law_FnExactCubicByFive_nil (p : Int)  : ConQ Try.prog [] 3 [.int p, .nilsl] [] (.bool true) := by
  have hroom := roomN_le 0
  have tvl := cubV_length p ([] : List Int)
  have tvn := cubV_length p []
  have et : (([] : List Int) ++ [mark]).take 0 = ([] : List Int) := rfl
  refine conW tab_ok [(0, .int p), (1, .nilsl)] 1 [] [] Try.func3 rfl rfl rfl rfl rfl rfl rfl rfl rfl ?_
  refine cR ?_
  refine oA rfl rfl ?_
  refine oN ?_
  refine CW_seq ?_
  refine cR ?_
  refine oM rfl rfl ?_
  first | refine oQ (Q_len rfl rfl rfl rfl) rfl rfl ?_ | refine oQ (Q_len0 rfl rfl rfl rfl) rfl rfl ?_
  refine oQ (Q_bin rfl rfl rfl) rfl rfl ?_
  refine oN ?_
  first | refine cT rfl ?_ | refine cF rfl ?_ | refine CW_cond rfl (fun hc => ?_) (fun hc => ?_)
  all_goals try simp only [s1, s2, s3, s4, s5, s6, s7, s8, s9, s10, s11, s12] at hc
  all_goals try (exfalso; first | omega | (simp at hc); done)
  all_goals first
    | (
     refine CW_skip ?_)
    | (
     refine cR ?_
     refine oA rfl rfl ?_
     refine oN ?_
     refine CW_ret ?_)
  all_goals first
    | with_reducible refine tR ?_
    | with_reducible refine tE ?_
    | (
     with_reducible refine tN ?_
     refine cR ?_
     iterate 2 refine oM rfl rfl ?_
     (have hn : 0 ≤ 1000000 := by omega)
     (have hs := spec_CubicByFive_con p 2 (([] : List Int) ++ [mark]) 0 (0 + roomN 0) (by simp; try omega) (by omega))
     (have hi := impl_CubicByFive_con p 2 (([] : List Int) ++ [mark]) 0 (0 + roomN 0) (by simp; try omega) (by omega))
     (rw [et] at hs hi)
     refine oCall (toInt64S_nil false) [] 2 rfl rfl (Fits.mk' vHn rfl rfl (by simp)) rfl rfl ?_
     rintro r H1 hR
     obtain ⟨rfl, rfl⟩ := copyR_f hR
     refine ⟨.slice 2 0 0 (0 + roomN 0), [(2, .ints 2 (([] : List Int) ++ [mark]))], rfl, rfl, rfl, ?_⟩
     refine oQ (Q_call hs [(0, 2)] rfl rfl (Fits.mk' (vHc rfl vHn) rfl rfl (by simp)) rfl rfl) rfl rfl ?_
     refine oM rfl rfl ?_
     iterate 2 refine oQ (Q_extract rfl rfl) rfl rfl ?_
     refine oAlloc rfl rfl rfl rfl rfl rfl rfl ?_
     first | refine oSw rfl rfl rfl rfl ?_ | refine oSa rfl rfl rfl rfl ?_
     refine oA rfl rfl ?_
     refine oN ?_
     refine cR ?_
     refine oM rfl rfl ?_
     refine oCall (toInt64S_nil false) [] 2 rfl rfl (Fits.mk' vHn rfl rfl (by simp)) rfl rfl ?_
     rintro r H1 hR
     obtain ⟨rfl, rfl⟩ := copyR_f hR
     refine ⟨.slice 5 0 0 (0 + roomN 0), [(5, .ints 2 (([] : List Int) ++ [mark]))], rfl, rfl, rfl, ?_⟩
     refine oA rfl rfl ?_
     refine oN ?_
     refine cR ?_
     iterate 2 refine oM rfl rfl ?_
     refine oQ (Q_call hi [(0, 5)] rfl rfl (Fits.mk' (vHc rfl vHn) rfl rfl (by simp)) rfl rfl) rfl rfl ?_
     refine oM rfl rfl ?_
     iterate 2 refine oQ (Q_extract rfl rfl) rfl rfl ?_
     refine oAlloc rfl rfl rfl rfl rfl rfl rfl ?_
     first | refine oSw rfl rfl rfl rfl ?_ | refine oSa rfl rfl rfl rfl ?_
     refine oA rfl rfl ?_
     refine oN ?_
     refine CW_seq ?_
     refine cR ?_
     first | refine oQ (Lw rfl rfl rfl rfl) rfl rfl ?_ | refine oQ (La rfl rfl rfl rfl rfl) rfl rfl ?_
     first | refine oQ (Lw rfl rfl rfl rfl) rfl rfl ?_ | refine oQ (La rfl rfl rfl rfl rfl) rfl rfl ?_
     refine oQ (Q_call0 (eqCubic_con _ _ (cubV_length _ _) (cubV_length _ _)) rfl rfl rfl) rfl rfl ?_
     refine oQ (Q_not rfl) rfl rfl ?_
     refine oM rfl rfl ?_
     all_goals first | refine oT rfl rfl ?_ | refine o1 rfl rfl rfl ?_ | refine o0 rfl rfl rfl ?_ | refine ogP1 rfl rfl rfl (fun hg => ?_) (fun hg => ?_) | refine ogP0 rfl rfl rfl (fun hg => ?_) (fun hg => ?_)
     all_goals try simp only [s1, s2, s3, s4, s5, s6, s7, s8, s9, s10, s11, s12] at hg
     all_goals first | (refine oM rfl rfl ?_) | skip
     all_goals first | refine oT rfl rfl ?_ | refine o1 rfl rfl rfl ?_ | refine o0 rfl rfl rfl ?_ | refine ogP1 rfl rfl rfl (fun hg => ?_) (fun hg => ?_) | refine ogP0 rfl rfl rfl (fun hg => ?_) (fun hg => ?_)
     all_goals try simp only [s1, s2, s3, s4, s5, s6, s7, s8, s9, s10, s11, s12] at hg
     all_goals first | (refine oM rfl rfl ?_) | skip
     all_goals first | refine oT rfl rfl ?_ | refine o1 rfl rfl rfl ?_ | refine o0 rfl rfl rfl ?_ | refine ogP1 rfl rfl rfl (fun hg => ?_) (fun hg => ?_) | refine ogP0 rfl rfl rfl (fun hg => ?_) (fun hg => ?_)
     all_goals try simp only [s1, s2, s3, s4, s5, s6, s7, s8, s9, s10, s11, s12] at hg
     all_goals first | (refine oQ (Q_bin rfl rfl rfl) rfl rfl ?_) | skip
     all_goals first | refine oQ (Q_pick_t rfl (by with_reducible rfl) rfl rfl) rfl rfl ?_ | refine oQ (Q_pick_f rfl (by with_reducible rfl) rfl rfl) rfl rfl ?_
     all_goals refine oN ?_
     all_goals (
      first | refine cT rfl ?_ | refine cF rfl ?_ | refine CW_cond rfl (fun hc => ?_) (fun hc => ?_)
      all_goals try simp only [s1, s2, s3, s4, s5, s6, s7, s8, s9, s10, s11, s12] at hc
      all_goals try (exfalso; first | omega | (simp at hc); done)
      all_goals first
        | (
         refine CW_skip ?_)
        | (
         refine cR ?_
         refine oA rfl rfl ?_
         refine oN ?_
         refine CW_ret ?_))
     all_goals first
       | with_reducible refine tR ?_
       | with_reducible refine tE ?_
       | (
        with_reducible refine tN ?_
        refine CW_seq ?_
        refine cR ?_
        iterate 2 refine oM rfl rfl ?_
        refine oCall (toInt64S_nil false) [] 2 rfl rfl (Fits.mk' vHn rfl rfl (by simp)) rfl rfl ?_
        rintro r H1 hR
        obtain ⟨rfl, rfl⟩ := copyR_f hR
        refine ⟨.slice 8 0 0 (0 + roomN 0), [(8, .ints 2 (([] : List Int) ++ [mark]))], rfl, rfl, rfl, ?_⟩
        refine oQ (Q_call (intactInt64S_con 2 2 (([] : List Int) ++ [mark]) (([] : List Int) ++ [mark]) 0 (by simp [roomN]) (by simp [roomN]) (by omega)) [(0, 5), (1, 8)] rfl rfl (Fits.mk' (vHc rfl (vHc rfl vHn)) rfl rfl (by simp)) rfl rfl) rfl rfl ?_
        refine oQ (Q_not rfl) rfl rfl ?_
        refine oN ?_
        first | refine cT rfl ?_ | refine cF rfl ?_ | refine CW_cond rfl (fun hc => ?_) (fun hc => ?_)
        all_goals try simp only [s1, s2, s3, s4, s5, s6, s7, s8, s9, s10, s11, s12] at hc
        all_goals try (exfalso; first | omega | (simp at hc); done)
        all_goals first
          | (
           refine CW_skip ?_)
          | (
           refine cR ?_
           refine oA rfl rfl ?_
           refine oN ?_
           refine CW_ret ?_)
        all_goals first
          | with_reducible refine tR ?_
          | with_reducible refine tE ?_
          | (
           with_reducible refine tN ?_
           refine cR ?_
           iterate 2 refine oM rfl rfl ?_
           refine oCall (toInt64S_nil true) [] 2 rfl rfl (Fits.mk' vHn rfl rfl (by simp)) rfl rfl ?_
           rintro r H1 hR
           rcases copyR_t hR with ⟨e0, rfl, rfl⟩ | ⟨rfl, rfl⟩
           all_goals first | refine ⟨.nilsl, [], rfl, rfl, rfl, ?_⟩ | refine ⟨.slice 10 0 0 (0 + roomN 0), [(10, .ints 2 (([] : List Int) ++ [mark]))], rfl, rfl, rfl, ?_⟩
           all_goals first | refine oQ (Q_call0 (impl_CubicByFive_nil p) rfl rfl rfl) rfl rfl ?_ | refine oQ (Q_call hi [(0, 10)] rfl rfl (Fits.mk' (vHc rfl vHn) rfl rfl (by simp)) rfl rfl) rfl rfl ?_
           all_goals first | (refine oM rfl rfl ?_)
           all_goals first | (refine oQ (Q_extract rfl rfl) rfl rfl ?_)
           all_goals first | (refine oQ (Q_extract rfl rfl) rfl rfl ?_)
           all_goals first | (refine oAlloc rfl rfl rfl rfl rfl rfl rfl ?_)
           all_goals first | refine oSw rfl rfl rfl rfl ?_ | refine oSa rfl rfl rfl rfl ?_
           all_goals first | (refine oA rfl rfl ?_)
           all_goals refine oN ?_
           all_goals (
            refine CW_seq ?_
            refine cR ?_
            first | refine oQ (Lw rfl rfl rfl rfl) rfl rfl ?_ | refine oQ (La rfl rfl rfl rfl rfl) rfl rfl ?_
            first | refine oQ (Lw rfl rfl rfl rfl) rfl rfl ?_ | refine oQ (La rfl rfl rfl rfl rfl) rfl rfl ?_
            refine oQ (Q_call0 (eqCubic_con _ _ (cubV_length _ _) (cubV_length _ _)) rfl rfl rfl) rfl rfl ?_
            refine oQ (Q_not rfl) rfl rfl ?_
            refine oM rfl rfl ?_
            all_goals first | refine oT rfl rfl ?_ | refine o1 rfl rfl rfl ?_ | refine o0 rfl rfl rfl ?_ | refine ogP1 rfl rfl rfl (fun hg => ?_) (fun hg => ?_) | refine ogP0 rfl rfl rfl (fun hg => ?_) (fun hg => ?_)
            all_goals try simp only [s1, s2, s3, s4, s5, s6, s7, s8, s9, s10, s11, s12] at hg
            all_goals first | (refine oM rfl rfl ?_) | skip
            all_goals first | refine oT rfl rfl ?_ | refine o1 rfl rfl rfl ?_ | refine o0 rfl rfl rfl ?_ | refine ogP1 rfl rfl rfl (fun hg => ?_) (fun hg => ?_) | refine ogP0 rfl rfl rfl (fun hg => ?_) (fun hg => ?_)
            all_goals try simp only [s1, s2, s3, s4, s5, s6, s7, s8, s9, s10, s11, s12] at hg
            all_goals first | (refine oM rfl rfl ?_) | skip
            all_goals first | refine oT rfl rfl ?_ | refine o1 rfl rfl rfl ?_ | refine o0 rfl rfl rfl ?_ | refine ogP1 rfl rfl rfl (fun hg => ?_) (fun hg => ?_) | refine ogP0 rfl rfl rfl (fun hg => ?_) (fun hg => ?_)
            all_goals try simp only [s1, s2, s3, s4, s5, s6, s7, s8, s9, s10, s11, s12] at hg
            all_goals first | (refine oQ (Q_bin rfl rfl rfl) rfl rfl ?_) | skip
            all_goals first | refine oQ (Q_pick_t rfl (by with_reducible rfl) rfl rfl) rfl rfl ?_ | refine oQ (Q_pick_f rfl (by with_reducible rfl) rfl rfl) rfl rfl ?_
            all_goals refine oN ?_
            all_goals (
             first | refine cT rfl ?_ | refine cF rfl ?_ | refine CW_cond rfl (fun hc => ?_) (fun hc => ?_)
             all_goals try simp only [s1, s2, s3, s4, s5, s6, s7, s8, s9, s10, s11, s12] at hc
             all_goals try (exfalso; first | omega | (simp at hc); done)
             all_goals first
               | (
                refine CW_skip ?_)
               | (
                refine cR ?_
                refine oA rfl rfl ?_
                refine oN ?_
                refine CW_ret ?_))
            all_goals first
              | with_reducible refine tR ?_
              | with_reducible refine tE ?_
              | (
               with_reducible refine tN ?_
               refine cR ?_
               refine oA rfl rfl ?_
               refine oN ?_
               refine CW_ret ?_)))))
  all_goals (
   first
     | exact exitQ (.inr rfl) 1 (.cons (.tmp rfl rfl) .nil) rfl rfl vHn rfl rfl
     | (exfalso; exact absurd trivial hc)
     | (exfalso; simp_all; done))
end Go.Proofs.Ytgfncdejnjikpaa
