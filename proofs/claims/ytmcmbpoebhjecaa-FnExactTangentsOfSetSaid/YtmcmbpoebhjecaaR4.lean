/- Tangents of sets. Printed by gen_r4.py. -/
import Derived.Test.YtmcmbpoebhjecaaR2
namespace Go.Proofs.Ytmcmbpoebhjecaa
attribute [local irreducible] CW OW QW QOp Con thenP inBlockP
set_option maxRecDepth 10000
set_option linter.unusedSimpArgs false
set_option linter.unusedVariables false
def tanB (p : Int) (L : List (List Int)) (l : List Int) : Bool := decide (((cntOn p L l : Nat) : Int) = 1)
def tansV (p : Int) (L : List (List Int)) : List (List Int) := (allPts p).filter (tanB p L)
def tansM (p : Int) (M : List Int) (n : Nat) : List (List Int) := tansV p (chunk M n)

theorem linesThat_Ts (f : Nat) (t0 : TypeId) (L0 : List Int) (t1 : TypeId) (n k1 : Nat) (t2 : TypeId) (L2 : List Int) (g : List Int → Bool) (p : Int) (hp : primeB p = true) (hf : ∀ m, m ∈ allPts p → ConQ Try.prog [] f [.arr m, .ptr 1000 0, .ptr 1001 0] [(1000, .ints t0 L0), (1001, .vals t1 [.slice 1002 0 n k1]), (1002, .ints t2 L2)] (.bool (g m))) : Con Try.prog [] 68 [.int p, .func f [] [.ptr 1000 0, .ptr 1001 0]] [(1000, .ints t0 L0), (1001, .vals t1 [.slice 1002 0 n k1]), (1002, .ints t2 L2)] (ownR 3 55 [(1000, .ints t0 L0), (1001, .vals t1 [.slice 1002 0 n k1]), (1002, .ints t2 L2)] 0 ((allPts p).filter g)) := by
  have hb := prime_bd hp
  have hal := allPts_len hp
  have h3 : ∀ x ∈ allPts p, x.length = 3 := fun x hx => allPts_three hx
  have hf3 := flat3 h3
  refine conW tab_ok [(0, .int p), (1, .func f [] [.ptr 1000 0, .ptr 1001 0])] 0 [1000, 1001, 1002] [1000, 1001, 1002] Try.func68 rfl rfl rfl rfl rfl rfl rfl rfl rfl ?_
  refine cR ?_
  refine oA rfl rfl ?_
  refine oN ?_
  refine cR ?_
  refine oBsl rfl rfl rfl rfl (.inr ⟨rfl, rfl, by decide⟩) rfl rfl rfl rfl rfl rfl ?_
  refine oA rfl rfl ?_
  refine oN ?_
  refine CW_seq ?_
  refine cR ?_
  refine oM rfl rfl ?_
  refine oCall (allPoints_con p hp) [] 1 rfl rfl (Fits.mk' vHn rfl rfl (by simp)) rfl rfl ?_
  rintro r H1 ⟨k0, sp0, hk0, hsp0, rfl, rfl⟩
  refine ⟨.slice 1 0 (allPts p).length k0, [(1, .ints 49 ((allPts p).flatten ++ sp0))], rfl, rfl, rfl, ?_⟩
  first | refine oQ (Q_len rfl rfl rfl rfl) rfl rfl ?_ | refine oQ (Q_len0 rfl rfl rfl rfl) rfl rfl ?_
  refine oM rfl rfl ?_
  refine oN ?_
  refine CW_block ?_
  refine CW_loop (ι := Nat × Nat × List Int) (fun x => x.1 ≤ (allPts p).length ∧ (((allPts p).take x.1).filter g).length ≤ x.2.1 ∧ x.2.1 * 3 ≤ (((allPts p).take x.1).filter g).length * 3 + x.2.2.length) (fun x => ⟨[(1, .func f [] [.ptr 1000 0, .ptr 1001 0]), (5, .slice 0 0 (((allPts p).take x.1).filter g).length x.2.1), (10, .slice 1 0 (allPts p).length k0), (11, .int (allPts p).length), (12, .int x.1)], [(1, .ints 49 ((allPts p).flatten ++ sp0)), (0, .ints 55 ((((allPts p).take x.1).filter g).flatten ++ x.2.2)), (1000, .ints t0 L0), (1001, .vals t1 [.slice 1002 0 n k1]), (1002, .ints t2 L2)], 2⟩) (fun x => (allPts p).length - x.1) (0, 0, []) ?_ ?_ ?_
  · exact ⟨Nat.zero_le _, Nat.le_refl _, Nat.le_refl _⟩
  · refine View.mk' [] rfl rfl rfl ?_ ?_
    repeat' first | exact vFn | refine vFc rfl ?_ | exact vHn | refine vHc rfl ?_ | refine vFc (congrArg (fun z => some (V.int z)) ?_) ?_ | refine vHc (congrArg (fun z => some (Blk.ints _ z)) ?_) ?_ | refine vFc (congrArg (fun z => some (V.bool z)) ?_) ?_ | refine vFs rfl rfl ?_ ?_
  rintro ⟨i, k, sp⟩ ⟨hi, hk, hsp⟩
  dsimp only at hi hk hsp ⊢
  have hfn := filter_len (g := g) i hi
  have hlen := flat3 (filter_three (g := g) h3 i)
  have h3i := fun h : i < (allPts p).length => h3 _ (getD_mem h)
  have h3c := h3i
  refine cR ?_
  refine oQ (Q_bin rfl rfl rfl) rfl rfl ?_
  refine oN ?_
  refine CW_seq ?_
  first | refine cT rfl ?_ | refine cF rfl ?_ | refine CW_cond rfl (fun hc => ?_) (fun hc => ?_)
  all_goals try simp only [s1, s2, s3, s4, s5, s6, s7, s8, s9, s10, s11, s12] at hc
  all_goals first
    | (
     refine CW_skip ?_)
    | (
     refine CW_exit ?_)
  all_goals first
    | with_reducible refine tR ?_
    | with_reducible refine tE ?_
    | (
     with_reducible refine tN ?_
     refine CW_seq ?_
     refine CW_block ?_
     refine cR ?_
     (have h3i := h3i (by omega)); refine oQ (Q_ixs0z 3 rfl rfl rfl rfl rfl rfl (by omega)) rfl rfl ?_
     refine oQ (Q_lda (n := 3) rfl rfl rfl rfl rfl (by rw [List.length_append, hf3]; omega)) rfl rfl ?_; rw [flat_get h3 (show i < (allPts p).length by omega)]
     refine oAlloc rfl rfl rfl rfl rfl rfl rfl ?_
     first | refine oSw rfl rfl rfl rfl ?_ | refine oSa rfl rfl rfl rfl ?_
     refine oN ?_
     refine cR ?_
     refine oM rfl rfl ?_
     refine oQ (Q_ldw rfl rfl rfl rfl h3i) rfl rfl ?_
     refine oQ (Q_callf (hf _ (getD_mem (by omega))) [] rfl rfl rfl (Fits.mk' (vHc rfl (vHc rfl (vHc rfl vHn))) rfl rfl (by simp)) rfl rfl) rfl rfl ?_
     refine oN ?_
     first | refine cT rfl ?_ | refine cF rfl ?_ | refine CW_cond rfl (fun hc => ?_) (fun hc => ?_)
     all_goals try simp only [s1, s2, s3, s4, s5, s6, s7, s8, s9, s10, s11, s12] at hc
     all_goals first
       | (
        refine CW_skip ?_)
       | (
        refine CW_region ?_
        refine oM rfl rfl ?_
        refine oQ (Q_ldw rfl rfl rfl rfl h3i) rfl rfl ?_
        refine oBsl1 h3i rfl rfl rfl rfl rfl rfl rfl rfl rfl rfl ?_
        refine oApp (sz := 3) (by_ := 24) (xl := (allPts p).getD i []) rfl rfl rfl rfl rfl rfl ⟨by decide, rfl, .inr rfl⟩ rfl rfl rfl rfl rfl rfl hlen (by rw [h3i]) (by omega) (by omega) (by omega) (by omega) rfl rfl (fun k2 sp2 h1 h2 => ?_)
        refine oA rfl rfl ?_
        refine OW_nil ?_)
     all_goals first | with_reducible refine bN ?_ | with_reducible refine bE ?_ | with_reducible refine bR ?_ | refine bX rfl ?_
     all_goals with_reducible refine tN ?_
     all_goals (
      refine CW_region ?_
      first | refine oQ (Q_binu rfl rfl rfl (by omega)) rfl rfl ?_ | refine oQ (Q_bin rfl rfl rfl) rfl rfl ?_
      refine oM rfl rfl ?_
      refine OW_nil ?_))
  all_goals first
    | with_reducible refine tR ?_
    | with_reducible refine tE ?_
    | (
     with_reducible refine tN ?_
     first
       | (
        refine ⟨(i + 1, k2, sp2), ?_, ?_, View.mk' [(0, 4)] rfl rfl rfl ?_ ?_⟩
        · dsimp only
          first
            | (rw [filter_snoc (by omega) hc, List.length_append, List.length_singleton]; exact ⟨by omega, h1, h2⟩)
            | (rw [filter_skip (by omega) hc]; exact ⟨by omega, hk, hsp⟩)
        · omega
        all_goals (repeat' first | exact vFn | refine vFc rfl ?_ | exact vHn | refine vHc rfl ?_ | refine vFc (congrArg (fun z => some (V.int z)) ?_) ?_ | refine vHc (congrArg (fun z => some (Blk.ints _ z)) ?_) ?_ | refine vFc (congrArg (fun z => some (V.bool z)) ?_) ?_ | refine vFs rfl rfl ?_ ?_)
        all_goals dsimp only
        all_goals first
          | (rw [filter_snoc (by omega) hc]; simp; done)
          | (rw [filter_skip (by omega) hc]; done))
       | (
        refine ⟨(i + 1, k, sp), ?_, ?_, View.mk' [] rfl rfl rfl ?_ ?_⟩
        · dsimp only
          first
            | (rw [filter_snoc (by omega) hc, List.length_append, List.length_singleton]; exact ⟨by omega, h1, h2⟩)
            | (rw [filter_skip (by omega) hc]; exact ⟨by omega, hk, hsp⟩)
        · omega
        all_goals (repeat' first | exact vFn | refine vFc rfl ?_ | exact vHn | refine vHc rfl ?_ | refine vFc (congrArg (fun z => some (V.int z)) ?_) ?_ | refine vHc (congrArg (fun z => some (Blk.ints _ z)) ?_) ?_ | refine vFc (congrArg (fun z => some (V.bool z)) ?_) ?_ | refine vFs rfl rfl ?_ ?_)
        all_goals dsimp only
        all_goals first
          | (rw [filter_snoc (by omega) hc]; simp; done)
          | (rw [filter_skip (by omega) hc]; done)))
  all_goals first | with_reducible refine bN ?_ | with_reducible refine bE ?_ | with_reducible refine bR ?_ | refine bX rfl ?_
  all_goals with_reducible refine tN ?_
  all_goals (
   refine cR ?_
   refine oM rfl rfl ?_
   refine oA rfl rfl ?_
   refine oN ?_
   refine CW_ret ?_)
  all_goals (
   have e : i = (allPts p).length := by omega
   subst e
   rw [List.take_length] at hk hsp
   exact exitH (r0 := .slice 0 0 ((allPts p).filter g).length k) (H0 := [(1000, .ints t0 L0), (1001, .vals t1 [.slice 1002 0 n k1]), (1002, .ints t2 L2), (0, .ints 55 (((allPts p).filter g).flatten ++ sp))]) (.inr rfl) [] 1 (.cons (.tmp rfl rfl) .nil) (by simp only [List.take_length]; rfl) rfl rfl (vHc rfl (vHc rfl (vHc rfl (vHc (by simp only [List.take_length]; rfl) vHn)))) rfl rfl ⟨k, sp, hk, hsp, rfl, rfl⟩)
theorem linesThat_Tn (f : Nat) (t0 : TypeId) (L0 : List Int) (t1 : TypeId) (g : List Int → Bool) (p : Int) (hp : primeB p = true) (hf : ∀ m, m ∈ allPts p → ConQ Try.prog [] f [.arr m, .ptr 1000 0, .ptr 1001 0] [(1000, .ints t0 L0), (1001, .vals t1 [.nilsl])] (.bool (g m))) : Con Try.prog [] 68 [.int p, .func f [] [.ptr 1000 0, .ptr 1001 0]] [(1000, .ints t0 L0), (1001, .vals t1 [.nilsl])] (ownR 3 55 [(1000, .ints t0 L0), (1001, .vals t1 [.nilsl])] 0 ((allPts p).filter g)) := by
  have hb := prime_bd hp
  have hal := allPts_len hp
  have h3 : ∀ x ∈ allPts p, x.length = 3 := fun x hx => allPts_three hx
  have hf3 := flat3 h3
  refine conW tab_ok [(0, .int p), (1, .func f [] [.ptr 1000 0, .ptr 1001 0])] 0 [1000, 1001] [1000, 1001] Try.func68 rfl rfl rfl rfl rfl rfl rfl rfl rfl ?_
  refine cR ?_
  refine oA rfl rfl ?_
  refine oN ?_
  refine cR ?_
  refine oBsl rfl rfl rfl rfl (.inr ⟨rfl, rfl, by decide⟩) rfl rfl rfl rfl rfl rfl ?_
  refine oA rfl rfl ?_
  refine oN ?_
  refine CW_seq ?_
  refine cR ?_
  refine oM rfl rfl ?_
  refine oCall (allPoints_con p hp) [] 1 rfl rfl (Fits.mk' vHn rfl rfl (by simp)) rfl rfl ?_
  rintro r H1 ⟨k0, sp0, hk0, hsp0, rfl, rfl⟩
  refine ⟨.slice 1 0 (allPts p).length k0, [(1, .ints 49 ((allPts p).flatten ++ sp0))], rfl, rfl, rfl, ?_⟩
  first | refine oQ (Q_len rfl rfl rfl rfl) rfl rfl ?_ | refine oQ (Q_len0 rfl rfl rfl rfl) rfl rfl ?_
  refine oM rfl rfl ?_
  refine oN ?_
  refine CW_block ?_
  refine CW_loop (ι := Nat × Nat × List Int) (fun x => x.1 ≤ (allPts p).length ∧ (((allPts p).take x.1).filter g).length ≤ x.2.1 ∧ x.2.1 * 3 ≤ (((allPts p).take x.1).filter g).length * 3 + x.2.2.length) (fun x => ⟨[(1, .func f [] [.ptr 1000 0, .ptr 1001 0]), (5, .slice 0 0 (((allPts p).take x.1).filter g).length x.2.1), (10, .slice 1 0 (allPts p).length k0), (11, .int (allPts p).length), (12, .int x.1)], [(1, .ints 49 ((allPts p).flatten ++ sp0)), (0, .ints 55 ((((allPts p).take x.1).filter g).flatten ++ x.2.2)), (1000, .ints t0 L0), (1001, .vals t1 [.nilsl])], 2⟩) (fun x => (allPts p).length - x.1) (0, 0, []) ?_ ?_ ?_
  · exact ⟨Nat.zero_le _, Nat.le_refl _, Nat.le_refl _⟩
  · refine View.mk' [] rfl rfl rfl ?_ ?_
    repeat' first | exact vFn | refine vFc rfl ?_ | exact vHn | refine vHc rfl ?_ | refine vFc (congrArg (fun z => some (V.int z)) ?_) ?_ | refine vHc (congrArg (fun z => some (Blk.ints _ z)) ?_) ?_ | refine vFc (congrArg (fun z => some (V.bool z)) ?_) ?_ | refine vFs rfl rfl ?_ ?_
  rintro ⟨i, k, sp⟩ ⟨hi, hk, hsp⟩
  dsimp only at hi hk hsp ⊢
  have hfn := filter_len (g := g) i hi
  have hlen := flat3 (filter_three (g := g) h3 i)
  have h3i := fun h : i < (allPts p).length => h3 _ (getD_mem h)
  have h3c := h3i
  refine cR ?_
  refine oQ (Q_bin rfl rfl rfl) rfl rfl ?_
  refine oN ?_
  refine CW_seq ?_
  first | refine cT rfl ?_ | refine cF rfl ?_ | refine CW_cond rfl (fun hc => ?_) (fun hc => ?_)
  all_goals try simp only [s1, s2, s3, s4, s5, s6, s7, s8, s9, s10, s11, s12] at hc
  all_goals first
    | (
     refine CW_skip ?_)
    | (
     refine CW_exit ?_)
  all_goals first
    | with_reducible refine tR ?_
    | with_reducible refine tE ?_
    | (
     with_reducible refine tN ?_
     refine CW_seq ?_
     refine CW_block ?_
     refine cR ?_
     (have h3i := h3i (by omega)); refine oQ (Q_ixs0z 3 rfl rfl rfl rfl rfl rfl (by omega)) rfl rfl ?_
     refine oQ (Q_lda (n := 3) rfl rfl rfl rfl rfl (by rw [List.length_append, hf3]; omega)) rfl rfl ?_; rw [flat_get h3 (show i < (allPts p).length by omega)]
     refine oAlloc rfl rfl rfl rfl rfl rfl rfl ?_
     first | refine oSw rfl rfl rfl rfl ?_ | refine oSa rfl rfl rfl rfl ?_
     refine oN ?_
     refine cR ?_
     refine oM rfl rfl ?_
     refine oQ (Q_ldw rfl rfl rfl rfl h3i) rfl rfl ?_
     refine oQ (Q_callf (hf _ (getD_mem (by omega))) [] rfl rfl rfl (Fits.mk' (vHc rfl (vHc rfl vHn)) rfl rfl (by simp)) rfl rfl) rfl rfl ?_
     refine oN ?_
     first | refine cT rfl ?_ | refine cF rfl ?_ | refine CW_cond rfl (fun hc => ?_) (fun hc => ?_)
     all_goals try simp only [s1, s2, s3, s4, s5, s6, s7, s8, s9, s10, s11, s12] at hc
     all_goals first
       | (
        refine CW_skip ?_)
       | (
        refine CW_region ?_
        refine oM rfl rfl ?_
        refine oQ (Q_ldw rfl rfl rfl rfl h3i) rfl rfl ?_
        refine oBsl1 h3i rfl rfl rfl rfl rfl rfl rfl rfl rfl rfl ?_
        refine oApp (sz := 3) (by_ := 24) (xl := (allPts p).getD i []) rfl rfl rfl rfl rfl rfl ⟨by decide, rfl, .inr rfl⟩ rfl rfl rfl rfl rfl rfl hlen (by rw [h3i]) (by omega) (by omega) (by omega) (by omega) rfl rfl (fun k2 sp2 h1 h2 => ?_)
        refine oA rfl rfl ?_
        refine OW_nil ?_)
     all_goals first | with_reducible refine bN ?_ | with_reducible refine bE ?_ | with_reducible refine bR ?_ | refine bX rfl ?_
     all_goals with_reducible refine tN ?_
     all_goals (
      refine CW_region ?_
      first | refine oQ (Q_binu rfl rfl rfl (by omega)) rfl rfl ?_ | refine oQ (Q_bin rfl rfl rfl) rfl rfl ?_
      refine oM rfl rfl ?_
      refine OW_nil ?_))
  all_goals first
    | with_reducible refine tR ?_
    | with_reducible refine tE ?_
    | (
     with_reducible refine tN ?_
     first
       | (
        refine ⟨(i + 1, k2, sp2), ?_, ?_, View.mk' [(0, 4)] rfl rfl rfl ?_ ?_⟩
        · dsimp only
          first
            | (rw [filter_snoc (by omega) hc, List.length_append, List.length_singleton]; exact ⟨by omega, h1, h2⟩)
            | (rw [filter_skip (by omega) hc]; exact ⟨by omega, hk, hsp⟩)
        · omega
        all_goals (repeat' first | exact vFn | refine vFc rfl ?_ | exact vHn | refine vHc rfl ?_ | refine vFc (congrArg (fun z => some (V.int z)) ?_) ?_ | refine vHc (congrArg (fun z => some (Blk.ints _ z)) ?_) ?_ | refine vFc (congrArg (fun z => some (V.bool z)) ?_) ?_ | refine vFs rfl rfl ?_ ?_)
        all_goals dsimp only
        all_goals first
          | (rw [filter_snoc (by omega) hc]; simp; done)
          | (rw [filter_skip (by omega) hc]; done))
       | (
        refine ⟨(i + 1, k, sp), ?_, ?_, View.mk' [] rfl rfl rfl ?_ ?_⟩
        · dsimp only
          first
            | (rw [filter_snoc (by omega) hc, List.length_append, List.length_singleton]; exact ⟨by omega, h1, h2⟩)
            | (rw [filter_skip (by omega) hc]; exact ⟨by omega, hk, hsp⟩)
        · omega
        all_goals (repeat' first | exact vFn | refine vFc rfl ?_ | exact vHn | refine vHc rfl ?_ | refine vFc (congrArg (fun z => some (V.int z)) ?_) ?_ | refine vHc (congrArg (fun z => some (Blk.ints _ z)) ?_) ?_ | refine vFc (congrArg (fun z => some (V.bool z)) ?_) ?_ | refine vFs rfl rfl ?_ ?_)
        all_goals dsimp only
        all_goals first
          | (rw [filter_snoc (by omega) hc]; simp; done)
          | (rw [filter_skip (by omega) hc]; done)))
  all_goals first | with_reducible refine bN ?_ | with_reducible refine bE ?_ | with_reducible refine bR ?_ | refine bX rfl ?_
  all_goals with_reducible refine tN ?_
  all_goals (
   refine cR ?_
   refine oM rfl rfl ?_
   refine oA rfl rfl ?_
   refine oN ?_
   refine CW_ret ?_)
  all_goals (
   have e : i = (allPts p).length := by omega
   subst e
   rw [List.take_length] at hk hsp
   exact exitH (r0 := .slice 0 0 ((allPts p).filter g).length k) (H0 := [(1000, .ints t0 L0), (1001, .vals t1 [.nilsl]), (0, .ints 55 (((allPts p).filter g).flatten ++ sp))]) (.inr rfl) [] 1 (.cons (.tmp rfl rfl) .nil) (by simp only [List.take_length]; rfl) rfl rfl (vHc rfl (vHc rfl (vHc (by simp only [List.take_length]; rfl) vHn))) rfl rfl ⟨k, sp, hk, hsp, rfl, rfl⟩)
theorem tangents1_con (p : Int) (L : List (List Int)) (sp : List Int) (k : Nat) (h3 : ∀ x ∈ L, x.length = 3) (hS : setC p L = 0) (m : List Int) (hm : m ∈ allPts p) : ConQ Try.prog [] 69 [.arr m, .ptr 1000 0, .ptr 1001 0] [(1000, .ints 2 [p]), (1001, .vals 24 [.slice 1002 0 L.length k]), (1002, .ints 49 (L.flatten ++ sp))] (.bool (tanB p L m)) := by
  have hm3 := allPts_three hm
  refine conW tab_ok [(0, .arr m), (1, .ptr 1000 0), (2, .ptr 1001 0)] 0 [1000, 1001, 1002] [1000, 1001, 1002] Try.func69 rfl rfl rfl rfl rfl rfl rfl rfl rfl ?_
  refine cR ?_
  refine oBox rfl rfl rfl rfl rfl rfl ?_
  refine oA rfl rfl ?_
  refine oN ?_
  refine cR ?_
  refine oQ (Ld rfl rfl rfl rfl) rfl rfl ?_
  refine oQ (Q_ldv rfl rfl rfl rfl rfl rfl) rfl rfl ?_
  refine oQ (Q_ldw rfl rfl rfl rfl hm3) rfl rfl ?_
  refine oQ (Q_call (onLine_con p L sp k h3 m hS hm) [(0, 1002)] rfl rfl (Fits.mk' (vHc rfl vHn) rfl rfl (by simp)) rfl rfl) rfl rfl ?_
  refine oQ (Q_bin rfl rfl rfl) rfl rfl ?_
  refine oA rfl rfl ?_
  refine oN ?_
  refine CW_ret ?_
  all_goals (
   ((refine exitQ (.inr rfl) 0 (.cons (.tmp rfl rfl) .nil) ?_ rfl (vHc rfl (vHc rfl (vHc rfl vHn))) rfl rfl); rfl))
theorem impl_TangentsOfSet_con (p : Int) (L : List (List Int)) (sp : List Int) (k : Nat) (h3 : ∀ x ∈ L, x.length = 3) (hn9 : L.length ≤ 1000000000) : Con Try.prog [] 33 [.int p, .slice 0 0 L.length k] [(0, .ints 49 (L.flatten ++ sp))] (listO 55 [(0, .ints 49 (L.flatten ++ sp))] 1 (setC p L) (tansV p L).flatten (tansV p L).length) := by
  by_cases hcd : setC p L = 0
  · have hp := (setC_zero hcd).1
    refine conW tab_ok [(0, .int p), (1, .slice 0 0 L.length k)] 1 [0] [0] Try.func33 rfl rfl rfl rfl rfl rfl rfl rfl rfl ?_
    refine cR ?_
    iterate 2 refine oBox rfl rfl rfl rfl rfl rfl ?_
    iterate 2 refine oA rfl rfl ?_
    refine oN ?_
    refine CW_seq ?_
    refine cR ?_
    refine oQ (Ld rfl rfl rfl rfl) rfl rfl ?_
    refine oQ (Q_ldv rfl rfl rfl rfl rfl rfl) rfl rfl ?_
    refine oQ (Q_call (setCode_con p L sp k h3 hn9) [] rfl rfl (Fits.mk' (vHc rfl vHn) rfl rfl (by simp)) rfl rfl) rfl rfl ?_
    refine oA rfl rfl ?_
    refine oN ?_
    refine cR ?_
    refine oM rfl rfl ?_
    refine oQ (Q_bin rfl rfl rfl) rfl rfl ?_
    refine oN ?_
    first | refine cT rfl ?_ | refine cF rfl ?_ | refine CW_cond rfl (fun hc => ?_) (fun hc => ?_)
    all_goals try simp only [s1, s2, s3, s4, s5, s6, s7, s8, s9, s10, s11, s12] at hc
    all_goals try (exfalso; first | exact absurd hcd hc | exact absurd hc hcd; done)
    all_goals first
      | (
       refine CW_skip ?_)
      | (
       refine cR ?_
       refine oM rfl rfl ?_
       iterate 2 refine oA rfl rfl ?_
       refine oN ?_
       refine CW_ret ?_)
    all_goals first
      | with_reducible refine tR ?_
      | with_reducible refine tE ?_
      | (
       with_reducible refine tN ?_
       refine cR ?_
       refine oQ (Ld rfl rfl rfl rfl) rfl rfl ?_
       refine oQ (Q_makeFunc rfl rfl) rfl rfl ?_
       refine oCall (linesThat_Ts 69 2 [p] 24 L.length k 49 (L.flatten ++ sp) (tanB p L) p hp (fun m hm => tangents1_con p L sp k h3 hcd m hm)) [(1000, 1), (1001, 2), (1002, 0)] 1 rfl rfl (Fits.mk' (vHc rfl (vHc rfl (vHc rfl vHn))) rfl rfl (by simp)) rfl rfl ?_
       rintro r H1 ⟨k9, sp9, hk9, hs9, rfl, rfl⟩
       refine ⟨.slice 3 0 (tansV p L).length k9, [(1, .ints 2 [p]), (2, .vals 24 [.slice 0 0 L.length k]), (0, .ints 49 (L.flatten ++ sp)), (3, .ints 55 ((tansV p L).flatten ++ sp9))], rfl, rfl, rfl, ?_⟩
       iterate 2 refine oA rfl rfl ?_
       refine oN ?_
       refine CW_ret ?_)
    all_goals (
     first | (exfalso; first | exact hc hcd | exact hcd hc; done) | exact exitH (r0 := .tuple [.slice 1 0 (tansV p L).length k9, .int 0]) (H0 := [(0, .ints 49 (L.flatten ++ sp)), (1, .ints 55 ((tansV p L).flatten ++ sp9))]) (.inr rfl) [(1, 3)] 2 (.cons (.tmp rfl rfl) (.cons (.tmp rfl rfl) .nil)) rfl rfl rfl (vHc rfl (vHc rfl vHn)) rfl rfl (listO_ok hcd hk9))
  · skip
    refine conW tab_ok [(0, .int p), (1, .slice 0 0 L.length k)] 1 [0] [0] Try.func33 rfl rfl rfl rfl rfl rfl rfl rfl rfl ?_
    refine cR ?_
    iterate 2 refine oBox rfl rfl rfl rfl rfl rfl ?_
    iterate 2 refine oA rfl rfl ?_
    refine oN ?_
    refine CW_seq ?_
    refine cR ?_
    refine oQ (Ld rfl rfl rfl rfl) rfl rfl ?_
    refine oQ (Q_ldv rfl rfl rfl rfl rfl rfl) rfl rfl ?_
    refine oQ (Q_call (setCode_con p L sp k h3 hn9) [] rfl rfl (Fits.mk' (vHc rfl vHn) rfl rfl (by simp)) rfl rfl) rfl rfl ?_
    refine oA rfl rfl ?_
    refine oN ?_
    refine cR ?_
    refine oM rfl rfl ?_
    refine oQ (Q_bin rfl rfl rfl) rfl rfl ?_
    refine oN ?_
    first | refine cT rfl ?_ | refine cF rfl ?_ | refine CW_cond rfl (fun hc => ?_) (fun hc => ?_)
    all_goals try simp only [s1, s2, s3, s4, s5, s6, s7, s8, s9, s10, s11, s12] at hc
    all_goals try (exfalso; first | exact absurd hcd hc | exact absurd hc hcd; done)
    all_goals first
      | (
       refine CW_skip ?_)
      | (
       refine cR ?_
       refine oM rfl rfl ?_
       iterate 2 refine oA rfl rfl ?_
       refine oN ?_
       refine CW_ret ?_)
    all_goals first
      | with_reducible refine tR ?_
      | with_reducible refine tE ?_
      | (
       with_reducible refine tN ?_
       refine cR ?_
       refine oQ (Ld rfl rfl rfl rfl) rfl rfl ?_
       refine oQ (Q_makeFunc rfl rfl) rfl rfl ?_
       (exfalso; first | exact hc hcd | exact hcd hc)
       iterate 2 refine oA rfl rfl ?_
       refine oN ?_
       refine CW_ret ?_)
    all_goals (
     first | (exfalso; first | exact hc hcd | exact hcd hc; done) | exact exitH (r0 := .tuple [.nilsl, .int (setC p L)]) (H0 := [(0, .ints 49 (L.flatten ++ sp))]) (.inr rfl) [] 1 (.cons (.tmp rfl rfl) (.cons (.tmp rfl rfl) .nil)) rfl rfl rfl (vHc rfl vHn) rfl rfl (listO_no hcd))
theorem tangents1_nil (p : Int)  (hp : primeB p = true) (m : List Int) (hm : m ∈ allPts p) : ConQ Try.prog [] 69 [.arr m, .ptr 1000 0, .ptr 1001 0] [(1000, .ints 2 [p]), (1001, .vals 24 [.nilsl])] (.bool (tanB p ([] : List (List Int)) m)) := by
  have hm3 := allPts_three hm
  refine conW tab_ok [(0, .arr m), (1, .ptr 1000 0), (2, .ptr 1001 0)] 0 [1000, 1001] [1000, 1001] Try.func69 rfl rfl rfl rfl rfl rfl rfl rfl rfl ?_
  refine cR ?_
  refine oBox rfl rfl rfl rfl rfl rfl ?_
  refine oA rfl rfl ?_
  refine oN ?_
  refine cR ?_
  refine oQ (Ld rfl rfl rfl rfl) rfl rfl ?_
  refine oQ (Q_ldv rfl rfl rfl rfl rfl rfl) rfl rfl ?_
  refine oQ (Q_ldw rfl rfl rfl rfl hm3) rfl rfl ?_
  refine oQ (Q_call0 (onLine_nil p m hp hm) rfl rfl rfl) rfl rfl ?_
  refine oQ (Q_bin rfl rfl rfl) rfl rfl ?_
  refine oA rfl rfl ?_
  refine oN ?_
  refine CW_ret ?_
  all_goals (
   ((refine exitQ (.inr rfl) 0 (.cons (.tmp rfl rfl) .nil) ?_ rfl (vHc rfl (vHc rfl vHn)) rfl rfl); rfl))
theorem impl_TangentsOfSet_nil (p : Int) : Con Try.prog [] 33 [.int p, .nilsl] [] (listO 55 [] 0 (setC p ([] : List (List Int))) (tansV p ([] : List (List Int))).flatten (tansV p ([] : List (List Int))).length) := by
  by_cases hcd : setC p ([] : List (List Int)) = 0
  · have hp := (setC_zero hcd).1
    refine conW tab_ok [(0, .int p), (1, .nilsl)] 0 [] [] Try.func33 rfl rfl rfl rfl rfl rfl rfl rfl rfl ?_
    refine cR ?_
    iterate 2 refine oBox rfl rfl rfl rfl rfl rfl ?_
    iterate 2 refine oA rfl rfl ?_
    refine oN ?_
    refine CW_seq ?_
    refine cR ?_
    refine oQ (Ld rfl rfl rfl rfl) rfl rfl ?_
    refine oQ (Q_ldv rfl rfl rfl rfl rfl rfl) rfl rfl ?_
    refine oQ (Q_call0 (setCode_nil p ) rfl rfl rfl) rfl rfl ?_
    refine oA rfl rfl ?_
    refine oN ?_
    refine cR ?_
    refine oM rfl rfl ?_
    refine oQ (Q_bin rfl rfl rfl) rfl rfl ?_
    refine oN ?_
    first | refine cT rfl ?_ | refine cF rfl ?_ | refine CW_cond rfl (fun hc => ?_) (fun hc => ?_)
    all_goals try simp only [s1, s2, s3, s4, s5, s6, s7, s8, s9, s10, s11, s12] at hc
    all_goals try (exfalso; first | exact absurd hcd hc | exact absurd hc hcd; done)
    all_goals first
      | (
       refine CW_skip ?_)
      | (
       refine cR ?_
       refine oM rfl rfl ?_
       iterate 2 refine oA rfl rfl ?_
       refine oN ?_
       refine CW_ret ?_)
    all_goals first
      | with_reducible refine tR ?_
      | with_reducible refine tE ?_
      | (
       with_reducible refine tN ?_
       refine cR ?_
       refine oQ (Ld rfl rfl rfl rfl) rfl rfl ?_
       refine oQ (Q_makeFunc rfl rfl) rfl rfl ?_
       refine oCall (linesThat_Tn 69 2 [p] 24  (tanB p ([] : List (List Int))) p hp (fun m hm => tangents1_nil p hp m hm)) [(1000, 0), (1001, 1)] 1 rfl rfl (Fits.mk' (vHc rfl (vHc rfl vHn)) rfl rfl (by simp)) rfl rfl ?_
       rintro r H1 ⟨k9, sp9, hk9, hs9, rfl, rfl⟩
       refine ⟨.slice 2 0 (tansV p ([] : List (List Int))).length k9, [(0, .ints 2 [p]), (1, .vals 24 [.nilsl]), (2, .ints 55 ((tansV p ([] : List (List Int))).flatten ++ sp9))], rfl, rfl, rfl, ?_⟩
       iterate 2 refine oA rfl rfl ?_
       refine oN ?_
       refine CW_ret ?_)
    all_goals (
     first | (exfalso; first | exact hc hcd | exact hcd hc; done) | exact exitH (r0 := .tuple [.slice 0 0 (tansV p ([] : List (List Int))).length k9, .int 0]) (H0 := [(0, .ints 55 ((tansV p ([] : List (List Int))).flatten ++ sp9))]) (.inr rfl) [(0, 2)] 1 (.cons (.tmp rfl rfl) (.cons (.tmp rfl rfl) .nil)) rfl rfl rfl (vHc rfl vHn) rfl rfl (listO_ok hcd hk9))
  · skip
    refine conW tab_ok [(0, .int p), (1, .nilsl)] 0 [] [] Try.func33 rfl rfl rfl rfl rfl rfl rfl rfl rfl ?_
    refine cR ?_
    iterate 2 refine oBox rfl rfl rfl rfl rfl rfl ?_
    iterate 2 refine oA rfl rfl ?_
    refine oN ?_
    refine CW_seq ?_
    refine cR ?_
    refine oQ (Ld rfl rfl rfl rfl) rfl rfl ?_
    refine oQ (Q_ldv rfl rfl rfl rfl rfl rfl) rfl rfl ?_
    refine oQ (Q_call0 (setCode_nil p ) rfl rfl rfl) rfl rfl ?_
    refine oA rfl rfl ?_
    refine oN ?_
    refine cR ?_
    refine oM rfl rfl ?_
    refine oQ (Q_bin rfl rfl rfl) rfl rfl ?_
    refine oN ?_
    first | refine cT rfl ?_ | refine cF rfl ?_ | refine CW_cond rfl (fun hc => ?_) (fun hc => ?_)
    all_goals try simp only [s1, s2, s3, s4, s5, s6, s7, s8, s9, s10, s11, s12] at hc
    all_goals try (exfalso; first | exact absurd hcd hc | exact absurd hc hcd; done)
    all_goals first
      | (
       refine CW_skip ?_)
      | (
       refine cR ?_
       refine oM rfl rfl ?_
       iterate 2 refine oA rfl rfl ?_
       refine oN ?_
       refine CW_ret ?_)
    all_goals first
      | with_reducible refine tR ?_
      | with_reducible refine tE ?_
      | (
       with_reducible refine tN ?_
       refine cR ?_
       refine oQ (Ld rfl rfl rfl rfl) rfl rfl ?_
       refine oQ (Q_makeFunc rfl rfl) rfl rfl ?_
       (exfalso; first | exact hc hcd | exact hcd hc)
       iterate 2 refine oA rfl rfl ?_
       refine oN ?_
       refine CW_ret ?_)
    all_goals (
     first | (exfalso; first | exact hc hcd | exact hcd hc; done) | exact exitH (r0 := .tuple [.nilsl, .int (setC p ([] : List (List Int)))]) (H0 := []) (.inr rfl) [] 0 (.cons (.tmp rfl rfl) (.cons (.tmp rfl rfl) .nil)) rfl rfl rfl vHn rfl rfl (listO_no hcd))
theorem spec_TangentsOfSet_con (p : Int) (L : List (List Int)) (sp : List Int) (k : Nat) (h3 : ∀ x ∈ L, x.length = 3) (hn9 : L.length ≤ 1000000000) : Con Try.prog [] 32 [.int p, .slice 0 0 L.length k] [(0, .ints 49 (L.flatten ++ sp))] (listO 55 [(0, .ints 49 (L.flatten ++ sp))] 1 (setC p L) (tansV p L).flatten (tansV p L).length) := by
  by_cases hcd : setC p L = 0
  · have hp := (setC_zero hcd).1
    have hb := prime_bd hp
    have hal := allPts_len hp
    have h3a : ∀ x ∈ (allPts p), x.length = 3 := fun x hx => allPts_three hx
    have hfa := flat3 h3a
    refine conW tab_ok [(0, .int p), (1, .slice 0 0 L.length k)] 1 [0] [0] Try.func32 rfl rfl rfl rfl rfl rfl rfl rfl rfl ?_
    refine cR ?_
    iterate 2 refine oA rfl rfl ?_
    refine oN ?_
    refine CW_seq ?_
    refine cR ?_
    iterate 2 refine oM rfl rfl ?_
    refine oQ (Q_call (l07Code_con p L sp k h3 hn9) [] rfl rfl (Fits.mk' (vHc rfl vHn) rfl rfl (by simp)) rfl rfl) rfl rfl ?_
    refine oA rfl rfl ?_
    refine oN ?_
    refine cR ?_
    refine oM rfl rfl ?_
    refine oQ (Q_bin rfl rfl rfl) rfl rfl ?_
    refine oN ?_
    first | refine cT rfl ?_ | refine cF rfl ?_ | refine CW_cond rfl (fun hc => ?_) (fun hc => ?_)
    all_goals try simp only [s1, s2, s3, s4, s5, s6, s7, s8, s9, s10, s11, s12] at hc
    all_goals try (exfalso; first | exact absurd hcd hc | exact absurd hc hcd; done)
    all_goals first
      | (
       refine CW_skip ?_)
      | (
       refine cR ?_
       refine oM rfl rfl ?_
       iterate 2 refine oA rfl rfl ?_
       refine oN ?_
       refine CW_ret ?_)
    all_goals first
      | with_reducible refine tR ?_
      | with_reducible refine tE ?_
      | (
       with_reducible refine tN ?_
       refine cR ?_
       refine oM rfl rfl ?_
       refine oCall (l01Points_con p hp) [] 1 rfl rfl (Fits.mk' vHn rfl rfl (by simp)) rfl rfl ?_
       rintro r H1 ⟨k0, sp0, hk0, hsp0, rfl, rfl⟩
       refine ⟨.slice 1 0 (allPts p).length k0, [(1, .ints 49 ((allPts p).flatten ++ sp0))], rfl, rfl, rfl, ?_⟩
       refine oBsl rfl rfl rfl rfl (.inr ⟨rfl, rfl, by decide⟩) rfl rfl rfl rfl rfl rfl ?_
       iterate 2 refine oA rfl rfl ?_
       refine oN ?_
       refine CW_seq ?_
       refine cR ?_
       refine oA rfl rfl ?_
       refine oN ?_
       refine CW_block ?_
       refine CW_loop (ι := Nat × Nat × List Int) (fun x => x.1 ≤ (allPts p).length ∧ (((allPts p).take x.1).filter (tanB p L)).length ≤ x.2.1 ∧ x.2.1 * 3 ≤ (((allPts p).take x.1).filter (tanB p L)).length * 3 + x.2.2.length) (fun x => ⟨[(0, .int p), (1, .slice 0 0 L.length k), (7, .slice 1 0 (allPts p).length k0), (8, .slice 2 0 (((allPts p).take x.1).filter (tanB p L)).length x.2.1), (9, .int x.1)], [(0, .ints 49 (L.flatten ++ sp)), (1, .ints 49 ((allPts p).flatten ++ sp0)), (2, .ints 55 ((((allPts p).take x.1).filter (tanB p L)).flatten ++ x.2.2))], 3⟩) (fun x => (allPts p).length - x.1) (0, 0, []) ?_ ?_ ?_
       · exact ⟨Nat.zero_le _, Nat.le_refl _, Nat.le_refl _⟩
       · refine View.mk' [] rfl rfl rfl ?_ ?_
         repeat' first | exact vFn | refine vFc rfl ?_ | exact vHn | refine vHc rfl ?_ | refine vFc (congrArg (fun z => some (V.int z)) ?_) ?_ | refine vHc (congrArg (fun z => some (Blk.ints _ z)) ?_) ?_ | refine vFc (congrArg (fun z => some (V.bool z)) ?_) ?_ | refine vFs rfl rfl ?_ ?_
       rintro ⟨i, kk, ss⟩ ⟨hi, hk, hsp⟩
       dsimp only at hi hk hsp ⊢
       have hfn := filter_len (g := tanB p L) i hi
       have hlen := flat3 (filter_three (g := tanB p L) h3a i)
       have hmem := fun h : i < (allPts p).length => getD_mem h
       have h3i := fun h : i < (allPts p).length => h3a _ (getD_mem h)
       refine CW_seq ?_
       refine cR ?_
       iterate 2 refine oM rfl rfl ?_
       first | refine oQ (Q_len rfl rfl rfl rfl) rfl rfl ?_ | refine oQ (Q_len0 rfl rfl rfl rfl) rfl rfl ?_
       refine oQ (Q_bin rfl rfl rfl) rfl rfl ?_
       refine oN ?_
       first | refine cT rfl ?_ | refine cF rfl ?_ | refine CW_cond rfl (fun hc => ?_) (fun hc => ?_)
       all_goals try simp only [s1, s2, s3, s4, s5, s6, s7, s8, s9, s10, s11, s12] at hc
       all_goals try (exfalso; first | exact absurd hcd hc | exact absurd hc hcd; done)
       all_goals first
         | (
          refine CW_skip ?_)
         | (
          refine CW_exit ?_)
       all_goals first
         | with_reducible refine tR ?_
         | with_reducible refine tE ?_
         | (
          with_reducible refine tN ?_
          refine CW_seq ?_
          refine CW_block ?_
          refine cR ?_
          iterate 2 refine oM rfl rfl ?_
          (have h3i := h3i (by omega)); (have hmem := hmem (by omega)); refine oQ (Q_ixs0z 3 rfl rfl rfl rfl rfl rfl (by omega)) rfl rfl ?_
          refine oQ (Q_lda (n := 3) rfl rfl rfl rfl rfl (by rw [List.length_append, hfa]; omega)) rfl rfl ?_; rw [flat_get h3a (show i < (allPts p).length by omega)]
          refine oAlloc rfl rfl rfl rfl rfl rfl rfl ?_
          first | refine oSw rfl rfl rfl rfl ?_ | refine oSa rfl rfl rfl rfl ?_
          refine oN ?_
          refine cR ?_
          iterate 2 refine oM rfl rfl ?_
          refine oQ (Q_ldw rfl rfl rfl rfl h3i) rfl rfl ?_
          refine oQ (Q_call (l07Count_con p L sp k h3 _ hcd hmem) [] rfl rfl (Fits.mk' (vHc rfl vHn) rfl rfl (by simp)) rfl rfl) rfl rfl ?_
          refine oQ (Q_bin rfl rfl rfl) rfl rfl ?_
          refine oN ?_
          first | refine cT rfl ?_ | refine cF rfl ?_ | refine CW_cond rfl (fun hc => ?_) (fun hc => ?_)
          all_goals try simp only [s1, s2, s3, s4, s5, s6, s7, s8, s9, s10, s11, s12] at hc
          all_goals try (exfalso; first | exact absurd hcd hc | exact absurd hc hcd; done)
          all_goals first
            | (
             refine CW_skip ?_)
            | (
             refine CW_region ?_
             refine oM rfl rfl ?_
             refine oQ (Q_ldw rfl rfl rfl rfl h3i) rfl rfl ?_
             refine oBsl1 h3i rfl rfl rfl rfl rfl rfl rfl rfl rfl rfl ?_
             refine oApp (sz := 3) (by_ := 24) (xl := (allPts p).getD i []) rfl rfl rfl rfl rfl rfl ⟨by decide, rfl, .inr rfl⟩ rfl rfl rfl rfl rfl rfl hlen (by rw [h3i]) (by omega) (by omega) (by omega) (by omega) rfl rfl (fun k2 sp2 h1 h2 => ?_)
             refine oA rfl rfl ?_
             refine OW_nil ?_)
          all_goals first | with_reducible refine bN ?_ | with_reducible refine bE ?_ | with_reducible refine bR ?_ | refine bX rfl ?_
          all_goals with_reducible refine tN ?_
          all_goals (
           refine CW_region ?_
           refine oM rfl rfl ?_
           first | refine oQ (Q_binu rfl rfl rfl (by omega)) rfl rfl ?_ | refine oQ (Q_bin rfl rfl rfl) rfl rfl ?_
           refine oA rfl rfl ?_
           refine OW_nil ?_))
       all_goals first
         | with_reducible refine tR ?_
         | with_reducible refine tE ?_
         | (
          with_reducible refine tN ?_
          first
            | (
             refine ⟨(i + 1, k2, sp2), ?_, ?_, View.mk' [(2, 5)] rfl rfl rfl ?_ ?_⟩
             · dsimp only
               first
                 | (rw [filter_snoc (by omega) (decide_eq_true hc), List.length_append, List.length_singleton]; exact ⟨by omega, h1, h2⟩)
                 | (rw [filter_skip (by omega) (decide_eq_false hc)]; exact ⟨by omega, hk, hsp⟩)
             · omega
             all_goals (repeat' first | exact vFn | refine vFc rfl ?_ | exact vHn | refine vHc rfl ?_ | refine vFc (congrArg (fun z => some (V.int z)) ?_) ?_ | refine vHc (congrArg (fun z => some (Blk.ints _ z)) ?_) ?_ | refine vFc (congrArg (fun z => some (V.bool z)) ?_) ?_ | refine vFs rfl rfl ?_ ?_)
             all_goals dsimp only
             all_goals first
               | (rw [filter_snoc (by omega) (decide_eq_true hc)]; simp; done)
               | (rw [filter_skip (by omega) (decide_eq_false hc)]; done))
            | (
             refine ⟨(i + 1, kk, ss), ?_, ?_, View.mk' [] rfl rfl rfl ?_ ?_⟩
             · dsimp only
               first
                 | (rw [filter_snoc (by omega) (decide_eq_true hc), List.length_append, List.length_singleton]; exact ⟨by omega, h1, h2⟩)
                 | (rw [filter_skip (by omega) (decide_eq_false hc)]; exact ⟨by omega, hk, hsp⟩)
             · omega
             all_goals (repeat' first | exact vFn | refine vFc rfl ?_ | exact vHn | refine vHc rfl ?_ | refine vFc (congrArg (fun z => some (V.int z)) ?_) ?_ | refine vHc (congrArg (fun z => some (Blk.ints _ z)) ?_) ?_ | refine vFc (congrArg (fun z => some (V.bool z)) ?_) ?_ | refine vFs rfl rfl ?_ ?_)
             all_goals dsimp only
             all_goals first
               | (rw [filter_snoc (by omega) (decide_eq_true hc)]; simp; done)
               | (rw [filter_skip (by omega) (decide_eq_false hc)]; done)))
       all_goals first | with_reducible refine bN ?_ | with_reducible refine bE ?_ | with_reducible refine bR ?_ | refine bX rfl ?_
       all_goals with_reducible refine tN ?_
       all_goals (
        refine cR ?_
        refine oM rfl rfl ?_
        iterate 2 refine oA rfl rfl ?_
        refine oN ?_
        refine CW_ret ?_))
    all_goals (
     first
       | (exfalso; first | exact hc hcd | exact hcd hc; done)
       | (have e : i = (allPts p).length := (by omega)
          subst e
          rw [List.take_length] at hk hsp
          exact exitH (r0 := .tuple [.slice 1 0 (tansV p L).length kk, .int 0]) (H0 := [(0, .ints 49 (L.flatten ++ sp)), (1, .ints 55 ((tansV p L).flatten ++ ss))]) (.inr rfl) [(1, 2)] 2 (.cons (.tmp rfl rfl) (.cons (.tmp rfl rfl) .nil)) (by simp only [List.take_length]; rfl) rfl rfl (vHc rfl (vHc (by simp only [List.take_length]; rfl) vHn)) rfl rfl (listO_ok hcd hk)))
  · skip
    refine conW tab_ok [(0, .int p), (1, .slice 0 0 L.length k)] 1 [0] [0] Try.func32 rfl rfl rfl rfl rfl rfl rfl rfl rfl ?_
    refine cR ?_
    iterate 2 refine oA rfl rfl ?_
    refine oN ?_
    refine CW_seq ?_
    refine cR ?_
    iterate 2 refine oM rfl rfl ?_
    refine oQ (Q_call (l07Code_con p L sp k h3 hn9) [] rfl rfl (Fits.mk' (vHc rfl vHn) rfl rfl (by simp)) rfl rfl) rfl rfl ?_
    refine oA rfl rfl ?_
    refine oN ?_
    refine cR ?_
    refine oM rfl rfl ?_
    refine oQ (Q_bin rfl rfl rfl) rfl rfl ?_
    refine oN ?_
    first | refine cT rfl ?_ | refine cF rfl ?_ | refine CW_cond rfl (fun hc => ?_) (fun hc => ?_)
    all_goals try simp only [s1, s2, s3, s4, s5, s6, s7, s8, s9, s10, s11, s12] at hc
    all_goals try (exfalso; first | exact absurd hcd hc | exact absurd hc hcd; done)
    all_goals first
      | (
       refine CW_skip ?_)
      | (
       refine cR ?_
       refine oM rfl rfl ?_
       iterate 2 refine oA rfl rfl ?_
       refine oN ?_
       refine CW_ret ?_)
    all_goals first
      | with_reducible refine tR ?_
      | with_reducible refine tE ?_
      | (
       with_reducible refine tN ?_
       refine cR ?_
       refine oM rfl rfl ?_
       (exfalso; first | exact hc hcd | exact hcd hc)
       refine oBsl rfl rfl rfl rfl (.inr ⟨rfl, rfl, by decide⟩) rfl rfl rfl rfl rfl rfl ?_
       iterate 2 refine oA rfl rfl ?_
       refine oN ?_
       refine CW_seq ?_
       refine cR ?_
       refine oA rfl rfl ?_
       refine oN ?_
       refine CW_block ?_
       skip
       · first | trivial | omega | (simp; done) | (simp; omega)
       · refine View.mk' [] rfl rfl rfl ?_ ?_
         repeat' first | exact vFn | refine vFc rfl ?_ | exact vHn | refine vHc rfl ?_ | refine vFc (congrArg (fun z => some (V.int z)) ?_) ?_ | refine vHc (congrArg (fun z => some (Blk.ints _ z)) ?_) ?_ | refine vFc (congrArg (fun z => some (V.bool z)) ?_) ?_ | refine vFs rfl rfl ?_ ?_
       intro i hi
       refine CW_seq ?_
       refine cR ?_
       iterate 2 refine oM rfl rfl ?_
       first | refine oQ (Q_len rfl rfl rfl rfl) rfl rfl ?_ | refine oQ (Q_len0 rfl rfl rfl rfl) rfl rfl ?_
       refine oQ (Q_bin rfl rfl rfl) rfl rfl ?_
       refine oN ?_
       first | refine cT rfl ?_ | refine cF rfl ?_ | refine CW_cond rfl (fun hc => ?_) (fun hc => ?_)
       all_goals try simp only [s1, s2, s3, s4, s5, s6, s7, s8, s9, s10, s11, s12] at hc
       all_goals try (exfalso; first | exact absurd hcd hc | exact absurd hc hcd; done)
       all_goals first
         | (
          refine CW_skip ?_)
         | (
          refine CW_exit ?_)
       all_goals first
         | with_reducible refine tR ?_
         | with_reducible refine tE ?_
         | (
          with_reducible refine tN ?_
          refine CW_seq ?_
          refine CW_block ?_
          refine cR ?_
          iterate 2 refine oM rfl rfl ?_
          first | refine oQ (Q_ixs0z 3 rfl rfl rfl rfl rfl rfl (by first | omega | (dsimp only; omega) | (simp; omega) | (simp; done))) rfl rfl ?_ | refine oQ (Q_ixsz 3 rfl rfl rfl rfl rfl rfl (by first | omega | (dsimp only; omega) | (simp; omega) | (simp; done))) rfl rfl ?_
          first | refine oQ (Lw rfl rfl rfl rfl) rfl rfl ?_ | refine oQ (La rfl rfl rfl rfl rfl) rfl rfl ?_
          refine oAlloc rfl rfl rfl rfl rfl rfl rfl ?_
          first | refine oSw rfl rfl rfl rfl ?_ | refine oSa rfl rfl rfl rfl ?_
          refine oN ?_
          refine cR ?_
          iterate 2 refine oM rfl rfl ?_
          first | refine oQ (Lw rfl rfl rfl rfl) rfl rfl ?_ | refine oQ (La rfl rfl rfl rfl rfl) rfl rfl ?_
          fail "call of loop.example/g01310/spec.l07Count at slot 33"
          refine oQ (Q_bin rfl rfl rfl) rfl rfl ?_
          refine oN ?_
          first | refine cT rfl ?_ | refine cF rfl ?_ | refine CW_cond rfl (fun hc => ?_) (fun hc => ?_)
          all_goals try simp only [s1, s2, s3, s4, s5, s6, s7, s8, s9, s10, s11, s12] at hc
          all_goals try (exfalso; first | exact absurd hcd hc | exact absurd hc hcd; done)
          all_goals first
            | (
             refine CW_skip ?_)
            | (
             refine CW_region ?_
             refine oM rfl rfl ?_
             first | refine oQ (Lw rfl rfl rfl rfl) rfl rfl ?_ | refine oQ (La rfl rfl rfl rfl rfl) rfl rfl ?_
             refine oBsl rfl rfl rfl rfl (.inr ⟨rfl, rfl, by decide⟩) rfl rfl rfl rfl rfl rfl ?_
             fail "builtin append at slot 38"
             refine oA rfl rfl ?_
             refine OW_nil ?_)
          all_goals first | with_reducible refine bN ?_ | with_reducible refine bE ?_ | with_reducible refine bR ?_ | refine bX rfl ?_
          all_goals with_reducible refine tN ?_
          all_goals (
           refine CW_region ?_
           refine oM rfl rfl ?_
           first | refine oQ (Q_binu rfl rfl rfl (by omega)) rfl rfl ?_ | refine oQ (Q_bin rfl rfl rfl) rfl rfl ?_
           refine oA rfl rfl ?_
           refine OW_nil ?_))
       all_goals first
         | with_reducible refine tR ?_
         | with_reducible refine tE ?_
         | (
          with_reducible refine tN ?_
          fail "again 0")
       all_goals first | with_reducible refine bN ?_ | with_reducible refine bE ?_ | with_reducible refine bR ?_ | refine bX rfl ?_
       all_goals with_reducible refine tN ?_
       all_goals (
        refine cR ?_
        refine oM rfl rfl ?_
        iterate 2 refine oA rfl rfl ?_
        refine oN ?_
        refine CW_ret ?_))
    all_goals (
     first | (exfalso; first | exact hc hcd | exact hcd hc; done) | exact exitH (r0 := .tuple [.nilsl, .int (setC p L)]) (H0 := [(0, .ints 49 (L.flatten ++ sp))]) (.inr rfl) [] 1 (.cons (.tmp rfl rfl) (.cons (.tmp rfl rfl) .nil)) rfl rfl rfl (vHc rfl vHn) rfl rfl (listO_no hcd))
theorem spec_TangentsOfSet_M (p : Int) (M : List Int) (n k : Nat) (hM : n * 3 ≤ M.length) (hn : n ≤ 1000000000) : Con Try.prog [] 32 [.int p, .slice 0 0 n k] [(0, .ints 49 M)] (listO 55 [(0, .ints 49 M)] 1 (setM p M n) (tansM p M n).flatten (tansM p M n).length) := by
  have e := chunk_split hM
  have h := spec_TangentsOfSet_con p (chunk M n) (M.drop (n * 3)) k (chunk_three hM) (by rw [chunk_length]; exact hn)
  rw [chunk_length, ← e] at h
  exact h
theorem impl_TangentsOfSet_M (p : Int) (M : List Int) (n k : Nat) (hM : n * 3 ≤ M.length) (hn : n ≤ 1000000000) : Con Try.prog [] 33 [.int p, .slice 0 0 n k] [(0, .ints 49 M)] (listO 55 [(0, .ints 49 M)] 1 (setM p M n) (tansM p M n).flatten (tansM p M n).length) := by
  have e := chunk_split hM
  have h := impl_TangentsOfSet_con p (chunk M n) (M.drop (n * 3)) k (chunk_three hM) (by rw [chunk_length]; exact hn)
  rw [chunk_length, ← e] at h
  exact h
end Go.Proofs.Ytmcmbpoebhjecaa
