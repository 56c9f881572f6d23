/- Lists of arrays, searched by closures; the points, and lines, for which something is so. Printed by gen_q2.py. -/
import Derived.Test.YtlhlnaehfjojiaaDoorQ1
import Derived.Test.YtlhlnaehfjojiaaDoorPq
namespace Go.Proofs.YtlhlnaehfjojiaaDoor
attribute [local irreducible] CW OW QW QOp Con thenP inBlockP
set_option maxRecDepth 10000
set_option linter.unusedSimpArgs false
set_option linter.unusedVariables false

theorem notnot {L : List (List Int)} {g : List Int → Bool} : (L.filter fun x => !(fun x => !g x) x) = L.filter g := by congr 1; funext x; simp
theorem allPts_len {p : Int} (hp : primeB p = true) : (allPts p).length ≤ 183 ∧ 13 ≤ (allPts p).length := by
  obtain ⟨n, rfl, hn⟩ := of_prime hp
  have hb := prime_bd hp
  rw [← ptsTo_all rfl, ptsTo_length]
  have h1 : n * n ≤ 13 * 13 := Nat.mul_le_mul hn hn
  have h2 : 3 * 3 ≤ n * n := Nat.mul_le_mul (by omega) (by omega)
  omega
theorem idxPointD2 (f : Nat) (t0 : TypeId) (L0 : List Int) (t1 : TypeId) (L1 : List Int) (g : List Int → Bool) (tM : TypeId) (L : List (List Int)) (sp : List Int) (k ck : Nat) (hk : k = L.length) (h3 : ∀ x ∈ L, x.length = 3) (hk9 : L.length ≤ 1000000000) (hf : ∀ m, m ∈ L → ConQ Tryd.prog [] 86 [.arr m, .ptr 1002 0] [(1000, .ints t0 L0), (1001, .ints t1 L1), (1002, .vals 65 [.func f [] [.ptr 1000 0, .ptr 1001 0]])] (.bool (g m))) : ConQ Tryd.prog [] 113 [.slice 0 0 k ck, .func 86 [] [.ptr 1002 0]] [(0, .ints tM (L.flatten ++ sp)), (1000, .ints t0 L0), (1001, .ints t1 L1), (1002, .vals 65 [.func f [] [.ptr 1000 0, .ptr 1001 0]])] (.int (idxL g L)) := by
  have hfl := flat3 h3
  refine conW tab_ok [(0, .slice 0 0 k ck), (1, .func 86 [] [.ptr 1002 0])] 1 [0, 1000, 1001, 1002] [0, 1000, 1001, 1002] Tryd.func113 rfl rfl rfl rfl rfl rfl rfl rfl rfl ?_
  refine cR ?_
  refine oA rfl rfl ?_
  refine oN ?_
  refine CW_seq ?_
  refine cR ?_
  refine oM rfl rfl ?_
  first | refine oQ (Q_len rfl rfl rfl rfl) rfl rfl ?_ | refine oQ (Q_len0 rfl rfl rfl rfl) rfl rfl ?_
  refine oM rfl rfl ?_
  refine oN ?_
  refine CW_block ?_
  refine CW_loop (ι := Nat) (fun i => i ≤ L.length ∧ ∀ j, j < i → g (L.getD j []) = false) (fun i => ⟨[(0, .slice 0 0 k ck), (1, .func 86 [] [.ptr 1002 0]), (7, .int k), (8, .int i)], [(0, .ints tM (L.flatten ++ sp)), (1000, .ints t0 L0), (1001, .ints t1 L1), (1002, .vals 65 [.func f [] [.ptr 1000 0, .ptr 1001 0]])], 1⟩) (fun i => L.length - i) 0 ?_ ?_ ?_
  · exact ⟨Nat.zero_le _, fun j h => absurd h (Nat.not_lt_zero _)⟩
  · refine View.mk' [] rfl rfl rfl ?_ ?_
    repeat' first | exact vFn | refine vFc rfl ?_ | exact vHn | refine vHc rfl ?_ | refine vFc (congrArg (fun z => some (V.int z)) ?_) ?_ | refine vHc (congrArg (fun z => some (Blk.ints _ z)) ?_) ?_ | refine vFc (congrArg (fun z => some (V.bool z)) ?_) ?_ | refine vFs rfl rfl ?_ ?_
  rintro i ⟨hi, hi2⟩
  refine cR ?_
  refine oQ (Q_bin rfl rfl rfl) rfl rfl ?_
  refine oN ?_
  refine CW_seq ?_
  first | refine cT rfl ?_ | refine cF rfl ?_ | refine CW_cond rfl (fun hc => ?_) (fun hc => ?_)
  all_goals try simp only [s1, s2, s3, s4, s5, s6, s7, s8, s9, s10, s11, s12] at hc
  all_goals first
    | (
     refine CW_skip ?_)
    | (
     refine CW_exit ?_)
  all_goals first
    | with_reducible refine tR ?_
    | with_reducible refine tE ?_
    | (
     with_reducible refine tN ?_
     refine CW_seq ?_
     refine CW_block ?_
     refine cR ?_
     refine oM rfl rfl ?_
     refine oA rfl rfl ?_
     refine oN ?_
     refine cR ?_
     iterate 3 refine oM rfl rfl ?_
     first | refine oQ (Q_ixs0z 3 rfl rfl rfl rfl rfl rfl (by first | omega | (dsimp only; omega) | (simp; omega) | (simp; done))) rfl rfl ?_ | refine oQ (Q_ixsz 3 rfl rfl rfl rfl rfl rfl (by first | omega | (dsimp only; omega) | (simp; omega) | (simp; done))) rfl rfl ?_
     refine oQ (Q_lda (n := 3) rfl rfl rfl rfl rfl (by rw [List.length_append, hfl]; omega)) rfl rfl ?_; rw [flat_get h3 (show i < L.length by omega)]
     refine oQ (Q_callf (hf _ (getD_mem (by omega))) [] rfl rfl rfl (Fits.mk' (vHc rfl (vHc rfl (vHc rfl vHn))) rfl rfl (by first | (simp; done) | exact glOk rfl rfl rfl)) rfl rfl) rfl rfl ?_
     refine oN ?_
     first | refine cT rfl ?_ | refine cF rfl ?_ | refine CW_cond rfl (fun hc => ?_) (fun hc => ?_)
     all_goals try simp only [s1, s2, s3, s4, s5, s6, s7, s8, s9, s10, s11, s12] at hc
     all_goals first
       | (
        refine CW_skip ?_)
       | (
        refine cR ?_
        refine oM rfl rfl ?_
        refine oA rfl rfl ?_
        refine oN ?_
        refine CW_ret ?_)
     all_goals first | with_reducible refine bN ?_ | with_reducible refine bE ?_ | with_reducible refine bR ?_ | refine bX rfl ?_
     all_goals first
       | with_reducible refine tR ?_
       | with_reducible refine tE ?_
       | (
        with_reducible refine tN ?_
        refine CW_region ?_
        first | refine oQ (Q_binu rfl rfl rfl (by omega)) rfl rfl ?_ | refine oQ (Q_bin rfl rfl rfl) rfl rfl ?_
        refine oM rfl rfl ?_
        refine OW_nil ?_))
  all_goals first
    | with_reducible refine tR ?_
    | with_reducible refine tE ?_
    | (
     with_reducible refine tN ?_
     refine ⟨i + 1, ?_, ?_, View.mk' [] rfl rfl rfl ?_ ?_⟩
     · refine ⟨by omega, fun j hj => ?_⟩
       by_cases e : j = i
       · subst e; exact hc
       · exact hi2 j (by omega)
     · omega
     all_goals (repeat' first | exact vFn | refine vFc rfl ?_ | exact vHn | refine vHc rfl ?_ | refine vFc (congrArg (fun z => some (V.int z)) ?_) ?_ | refine vHc (congrArg (fun z => some (Blk.ints _ z)) ?_) ?_ | refine vFc (congrArg (fun z => some (V.bool z)) ?_) ?_ | refine vFs rfl rfl ?_ ?_))
  all_goals first | with_reducible refine bN ?_ | with_reducible refine bE ?_ | with_reducible refine bR ?_ | refine bX rfl ?_
  all_goals first
    | with_reducible refine tR ?_
    | with_reducible refine tE ?_
    | (
     with_reducible refine tN ?_
     refine cR ?_
     refine oA rfl rfl ?_
     refine oN ?_
     refine CW_ret ?_)
  all_goals (
   refine exitQ (.inr rfl) 1 (.cons (.tmp rfl rfl) .nil) ?_ rfl (vHc rfl (vHc rfl (vHc rfl (vHc rfl vHn)))) rfl rfl
   first
     | exact congrArg V.int (idxL_found (by omega) hi2 hc).symm
     | exact congrArg V.int (idxL_none (fun j hj => hi2 j (by omega))).symm)
theorem delPointD2 (f : Nat) (t0 : TypeId) (L0 : List Int) (t1 : TypeId) (L1 : List Int) (g : List Int → Bool) (tM : TypeId) (L : List (List Int)) (sp : List Int) (ck : Nat) (h3 : ∀ x ∈ L, x.length = 3) (hk9 : L.length ≤ 1000000000) (hck : L.length ≤ ck) (hf : ∀ m, m ∈ L → ConQ Tryd.prog [] 86 [.arr m, .ptr 1002 0] [(1000, .ints t0 L0), (1001, .ints t1 L1), (1002, .vals 65 [.func f [] [.ptr 1000 0, .ptr 1001 0]])] (.bool (g m))) : Con Tryd.prog [] 84 [.slice 0 0 L.length ck, .func 86 [] [.ptr 1002 0]] [(0, .ints tM (L.flatten ++ sp)), (1000, .ints t0 L0), (1001, .ints t1 L1), (1002, .vals 65 [.func f [] [.ptr 1000 0, .ptr 1001 0]])] (fun r H' => ∃ z, z.length = (L.length - (L.filter fun x => !g x).length) * 3 ∧ r = .slice 0 0 (L.filter fun x => !g x).length ck ∧ H' = [(0, .ints tM ((L.filter fun x => !g x).flatten ++ (z ++ sp))), (1000, .ints t0 L0), (1001, .ints t1 L1), (1002, .vals 65 [.func f [] [.ptr 1000 0, .ptr 1001 0]])]) := by
  have hfl := flat3 h3
  rcases idxL_cases g L with ⟨hix, hix1⟩ | ⟨a, hix, ha, ha1, ha2⟩
  · have hall : (L.filter fun x => !g x) = L := by rw [List.filter_eq_self]; intro x hx; simp [hix1 x hx]
    rw [hall]
    refine conW tab_ok [(0, .slice 0 0 L.length ck), (1, .func 86 [] [.ptr 1002 0])] 1 [0, 1000, 1001, 1002] [0, 1000, 1001, 1002] Tryd.func84 rfl rfl rfl rfl rfl rfl rfl rfl rfl ?_
    refine cR ?_
    refine oA rfl rfl ?_
    refine oN ?_
    refine cR ?_
    iterate 2 refine oM rfl rfl ?_
    refine oQ (Q_call (idxPointD2 f t0 L0 t1 L1 g tM L sp L.length ck rfl h3 hk9 hf) [] rfl rfl (Fits.mk' (vHc rfl (vHc rfl (vHc rfl (vHc rfl vHn)))) rfl rfl (by first | (simp; done) | exact glOk rfl rfl rfl)) rfl rfl) rfl rfl ?_
    refine oA rfl rfl ?_
    refine oN ?_
    refine CW_seq ?_
    refine cR ?_
    refine oM rfl rfl ?_
    refine oQ (Q_bin rfl rfl rfl) rfl rfl ?_; rw [hix]
    refine oN ?_
    first | refine cT rfl ?_ | refine cF rfl ?_ | refine CW_cond rfl (fun hc => ?_) (fun hc => ?_)
    all_goals try simp only [s1, s2, s3, s4, s5, s6, s7, s8, s9, s10, s11, s12] at hc
    all_goals try (exfalso; first | omega | (simp at hc); done)
    all_goals first
      | (
       refine CW_skip ?_)
      | (
       refine cR ?_
       refine oM rfl rfl ?_
       refine oA rfl rfl ?_
       refine oN ?_
       refine CW_ret ?_)
    all_goals first
      | with_reducible refine tR ?_
      | with_reducible refine tE ?_
      | (
       with_reducible refine tN ?_
       refine CW_seq ?_
       refine cR ?_
       refine oM rfl rfl ?_
       first | refine oQ (Q_binu rfl rfl rfl (by omega)) rfl rfl ?_ | refine oQ (Q_bin rfl rfl rfl) rfl rfl ?_
       refine oA rfl rfl ?_
       refine oN ?_
       refine CW_block ?_
       exfalso; simp at hc
       · first | trivial | omega | (simp; done) | (simp; omega)
       · refine View.mk' [] rfl rfl rfl ?_ ?_
         repeat' first | exact vFn | refine vFc rfl ?_ | exact vHn | refine vHc rfl ?_ | refine vFc (congrArg (fun z => some (V.int z)) ?_) ?_ | refine vHc (congrArg (fun z => some (Blk.ints _ z)) ?_) ?_ | refine vFc (congrArg (fun z => some (V.bool z)) ?_) ?_ | refine vFs rfl rfl ?_ ?_
       intro i hi
       refine CW_seq ?_
       refine cR ?_
       iterate 2 refine oM rfl rfl ?_
       first | refine oQ (Q_len rfl rfl rfl rfl) rfl rfl ?_ | refine oQ (Q_len0 rfl rfl rfl rfl) rfl rfl ?_
       refine oQ (Q_bin rfl rfl rfl) rfl rfl ?_
       refine oN ?_
       first | refine cT rfl ?_ | refine cF rfl ?_ | refine CW_cond rfl (fun hc => ?_) (fun hc => ?_)
       all_goals try simp only [s1, s2, s3, s4, s5, s6, s7, s8, s9, s10, s11, s12] at hc
       all_goals try (exfalso; first | omega | (simp at hc); done)
       all_goals first
         | (
          refine CW_skip ?_)
         | (
          refine CW_exit ?_)
       all_goals first
         | with_reducible refine tR ?_
         | with_reducible refine tE ?_
         | (
          with_reducible refine tN ?_
          refine CW_seq ?_
          refine CW_block ?_
          refine cR ?_
          iterate 2 refine oM rfl rfl ?_
          first | refine oQ (Q_ixs0z 3 rfl rfl rfl rfl rfl rfl (by first | omega | (dsimp only; omega) | (simp; omega) | (simp; done))) rfl rfl ?_ | refine oQ (Q_ixsz 3 rfl rfl rfl rfl rfl rfl (by first | omega | (dsimp only; omega) | (simp; omega) | (simp; done))) rfl rfl ?_
          first | refine oQ (Lw rfl rfl rfl rfl) rfl rfl ?_ | refine oQ (La rfl rfl rfl rfl rfl) rfl rfl ?_
          refine oAlloc rfl rfl rfl rfl rfl rfl rfl ?_
          first | refine oSw rfl rfl rfl rfl ?_ | refine oSa rfl rfl rfl rfl ?_
          refine oN ?_
          refine cR ?_
          refine oM rfl rfl ?_
          first | refine oQ (Lw rfl rfl rfl rfl) rfl rfl ?_ | refine oQ (La rfl rfl rfl rfl rfl) rfl rfl ?_
          fail "call of a value at slot 28"
          refine oQ (Q_not rfl) rfl rfl ?_
          refine oN ?_
          first | refine cT rfl ?_ | refine cF rfl ?_ | refine CW_cond rfl (fun hc => ?_) (fun hc => ?_)
          all_goals try simp only [s1, s2, s3, s4, s5, s6, s7, s8, s9, s10, s11, s12] at hc
          all_goals try (exfalso; first | omega | (simp at hc); done)
          all_goals first
            | (
             refine CW_skip ?_)
            | (
             refine cR ?_
             iterate 2 refine oM rfl rfl ?_
             first | refine oQ (Lw rfl rfl rfl rfl) rfl rfl ?_ | refine oQ (La rfl rfl rfl rfl rfl) rfl rfl ?_
             first | refine oQ (Q_ixs0z 3 rfl rfl rfl rfl rfl rfl (by first | omega | (dsimp only; omega) | (simp; omega) | (simp; done))) rfl rfl ?_ | refine oQ (Q_ixsz 3 rfl rfl rfl rfl rfl rfl (by first | omega | (dsimp only; omega) | (simp; omega) | (simp; done))) rfl rfl ?_
             first | refine oSw rfl rfl rfl rfl ?_ | refine oSa rfl rfl rfl rfl ?_
             refine oN ?_
             refine CW_region ?_
             refine oM rfl rfl ?_
             first | refine oQ (Q_binu rfl rfl rfl (by omega)) rfl rfl ?_ | refine oQ (Q_bin rfl rfl rfl) rfl rfl ?_
             refine oA rfl rfl ?_
             refine OW_nil ?_)
          all_goals first | with_reducible refine bN ?_ | with_reducible refine bE ?_ | with_reducible refine bR ?_ | refine bX rfl ?_
          all_goals with_reducible refine tN ?_
          all_goals (
           refine CW_region ?_
           refine oM rfl rfl ?_
           first | refine oQ (Q_binu rfl rfl rfl (by omega)) rfl rfl ?_ | refine oQ (Q_bin rfl rfl rfl) rfl rfl ?_
           refine oA rfl rfl ?_
           refine OW_nil ?_))
       all_goals first
         | with_reducible refine tR ?_
         | with_reducible refine tE ?_
         | (
          with_reducible refine tN ?_
          fail "again 0")
       all_goals first | with_reducible refine bN ?_ | with_reducible refine bE ?_ | with_reducible refine bR ?_ | refine bX rfl ?_
       all_goals with_reducible refine tN ?_
       all_goals (
        refine cR ?_
        iterate 2 refine oM rfl rfl ?_
        refine oQ (Q_slsL 3 rfl rfl rfl rfl rfl rfl (by first | omega | (dsimp only; omega) | (simp; omega) | (simp; done)) (by first | omega | (dsimp only; omega) | (simp; omega) | (simp; done))) rfl rfl ?_
        fail "builtin clear at slot None"
        refine oN ?_
        refine cR ?_
        iterate 2 refine oM rfl rfl ?_
        refine oQ (Q_slsH rfl rfl rfl rfl rfl (by first | omega | (dsimp only; omega) | (simp; omega) | (simp; done))) rfl rfl ?_
        refine oA rfl rfl ?_
        refine oN ?_
        refine CW_ret ?_))
    all_goals (
     exact exitH (r0 := .slice 0 0 L.length ck) (.inr rfl) [] 1 (.cons (.tmp rfl rfl) .nil) rfl rfl rfl (vHc rfl (vHc rfl (vHc rfl (vHc rfl vHn)))) rfl rfl ⟨[], by simp, rfl, rfl⟩)
  · have hall : ((L.take a).filter fun x => !g x) = L.take a := by rw [List.filter_eq_self]; intro x hx; simp [ha2 x hx]
    refine conW tab_ok [(0, .slice 0 0 L.length ck), (1, .func 86 [] [.ptr 1002 0])] 1 [0, 1000, 1001, 1002] [0, 1000, 1001, 1002] Tryd.func84 rfl rfl rfl rfl rfl rfl rfl rfl rfl ?_
    refine cR ?_
    refine oA rfl rfl ?_
    refine oN ?_
    refine cR ?_
    iterate 2 refine oM rfl rfl ?_
    refine oQ (Q_call (idxPointD2 f t0 L0 t1 L1 g tM L sp L.length ck rfl h3 hk9 hf) [] rfl rfl (Fits.mk' (vHc rfl (vHc rfl (vHc rfl (vHc rfl vHn)))) rfl rfl (by first | (simp; done) | exact glOk rfl rfl rfl)) rfl rfl) rfl rfl ?_
    refine oA rfl rfl ?_
    refine oN ?_
    refine CW_seq ?_
    refine cR ?_
    refine oM rfl rfl ?_
    refine oQ (Q_bin rfl rfl rfl) rfl rfl ?_
    refine oN ?_
    first | refine cT rfl ?_ | refine cF rfl ?_ | refine CW_cond rfl (fun hc => ?_) (fun hc => ?_)
    all_goals try simp only [s1, s2, s3, s4, s5, s6, s7, s8, s9, s10, s11, s12] at hc
    all_goals try (exfalso; first | omega | (simp at hc); done)
    all_goals first
      | (
       refine CW_skip ?_)
      | (
       refine cR ?_
       refine oM rfl rfl ?_
       refine oA rfl rfl ?_
       refine oN ?_
       refine CW_ret ?_)
    all_goals first
      | with_reducible refine tR ?_
      | with_reducible refine tE ?_
      | (
       with_reducible refine tN ?_
       refine CW_seq ?_
       refine cR ?_
       refine oM rfl rfl ?_
       first | refine oQ (Q_binu rfl rfl rfl (by omega)) rfl rfl ?_ | refine oQ (Q_bin rfl rfl rfl) rfl rfl ?_
       refine oA rfl rfl ?_
       refine oN ?_
       refine CW_block ?_
       refine CW_loop (ι := Nat × List Int) (fun x => x.1 ≤ L.length ∧ x.2.length + ((L.take x.1).filter fun x => !g x).length * 3 = x.1 * 3 ∧ ((L.take x.1).filter fun x => !g x).length < x.1) (fun x => ⟨[(0, .slice 0 0 L.length ck), (1, .func 86 [] [.ptr 1002 0]), (5, .int (((L.take x.1).filter fun x => !g x).length : Nat)), (6, .int (x.1 : Int))], [(0, .ints tM (delM 3 g L x.1 x.2 sp)), (1000, .ints t0 L0), (1001, .ints t1 L1), (1002, .vals 65 [.func f [] [.ptr 1000 0, .ptr 1001 0]])], 1⟩) (fun x => L.length - x.1) (a + 1, L.getD a []) ?_ ?_ ?_
       · refine ⟨ha, ?_⟩; rw [filter_skip ha (by rw [ha1]; rfl), hall, List.length_take, h3 _ (getD_mem ha)]; exact ⟨by omega, by dsimp only; omega⟩
       · refine View.mk' [] rfl rfl rfl ?_ ?_
         repeat' first | exact vFn | refine vFc rfl ?_ | exact vHn | refine vHc rfl ?_ | refine vFc (congrArg (fun z => some (V.int z)) ?_) ?_ | refine vHc (congrArg (fun z => some (Blk.ints _ z)) ?_) ?_ | refine vFc (congrArg (fun z => some (V.bool z)) ?_) ?_ | refine vFs rfl rfl ?_ ?_
         · rw [hix, filter_skip ha (by rw [ha1]; rfl), hall, List.length_take, Nat.min_eq_left (by omega)]
         · rw [hix]; rfl
         · have hd := delM_skip (sz := 3) (junk := []) (sp := sp) ha ha1; rw [List.nil_append] at hd; dsimp only; rw [← hd]; unfold delM; rw [hall, List.nil_append, ← List.append_assoc, ← List.flatten_append, List.take_append_drop]
       rintro ⟨j, junk⟩ ⟨hj, hju, hlt⟩
       dsimp only at hj hju hlt ⊢
       have hfn := filter_len (g := fun x => !g x) j hj
       have hdl := delM_len (sp := sp) h3 hj hju
       have hdl2 := fun h : j < L.length => h3 _ (getD_mem h)
       refine CW_seq ?_
       refine cR ?_
       iterate 2 refine oM rfl rfl ?_
       first | refine oQ (Q_len rfl rfl rfl rfl) rfl rfl ?_ | refine oQ (Q_len0 rfl rfl rfl rfl) rfl rfl ?_
       refine oQ (Q_bin rfl rfl rfl) rfl rfl ?_
       refine oN ?_
       first | refine cT rfl ?_ | refine cF rfl ?_ | refine CW_cond rfl (fun hc => ?_) (fun hc => ?_)
       all_goals try simp only [s1, s2, s3, s4, s5, s6, s7, s8, s9, s10, s11, s12] at hc
       all_goals try (exfalso; first | omega | (simp at hc); done)
       all_goals first
         | (
          refine CW_skip ?_)
         | (
          refine CW_exit ?_)
       all_goals first
         | with_reducible refine tR ?_
         | with_reducible refine tE ?_
         | (
          with_reducible refine tN ?_
          refine CW_seq ?_
          refine CW_block ?_
          refine cR ?_
          iterate 2 refine oM rfl rfl ?_
          first | refine oQ (Q_ixs0z 3 rfl rfl rfl rfl rfl rfl (by first | omega | (dsimp only; omega) | (simp; omega) | (simp; done))) rfl rfl ?_ | refine oQ (Q_ixsz 3 rfl rfl rfl rfl rfl rfl (by first | omega | (dsimp only; omega) | (simp; omega) | (simp; done))) rfl rfl ?_
          refine oQ (Q_lda (n := 3) rfl rfl rfl rfl rfl (by rw [hdl]; omega)) rfl rfl ?_; rw [delM_get h3 (show j < L.length by omega) hju]
          refine oAlloc rfl rfl rfl rfl rfl rfl rfl ?_
          first | refine oSw rfl rfl rfl rfl ?_ | refine oSa rfl rfl rfl rfl ?_
          refine oN ?_
          refine cR ?_
          refine oM rfl rfl ?_
          first | refine oQ (Lw rfl rfl rfl rfl) rfl rfl ?_ | refine oQ (La rfl rfl rfl rfl rfl) rfl rfl ?_
          refine oQ (Q_callf (hf _ (getD_mem (by omega))) [] rfl rfl rfl (Fits.mk' (vHc rfl (vHc rfl (vHc rfl vHn))) rfl rfl (by first | (simp; done) | exact glOk rfl rfl rfl)) rfl rfl) rfl rfl ?_
          refine oQ (Q_not rfl) rfl rfl ?_
          refine oN ?_
          first | refine cT rfl ?_ | refine cF rfl ?_ | refine CW_cond rfl (fun hc => ?_) (fun hc => ?_)
          all_goals try simp only [s1, s2, s3, s4, s5, s6, s7, s8, s9, s10, s11, s12] at hc
          all_goals try (exfalso; first | omega | (simp at hc); done)
          all_goals first
            | (
             refine CW_skip ?_)
            | (
             refine cR ?_
             iterate 2 refine oM rfl rfl ?_
             first | refine oQ (Lw rfl rfl rfl rfl) rfl rfl ?_ | refine oQ (La rfl rfl rfl rfl rfl) rfl rfl ?_
             refine oQ (Q_ixs0z 3 rfl rfl rfl rfl rfl rfl (by omega)) rfl rfl ?_
             first | refine oSw rfl rfl rfl rfl ?_ | refine oSa rfl rfl rfl rfl ?_
             refine oN ?_
             refine CW_region ?_
             refine oM rfl rfl ?_
             first | refine oQ (Q_binu rfl rfl rfl (by omega)) rfl rfl ?_ | refine oQ (Q_bin rfl rfl rfl) rfl rfl ?_
             refine oA rfl rfl ?_
             refine OW_nil ?_)
          all_goals first | with_reducible refine bN ?_ | with_reducible refine bE ?_ | with_reducible refine bR ?_ | refine bX rfl ?_
          all_goals with_reducible refine tN ?_
          all_goals (
           refine CW_region ?_
           refine oM rfl rfl ?_
           first | refine oQ (Q_binu rfl rfl rfl (by omega)) rfl rfl ?_ | refine oQ (Q_bin rfl rfl rfl) rfl rfl ?_
           refine oA rfl rfl ?_
           refine OW_nil ?_))
       all_goals first
         | with_reducible refine tR ?_
         | with_reducible refine tE ?_
         | (
          with_reducible refine tN ?_
          refine ⟨(j + 1, if g (L.getD j []) = true then junk ++ L.getD j [] else (junk ++ L.getD j []).drop 3), ?_, ?_, View.mk' [] rfl rfl rfl ?_ ?_⟩
          · have e3 := h3 _ (getD_mem (show j < L.length by omega))
            refine ⟨by dsimp only; omega, ?_⟩
            dsimp only
            cases hg : g (L.getD j [])
            · rw [filter_snoc (by omega) (by rw [hg]; rfl)]; simp only [Bool.false_eq_true, if_false, List.length_drop, List.length_append, List.length_cons, List.length_nil, e3]; exact ⟨by omega, by omega⟩
            · rw [filter_skip (by omega) (by rw [hg]; rfl)]; simp only [if_true, List.length_append, e3]; exact ⟨by omega, by omega⟩
          · omega
          all_goals (repeat' first | exact vFn | refine vFc rfl ?_ | exact vHn | refine vHc rfl ?_ | refine vFc (congrArg (fun z => some (V.int z)) ?_) ?_ | refine vHc (congrArg (fun z => some (Blk.ints _ z)) ?_) ?_ | refine vFc (congrArg (fun z => some (V.bool z)) ?_) ?_ | refine vFs rfl rfl ?_ ?_)
          all_goals dsimp only
          all_goals first
            | (rw [filter_snoc (by omega) (by rw [hc]; rfl)]; simp; done)
            | (rw [filter_skip (by omega) (by rw [hc]; rfl)]; done)
            | (rw [if_pos hc]; exact delM_skip (by omega) hc)
            | (rw [if_neg (by rw [hc]; exact Bool.false_ne_true)]; exact delM_keep h3 (by omega) hc hju))
       all_goals first | with_reducible refine bN ?_ | with_reducible refine bE ?_ | with_reducible refine bR ?_ | refine bX rfl ?_
       all_goals with_reducible refine tN ?_
       all_goals (
        refine cR ?_
        iterate 2 refine oM rfl rfl ?_
        refine oQ (Q_slsL 3 rfl rfl rfl rfl rfl rfl (by omega) (by omega)) rfl rfl ?_; rw [if_neg (show ¬ ck = ((L.take j).filter fun x => !g x).length by omega), Nat.zero_add]
        refine oClear (sz := 3) rfl rfl rfl rfl ⟨by decide, rfl, .inr rfl⟩ rfl rfl (by rw [hdl]; omega) ?_
        refine oN ?_
        refine cR ?_
        iterate 2 refine oM rfl rfl ?_
        refine oQ (Q_slsH rfl rfl rfl rfl rfl (by first | omega | (dsimp only; omega) | (simp; omega) | (simp; done))) rfl rfl ?_
        refine oA rfl rfl ?_
        refine oN ?_
        refine CW_ret ?_))
    all_goals (
     have e : j = L.length := by omega
     subst e
     refine exitH (r0 := .slice 0 0 (L.filter fun x => !g x).length ck) (H0 := [(0, .ints tM ((L.filter fun x => !g x).flatten ++ (List.replicate ((L.length - (L.filter fun x => !g x).length) * 3) 0 ++ sp))), (1000, .ints t0 L0), (1001, .ints t1 L1), (1002, .vals 65 [.func f [] [.ptr 1000 0, .ptr 1001 0]])]) (.inr rfl) [] 1 (.cons (.tmp rfl rfl) .nil) ?_ rfl rfl ?_ rfl rfl ⟨_, by simp, rfl, rfl⟩
     · simp [resV, ren, ap]
     · refine vHc (congrArg (fun z => some (Blk.ints _ z)) ?_) (vHc rfl (vHc rfl (vHc rfl vHn)))
       exact delM_end h3 hju)
theorem pointsThat1_2 (f : Nat) (t0 : TypeId) (L0 : List Int) (t1 : TypeId) (L1 : List Int) (g : List Int → Bool) (m0 : List Int) (hm : m0.length = 3) (hf : ∀ m, m = m0 → ConQ Tryd.prog [] f [.arr m, .ptr 1000 0, .ptr 1001 0] [(1000, .ints t0 L0), (1001, .ints t1 L1)] (.bool (g m))) : ConQ Tryd.prog [] 86 [.arr m0, .ptr 1002 0] [(1000, .ints t0 L0), (1001, .ints t1 L1), (1002, .vals 65 [.func f [] [.ptr 1000 0, .ptr 1001 0]])] (.bool (!(g m0))) := by
  refine conW tab_ok [(0, .arr m0), (1, .ptr 1002 0)] 0 [1000, 1001, 1002] [1000, 1001, 1002] Tryd.func86 rfl rfl rfl rfl rfl rfl rfl rfl rfl ?_
  refine cR ?_
  refine oBox rfl rfl rfl rfl rfl rfl ?_
  refine oA rfl rfl ?_
  refine oN ?_
  refine cR ?_
  refine oQ (Q_ldv rfl rfl rfl rfl rfl rfl) rfl rfl ?_
  refine oQ (Q_ldw rfl rfl rfl rfl hm) rfl rfl ?_
  refine oQ (Q_callf (hf m0 rfl) [] rfl rfl rfl (Fits.mk' (vHc rfl (vHc rfl vHn)) rfl rfl (by first | (simp; done) | exact glOk rfl rfl rfl)) rfl rfl) rfl rfl ?_
  refine oQ (Q_not rfl) rfl rfl ?_
  refine oA rfl rfl ?_
  refine oN ?_
  refine CW_ret ?_
  all_goals (
   ((refine exitQ (.inr rfl) 0 (.cons (.tmp rfl rfl) .nil) ?_ rfl (vHc rfl (vHc rfl (vHc rfl vHn))) rfl rfl); rfl))
theorem pointsThat_2 (f : Nat) (t0 : TypeId) (L0 : List Int) (t1 : TypeId) (L1 : List Int) (g : List Int → Bool) (p : Int) (hp : primeB p = true) (hf : ∀ m, m ∈ allPts p → ConQ Tryd.prog [] f [.arr m, .ptr 1000 0, .ptr 1001 0] [(1000, .ints t0 L0), (1001, .ints t1 L1)] (.bool (g m))) : Con Tryd.prog [] 49 [.int p, .func f [] [.ptr 1000 0, .ptr 1001 0]] [(1000, .ints t0 L0), (1001, .ints t1 L1)] (ownR 3 35 [(1000, .ints t0 L0), (1001, .ints t1 L1)] 0 ((allPts p).filter g)) := by
  have hb := prime_bd hp
  have hal := allPts_len hp
  refine conW tab_ok [(0, .int p), (1, .func f [] [.ptr 1000 0, .ptr 1001 0])] 0 [1000, 1001] [1000, 1001] Tryd.func49 rfl rfl rfl rfl rfl rfl rfl rfl rfl ?_
  refine cR ?_
  refine oBox rfl rfl rfl rfl rfl rfl ?_
  refine oA rfl rfl ?_
  refine oN ?_
  refine cR ?_
  refine oM rfl rfl ?_
  refine oCall (allPoints_con p hp) [] 1 rfl rfl (Fits.mk' vHn rfl rfl (by first | (simp; done) | exact glOk rfl rfl rfl)) rfl rfl ?_
  rintro r H1 ⟨k, sp, hk, hsp, rfl, rfl⟩
  refine ⟨.slice 1 0 (allPts p).length k, [(1, .ints 35 ((allPts p).flatten ++ sp))], rfl, rfl, rfl, ?_⟩
  refine oQ (Q_makeFunc rfl rfl) rfl rfl ?_
  refine oCall (delPointD2 f t0 L0 t1 L1 (fun x => !g x) 35 (allPts p) sp k (fun x hx => allPts_three hx) (by omega) hk (fun m hm => pointsThat1_2 f t0 L0 t1 L1 g m (allPts_three hm) (fun _ e => e ▸ hf m hm))) [(0, 1), (1002, 0)] 0 rfl rfl (Fits.mk' (vHc rfl (vHc rfl (vHc rfl (vHc rfl vHn)))) rfl rfl (by first | (simp; done) | exact glOk rfl rfl rfl)) rfl rfl ?_
  rintro r H1 ⟨z, hz, rfl, rfl⟩
  rw [notnot] at hz ⊢
  refine ⟨.slice 1 0 ((allPts p).filter g).length k, [(1, .ints 35 (((allPts p).filter g).flatten ++ (z ++ sp))), (1000, .ints t0 L0), (1001, .ints t1 L1), (0, .vals 65 [.func f [] [.ptr 1000 0, .ptr 1001 0]])], rfl, rfl, rfl, ?_⟩
  refine oA rfl rfl ?_
  refine oN ?_
  refine CW_ret ?_
  all_goals (
   have hfl := List.length_filter_le g (allPts p)
   exact exitH (r0 := .slice 0 0 ((allPts p).filter g).length k) (.inr rfl) [(0, 1)] 1 (.cons (.tmp rfl rfl) .nil) rfl rfl rfl (vHc rfl (vHc rfl (vHc rfl vHn))) rfl rfl ⟨k, z ++ sp, by omega, by rw [List.length_append, hz]; omega, rfl, rfl⟩)
theorem idxPointD3 (f : Nat) (t0 : TypeId) (L0 : List Int) (t1 : TypeId) (L1 : List Int) (t2 : TypeId) (L2 : List Int) (g : List Int → Bool) (tM : TypeId) (L : List (List Int)) (sp : List Int) (k ck : Nat) (hk : k = L.length) (h3 : ∀ x ∈ L, x.length = 3) (hk9 : L.length ≤ 1000000000) (hf : ∀ m, m ∈ L → ConQ Tryd.prog [] 86 [.arr m, .ptr 1003 0] [(1000, .ints t0 L0), (1001, .ints t1 L1), (1002, .ints t2 L2), (1003, .vals 65 [.func f [] [.ptr 1000 0, .ptr 1001 0, .ptr 1002 0]])] (.bool (g m))) : ConQ Tryd.prog [] 113 [.slice 0 0 k ck, .func 86 [] [.ptr 1003 0]] [(0, .ints tM (L.flatten ++ sp)), (1000, .ints t0 L0), (1001, .ints t1 L1), (1002, .ints t2 L2), (1003, .vals 65 [.func f [] [.ptr 1000 0, .ptr 1001 0, .ptr 1002 0]])] (.int (idxL g L)) := by
  have hfl := flat3 h3
  refine conW tab_ok [(0, .slice 0 0 k ck), (1, .func 86 [] [.ptr 1003 0])] 1 [0, 1000, 1001, 1002, 1003] [0, 1000, 1001, 1002, 1003] Tryd.func113 rfl rfl rfl rfl rfl rfl rfl rfl rfl ?_
  refine cR ?_
  refine oA rfl rfl ?_
  refine oN ?_
  refine CW_seq ?_
  refine cR ?_
  refine oM rfl rfl ?_
  first | refine oQ (Q_len rfl rfl rfl rfl) rfl rfl ?_ | refine oQ (Q_len0 rfl rfl rfl rfl) rfl rfl ?_
  refine oM rfl rfl ?_
  refine oN ?_
  refine CW_block ?_
  refine CW_loop (ι := Nat) (fun i => i ≤ L.length ∧ ∀ j, j < i → g (L.getD j []) = false) (fun i => ⟨[(0, .slice 0 0 k ck), (1, .func 86 [] [.ptr 1003 0]), (7, .int k), (8, .int i)], [(0, .ints tM (L.flatten ++ sp)), (1000, .ints t0 L0), (1001, .ints t1 L1), (1002, .ints t2 L2), (1003, .vals 65 [.func f [] [.ptr 1000 0, .ptr 1001 0, .ptr 1002 0]])], 1⟩) (fun i => L.length - i) 0 ?_ ?_ ?_
  · exact ⟨Nat.zero_le _, fun j h => absurd h (Nat.not_lt_zero _)⟩
  · refine View.mk' [] rfl rfl rfl ?_ ?_
    repeat' first | exact vFn | refine vFc rfl ?_ | exact vHn | refine vHc rfl ?_ | refine vFc (congrArg (fun z => some (V.int z)) ?_) ?_ | refine vHc (congrArg (fun z => some (Blk.ints _ z)) ?_) ?_ | refine vFc (congrArg (fun z => some (V.bool z)) ?_) ?_ | refine vFs rfl rfl ?_ ?_
  rintro i ⟨hi, hi2⟩
  refine cR ?_
  refine oQ (Q_bin rfl rfl rfl) rfl rfl ?_
  refine oN ?_
  refine CW_seq ?_
  first | refine cT rfl ?_ | refine cF rfl ?_ | refine CW_cond rfl (fun hc => ?_) (fun hc => ?_)
  all_goals try simp only [s1, s2, s3, s4, s5, s6, s7, s8, s9, s10, s11, s12] at hc
  all_goals first
    | (
     refine CW_skip ?_)
    | (
     refine CW_exit ?_)
  all_goals first
    | with_reducible refine tR ?_
    | with_reducible refine tE ?_
    | (
     with_reducible refine tN ?_
     refine CW_seq ?_
     refine CW_block ?_
     refine cR ?_
     refine oM rfl rfl ?_
     refine oA rfl rfl ?_
     refine oN ?_
     refine cR ?_
     iterate 3 refine oM rfl rfl ?_
     first | refine oQ (Q_ixs0z 3 rfl rfl rfl rfl rfl rfl (by first | omega | (dsimp only; omega) | (simp; omega) | (simp; done))) rfl rfl ?_ | refine oQ (Q_ixsz 3 rfl rfl rfl rfl rfl rfl (by first | omega | (dsimp only; omega) | (simp; omega) | (simp; done))) rfl rfl ?_
     refine oQ (Q_lda (n := 3) rfl rfl rfl rfl rfl (by rw [List.length_append, hfl]; omega)) rfl rfl ?_; rw [flat_get h3 (show i < L.length by omega)]
     refine oQ (Q_callf (hf _ (getD_mem (by omega))) [] rfl rfl rfl (Fits.mk' (vHc rfl (vHc rfl (vHc rfl (vHc rfl vHn)))) rfl rfl (by first | (simp; done) | exact glOk rfl rfl rfl)) rfl rfl) rfl rfl ?_
     refine oN ?_
     first | refine cT rfl ?_ | refine cF rfl ?_ | refine CW_cond rfl (fun hc => ?_) (fun hc => ?_)
     all_goals try simp only [s1, s2, s3, s4, s5, s6, s7, s8, s9, s10, s11, s12] at hc
     all_goals first
       | (
        refine CW_skip ?_)
       | (
        refine cR ?_
        refine oM rfl rfl ?_
        refine oA rfl rfl ?_
        refine oN ?_
        refine CW_ret ?_)
     all_goals first | with_reducible refine bN ?_ | with_reducible refine bE ?_ | with_reducible refine bR ?_ | refine bX rfl ?_
     all_goals first
       | with_reducible refine tR ?_
       | with_reducible refine tE ?_
       | (
        with_reducible refine tN ?_
        refine CW_region ?_
        first | refine oQ (Q_binu rfl rfl rfl (by omega)) rfl rfl ?_ | refine oQ (Q_bin rfl rfl rfl) rfl rfl ?_
        refine oM rfl rfl ?_
        refine OW_nil ?_))
  all_goals first
    | with_reducible refine tR ?_
    | with_reducible refine tE ?_
    | (
     with_reducible refine tN ?_
     refine ⟨i + 1, ?_, ?_, View.mk' [] rfl rfl rfl ?_ ?_⟩
     · refine ⟨by omega, fun j hj => ?_⟩
       by_cases e : j = i
       · subst e; exact hc
       · exact hi2 j (by omega)
     · omega
     all_goals (repeat' first | exact vFn | refine vFc rfl ?_ | exact vHn | refine vHc rfl ?_ | refine vFc (congrArg (fun z => some (V.int z)) ?_) ?_ | refine vHc (congrArg (fun z => some (Blk.ints _ z)) ?_) ?_ | refine vFc (congrArg (fun z => some (V.bool z)) ?_) ?_ | refine vFs rfl rfl ?_ ?_))
  all_goals first | with_reducible refine bN ?_ | with_reducible refine bE ?_ | with_reducible refine bR ?_ | refine bX rfl ?_
  all_goals first
    | with_reducible refine tR ?_
    | with_reducible refine tE ?_
    | (
     with_reducible refine tN ?_
     refine cR ?_
     refine oA rfl rfl ?_
     refine oN ?_
     refine CW_ret ?_)
  all_goals (
   refine exitQ (.inr rfl) 1 (.cons (.tmp rfl rfl) .nil) ?_ rfl (vHc rfl (vHc rfl (vHc rfl (vHc rfl (vHc rfl vHn))))) rfl rfl
   first
     | exact congrArg V.int (idxL_found (by omega) hi2 hc).symm
     | exact congrArg V.int (idxL_none (fun j hj => hi2 j (by omega))).symm)
theorem delPointD3 (f : Nat) (t0 : TypeId) (L0 : List Int) (t1 : TypeId) (L1 : List Int) (t2 : TypeId) (L2 : List Int) (g : List Int → Bool) (tM : TypeId) (L : List (List Int)) (sp : List Int) (ck : Nat) (h3 : ∀ x ∈ L, x.length = 3) (hk9 : L.length ≤ 1000000000) (hck : L.length ≤ ck) (hf : ∀ m, m ∈ L → ConQ Tryd.prog [] 86 [.arr m, .ptr 1003 0] [(1000, .ints t0 L0), (1001, .ints t1 L1), (1002, .ints t2 L2), (1003, .vals 65 [.func f [] [.ptr 1000 0, .ptr 1001 0, .ptr 1002 0]])] (.bool (g m))) : Con Tryd.prog [] 84 [.slice 0 0 L.length ck, .func 86 [] [.ptr 1003 0]] [(0, .ints tM (L.flatten ++ sp)), (1000, .ints t0 L0), (1001, .ints t1 L1), (1002, .ints t2 L2), (1003, .vals 65 [.func f [] [.ptr 1000 0, .ptr 1001 0, .ptr 1002 0]])] (fun r H' => ∃ z, z.length = (L.length - (L.filter fun x => !g x).length) * 3 ∧ r = .slice 0 0 (L.filter fun x => !g x).length ck ∧ H' = [(0, .ints tM ((L.filter fun x => !g x).flatten ++ (z ++ sp))), (1000, .ints t0 L0), (1001, .ints t1 L1), (1002, .ints t2 L2), (1003, .vals 65 [.func f [] [.ptr 1000 0, .ptr 1001 0, .ptr 1002 0]])]) := by
  have hfl := flat3 h3
  rcases idxL_cases g L with ⟨hix, hix1⟩ | ⟨a, hix, ha, ha1, ha2⟩
  · have hall : (L.filter fun x => !g x) = L := by rw [List.filter_eq_self]; intro x hx; simp [hix1 x hx]
    rw [hall]
    refine conW tab_ok [(0, .slice 0 0 L.length ck), (1, .func 86 [] [.ptr 1003 0])] 1 [0, 1000, 1001, 1002, 1003] [0, 1000, 1001, 1002, 1003] Tryd.func84 rfl rfl rfl rfl rfl rfl rfl rfl rfl ?_
    refine cR ?_
    refine oA rfl rfl ?_
    refine oN ?_
    refine cR ?_
    iterate 2 refine oM rfl rfl ?_
    refine oQ (Q_call (idxPointD3 f t0 L0 t1 L1 t2 L2 g tM L sp L.length ck rfl h3 hk9 hf) [] rfl rfl (Fits.mk' (vHc rfl (vHc rfl (vHc rfl (vHc rfl (vHc rfl vHn))))) rfl rfl (by first | (simp; done) | exact glOk rfl rfl rfl)) rfl rfl) rfl rfl ?_
    refine oA rfl rfl ?_
    refine oN ?_
    refine CW_seq ?_
    refine cR ?_
    refine oM rfl rfl ?_
    refine oQ (Q_bin rfl rfl rfl) rfl rfl ?_; rw [hix]
    refine oN ?_
    first | refine cT rfl ?_ | refine cF rfl ?_ | refine CW_cond rfl (fun hc => ?_) (fun hc => ?_)
    all_goals try simp only [s1, s2, s3, s4, s5, s6, s7, s8, s9, s10, s11, s12] at hc
    all_goals try (exfalso; first | omega | (simp at hc); done)
    all_goals first
      | (
       refine CW_skip ?_)
      | (
       refine cR ?_
       refine oM rfl rfl ?_
       refine oA rfl rfl ?_
       refine oN ?_
       refine CW_ret ?_)
    all_goals first
      | with_reducible refine tR ?_
      | with_reducible refine tE ?_
      | (
       with_reducible refine tN ?_
       refine CW_seq ?_
       refine cR ?_
       refine oM rfl rfl ?_
       first | refine oQ (Q_binu rfl rfl rfl (by omega)) rfl rfl ?_ | refine oQ (Q_bin rfl rfl rfl) rfl rfl ?_
       refine oA rfl rfl ?_
       refine oN ?_
       refine CW_block ?_
       exfalso; simp at hc
       · first | trivial | omega | (simp; done) | (simp; omega)
       · refine View.mk' [] rfl rfl rfl ?_ ?_
         repeat' first | exact vFn | refine vFc rfl ?_ | exact vHn | refine vHc rfl ?_ | refine vFc (congrArg (fun z => some (V.int z)) ?_) ?_ | refine vHc (congrArg (fun z => some (Blk.ints _ z)) ?_) ?_ | refine vFc (congrArg (fun z => some (V.bool z)) ?_) ?_ | refine vFs rfl rfl ?_ ?_
       intro i hi
       refine CW_seq ?_
       refine cR ?_
       iterate 2 refine oM rfl rfl ?_
       first | refine oQ (Q_len rfl rfl rfl rfl) rfl rfl ?_ | refine oQ (Q_len0 rfl rfl rfl rfl) rfl rfl ?_
       refine oQ (Q_bin rfl rfl rfl) rfl rfl ?_
       refine oN ?_
       first | refine cT rfl ?_ | refine cF rfl ?_ | refine CW_cond rfl (fun hc => ?_) (fun hc => ?_)
       all_goals try simp only [s1, s2, s3, s4, s5, s6, s7, s8, s9, s10, s11, s12] at hc
       all_goals try (exfalso; first | omega | (simp at hc); done)
       all_goals first
         | (
          refine CW_skip ?_)
         | (
          refine CW_exit ?_)
       all_goals first
         | with_reducible refine tR ?_
         | with_reducible refine tE ?_
         | (
          with_reducible refine tN ?_
          refine CW_seq ?_
          refine CW_block ?_
          refine cR ?_
          iterate 2 refine oM rfl rfl ?_
          first | refine oQ (Q_ixs0z 3 rfl rfl rfl rfl rfl rfl (by first | omega | (dsimp only; omega) | (simp; omega) | (simp; done))) rfl rfl ?_ | refine oQ (Q_ixsz 3 rfl rfl rfl rfl rfl rfl (by first | omega | (dsimp only; omega) | (simp; omega) | (simp; done))) rfl rfl ?_
          first | refine oQ (Lw rfl rfl rfl rfl) rfl rfl ?_ | refine oQ (La rfl rfl rfl rfl rfl) rfl rfl ?_
          refine oAlloc rfl rfl rfl rfl rfl rfl rfl ?_
          first | refine oSw rfl rfl rfl rfl ?_ | refine oSa rfl rfl rfl rfl ?_
          refine oN ?_
          refine cR ?_
          refine oM rfl rfl ?_
          first | refine oQ (Lw rfl rfl rfl rfl) rfl rfl ?_ | refine oQ (La rfl rfl rfl rfl rfl) rfl rfl ?_
          fail "call of a value at slot 28"
          refine oQ (Q_not rfl) rfl rfl ?_
          refine oN ?_
          first | refine cT rfl ?_ | refine cF rfl ?_ | refine CW_cond rfl (fun hc => ?_) (fun hc => ?_)
          all_goals try simp only [s1, s2, s3, s4, s5, s6, s7, s8, s9, s10, s11, s12] at hc
          all_goals try (exfalso; first | omega | (simp at hc); done)
          all_goals first
            | (
             refine CW_skip ?_)
            | (
             refine cR ?_
             iterate 2 refine oM rfl rfl ?_
             first | refine oQ (Lw rfl rfl rfl rfl) rfl rfl ?_ | refine oQ (La rfl rfl rfl rfl rfl) rfl rfl ?_
             first | refine oQ (Q_ixs0z 3 rfl rfl rfl rfl rfl rfl (by first | omega | (dsimp only; omega) | (simp; omega) | (simp; done))) rfl rfl ?_ | refine oQ (Q_ixsz 3 rfl rfl rfl rfl rfl rfl (by first | omega | (dsimp only; omega) | (simp; omega) | (simp; done))) rfl rfl ?_
             first | refine oSw rfl rfl rfl rfl ?_ | refine oSa rfl rfl rfl rfl ?_
             refine oN ?_
             refine CW_region ?_
             refine oM rfl rfl ?_
             first | refine oQ (Q_binu rfl rfl rfl (by omega)) rfl rfl ?_ | refine oQ (Q_bin rfl rfl rfl) rfl rfl ?_
             refine oA rfl rfl ?_
             refine OW_nil ?_)
          all_goals first | with_reducible refine bN ?_ | with_reducible refine bE ?_ | with_reducible refine bR ?_ | refine bX rfl ?_
          all_goals with_reducible refine tN ?_
          all_goals (
           refine CW_region ?_
           refine oM rfl rfl ?_
           first | refine oQ (Q_binu rfl rfl rfl (by omega)) rfl rfl ?_ | refine oQ (Q_bin rfl rfl rfl) rfl rfl ?_
           refine oA rfl rfl ?_
           refine OW_nil ?_))
       all_goals first
         | with_reducible refine tR ?_
         | with_reducible refine tE ?_
         | (
          with_reducible refine tN ?_
          fail "again 0")
       all_goals first | with_reducible refine bN ?_ | with_reducible refine bE ?_ | with_reducible refine bR ?_ | refine bX rfl ?_
       all_goals with_reducible refine tN ?_
       all_goals (
        refine cR ?_
        iterate 2 refine oM rfl rfl ?_
        refine oQ (Q_slsL 3 rfl rfl rfl rfl rfl rfl (by first | omega | (dsimp only; omega) | (simp; omega) | (simp; done)) (by first | omega | (dsimp only; omega) | (simp; omega) | (simp; done))) rfl rfl ?_
        fail "builtin clear at slot None"
        refine oN ?_
        refine cR ?_
        iterate 2 refine oM rfl rfl ?_
        refine oQ (Q_slsH rfl rfl rfl rfl rfl (by first | omega | (dsimp only; omega) | (simp; omega) | (simp; done))) rfl rfl ?_
        refine oA rfl rfl ?_
        refine oN ?_
        refine CW_ret ?_))
    all_goals (
     exact exitH (r0 := .slice 0 0 L.length ck) (.inr rfl) [] 1 (.cons (.tmp rfl rfl) .nil) rfl rfl rfl (vHc rfl (vHc rfl (vHc rfl (vHc rfl (vHc rfl vHn))))) rfl rfl ⟨[], by simp, rfl, rfl⟩)
  · have hall : ((L.take a).filter fun x => !g x) = L.take a := by rw [List.filter_eq_self]; intro x hx; simp [ha2 x hx]
    refine conW tab_ok [(0, .slice 0 0 L.length ck), (1, .func 86 [] [.ptr 1003 0])] 1 [0, 1000, 1001, 1002, 1003] [0, 1000, 1001, 1002, 1003] Tryd.func84 rfl rfl rfl rfl rfl rfl rfl rfl rfl ?_
    refine cR ?_
    refine oA rfl rfl ?_
    refine oN ?_
    refine cR ?_
    iterate 2 refine oM rfl rfl ?_
    refine oQ (Q_call (idxPointD3 f t0 L0 t1 L1 t2 L2 g tM L sp L.length ck rfl h3 hk9 hf) [] rfl rfl (Fits.mk' (vHc rfl (vHc rfl (vHc rfl (vHc rfl (vHc rfl vHn))))) rfl rfl (by first | (simp; done) | exact glOk rfl rfl rfl)) rfl rfl) rfl rfl ?_
    refine oA rfl rfl ?_
    refine oN ?_
    refine CW_seq ?_
    refine cR ?_
    refine oM rfl rfl ?_
    refine oQ (Q_bin rfl rfl rfl) rfl rfl ?_
    refine oN ?_
    first | refine cT rfl ?_ | refine cF rfl ?_ | refine CW_cond rfl (fun hc => ?_) (fun hc => ?_)
    all_goals try simp only [s1, s2, s3, s4, s5, s6, s7, s8, s9, s10, s11, s12] at hc
    all_goals try (exfalso; first | omega | (simp at hc); done)
    all_goals first
      | (
       refine CW_skip ?_)
      | (
       refine cR ?_
       refine oM rfl rfl ?_
       refine oA rfl rfl ?_
       refine oN ?_
       refine CW_ret ?_)
    all_goals first
      | with_reducible refine tR ?_
      | with_reducible refine tE ?_
      | (
       with_reducible refine tN ?_
       refine CW_seq ?_
       refine cR ?_
       refine oM rfl rfl ?_
       first | refine oQ (Q_binu rfl rfl rfl (by omega)) rfl rfl ?_ | refine oQ (Q_bin rfl rfl rfl) rfl rfl ?_
       refine oA rfl rfl ?_
       refine oN ?_
       refine CW_block ?_
       refine CW_loop (ι := Nat × List Int) (fun x => x.1 ≤ L.length ∧ x.2.length + ((L.take x.1).filter fun x => !g x).length * 3 = x.1 * 3 ∧ ((L.take x.1).filter fun x => !g x).length < x.1) (fun x => ⟨[(0, .slice 0 0 L.length ck), (1, .func 86 [] [.ptr 1003 0]), (5, .int (((L.take x.1).filter fun x => !g x).length : Nat)), (6, .int (x.1 : Int))], [(0, .ints tM (delM 3 g L x.1 x.2 sp)), (1000, .ints t0 L0), (1001, .ints t1 L1), (1002, .ints t2 L2), (1003, .vals 65 [.func f [] [.ptr 1000 0, .ptr 1001 0, .ptr 1002 0]])], 1⟩) (fun x => L.length - x.1) (a + 1, L.getD a []) ?_ ?_ ?_
       · refine ⟨ha, ?_⟩; rw [filter_skip ha (by rw [ha1]; rfl), hall, List.length_take, h3 _ (getD_mem ha)]; exact ⟨by omega, by dsimp only; omega⟩
       · refine View.mk' [] rfl rfl rfl ?_ ?_
         repeat' first | exact vFn | refine vFc rfl ?_ | exact vHn | refine vHc rfl ?_ | refine vFc (congrArg (fun z => some (V.int z)) ?_) ?_ | refine vHc (congrArg (fun z => some (Blk.ints _ z)) ?_) ?_ | refine vFc (congrArg (fun z => some (V.bool z)) ?_) ?_ | refine vFs rfl rfl ?_ ?_
         · rw [hix, filter_skip ha (by rw [ha1]; rfl), hall, List.length_take, Nat.min_eq_left (by omega)]
         · rw [hix]; rfl
         · have hd := delM_skip (sz := 3) (junk := []) (sp := sp) ha ha1; rw [List.nil_append] at hd; dsimp only; rw [← hd]; unfold delM; rw [hall, List.nil_append, ← List.append_assoc, ← List.flatten_append, List.take_append_drop]
       rintro ⟨j, junk⟩ ⟨hj, hju, hlt⟩
       dsimp only at hj hju hlt ⊢
       have hfn := filter_len (g := fun x => !g x) j hj
       have hdl := delM_len (sp := sp) h3 hj hju
       have hdl2 := fun h : j < L.length => h3 _ (getD_mem h)
       refine CW_seq ?_
       refine cR ?_
       iterate 2 refine oM rfl rfl ?_
       first | refine oQ (Q_len rfl rfl rfl rfl) rfl rfl ?_ | refine oQ (Q_len0 rfl rfl rfl rfl) rfl rfl ?_
       refine oQ (Q_bin rfl rfl rfl) rfl rfl ?_
       refine oN ?_
       first | refine cT rfl ?_ | refine cF rfl ?_ | refine CW_cond rfl (fun hc => ?_) (fun hc => ?_)
       all_goals try simp only [s1, s2, s3, s4, s5, s6, s7, s8, s9, s10, s11, s12] at hc
       all_goals try (exfalso; first | omega | (simp at hc); done)
       all_goals first
         | (
          refine CW_skip ?_)
         | (
          refine CW_exit ?_)
       all_goals first
         | with_reducible refine tR ?_
         | with_reducible refine tE ?_
         | (
          with_reducible refine tN ?_
          refine CW_seq ?_
          refine CW_block ?_
          refine cR ?_
          iterate 2 refine oM rfl rfl ?_
          first | refine oQ (Q_ixs0z 3 rfl rfl rfl rfl rfl rfl (by first | omega | (dsimp only; omega) | (simp; omega) | (simp; done))) rfl rfl ?_ | refine oQ (Q_ixsz 3 rfl rfl rfl rfl rfl rfl (by first | omega | (dsimp only; omega) | (simp; omega) | (simp; done))) rfl rfl ?_
          refine oQ (Q_lda (n := 3) rfl rfl rfl rfl rfl (by rw [hdl]; omega)) rfl rfl ?_; rw [delM_get h3 (show j < L.length by omega) hju]
          refine oAlloc rfl rfl rfl rfl rfl rfl rfl ?_
          first | refine oSw rfl rfl rfl rfl ?_ | refine oSa rfl rfl rfl rfl ?_
          refine oN ?_
          refine cR ?_
          refine oM rfl rfl ?_
          first | refine oQ (Lw rfl rfl rfl rfl) rfl rfl ?_ | refine oQ (La rfl rfl rfl rfl rfl) rfl rfl ?_
          refine oQ (Q_callf (hf _ (getD_mem (by omega))) [] rfl rfl rfl (Fits.mk' (vHc rfl (vHc rfl (vHc rfl (vHc rfl vHn)))) rfl rfl (by first | (simp; done) | exact glOk rfl rfl rfl)) rfl rfl) rfl rfl ?_
          refine oQ (Q_not rfl) rfl rfl ?_
          refine oN ?_
          first | refine cT rfl ?_ | refine cF rfl ?_ | refine CW_cond rfl (fun hc => ?_) (fun hc => ?_)
          all_goals try simp only [s1, s2, s3, s4, s5, s6, s7, s8, s9, s10, s11, s12] at hc
          all_goals try (exfalso; first | omega | (simp at hc); done)
          all_goals first
            | (
             refine CW_skip ?_)
            | (
             refine cR ?_
             iterate 2 refine oM rfl rfl ?_
             first | refine oQ (Lw rfl rfl rfl rfl) rfl rfl ?_ | refine oQ (La rfl rfl rfl rfl rfl) rfl rfl ?_
             refine oQ (Q_ixs0z 3 rfl rfl rfl rfl rfl rfl (by omega)) rfl rfl ?_
             first | refine oSw rfl rfl rfl rfl ?_ | refine oSa rfl rfl rfl rfl ?_
             refine oN ?_
             refine CW_region ?_
             refine oM rfl rfl ?_
             first | refine oQ (Q_binu rfl rfl rfl (by omega)) rfl rfl ?_ | refine oQ (Q_bin rfl rfl rfl) rfl rfl ?_
             refine oA rfl rfl ?_
             refine OW_nil ?_)
          all_goals first | with_reducible refine bN ?_ | with_reducible refine bE ?_ | with_reducible refine bR ?_ | refine bX rfl ?_
          all_goals with_reducible refine tN ?_
          all_goals (
           refine CW_region ?_
           refine oM rfl rfl ?_
           first | refine oQ (Q_binu rfl rfl rfl (by omega)) rfl rfl ?_ | refine oQ (Q_bin rfl rfl rfl) rfl rfl ?_
           refine oA rfl rfl ?_
           refine OW_nil ?_))
       all_goals first
         | with_reducible refine tR ?_
         | with_reducible refine tE ?_
         | (
          with_reducible refine tN ?_
          refine ⟨(j + 1, if g (L.getD j []) = true then junk ++ L.getD j [] else (junk ++ L.getD j []).drop 3), ?_, ?_, View.mk' [] rfl rfl rfl ?_ ?_⟩
          · have e3 := h3 _ (getD_mem (show j < L.length by omega))
            refine ⟨by dsimp only; omega, ?_⟩
            dsimp only
            cases hg : g (L.getD j [])
            · rw [filter_snoc (by omega) (by rw [hg]; rfl)]; simp only [Bool.false_eq_true, if_false, List.length_drop, List.length_append, List.length_cons, List.length_nil, e3]; exact ⟨by omega, by omega⟩
            · rw [filter_skip (by omega) (by rw [hg]; rfl)]; simp only [if_true, List.length_append, e3]; exact ⟨by omega, by omega⟩
          · omega
          all_goals (repeat' first | exact vFn | refine vFc rfl ?_ | exact vHn | refine vHc rfl ?_ | refine vFc (congrArg (fun z => some (V.int z)) ?_) ?_ | refine vHc (congrArg (fun z => some (Blk.ints _ z)) ?_) ?_ | refine vFc (congrArg (fun z => some (V.bool z)) ?_) ?_ | refine vFs rfl rfl ?_ ?_)
          all_goals dsimp only
          all_goals first
            | (rw [filter_snoc (by omega) (by rw [hc]; rfl)]; simp; done)
            | (rw [filter_skip (by omega) (by rw [hc]; rfl)]; done)
            | (rw [if_pos hc]; exact delM_skip (by omega) hc)
            | (rw [if_neg (by rw [hc]; exact Bool.false_ne_true)]; exact delM_keep h3 (by omega) hc hju))
       all_goals first | with_reducible refine bN ?_ | with_reducible refine bE ?_ | with_reducible refine bR ?_ | refine bX rfl ?_
       all_goals with_reducible refine tN ?_
       all_goals (
        refine cR ?_
        iterate 2 refine oM rfl rfl ?_
        refine oQ (Q_slsL 3 rfl rfl rfl rfl rfl rfl (by omega) (by omega)) rfl rfl ?_; rw [if_neg (show ¬ ck = ((L.take j).filter fun x => !g x).length by omega), Nat.zero_add]
        refine oClear (sz := 3) rfl rfl rfl rfl ⟨by decide, rfl, .inr rfl⟩ rfl rfl (by rw [hdl]; omega) ?_
        refine oN ?_
        refine cR ?_
        iterate 2 refine oM rfl rfl ?_
        refine oQ (Q_slsH rfl rfl rfl rfl rfl (by first | omega | (dsimp only; omega) | (simp; omega) | (simp; done))) rfl rfl ?_
        refine oA rfl rfl ?_
        refine oN ?_
        refine CW_ret ?_))
    all_goals (
     have e : j = L.length := by omega
     subst e
     refine exitH (r0 := .slice 0 0 (L.filter fun x => !g x).length ck) (H0 := [(0, .ints tM ((L.filter fun x => !g x).flatten ++ (List.replicate ((L.length - (L.filter fun x => !g x).length) * 3) 0 ++ sp))), (1000, .ints t0 L0), (1001, .ints t1 L1), (1002, .ints t2 L2), (1003, .vals 65 [.func f [] [.ptr 1000 0, .ptr 1001 0, .ptr 1002 0]])]) (.inr rfl) [] 1 (.cons (.tmp rfl rfl) .nil) ?_ rfl rfl ?_ rfl rfl ⟨_, by simp, rfl, rfl⟩
     · simp [resV, ren, ap]
     · refine vHc (congrArg (fun z => some (Blk.ints _ z)) ?_) (vHc rfl (vHc rfl (vHc rfl (vHc rfl vHn))))
       exact delM_end h3 hju)
theorem pointsThat1_3 (f : Nat) (t0 : TypeId) (L0 : List Int) (t1 : TypeId) (L1 : List Int) (t2 : TypeId) (L2 : List Int) (g : List Int → Bool) (m0 : List Int) (hm : m0.length = 3) (hf : ∀ m, m = m0 → ConQ Tryd.prog [] f [.arr m, .ptr 1000 0, .ptr 1001 0, .ptr 1002 0] [(1000, .ints t0 L0), (1001, .ints t1 L1), (1002, .ints t2 L2)] (.bool (g m))) : ConQ Tryd.prog [] 86 [.arr m0, .ptr 1003 0] [(1000, .ints t0 L0), (1001, .ints t1 L1), (1002, .ints t2 L2), (1003, .vals 65 [.func f [] [.ptr 1000 0, .ptr 1001 0, .ptr 1002 0]])] (.bool (!(g m0))) := by
  refine conW tab_ok [(0, .arr m0), (1, .ptr 1003 0)] 0 [1000, 1001, 1002, 1003] [1000, 1001, 1002, 1003] Tryd.func86 rfl rfl rfl rfl rfl rfl rfl rfl rfl ?_
  refine cR ?_
  refine oBox rfl rfl rfl rfl rfl rfl ?_
  refine oA rfl rfl ?_
  refine oN ?_
  refine cR ?_
  refine oQ (Q_ldv rfl rfl rfl rfl rfl rfl) rfl rfl ?_
  refine oQ (Q_ldw rfl rfl rfl rfl hm) rfl rfl ?_
  refine oQ (Q_callf (hf m0 rfl) [] rfl rfl rfl (Fits.mk' (vHc rfl (vHc rfl (vHc rfl vHn))) rfl rfl (by first | (simp; done) | exact glOk rfl rfl rfl)) rfl rfl) rfl rfl ?_
  refine oQ (Q_not rfl) rfl rfl ?_
  refine oA rfl rfl ?_
  refine oN ?_
  refine CW_ret ?_
  all_goals (
   ((refine exitQ (.inr rfl) 0 (.cons (.tmp rfl rfl) .nil) ?_ rfl (vHc rfl (vHc rfl (vHc rfl (vHc rfl vHn)))) rfl rfl); rfl))
theorem pointsThat_3 (f : Nat) (t0 : TypeId) (L0 : List Int) (t1 : TypeId) (L1 : List Int) (t2 : TypeId) (L2 : List Int) (g : List Int → Bool) (p : Int) (hp : primeB p = true) (hf : ∀ m, m ∈ allPts p → ConQ Tryd.prog [] f [.arr m, .ptr 1000 0, .ptr 1001 0, .ptr 1002 0] [(1000, .ints t0 L0), (1001, .ints t1 L1), (1002, .ints t2 L2)] (.bool (g m))) : Con Tryd.prog [] 49 [.int p, .func f [] [.ptr 1000 0, .ptr 1001 0, .ptr 1002 0]] [(1000, .ints t0 L0), (1001, .ints t1 L1), (1002, .ints t2 L2)] (ownR 3 35 [(1000, .ints t0 L0), (1001, .ints t1 L1), (1002, .ints t2 L2)] 0 ((allPts p).filter g)) := by
  have hb := prime_bd hp
  have hal := allPts_len hp
  refine conW tab_ok [(0, .int p), (1, .func f [] [.ptr 1000 0, .ptr 1001 0, .ptr 1002 0])] 0 [1000, 1001, 1002] [1000, 1001, 1002] Tryd.func49 rfl rfl rfl rfl rfl rfl rfl rfl rfl ?_
  refine cR ?_
  refine oBox rfl rfl rfl rfl rfl rfl ?_
  refine oA rfl rfl ?_
  refine oN ?_
  refine cR ?_
  refine oM rfl rfl ?_
  refine oCall (allPoints_con p hp) [] 1 rfl rfl (Fits.mk' vHn rfl rfl (by first | (simp; done) | exact glOk rfl rfl rfl)) rfl rfl ?_
  rintro r H1 ⟨k, sp, hk, hsp, rfl, rfl⟩
  refine ⟨.slice 1 0 (allPts p).length k, [(1, .ints 35 ((allPts p).flatten ++ sp))], rfl, rfl, rfl, ?_⟩
  refine oQ (Q_makeFunc rfl rfl) rfl rfl ?_
  refine oCall (delPointD3 f t0 L0 t1 L1 t2 L2 (fun x => !g x) 35 (allPts p) sp k (fun x hx => allPts_three hx) (by omega) hk (fun m hm => pointsThat1_3 f t0 L0 t1 L1 t2 L2 g m (allPts_three hm) (fun _ e => e ▸ hf m hm))) [(0, 1), (1003, 0)] 0 rfl rfl (Fits.mk' (vHc rfl (vHc rfl (vHc rfl (vHc rfl (vHc rfl vHn))))) rfl rfl (by first | (simp; done) | exact glOk rfl rfl rfl)) rfl rfl ?_
  rintro r H1 ⟨z, hz, rfl, rfl⟩
  rw [notnot] at hz ⊢
  refine ⟨.slice 1 0 ((allPts p).filter g).length k, [(1, .ints 35 (((allPts p).filter g).flatten ++ (z ++ sp))), (1000, .ints t0 L0), (1001, .ints t1 L1), (1002, .ints t2 L2), (0, .vals 65 [.func f [] [.ptr 1000 0, .ptr 1001 0, .ptr 1002 0]])], rfl, rfl, rfl, ?_⟩
  refine oA rfl rfl ?_
  refine oN ?_
  refine CW_ret ?_
  all_goals (
   have hfl := List.length_filter_le g (allPts p)
   exact exitH (r0 := .slice 0 0 ((allPts p).filter g).length k) (.inr rfl) [(0, 1)] 1 (.cons (.tmp rfl rfl) .nil) rfl rfl rfl (vHc rfl (vHc rfl (vHc rfl (vHc rfl vHn)))) rfl rfl ⟨k, z ++ sp, by omega, by rw [List.length_append, hz]; omega, rfl, rfl⟩)
end Go.Proofs.YtlhlnaehfjojiaaDoor
