/- Free points of arcs: the reference. Printed by gen_r8.py. -/
import Derived.Test.YtmcmbpoebhjecaaR3
import Derived.Test.YtmcmbpoebhjecaaR2
namespace Go.Proofs.Ytmcmbpoebhjecaa
set_option maxRecDepth 10000
set_option linter.unusedSimpArgs false
set_option linter.unusedVariables false
def hasB (L : List (List Int)) (a : List Int) : Bool := L.any fun x => decide (x = a)
theorem has_yes {L : List (List Int)} {a : List Int} {i : Nat} (hi : i < L.length) (h : L.getD i [] = a) : true = hasB L a := by
  symm
  rw [hasB, List.any_eq_true]
  exact ⟨_, getD_mem hi, decide_eq_true h⟩
theorem has_no {L : List (List Int)} {a : List Int} (h : ∀ j, j < L.length → ¬ L.getD j [] = a) : false = hasB L a := by
  symm
  rw [hasB, List.any_eq_false]
  intro x hx
  obtain ⟨j, hj, rfl⟩ := List.getElem_of_mem hx
  have := h j hj
  rw [getD_lt hj] at this
  simpa using this
def pairB (p : Int) (L : List (List Int)) (m : List Int) : Bool := (List.range L.length).all fun k => (List.range k).all fun j => !(detT m (L.getD k []) (L.getD j []) % p == 0)
theorem pairB_iff {p : Int} {L : List (List Int)} {m : List Int} : pairB p L m = true ↔ ∀ k, k < L.length → ∀ j, j < k → ¬ detT m (L.getD k []) (L.getD j []) % p = 0 := by
  simp [pairB, List.all_eq_true]
def freeB (p : Int) (L : List (List Int)) (m : List Int) : Bool := !hasB L m && pairB p L m
def freeV (p : Int) (L : List (List Int)) : List (List Int) := (allPts p).filter (freeB p L)
theorem free_has {p : Int} {L : List (List Int)} {m : List Int} (h : (!hasB L m) = false) : freeB p L m = false := by rw [freeB, h, Bool.false_and]
theorem free_det {p : Int} {L : List (List Int)} {m : List Int} {k j : Nat} (hk : k < L.length) (hj : j < k) (h : detT m (L.getD k []) (L.getD j []) % p = 0) : freeB p L m = false := by
  have : pairB p L m = false := by
    rw [Bool.eq_false_iff]
    exact fun h' => pairB_iff.1 h' k hk j hj h
  rw [freeB, this, Bool.and_false]
theorem free_end {p : Int} {L : List (List Int)} {m : List Int} {k : Nat} {b : Bool} (hT : b = true → (!hasB L m) = true ∧ ∀ k', k' < k → ∀ j', j' < k' → ¬ detT m (L.getD k' []) (L.getD j' []) % p = 0) (hF : b = false → freeB p L m = false) (h : b = false ∨ L.length ≤ k) : b = freeB p L m := by
  cases b
  · exact (hF rfl).symm
  · obtain ⟨h1, h2⟩ := hT rfl
    rcases h with h | h
    · cases h
    · symm
      rw [freeB, h1, Bool.true_and]
      exact pairB_iff.2 fun k' hk' => h2 k' (by omega)
attribute [local irreducible] CW OW QW QOp Con thenP inBlockP

theorem l07Has_con (L : List (List Int)) (sp : List Int) (k : Nat) (h3 : ∀ x ∈ L, x.length = 3) (a : List Int) (ha : a.length = 3) (hn9 : L.length ≤ 1000000000) : ConQ Try.prog [] 96 [.slice 0 0 L.length k, .arr a] [(0, .ints 49 (L.flatten ++ sp))] (.bool (hasB L a)) := by
  have hf3 := flat3 h3
  have h3i : ∀ i, i < L.length → (L.getD i []).length = 3 := fun i hi => h3 _ (getD_mem hi)
  refine conW tab_ok [(0, .slice 0 0 L.length k), (1, .arr a)] 1 [0] [0] Try.func96 rfl rfl rfl rfl rfl rfl rfl rfl rfl ?_
  refine cR ?_
  refine oBox rfl rfl rfl rfl rfl rfl ?_
  refine oA rfl rfl ?_
  refine oN ?_
  refine CW_seq ?_
  refine cR ?_
  refine oA rfl rfl ?_
  refine oN ?_
  refine CW_block ?_
  refine CW_loop (ι := Nat) (fun i => i ≤ L.length ∧ ∀ j, j < i → ¬ L.getD j [] = a) (fun i => ⟨[(0, .slice 0 0 L.length k), (3, .ptr 1 0), (5, .int (i : Nat))], [(0, .ints 49 (L.flatten ++ sp)), (1, .ints 49 a)], 2⟩) (fun i => L.length - i) 0 ?_ ?_ ?_
  · exact ⟨Nat.zero_le _, fun i h => absurd h (Nat.not_lt_zero _)⟩
  · refine View.mk' [] rfl rfl rfl ?_ ?_
    repeat' first | exact vFn | refine vFc rfl ?_ | exact vHn | refine vHc rfl ?_ | refine vFc (congrArg (fun z => some (V.int z)) ?_) ?_ | refine vHc (congrArg (fun z => some (Blk.ints _ z)) ?_) ?_ | refine vFc (congrArg (fun z => some (V.bool z)) ?_) ?_ | refine vFs rfl rfl ?_ ?_
  rintro i ⟨hi, hA⟩
  refine CW_seq ?_
  refine cR ?_
  iterate 2 refine oM rfl rfl ?_
  first | refine oQ (Q_len rfl rfl rfl rfl) rfl rfl ?_ | refine oQ (Q_len0 rfl rfl rfl rfl) rfl rfl ?_
  refine oQ (Q_bin rfl rfl rfl) rfl rfl ?_
  refine oN ?_
  first | refine cT rfl ?_ | refine cF rfl ?_ | refine CW_cond rfl (fun hc => ?_) (fun hc => ?_)
  all_goals try simp only [s1, s2, s3, s4, s5, s6, s7, s8, s9, s10, s11, s12] at hc
  all_goals first
    | (
     refine CW_skip ?_)
    | (
     refine CW_exit ?_)
  all_goals first
    | with_reducible refine tR ?_
    | with_reducible refine tE ?_
    | (
     with_reducible refine tN ?_
     refine CW_seq ?_
     refine CW_block ?_
     refine CW_seq ?_
     refine CW_draw lateOk (by decide +kernel) ?_
     iterate 2 refine qM rfl rfl ?_
     (have h3i_ := h3i i (by omega)); refine qQ (Q_ixs0z 3 rfl rfl rfl rfl rfl rfl (by omega)) rfl rfl ?_
     refine qQ (Q_lda (n := 3) rfl rfl rfl rfl rfl (by rw [List.length_append, hf3]; omega)) rfl rfl ?_; rw [flat_get h3 (show i < L.length by omega)]
     refine qQ (Q_ldw rfl rfl rfl rfl ha) rfl rfl ?_
     refine qQ (Q_arrb rfl rfl rfl rfl rfl rfl rfl rfl rfl h3i_ ha) rfl rfl ?_
     refine QW_nil ?_
     all_goals with_reducible refine tN ?_
     all_goals (
      first | refine cT rfl ?_ | refine cF rfl ?_ | refine CW_cond rfl (fun hc => ?_) (fun hc => ?_)
      all_goals try simp only [s1, s2, s3, s4, s5, s6, s7, s8, s9, s10, s11, s12] at hc
      all_goals first
        | (
         refine CW_skip ?_)
        | (
         refine cR ?_
         refine oA rfl rfl ?_
         refine oN ?_
         refine CW_ret ?_))
     all_goals first | with_reducible refine bN ?_ | with_reducible refine bE ?_ | with_reducible refine bR ?_ | refine bX rfl ?_
     all_goals first
       | with_reducible refine tR ?_
       | with_reducible refine tE ?_
       | (
        with_reducible refine tN ?_
        refine CW_region ?_
        refine oM rfl rfl ?_
        first | refine oQ (Q_binu rfl rfl rfl (by omega)) rfl rfl ?_ | refine oQ (Q_bin rfl rfl rfl) rfl rfl ?_
        refine oA rfl rfl ?_
        refine OW_nil ?_))
  all_goals first
    | with_reducible refine tR ?_
    | with_reducible refine tE ?_
    | (
     with_reducible refine tN ?_
     refine ⟨i + 1, ?_, ?_, View.mk' [] rfl rfl rfl ?_ ?_⟩
     · refine ⟨by omega, fun j hj => ?_⟩
       by_cases e : j = i
       · subst e; simpa using hc
       · exact hA j (by omega)
     · omega
     all_goals (repeat' first | exact vFn | refine vFc rfl ?_ | exact vHn | refine vHc rfl ?_ | refine vFc (congrArg (fun z => some (V.int z)) ?_) ?_ | refine vHc (congrArg (fun z => some (Blk.ints _ z)) ?_) ?_ | refine vFc (congrArg (fun z => some (V.bool z)) ?_) ?_ | refine vFs rfl rfl ?_ ?_))
  all_goals first | with_reducible refine bN ?_ | with_reducible refine bE ?_ | with_reducible refine bR ?_ | refine bX rfl ?_
  all_goals first
    | with_reducible refine tR ?_
    | with_reducible refine tE ?_
    | (
     with_reducible refine tN ?_
     refine cR ?_
     refine oA rfl rfl ?_
     refine oN ?_
     refine CW_ret ?_)
  all_goals (
   refine exitQ (.inr rfl) 1 (.cons (.tmp rfl rfl) .nil) ?_ rfl (vHc rfl vHn) rfl rfl
   first
     | exact congrArg V.bool (has_yes (i := i) (by omega) (by simpa using hc))
     | exact congrArg V.bool (has_no (fun j hj => hA j (by omega))))
theorem l07FreeG_con (p : Int) (L : List (List Int)) (sp : List Int) (k : Nat) (h3 : ∀ x ∈ L, x.length = 3) (hp : primeB p = true) (hv : ∀ x ∈ L, x ∈ allPts p) (hn60 : L.length ≤ 1000) : Con Try.prog [] 74 [.int p, .slice 0 0 L.length k] [(0, .ints 49 (L.flatten ++ sp))] (ownR 3 49 [(0, .ints 49 (L.flatten ++ sp))] 1 (freeV p L)) := by
  have hf3 := flat3 h3
  have hb := prime_bd hp
  have hal := allPts_len hp
  have h3a : ∀ x ∈ (allPts p), x.length = 3 := fun x hx => allPts_three hx
  have hfa := flat3 h3a
  have hmL : ∀ i, i < L.length → L.getD i [] ∈ allPts p := fun i hi => hv _ (getD_mem hi)
  have h3L : ∀ i, i < L.length → (L.getD i []).length = 3 := fun i hi => h3 _ (getD_mem hi)
  refine conW tab_ok [(0, .int p), (1, .slice 0 0 L.length k)] 1 [0] [0] Try.func74 rfl rfl rfl rfl rfl rfl rfl rfl rfl ?_
  refine cR ?_
  refine oA rfl rfl ?_
  refine oN ?_
  refine cR ?_
  refine oM rfl rfl ?_
  refine oCall (l01Points_con p hp) [] 1 rfl rfl (Fits.mk' vHn rfl rfl (by simp)) rfl rfl ?_
  rintro r H1 ⟨k0, sp0, hk0, hsp0, rfl, rfl⟩
  refine ⟨.slice 1 0 (allPts p).length k0, [(1, .ints 49 ((allPts p).flatten ++ sp0))], rfl, rfl, rfl, ?_⟩
  refine oBsl rfl rfl rfl rfl (.inr ⟨rfl, rfl, by decide⟩) rfl rfl rfl rfl rfl rfl ?_
  iterate 2 refine oA rfl rfl ?_
  refine oN ?_
  refine CW_seq ?_
  refine cR ?_
  refine oA rfl rfl ?_
  refine oN ?_
  refine CW_block ?_
  refine CW_loop (ι := Nat × Nat × List Int) (fun x => x.1 ≤ (allPts p).length ∧ (((allPts p).take x.1).filter (freeB p L)).length ≤ x.2.1 ∧ x.2.1 * 3 ≤ (((allPts p).take x.1).filter (freeB p L)).length * 3 + x.2.2.length) (fun x => ⟨[(0, .int p), (1, .slice 0 0 L.length k), (5, .slice 1 0 (allPts p).length k0), (6, .slice 2 0 (((allPts p).take x.1).filter (freeB p L)).length x.2.1), (7, .int (x.1 : Nat))], [(0, .ints 49 (L.flatten ++ sp)), (1, .ints 49 ((allPts p).flatten ++ sp0)), (2, .ints 49 ((((allPts p).take x.1).filter (freeB p L)).flatten ++ x.2.2))], 3⟩) (fun x => (allPts p).length - x.1) (0, 0, []) ?_ ?_ ?_
  · exact ⟨Nat.zero_le _, Nat.le_refl _, Nat.le_refl _⟩
  · refine View.mk' [] rfl rfl rfl ?_ ?_
    repeat' first | exact vFn | refine vFc rfl ?_ | exact vHn | refine vHc rfl ?_ | refine vFc (congrArg (fun z => some (V.int z)) ?_) ?_ | refine vHc (congrArg (fun z => some (Blk.ints _ z)) ?_) ?_ | refine vFc (congrArg (fun z => some (V.bool z)) ?_) ?_ | refine vFs rfl rfl ?_ ?_
  rintro ⟨i, kk, ss⟩ ⟨hi, hk, hsp⟩
  dsimp only at hi hk hsp ⊢
  have hfn := filter_len (g := freeB p L) i hi
  have hlen := flat3 (filter_three (g := freeB p L) h3a i)
  have hmem := fun h : i < (allPts p).length => getD_mem h
  have h3i := fun h : i < (allPts p).length => h3a _ (getD_mem h)
  refine CW_seq ?_
  refine cR ?_
  iterate 2 refine oM rfl rfl ?_
  first | refine oQ (Q_len rfl rfl rfl rfl) rfl rfl ?_ | refine oQ (Q_len0 rfl rfl rfl rfl) rfl rfl ?_
  refine oQ (Q_bin rfl rfl rfl) rfl rfl ?_
  refine oN ?_
  first | refine cT rfl ?_ | refine cF rfl ?_ | refine CW_cond rfl (fun hc => ?_) (fun hc => ?_)
  all_goals try simp only [s1, s2, s3, s4, s5, s6, s7, s8, s9, s10, s11, s12] at hc
  all_goals first
    | (
     refine CW_skip ?_)
    | (
     refine CW_exit ?_)
  all_goals first
    | with_reducible refine tR ?_
    | with_reducible refine tE ?_
    | (
     with_reducible refine tN ?_
     refine CW_seq ?_
     refine CW_block ?_
     refine cR ?_
     iterate 3 refine oM rfl rfl ?_
     (have hil : i < (allPts p).length := by omega); (have h3i := h3i hil); (have hmem := hmem hil); refine oQ (Q_ixs0z 3 rfl rfl rfl rfl rfl rfl (by omega)) rfl rfl ?_
     refine oQ (Q_lda (n := 3) rfl rfl rfl rfl rfl (by rw [List.length_append, hfa]; omega)) rfl rfl ?_; rw [flat_get h3a hil]
     refine oQ (Q_call (l07Has_con L sp k h3 _ h3i (by omega)) [] rfl rfl (Fits.mk' (vHc rfl vHn) rfl rfl (by simp)) rfl rfl) rfl rfl ?_
     refine oQ (Q_not rfl) rfl rfl ?_
     refine oA rfl rfl ?_
     refine oN ?_
     refine CW_seq ?_
     refine cR ?_
     refine oA rfl rfl ?_
     refine oN ?_
     refine CW_block ?_
     refine CW_loop (ι := Nat × Bool) (fun x => x.1 ≤ L.length ∧ (x.2 = true → (!hasB L ((allPts p).getD i [])) = true ∧ ∀ k', k' < x.1 → ∀ j', j' < k' → ¬ detT ((allPts p).getD i []) (L.getD k' []) (L.getD j' []) % p = 0) ∧ (x.2 = false → freeB p L ((allPts p).getD i []) = false)) (fun x => ⟨[(0, .int p), (1, .slice 0 0 L.length k), (5, .slice 1 0 (allPts p).length k0), (6, .slice 2 0 (((allPts p).take i).filter (freeB p L)).length kk), (7, .int (i : Nat)), (8, .bool x.2), (9, .int (x.1 : Nat))], [(0, .ints 49 (L.flatten ++ sp)), (1, .ints 49 ((allPts p).flatten ++ sp0)), (2, .ints 49 ((((allPts p).take i).filter (freeB p L)).flatten ++ ss))], 3⟩) (fun x => L.length - x.1) (0, !hasB L ((allPts p).getD i [])) ?_ ?_ ?_
     · exact ⟨Nat.zero_le _, fun e => ⟨e, fun j h => absurd h (Nat.not_lt_zero _)⟩, fun e => free_has e⟩
     · refine View.mk' [] rfl rfl rfl ?_ ?_
       repeat' first | exact vFn | refine vFc rfl ?_ | exact vHn | refine vHc rfl ?_ | refine vFc (congrArg (fun z => some (V.int z)) ?_) ?_ | refine vHc (congrArg (fun z => some (Blk.ints _ z)) ?_) ?_ | refine vFc (congrArg (fun z => some (V.bool z)) ?_) ?_ | refine vFs rfl rfl ?_ ?_
     rintro ⟨m, b1⟩ ⟨hm, hT1, hF1⟩
     dsimp only at hm hT1 hF1 ⊢
     refine CW_seq ?_
     refine cR ?_
     iterate 2 refine oM rfl rfl ?_
     first | refine oQ (Q_len rfl rfl rfl rfl) rfl rfl ?_ | refine oQ (Q_len0 rfl rfl rfl rfl) rfl rfl ?_
     refine oQ (Q_bin rfl rfl rfl) rfl rfl ?_
     refine oM rfl rfl ?_
     all_goals first | refine oT rfl rfl ?_ | refine o1 rfl rfl rfl ?_ | refine o0 rfl rfl rfl ?_ | refine ogP1 rfl rfl rfl (fun hg => ?_) (fun hg => ?_) | refine ogP0 rfl rfl rfl (fun hg => ?_) (fun hg => ?_)
     all_goals try simp only [s1, s2, s3, s4, s5, s6, s7, s8, s9, s10, s11, s12] at hg
     all_goals first | (refine oM rfl rfl ?_) | skip
     all_goals first | refine oQ (Q_pick_t rfl (by with_reducible rfl) rfl rfl) rfl rfl ?_ | refine oQ (Q_pick_f rfl (by with_reducible rfl) rfl rfl) rfl rfl ?_
     all_goals refine oN ?_
     all_goals (
      first | refine cT rfl ?_ | refine cF rfl ?_ | refine CW_cond rfl (fun hc => ?_) (fun hc => ?_)
      all_goals try simp only [s1, s2, s3, s4, s5, s6, s7, s8, s9, s10, s11, s12] at hc
      all_goals first
        | (
         refine CW_skip ?_)
        | (
         refine CW_exit ?_))
     all_goals first
       | with_reducible refine tR ?_
       | with_reducible refine tE ?_
       | (
        with_reducible refine tN ?_
        refine CW_seq ?_
        refine CW_block ?_
        refine cR ?_
        refine oA rfl rfl ?_
        refine oN ?_
        refine CW_block ?_
        refine CW_loop (ι := Nat × Bool) (fun x => x.1 ≤ m ∧ (x.2 = true → (!hasB L ((allPts p).getD i [])) = true ∧ (∀ k', k' < m → ∀ j', j' < k' → ¬ detT ((allPts p).getD i []) (L.getD k' []) (L.getD j' []) % p = 0) ∧ ∀ j', j' < x.1 → ¬ detT ((allPts p).getD i []) (L.getD m []) (L.getD j' []) % p = 0) ∧ (x.2 = false → freeB p L ((allPts p).getD i []) = false)) (fun x => ⟨[(0, .int p), (1, .slice 0 0 L.length k), (5, .slice 1 0 (allPts p).length k0), (6, .slice 2 0 (((allPts p).take i).filter (freeB p L)).length kk), (7, .int (i : Nat)), (8, .bool x.2), (9, .int (m : Nat)), (10, .int (x.1 : Nat))], [(0, .ints 49 (L.flatten ++ sp)), (1, .ints 49 ((allPts p).flatten ++ sp0)), (2, .ints 49 ((((allPts p).take i).filter (freeB p L)).flatten ++ ss))], 3⟩) (fun x => m - x.1) (0, b1) ?_ ?_ ?_
        · exact ⟨Nat.zero_le _, fun e => ⟨(hT1 e).1, (hT1 e).2, fun j h => absurd h (Nat.not_lt_zero _)⟩, hF1⟩
        · refine View.mk' [] rfl rfl rfl ?_ ?_
          repeat' first | exact vFn | refine vFc rfl ?_ | exact vHn | refine vHc rfl ?_ | refine vFc (congrArg (fun z => some (V.int z)) ?_) ?_ | refine vHc (congrArg (fun z => some (Blk.ints _ z)) ?_) ?_ | refine vFc (congrArg (fun z => some (V.bool z)) ?_) ?_ | refine vFs rfl rfl ?_ ?_
        rintro ⟨q, b2⟩ ⟨hq, hT2, hF2⟩
        dsimp only at hq hT2 hF2 ⊢
        refine CW_seq ?_
        refine cR ?_
        iterate 2 refine oM rfl rfl ?_
        refine oQ (Q_bin rfl rfl rfl) rfl rfl ?_
        refine oM rfl rfl ?_
        all_goals first | refine oT rfl rfl ?_ | refine o1 rfl rfl rfl ?_ | refine o0 rfl rfl rfl ?_ | refine ogP1 rfl rfl rfl (fun hg => ?_) (fun hg => ?_) | refine ogP0 rfl rfl rfl (fun hg => ?_) (fun hg => ?_)
        all_goals try simp only [s1, s2, s3, s4, s5, s6, s7, s8, s9, s10, s11, s12] at hg
        all_goals first | (refine oM rfl rfl ?_) | skip
        all_goals first | refine oQ (Q_pick_t rfl (by with_reducible rfl) rfl rfl) rfl rfl ?_ | refine oQ (Q_pick_f rfl (by with_reducible rfl) rfl rfl) rfl rfl ?_
        all_goals refine oN ?_
        all_goals (
         first | refine cT rfl ?_ | refine cF rfl ?_ | refine CW_cond rfl (fun hc => ?_) (fun hc => ?_)
         all_goals try simp only [s1, s2, s3, s4, s5, s6, s7, s8, s9, s10, s11, s12] at hc
         all_goals first
           | (
            refine CW_skip ?_)
           | (
            refine CW_exit ?_))
        all_goals first
          | with_reducible refine tR ?_
          | with_reducible refine tE ?_
          | (
           with_reducible refine tN ?_
           refine CW_seq ?_
           refine CW_block ?_
           refine CW_draw lateOk (by decide +kernel) ?_
           iterate 3 refine qM rfl rfl ?_
           refine qQ (Q_ixs0z 3 rfl rfl rfl rfl rfl rfl (by omega)) rfl rfl ?_
           refine qQ (Q_lda (n := 3) rfl rfl rfl rfl rfl (by rw [List.length_append, hfa]; omega)) rfl rfl ?_; rw [flat_get h3a hil]
           iterate 2 refine qM rfl rfl ?_
           (have hmm_ := hmL m (by omega)); (have h3m_ := h3L m (by omega)); refine qQ (Q_ixs0z 3 rfl rfl rfl rfl rfl rfl (by omega)) rfl rfl ?_
           refine qQ (Q_lda (n := 3) rfl rfl rfl rfl rfl (by rw [List.length_append, hf3]; omega)) rfl rfl ?_; rw [flat_get h3 (show m < L.length by omega)]
           iterate 2 refine qM rfl rfl ?_
           (have hmq_ := hmL q (by omega)); (have h3q_ := h3L q (by omega)); refine qQ (Q_ixs0z 3 rfl rfl rfl rfl rfl rfl (by omega)) rfl rfl ?_
           refine qQ (Q_lda (n := 3) rfl rfl rfl rfl rfl (by rw [List.length_append, hf3]; omega)) rfl rfl ?_; rw [flat_get h3 (show q < L.length by omega)]
           refine qQ (Q_call0 (l01Det_con p _ _ _ hp h3i h3m_ h3q_ (allPts_sm hp hmem) (allPts_sm hp hmm_) (allPts_sm hp hmq_)) rfl rfl rfl) rfl rfl ?_
           refine qQ (Q_bin rfl rfl rfl) rfl rfl ?_
           refine qA rfl rfl ?_
           refine QW_nil ?_
           all_goals first | with_reducible refine bN ?_ | with_reducible refine bE ?_ | with_reducible refine bR ?_ | refine bX rfl ?_
           all_goals with_reducible refine tN ?_
           all_goals (
            refine CW_region ?_
            refine oM rfl rfl ?_
            first | refine oQ (Q_binu rfl rfl rfl (by omega)) rfl rfl ?_ | refine oQ (Q_bin rfl rfl rfl) rfl rfl ?_
            refine oA rfl rfl ?_
            refine OW_nil ?_))
        all_goals first
          | with_reducible refine tR ?_
          | with_reducible refine tE ?_
          | (
           with_reducible refine tN ?_
           refine ⟨(q + 1, !(detT ((allPts p).getD i []) (L.getD m []) (L.getD q []) % p == 0)), ?_, ?_, View.mk' [] rfl rfl rfl ?_ ?_⟩
           · dsimp only
             have hb2 : b2 = true := by simpa using hc
             refine ⟨by omega, fun e => ⟨(hT2 hb2).1, (hT2 hb2).2.1, fun j' hj => ?_⟩, fun e => free_det (k := m) (j := q) (by omega) (by omega) (by simpa using e)⟩
             by_cases e2 : j' = q
             · subst e2; simpa using e
             · exact (hT2 hb2).2.2 j' (by omega)
           · omega
           all_goals (repeat' first | exact vFn | refine vFc rfl ?_ | exact vHn | refine vHc rfl ?_ | refine vFc (congrArg (fun z => some (V.int z)) ?_) ?_ | refine vHc (congrArg (fun z => some (Blk.ints _ z)) ?_) ?_ | refine vFc (congrArg (fun z => some (V.bool z)) ?_) ?_ | refine vFs rfl rfl ?_ ?_))
        all_goals first | with_reducible refine bN ?_ | with_reducible refine bE ?_ | with_reducible refine bR ?_ | refine bX rfl ?_
        all_goals first | with_reducible refine bN ?_ | with_reducible refine bE ?_ | with_reducible refine bR ?_ | refine bX rfl ?_
        all_goals with_reducible refine tN ?_
        all_goals (
         refine CW_region ?_
         refine oM rfl rfl ?_
         first | refine oQ (Q_binu rfl rfl rfl (by omega)) rfl rfl ?_ | refine oQ (Q_bin rfl rfl rfl) rfl rfl ?_
         refine oA rfl rfl ?_
         refine OW_nil ?_))
     all_goals first
       | with_reducible refine tR ?_
       | with_reducible refine tE ?_
       | (
        with_reducible refine tN ?_
        refine ⟨(m + 1, b2), ?_, ?_, View.mk' [] rfl rfl rfl ?_ ?_⟩
        · dsimp only
          refine ⟨by omega, fun e => ⟨(hT2 e).1, fun k' hk' => ?_⟩, hF2⟩
          by_cases e2 : k' = m
          · subst e2
            exact fun j' hj' => (hT2 e).2.2 j' (by first | omega | (exfalso; simp_all; done))
          · exact (hT2 e).2.1 k' (by omega)
        · omega
        all_goals (repeat' first | exact vFn | refine vFc rfl ?_ | exact vHn | refine vHc rfl ?_ | refine vFc (congrArg (fun z => some (V.int z)) ?_) ?_ | refine vHc (congrArg (fun z => some (Blk.ints _ z)) ?_) ?_ | refine vFc (congrArg (fun z => some (V.bool z)) ?_) ?_ | refine vFs rfl rfl ?_ ?_))
     all_goals first | with_reducible refine bN ?_ | with_reducible refine bE ?_ | with_reducible refine bR ?_ | refine bX rfl ?_
     all_goals with_reducible refine tN ?_
     all_goals (
      refine cR ?_
      refine oM rfl rfl ?_
      refine oN ?_
      first | refine cT rfl ?_ | refine cF rfl ?_ | refine CW_cond rfl (fun hc => ?_) (fun hc => ?_)
      all_goals try simp only [s1, s2, s3, s4, s5, s6, s7, s8, s9, s10, s11, s12] at hc
      all_goals first
        | (
         refine CW_skip ?_)
        | (
         refine CW_region ?_
         iterate 3 refine oM rfl rfl ?_
         refine oQ (Q_ixs0z 3 rfl rfl rfl rfl rfl rfl (by omega)) rfl rfl ?_
         refine oQ (Q_lda (n := 3) rfl rfl rfl rfl rfl (by rw [List.length_append, hfa]; omega)) rfl rfl ?_; rw [flat_get h3a hil]
         refine oBsl1 h3i rfl rfl rfl rfl rfl rfl rfl rfl rfl rfl ?_
         refine oApp (sz := 3) (by_ := 24) (xl := ((allPts p).getD i [])) rfl rfl rfl rfl rfl rfl ⟨by decide, rfl, .inr rfl⟩ rfl rfl rfl rfl rfl rfl hlen (by rw [h3i]) (by omega) (by omega) (by omega) (by omega) rfl rfl (fun k2 sp2 h1 h2 => ?_)
         refine oA rfl rfl ?_
         refine OW_nil ?_))
     all_goals first | with_reducible refine bN ?_ | with_reducible refine bE ?_ | with_reducible refine bR ?_ | refine bX rfl ?_
     all_goals with_reducible refine tN ?_
     all_goals (
      refine CW_region ?_
      refine oM rfl rfl ?_
      first | refine oQ (Q_binu rfl rfl rfl (by omega)) rfl rfl ?_ | refine oQ (Q_bin rfl rfl rfl) rfl rfl ?_
      refine oA rfl rfl ?_
      refine OW_nil ?_))
  all_goals first
    | with_reducible refine tR ?_
    | with_reducible refine tE ?_
    | (
     with_reducible refine tN ?_
     first
       | (
        refine ⟨(i + 1, k2, sp2), ?_, ?_, View.mk' [(2, 4)] rfl rfl rfl ?_ ?_⟩
        · dsimp only
          have hfb : b1 = freeB p L ((allPts p).getD i []) := free_end hT1 hF1 (by first | exact .inr (by omega) | exact .inl (by simpa using hc) | (exfalso; simp_all; done))
          first
            | (rw [filter_snoc (by omega) (by rw [← hfb]; exact hc), List.length_append, List.length_singleton]; exact ⟨by omega, h1, h2⟩)
            | (rw [filter_skip (by omega) (by rw [← hfb]; simpa using hc)]; exact ⟨by omega, hk, hsp⟩)
        · omega
        all_goals (repeat' first | exact vFn | refine vFc rfl ?_ | exact vHn | refine vHc rfl ?_ | refine vFc (congrArg (fun z => some (V.int z)) ?_) ?_ | refine vHc (congrArg (fun z => some (Blk.ints _ z)) ?_) ?_ | refine vFc (congrArg (fun z => some (V.bool z)) ?_) ?_ | refine vFs rfl rfl ?_ ?_)
        all_goals try dsimp only
        all_goals have hfb : b1 = freeB p L ((allPts p).getD i []) := free_end hT1 hF1 (by first | exact .inr (by omega) | exact .inl (by simpa using hc) | (exfalso; simp_all; done))
        all_goals first
          | (rw [filter_snoc (by omega) (by rw [← hfb]; exact hc)]; simp; done)
          | (rw [filter_skip (by omega) (by rw [← hfb]; simpa using hc)]; done))
       | (
        refine ⟨(i + 1, kk, ss), ?_, ?_, View.mk' [] rfl rfl rfl ?_ ?_⟩
        · dsimp only
          have hfb : b1 = freeB p L ((allPts p).getD i []) := free_end hT1 hF1 (by first | exact .inr (by omega) | exact .inl (by simpa using hc) | (exfalso; simp_all; done))
          first
            | (rw [filter_snoc (by omega) (by rw [← hfb]; exact hc), List.length_append, List.length_singleton]; exact ⟨by omega, h1, h2⟩)
            | (rw [filter_skip (by omega) (by rw [← hfb]; simpa using hc)]; exact ⟨by omega, hk, hsp⟩)
        · omega
        all_goals (repeat' first | exact vFn | refine vFc rfl ?_ | exact vHn | refine vHc rfl ?_ | refine vFc (congrArg (fun z => some (V.int z)) ?_) ?_ | refine vHc (congrArg (fun z => some (Blk.ints _ z)) ?_) ?_ | refine vFc (congrArg (fun z => some (V.bool z)) ?_) ?_ | refine vFs rfl rfl ?_ ?_)
        all_goals try dsimp only
        all_goals have hfb : b1 = freeB p L ((allPts p).getD i []) := free_end hT1 hF1 (by first | exact .inr (by omega) | exact .inl (by simpa using hc) | (exfalso; simp_all; done))
        all_goals first
          | (rw [filter_snoc (by omega) (by rw [← hfb]; exact hc)]; simp; done)
          | (rw [filter_skip (by omega) (by rw [← hfb]; simpa using hc)]; done)))
  all_goals first | with_reducible refine bN ?_ | with_reducible refine bE ?_ | with_reducible refine bR ?_ | refine bX rfl ?_
  all_goals with_reducible refine tN ?_
  all_goals (
   refine cR ?_
   refine oM rfl rfl ?_
   refine oA rfl rfl ?_
   refine oN ?_
   refine CW_ret ?_)
  all_goals (
   have e : i = (allPts p).length := (by omega)
   subst e
   rw [List.take_length] at hk hsp
   exact exitH (r0 := .slice 1 0 (freeV p L).length kk) (H0 := [(0, .ints 49 (L.flatten ++ sp)), (1, .ints 49 ((freeV p L).flatten ++ ss))]) (.inr rfl) [(1, 2)] 2 (.cons (.tmp rfl rfl) .nil) (by simp only [List.take_length]; rfl) rfl rfl (vHc rfl (vHc (by simp only [List.take_length]; rfl) vHn)) rfl rfl ⟨kk, ss, hk, hsp, rfl, rfl⟩)
theorem l07Free_con (p : Int) (L : List (List Int)) (sp : List Int) (k : Nat) (h3 : ∀ x ∈ L, x.length = 3) (hcd : setC p L = 0) : Con Try.prog [] 74 [.int p, .slice 0 0 L.length k] [(0, .ints 49 (L.flatten ++ sp))] (ownR 3 49 [(0, .ints 49 (L.flatten ++ sp))] 1 (freeV p L)) := by
  obtain ⟨hp, hv, _, hn⟩ := setC_zero hcd
  exact l07FreeG_con p L sp k h3 hp (fun x hx => point_mem (h3 x hx) (hv x hx)) (by omega)
end Go.Proofs.Ytmcmbpoebhjecaa
