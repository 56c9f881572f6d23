/- What the last text of MoebiusOf needs, part 6: contracts of functions and plain mathematics. No conditions beyond those each theorem states. -/
import Derived.LoopN
import Derived.Test.YtchikadcicecoaaBMoebiusOfE
namespace Go.Proofs.Ytchikadcicecoaa
set_option linter.unusedVariables false
section
variable {c : Cx} {s : S} {Q : Post}
end
/-- a loop of at most n rounds -/
def RW (c : Cx) (x : Code) (Q : Post) (n : Nat) (s : S) : Prop := ∀ ρ0 w0, GR c.gl c.D ρ0 → ∀ ρ a w, St c ρ0 w0 ρ s a w → Code.rounds c.P x (Lift c ρ0 w0 Q) n a w
section
variable {c : Cx} {Q : Post} {F : Fr} {H : Hp} {n : Nat} {ops : Array Oper} {rest : List Oper} {tl : Nat → Bool} {m : Nat} {listed : Array Bool} {d : Nat} {ty : TypeId} {pos : String} {af : Array Edge}
end
end Go.Proofs.Ytchikadcicecoaa
namespace Go.Proofs.Ytchikadcicecoaa
set_option maxRecDepth 10000
set_option linter.unusedSimpArgs false
set_option linter.unusedVariables false
def idxI (x : Int) (L : List Int) (n : Nat) : Int := match (List.range n).find? (fun i => decide (x = L.getD i 0)) with
  | some i => (i : Int)
  | none => -1
def memB (x : Int) (L : List Int) (n : Nat) : Bool := (List.range n).any fun i => decide (x = L.getD i 0)
def difB (L : List Int) (n : Nat) : Bool := (List.range n).all fun i => !memB (L.getD i 0) L i
theorem idxI_found {x : Int} {L : List Int} {n i : Nat} (hi : i < n) (h0 : ∀ j, j < i → ¬ x = L.getD j 0) (h : x = L.getD i 0) : idxI x L n = (i : Int) := by
  have e : (List.range n).find? (fun i => decide (x = L.getD i 0)) = some i := by
    rw [List.find?_eq_some_iff_getElem]
    refine ⟨by simpa using h, i, by simpa using hi, by simp, fun j hj => ?_⟩
    have := h0 j hj
    simpa using this
  unfold idxI; rw [e]
theorem idxI_none {x : Int} {L : List Int} {n : Nat} (h0 : ∀ j, j < n → ¬ x = L.getD j 0) : idxI x L n = -1 := by
  have e : (List.range n).find? (fun i => decide (x = L.getD i 0)) = none := by
    rw [List.find?_eq_none]
    intro j hj
    have := h0 j (by simpa using hj)
    simpa using this
  unfold idxI; rw [e]
theorem idxI_mem (x : Int) (L : List Int) (n : Nat) : decide (idxI x L n ≥ 0) = memB x L n := by
  unfold idxI memB
  cases h : (List.range n).find? fun i => decide (x = L.getD i 0) with
  | none =>
    rw [List.find?_eq_none] at h
    rw [show decide ((-1 : Int) ≥ 0) = false by decide]
    symm
    rw [List.any_eq_false]
    exact h
  | some i =>
    have h1 := List.find?_some h
    have h2 := List.mem_of_find?_eq_some h
    rw [show decide ((i : Int) ≥ 0) = true by simp]
    symm
    rw [List.any_eq_true]
    exact ⟨i, h2, h1⟩
theorem memB_yes {x : Int} {L : List Int} {n i : Nat} (hi : i < n) (h : x = L.getD i 0) : memB x L n = true := by
  unfold memB; rw [List.any_eq_true]; exact ⟨i, by simpa using hi, by simpa using h⟩
theorem memB_no {x : Int} {L : List Int} {n : Nat} (h0 : ∀ j, j < n → ¬ x = L.getD j 0) : memB x L n = false := by
  unfold memB; rw [List.any_eq_false]; intro i hi; have := h0 i (by simpa using hi); simpa using this
theorem difB_no {L : List Int} {n i : Nat} (hi : i < n) (h : memB (L.getD i 0) L i = true) : difB L n = false := by
  unfold difB; rw [List.all_eq_false]; exact ⟨i, by simpa using hi, by rw [h]; simp⟩
theorem difB_yes {L : List Int} {n : Nat} (h : ∀ i, i < n → memB (L.getD i 0) L i = false) : difB L n = true := by
  unfold difB; rw [List.all_eq_true]; intro i hi; rw [h i (by simpa using hi)]; rfl
theorem difB_three {a b c : Int} {r : List Int} : difB (a :: b :: c :: r) 3 = true ↔ a ≠ b ∧ a ≠ c ∧ b ≠ c := by
  simp [difB, memB, List.range_succ]
  constructor
  · rintro ⟨h1, h2⟩; refine ⟨fun e => h1 e.symm, fun e => ?_, fun e => ?_⟩ <;> simp_all
  · rintro ⟨h1, h2, h3⟩; refine ⟨fun e => h1 e.symm, ?_⟩; constructor <;> intro e <;> simp_all
theorem prX_bd {p x : Int} (hp : primeB p = true) (h : 0 ≤ x ∧ x ≤ p) : 0 ≤ prX p x ∧ prX p x ≤ 13 ∧ 0 ≤ prY p x ∧ prY p x ≤ 13 := by
  have := prime_bd hp
  unfold prX prY
  split <;> omega
attribute [local irreducible] CW OW QW QOp Con thenP inBlockP AW QX RW AX
theorem idxInt_con (x : Int) (t : TypeId) (L : List Int) (n k : Nat) (hn : n ≤ L.length) (hL : n ≤ 1000000000) : ConQ Try.prog [] 50 [.slice 0 0 n k, .int x] [(0, .ints t L)] (.int (idxI x L n)) := by
  refine conW tab_ok [(0, .slice 0 0 n k), (1, .int x)] 1 [0] [0] Try.func50 rfl rfl rfl rfl rfl rfl rfl rfl rfl ?_
  refine cR ?_
  refine oA rfl rfl ?_
  refine oN ?_
  refine CW_seq ?_
  refine cR ?_
  refine oM rfl rfl ?_
  first | refine oQ (Q_len rfl rfl rfl rfl) rfl rfl ?_ | refine oQ (Q_len0 rfl rfl rfl rfl) rfl rfl ?_
  refine oM rfl rfl ?_
  refine oN ?_
  refine CW_block ?_
  refine CW_loop (ι := Nat) (fun i => i ≤ n ∧ ∀ j, j < i → ¬ x = L.getD j 0) (fun i => ⟨[(0, .slice 0 0 n k), (1, .int x), (7, .int n), (8, .int i)], [(0, .ints t L)], 1⟩) (fun i => n - i) 0 ?_ ?_ ?_
  · exact ⟨Nat.zero_le _, fun j h => absurd h (Nat.not_lt_zero _)⟩
  · refine View.mk' [] rfl rfl rfl ?_ ?_
    repeat' first | exact vFn | refine vFc rfl ?_ | exact vHn | refine vHc rfl ?_ | refine vFc (congrArg (fun z => some (V.int z)) ?_) ?_ | refine vHc (congrArg (fun z => some (Blk.ints _ z)) ?_) ?_ | refine vFc (congrArg (fun z => some (V.bool z)) ?_) ?_ | refine vFs rfl rfl ?_ ?_
  rintro i ⟨hi, hi2⟩
  refine cR ?_
  refine oQ (Q_bin rfl rfl rfl) rfl rfl ?_
  refine oN ?_
  refine CW_seq ?_
  first | refine cT rfl ?_ | refine cF rfl ?_ | refine CW_cond rfl (fun hc => ?_) (fun hc => ?_)
  all_goals try simp only [s1, s2, s3, s4, s5, s6, s7, s8, s9, s10, s11, s12] at hc
  all_goals first
    | (
     refine CW_skip ?_)
    | (
     refine CW_exit ?_)
  all_goals first
    | with_reducible refine tR ?_
    | with_reducible refine tE ?_
    | (
     with_reducible refine tN ?_
     refine CW_seq ?_
     refine CW_block ?_
     refine cR ?_
     refine oM rfl rfl ?_
     refine oA rfl rfl ?_
     refine oN ?_
     refine cR ?_
     iterate 3 refine oM rfl rfl ?_
     first | refine oQ (Is0 rfl rfl rfl rfl rfl rfl) rfl rfl ?_ | refine oQ (Is1 rfl rfl rfl rfl rfl rfl) rfl rfl ?_
     refine oQ (Ld rfl rfl rfl rfl) rfl rfl ?_
     refine oQ (Q_bin rfl rfl rfl) rfl rfl ?_
     refine oN ?_
     first | refine cT rfl ?_ | refine cF rfl ?_ | refine CW_cond rfl (fun hc => ?_) (fun hc => ?_)
     all_goals try simp only [s1, s2, s3, s4, s5, s6, s7, s8, s9, s10, s11, s12] at hc
     all_goals first
       | (
        refine CW_skip ?_)
       | (
        refine cR ?_
        refine oM rfl rfl ?_
        refine oA rfl rfl ?_
        refine oN ?_
        refine CW_ret ?_)
     all_goals first | with_reducible refine bN ?_ | with_reducible refine bE ?_ | with_reducible refine bR ?_ | refine bX rfl ?_
     all_goals first
       | with_reducible refine tR ?_
       | with_reducible refine tE ?_
       | (
        with_reducible refine tN ?_
        refine CW_region ?_
        first | refine oQ (Q_binu rfl rfl rfl (by omega)) rfl rfl ?_ | refine oQ (Q_bin rfl rfl rfl) rfl rfl ?_
        refine oM rfl rfl ?_
        refine OW_nil ?_))
  all_goals first
    | with_reducible refine tR ?_
    | with_reducible refine tE ?_
    | (
     with_reducible refine tN ?_
     refine ⟨i + 1, ?_, ?_, View.mk' [] rfl rfl rfl ?_ ?_⟩
     · refine ⟨by omega, fun j hj => ?_⟩
       by_cases e : j = i
       · subst e; exact hc
       · exact hi2 j (by omega)
     · omega
     all_goals (repeat' first | exact vFn | refine vFc rfl ?_ | exact vHn | refine vHc rfl ?_ | refine vFc (congrArg (fun z => some (V.int z)) ?_) ?_ | refine vHc (congrArg (fun z => some (Blk.ints _ z)) ?_) ?_ | refine vFc (congrArg (fun z => some (V.bool z)) ?_) ?_ | refine vFs rfl rfl ?_ ?_))
  all_goals first | with_reducible refine bN ?_ | with_reducible refine bE ?_ | with_reducible refine bR ?_ | refine bX rfl ?_
  all_goals first
    | with_reducible refine tR ?_
    | with_reducible refine tE ?_
    | (
     with_reducible refine tN ?_
     refine cR ?_
     refine oA rfl rfl ?_
     refine oN ?_
     refine CW_ret ?_)
  all_goals (
   refine exitQ (.inr rfl) 1 (.cons (.tmp rfl rfl) .nil) ?_ rfl (vHc rfl vHn) rfl rfl
   first
     | exact congrArg V.int (idxI_found (by omega) hi2 hc).symm
     | exact congrArg V.int (idxI_none (fun j hj => hi2 j (by omega))).symm)
theorem memInt_con (x : Int) (t : TypeId) (L : List Int) (n k : Nat) (hn : n ≤ L.length) (hL : n ≤ 1000000000) : ConQ Try.prog [] 43 [.slice 0 0 n k, .int x] [(0, .ints t L)] (.bool (memB x L n)) := by
  refine conW tab_ok [(0, .slice 0 0 n k), (1, .int x)] 1 [0] [0] Try.func43 rfl rfl rfl rfl rfl rfl rfl rfl rfl ?_
  refine cR ?_
  refine oA rfl rfl ?_
  refine oN ?_
  refine cR ?_
  iterate 2 refine oM rfl rfl ?_
  refine oQ (Q_call (idxInt_con x t L n k hn hL) [] rfl rfl (Fits.mk' (vHc rfl vHn) rfl rfl (by first | (simp; done) | exact glOk rfl rfl rfl)) rfl rfl) rfl rfl ?_
  refine oQ (Q_bin rfl rfl rfl) rfl rfl ?_
  refine oA rfl rfl ?_
  refine oN ?_
  refine CW_ret ?_
  all_goals (
   refine exitQ (.inr rfl) 1 (.cons (.tmp rfl rfl) .nil) ?_ rfl (vHc rfl vHn) rfl rfl
   exact congrArg V.bool (idxI_mem x L n))
theorem areDifferent_con (p : Int) (t : TypeId) (L : List Int) (n k : Nat) (hn : n ≤ L.length) (hL : n ≤ 1000000) (hk : n ≤ k) : ConQ Try.prog [] 28 [.int p, .slice 0 0 n k] [(0, .ints t L)] (.bool (difB L n && placesB p (L.take n))) := by
  refine conW tab_ok [(0, .int p), (1, .slice 0 0 n k)] 1 [0] [0] Try.func28 rfl rfl rfl rfl rfl rfl rfl rfl rfl ?_
  refine cR ?_
  refine oA rfl rfl ?_
  refine oN ?_
  refine CW_seq ?_
  refine cR ?_
  refine oM rfl rfl ?_
  first | refine oQ (Q_len rfl rfl rfl rfl) rfl rfl ?_ | refine oQ (Q_len0 rfl rfl rfl rfl) rfl rfl ?_
  refine oM rfl rfl ?_
  refine oN ?_
  refine CW_block ?_
  refine CW_loop (ι := Nat) (fun i => i ≤ n ∧ ∀ j, j < i → memB (L.getD j 0) L j = false) (fun i => ⟨[(0, .int p), (1, .slice 0 0 n k), (7, .slice 0 0 n k), (8, .int n), (9, .int i)], [(0, .ints t L)], 1⟩) (fun i => n - i) 0 ?_ ?_ ?_
  · exact ⟨Nat.zero_le _, fun j h => absurd h (Nat.not_lt_zero _)⟩
  · refine View.mk' [] rfl rfl rfl ?_ ?_
    repeat' first | exact vFn | refine vFc rfl ?_ | exact vHn | refine vHc rfl ?_ | refine vFc (congrArg (fun z => some (V.int z)) ?_) ?_ | refine vHc (congrArg (fun z => some (Blk.ints _ z)) ?_) ?_ | refine vFc (congrArg (fun z => some (V.bool z)) ?_) ?_ | refine vFs rfl rfl ?_ ?_
  rintro i ⟨hi, hi2⟩
  refine cR ?_
  refine oQ (Q_bin rfl rfl rfl) rfl rfl ?_
  refine oN ?_
  refine CW_seq ?_
  first | refine cT rfl ?_ | refine cF rfl ?_ | refine CW_cond rfl (fun hc => ?_) (fun hc => ?_)
  all_goals try simp only [s1, s2, s3, s4, s5, s6, s7, s8, s9, s10, s11, s12] at hc
  all_goals first
    | (
     refine CW_skip ?_)
    | (
     refine CW_exit ?_)
  all_goals first
    | with_reducible refine tR ?_
    | with_reducible refine tE ?_
    | (
     with_reducible refine tN ?_
     refine CW_seq ?_
     refine CW_block ?_
     refine cR ?_
     refine oM rfl rfl ?_
     first | refine oQ (Is0 rfl rfl rfl rfl rfl rfl) rfl rfl ?_ | refine oQ (Is1 rfl rfl rfl rfl rfl rfl) rfl rfl ?_
     refine oQ (Ld rfl rfl rfl rfl) rfl rfl ?_
     iterate 2 refine oA rfl rfl ?_
     refine oN ?_
     refine cR ?_
     iterate 2 refine oM rfl rfl ?_
     refine oQ (Q_slsH rfl rfl rfl rfl rfl (by first | omega | (dsimp only; omega) | (simp; omega) | (simp; done))) rfl rfl ?_
     refine oM rfl rfl ?_
     refine oQ (Q_call (memInt_con (L.getD i 0) t L i k (by omega) (by omega)) [] rfl rfl (Fits.mk' (vHc rfl vHn) rfl rfl (by first | (simp; done) | exact glOk rfl rfl rfl)) rfl rfl) rfl rfl ?_
     refine oN ?_
     first | refine cT rfl ?_ | refine cF rfl ?_ | refine CW_cond rfl (fun hc => ?_) (fun hc => ?_)
     all_goals try simp only [s1, s2, s3, s4, s5, s6, s7, s8, s9, s10, s11, s12] at hc
     all_goals first
       | (
        refine CW_skip ?_)
       | (
        refine cR ?_
        refine oA rfl rfl ?_
        refine oN ?_
        refine CW_ret ?_)
     all_goals first | with_reducible refine bN ?_ | with_reducible refine bE ?_ | with_reducible refine bR ?_ | refine bX rfl ?_
     all_goals first
       | with_reducible refine tR ?_
       | with_reducible refine tE ?_
       | (
        with_reducible refine tN ?_
        refine CW_region ?_
        first | refine oQ (Q_binu rfl rfl rfl (by omega)) rfl rfl ?_ | refine oQ (Q_bin rfl rfl rfl) rfl rfl ?_
        refine oM rfl rfl ?_
        refine OW_nil ?_))
  all_goals first
    | with_reducible refine tR ?_
    | with_reducible refine tE ?_
    | (
     with_reducible refine tN ?_
     refine ⟨i + 1, ?_, ?_, View.mk' [] rfl rfl rfl ?_ ?_⟩
     · refine ⟨by omega, fun j hj => ?_⟩
       by_cases e : j = i
       · subst e; exact hc
       · exact hi2 j (by omega)
     · omega
     all_goals (repeat' first | exact vFn | refine vFc rfl ?_ | exact vHn | refine vHc rfl ?_ | refine vFc (congrArg (fun z => some (V.int z)) ?_) ?_ | refine vHc (congrArg (fun z => some (Blk.ints _ z)) ?_) ?_ | refine vFc (congrArg (fun z => some (V.bool z)) ?_) ?_ | refine vFs rfl rfl ?_ ?_))
  all_goals first | with_reducible refine bN ?_ | with_reducible refine bE ?_ | with_reducible refine bR ?_ | refine bX rfl ?_
  all_goals first
    | with_reducible refine tR ?_
    | with_reducible refine tE ?_
    | (
     with_reducible refine tN ?_
     refine cR ?_
     iterate 2 refine oM rfl rfl ?_
     refine oQ (Q_call (arePlaces_con p t L n k hn (by omega)) [] rfl rfl (Fits.mk' (vHc rfl vHn) rfl rfl (by first | (simp; done) | exact glOk rfl rfl rfl)) rfl rfl) rfl rfl ?_
     refine oA rfl rfl ?_
     refine oN ?_
     refine CW_ret ?_)
  all_goals (
   refine exitQ (.inr rfl) 1 (.cons (.tmp rfl rfl) .nil) ?_ rfl (vHc rfl vHn) rfl rfl
   first
     | (rw [difB_no (by omega) hc]; rfl)
     | (rw [difB_yes (fun j hj => hi2 j (by omega))]; rfl))
theorem l05Different_con (t : TypeId) (L : List Int) (n k : Nat) (hn : n ≤ L.length) (hL : n ≤ 1000000) : ConQ Try.prog [] 23 [.slice 0 0 n k] [(0, .ints t L)] (.bool (difB L n)) := by
  refine conW tab_ok [(0, .slice 0 0 n k)] 1 [0] [0] Try.func23 rfl rfl rfl rfl rfl rfl rfl rfl rfl ?_
  refine cR ?_
  refine oA rfl rfl ?_
  refine oN ?_
  refine CW_seq ?_
  refine cR ?_
  refine oA rfl rfl ?_
  refine oN ?_
  refine CW_block ?_
  refine CW_loop (ι := Nat) (fun i => i ≤ n ∧ ∀ j, j < i → memB (L.getD j 0) L j = false) (fun i => ⟨[(0, .slice 0 0 n k), (3, .int i)], [(0, .ints t L)], 1⟩) (fun i => n - i) 0 ?_ ?_ ?_
  · exact ⟨Nat.zero_le _, fun j h => absurd h (Nat.not_lt_zero _)⟩
  · refine View.mk' [] rfl rfl rfl ?_ ?_
    repeat' first | exact vFn | refine vFc rfl ?_ | exact vHn | refine vHc rfl ?_ | refine vFc (congrArg (fun z => some (V.int z)) ?_) ?_ | refine vHc (congrArg (fun z => some (Blk.ints _ z)) ?_) ?_ | refine vFc (congrArg (fun z => some (V.bool z)) ?_) ?_ | refine vFs rfl rfl ?_ ?_
  rintro i ⟨hi, hi2⟩
  refine CW_seq ?_
  refine cR ?_
  iterate 2 refine oM rfl rfl ?_
  first | refine oQ (Q_len rfl rfl rfl rfl) rfl rfl ?_ | refine oQ (Q_len0 rfl rfl rfl rfl) rfl rfl ?_
  refine oQ (Q_bin rfl rfl rfl) rfl rfl ?_
  refine oN ?_
  first | refine cT rfl ?_ | refine cF rfl ?_ | refine CW_cond rfl (fun hc => ?_) (fun hc => ?_)
  all_goals try simp only [s1, s2, s3, s4, s5, s6, s7, s8, s9, s10, s11, s12] at hc
  all_goals first
    | (
     refine CW_skip ?_)
    | (
     refine CW_exit ?_)
  all_goals first
    | with_reducible refine tR ?_
    | with_reducible refine tE ?_
    | (
     with_reducible refine tN ?_
     refine CW_seq ?_
     refine CW_block ?_
     refine cR ?_
     refine oA rfl rfl ?_
     refine oN ?_
     refine CW_block ?_
     refine CW_loop (ι := Nat) (fun q => q ≤ i ∧ ∀ j, j < q → ¬ L.getD i 0 = L.getD j 0) (fun q => ⟨[(0, .slice 0 0 n k), (3, .int i), (4, .int q)], [(0, .ints t L)], 1⟩) (fun q => i - q) 0 ?_ ?_ ?_
     · exact ⟨Nat.zero_le _, fun j h => absurd h (Nat.not_lt_zero _)⟩
     · refine View.mk' [] rfl rfl rfl ?_ ?_
       repeat' first | exact vFn | refine vFc rfl ?_ | exact vHn | refine vHc rfl ?_ | refine vFc (congrArg (fun z => some (V.int z)) ?_) ?_ | refine vHc (congrArg (fun z => some (Blk.ints _ z)) ?_) ?_ | refine vFc (congrArg (fun z => some (V.bool z)) ?_) ?_ | refine vFs rfl rfl ?_ ?_
     rintro q ⟨hq, hq2⟩
     refine CW_seq ?_
     refine cR ?_
     iterate 2 refine oM rfl rfl ?_
     refine oQ (Q_bin rfl rfl rfl) rfl rfl ?_
     refine oN ?_
     first | refine cT rfl ?_ | refine cF rfl ?_ | refine CW_cond rfl (fun hc => ?_) (fun hc => ?_)
     all_goals try simp only [s1, s2, s3, s4, s5, s6, s7, s8, s9, s10, s11, s12] at hc
     all_goals first
       | (
        refine CW_skip ?_)
       | (
        refine CW_exit ?_)
     all_goals first
       | with_reducible refine tR ?_
       | with_reducible refine tE ?_
       | (
        with_reducible refine tN ?_
        refine CW_seq ?_
        refine CW_block ?_
        refine CW_seq ?_
        refine CW_draw lateOk (by decide +kernel) ?_
        iterate 2 refine qM rfl rfl ?_
        first | refine qQ (Is0 rfl rfl rfl rfl rfl rfl) rfl rfl ?_ | refine qQ (Is1 rfl rfl rfl rfl rfl rfl) rfl rfl ?_
        refine qQ (Ld rfl rfl rfl rfl) rfl rfl ?_
        iterate 2 refine qM rfl rfl ?_
        first | refine qQ (Is0 rfl rfl rfl rfl rfl rfl) rfl rfl ?_ | refine qQ (Is1 rfl rfl rfl rfl rfl rfl) rfl rfl ?_
        refine qQ (Ld rfl rfl rfl rfl) rfl rfl ?_
        refine qQ (Q_bin rfl rfl rfl) rfl rfl ?_
        refine QW_nil ?_
        all_goals with_reducible refine tN ?_
        all_goals (
         first | refine cT rfl ?_ | refine cF rfl ?_ | refine CW_cond rfl (fun hc => ?_) (fun hc => ?_)
         all_goals try simp only [s1, s2, s3, s4, s5, s6, s7, s8, s9, s10, s11, s12] at hc
         all_goals first
           | (
            refine CW_skip ?_)
           | (
            refine cR ?_
            refine oA rfl rfl ?_
            refine oN ?_
            refine CW_ret ?_))
        all_goals first | with_reducible refine bN ?_ | with_reducible refine bE ?_ | with_reducible refine bR ?_ | refine bX rfl ?_
        all_goals first
          | with_reducible refine tR ?_
          | with_reducible refine tE ?_
          | (
           with_reducible refine tN ?_
           refine CW_region ?_
           refine oM rfl rfl ?_
           first | refine oQ (Q_binu rfl rfl rfl (by omega)) rfl rfl ?_ | refine oQ (Q_bin rfl rfl rfl) rfl rfl ?_
           refine oA rfl rfl ?_
           refine OW_nil ?_))
     all_goals first
       | with_reducible refine tR ?_
       | with_reducible refine tE ?_
       | (
        with_reducible refine tN ?_
        refine ⟨q + 1, ?_, ?_, View.mk' [] rfl rfl rfl ?_ ?_⟩
        · refine ⟨by omega, fun j hj => ?_⟩
          by_cases e : j = q
          · subst e; exact hc
          · exact hq2 j (by omega)
        · omega
        all_goals (repeat' first | exact vFn | refine vFc rfl ?_ | exact vHn | refine vHc rfl ?_ | refine vFc (congrArg (fun z => some (V.int z)) ?_) ?_ | refine vHc (congrArg (fun z => some (Blk.ints _ z)) ?_) ?_ | refine vFc (congrArg (fun z => some (V.bool z)) ?_) ?_ | refine vFs rfl rfl ?_ ?_))
     all_goals first | with_reducible refine bN ?_ | with_reducible refine bE ?_ | with_reducible refine bR ?_ | refine bX rfl ?_
     all_goals first | with_reducible refine bN ?_ | with_reducible refine bE ?_ | with_reducible refine bR ?_ | refine bX rfl ?_
     all_goals first
       | with_reducible refine tR ?_
       | with_reducible refine tE ?_
       | (
        with_reducible refine tN ?_
        refine CW_region ?_
        refine oM rfl rfl ?_
        first | refine oQ (Q_binu rfl rfl rfl (by omega)) rfl rfl ?_ | refine oQ (Q_bin rfl rfl rfl) rfl rfl ?_
        refine oA rfl rfl ?_
        refine OW_nil ?_))
  all_goals first
    | with_reducible refine tR ?_
    | with_reducible refine tE ?_
    | (
     with_reducible refine tN ?_
     refine ⟨i + 1, ?_, ?_, View.mk' [] rfl rfl rfl ?_ ?_⟩
     · refine ⟨by omega, fun j hj => ?_⟩
       by_cases e : j = i
       · subst e; exact memB_no (fun z hz => hq2 z (by omega))
       · exact hi2 j (by omega)
     · omega
     all_goals (repeat' first | exact vFn | refine vFc rfl ?_ | exact vHn | refine vHc rfl ?_ | refine vFc (congrArg (fun z => some (V.int z)) ?_) ?_ | refine vHc (congrArg (fun z => some (Blk.ints _ z)) ?_) ?_ | refine vFc (congrArg (fun z => some (V.bool z)) ?_) ?_ | refine vFs rfl rfl ?_ ?_))
  all_goals first | with_reducible refine bN ?_ | with_reducible refine bE ?_ | with_reducible refine bR ?_ | refine bX rfl ?_
  all_goals first
    | with_reducible refine tR ?_
    | with_reducible refine tE ?_
    | (
     with_reducible refine tN ?_
     refine cR ?_
     refine oA rfl rfl ?_
     refine oN ?_
     refine CW_ret ?_)
  all_goals (
   refine exitQ (.inr rfl) 1 (.cons (.tmp rfl rfl) .nil) ?_ rfl (vHc rfl vHn) rfl rfl
   first
     | (rw [difB_no (show i < n by omega) (memB_yes (by omega) hc)]; rfl)
     | (rw [difB_yes (fun j hj => hi2 j (by omega))]; rfl))
theorem l05Pair_con (p x : Int) : ConQ Try.prog [] 40 [.int p, .int x] [] (.tuple [.int (prX p x), .int (prY p x)]) := by
  refine conW tab_ok [(0, .int p), (1, .int x)] 0 [] [] Try.func40 rfl rfl rfl rfl rfl rfl rfl rfl rfl ?_
  refine cR ?_
  iterate 2 refine oA rfl rfl ?_
  refine oN ?_
  refine CW_seq ?_
  refine cR ?_
  iterate 2 refine oM rfl rfl ?_
  refine oQ (Q_bin rfl rfl rfl) rfl rfl ?_
  refine oN ?_
  first | refine cT rfl ?_ | refine cF rfl ?_ | refine CW_cond rfl (fun hc => ?_) (fun hc => ?_)
  all_goals try simp only [s1, s2, s3, s4, s5, s6, s7, s8, s9, s10, s11, s12] at hc
  all_goals first
    | (
     refine CW_skip ?_)
    | (
     refine cR ?_
     iterate 2 refine oA rfl rfl ?_
     refine oN ?_
     refine CW_ret ?_)
  all_goals first
    | with_reducible refine tR ?_
    | with_reducible refine tE ?_
    | (
     with_reducible refine tN ?_
     refine cR ?_
     refine oM rfl rfl ?_
     iterate 2 refine oA rfl rfl ?_
     refine oN ?_
     refine CW_ret ?_)
  all_goals (
   refine exitQ (.inr rfl) 0 (.cons (.tmp rfl rfl) (.cons (.tmp rfl rfl) .nil)) ?_ rfl vHn rfl rfl
   first
     | (have e : x = p := hc
        simp only [resV, prX, prY, if_pos e]
        done)
     | (have e : ¬ x = p := hc
        simp only [resV, prX, prY, if_neg e]
        done))
theorem l05Made_con (p a b c d : Int) (hp : primeB p = true) : ConQ Try.prog [] 39 [.int p, .int a, .int b, .int c, .int d] [] (.arr (normL p [a, b, c, d])) := by
  have hb := prime_bd hp
  have hnl := normL_length p [a, b, c, d]
  have hno := l01Norm_con p 2 [a, b, c, d] 4 4 (by simp) hp (by omega)
  simp only [List.take_of_length_le (show [a, b, c, d].length ≤ 4 from Nat.le_refl _)] at hno
  generalize normL p [a, b, c, d] = NN at *
  match NN, hnl with
  | [n0, n1, n2, n3], _ =>
    refine conW tab_ok [(0, .int p), (1, .int a), (2, .int b), (3, .int c), (4, .int d)] 0 [] [] Try.func39 rfl rfl rfl rfl rfl rfl rfl rfl rfl ?_
    refine cR ?_
    refine oAlloc rfl rfl rfl rfl rfl rfl rfl ?_
    refine oN ?_
    refine cR ?_
    iterate 5 refine oM rfl rfl ?_
    refine oBsl (r := [a, b, c, d]) (zl := []) rfl rfl rfl rfl (.inl ⟨rfl, rfl⟩) rfl rfl rfl rfl rfl rfl ?_
    refine oCall (hno) [(0, 1)] 2 rfl rfl (Fits.mk' (vHc rfl vHn) rfl rfl (by first | (simp; done) | exact glOk rfl rfl rfl)) rfl rfl ?_
    rintro r H1 ⟨k', sp, hk1, hk2, rfl, rfl⟩
    refine ⟨.tuple [.slice 3 0 4 k', .bool (facP p [a, b, c, d] != 0)], [(1, .ints 2 [a, b, c, d]), (3, .ints 2 ([n0, n1, n2, n3] ++ sp))], rfl, rfl, rfl, ?_⟩
    refine oM rfl rfl ?_
    iterate 2 refine oQ (Q_extract rfl rfl) rfl rfl ?_
    iterate 2 refine oA rfl rfl ?_
    refine oN ?_
    refine CW_seq ?_
    refine CW_any (fun i => List.elem i [13]) 14 rfl lateOk (by decide +kernel) (fun hst => ?_)
    refine aP 0 hst rfl rfl (by decide +kernel) (PX_move rfl rfl) rfl rfl ?_
    first | refine aQ 1 hst rfl rfl (by decide +kernel) (QX_of (Is0 rfl rfl rfl rfl rfl rfl) NE_ix) rfl rfl ?_ | refine aQ 1 hst rfl rfl (by decide +kernel) (QX_of (Is1 rfl rfl rfl rfl rfl rfl) NE_ix) rfl rfl ?_
    first | refine aQ 2 hst rfl rfl (by decide +kernel) (QX_of (Q_ldc rfl rfl rfl rfl rfl) NE_load) rfl rfl ?_ | refine aQ 2 hst rfl rfl (by decide +kernel) (QX_of (Ld rfl rfl rfl rfl) NE_load) rfl rfl ?_
    refine aP 3 hst rfl rfl (by decide +kernel) (PX_move rfl rfl) rfl rfl ?_
    first | refine aQ 4 hst rfl rfl (by decide +kernel) (QX_of (Is0 rfl rfl rfl rfl rfl rfl) NE_ix) rfl rfl ?_ | refine aQ 4 hst rfl rfl (by decide +kernel) (QX_of (Is1 rfl rfl rfl rfl rfl rfl) NE_ix) rfl rfl ?_
    first | refine aQ 5 hst rfl rfl (by decide +kernel) (QX_of (Q_ldc rfl rfl rfl rfl rfl) NE_load) rfl rfl ?_ | refine aQ 5 hst rfl rfl (by decide +kernel) (QX_of (Ld rfl rfl rfl rfl) NE_load) rfl rfl ?_
    refine aP 6 hst rfl rfl (by decide +kernel) (PX_move rfl rfl) rfl rfl ?_
    first | refine aQ 7 hst rfl rfl (by decide +kernel) (QX_of (Is0 rfl rfl rfl rfl rfl rfl) NE_ix) rfl rfl ?_ | refine aQ 7 hst rfl rfl (by decide +kernel) (QX_of (Is1 rfl rfl rfl rfl rfl rfl) NE_ix) rfl rfl ?_
    first | refine aQ 8 hst rfl rfl (by decide +kernel) (QX_of (Q_ldc rfl rfl rfl rfl rfl) NE_load) rfl rfl ?_ | refine aQ 8 hst rfl rfl (by decide +kernel) (QX_of (Ld rfl rfl rfl rfl) NE_load) rfl rfl ?_
    refine aP 9 hst rfl rfl (by decide +kernel) (PX_move rfl rfl) rfl rfl ?_
    first | refine aQ 10 hst rfl rfl (by decide +kernel) (QX_of (Is0 rfl rfl rfl rfl rfl rfl) NE_ix) rfl rfl ?_ | refine aQ 10 hst rfl rfl (by decide +kernel) (QX_of (Is1 rfl rfl rfl rfl rfl rfl) NE_ix) rfl rfl ?_
    first | refine aQ 11 hst rfl rfl (by decide +kernel) (QX_of (Q_ldc rfl rfl rfl rfl rfl) NE_load) rfl rfl ?_ | refine aQ 11 hst rfl rfl (by decide +kernel) (QX_of (Ld rfl rfl rfl rfl) NE_load) rfl rfl ?_
    refine aQ 12 hst rfl rfl (by decide +kernel) (QX_of (v := .arr [n0, n1, n2, n3]) (Q_build rfl rfl rfl rfl rfl rfl rfl rfl) NE_build) rfl rfl ?_
    refine AW_last [13] rfl (by decide +kernel) rfl ?_
    first | refine oSw rfl rfl rfl rfl ?_ | refine oSa rfl rfl rfl rfl ?_
    refine OW_nil (npN ?_)
    all_goals with_reducible refine tN ?_
    all_goals (
     refine CW_ret ?_)
    all_goals (
     ((refine exitQ (.inr rfl) 0 (.cons (.arr rfl rfl rfl rfl (by first | omega | (dsimp only; omega) | (simp; omega) | (simp; done))) .nil) ?_ rfl vHn rfl rfl); rfl))
end Go.Proofs.Ytchikadcicecoaa
namespace Go.Proofs.Ytchikadcicecoaa
set_option maxRecDepth 10000
set_option linter.unusedSimpArgs false
set_option linter.unusedVariables false
theorem l4_form {m : List Int} (h : m.length = 4) : ∃ a b c d, m = [a, b, c, d] := by
  match m, h with
  | [a, b, c, d], _ => exact ⟨a, b, c, d, rfl⟩
theorem nl4_bd {p : Int} (hp : primeB p = true) (a b c d : Int) : ∀ x ∈ normL p [a, b, c, d], 0 ≤ x ∧ x ≤ 12 := by
  intro x hx
  have hb := prime_bd hp
  unfold normL at hx
  obtain ⟨y, _, rfl⟩ := List.mem_map.1 hx
  have a1 := Int.emod_nonneg (y % p * facP p [a, b, c, d]) (show p ≠ 0 by omega)
  have a2 := Int.emod_lt_of_pos (y % p * facP p [a, b, c, d]) (show 0 < p by omega)
  omega
attribute [local irreducible] CW OW QW QOp Con thenP inBlockP AW QX RW AX
theorem l05Back_con (p a b c d : Int) (hp : primeB p = true) (hA : ∀ x ∈ [a, b, c, d], 0 ≤ x ∧ x ≤ 12) : ConQ Try.prog [] 26 [.int p, .arr [a, b, c, d]] [] (.arr (bkL p [a, b, c, d])) := by
  have hb := hA b (by simp)
  have hc0 := hA c (by simp)
  have hnl : (bkL p [a, b, c, d]).length = 4 := by unfold bkL; rw [normL_length]; rfl
  have hmd := l05Made_con p d (-b) (-c) a hp
  change ConQ _ _ _ _ _ (.arr (bkL p [a, b, c, d])) at hmd
  generalize bkL p [a, b, c, d] = B at *
  refine conW tab_ok [(0, .int p), (1, .arr [a, b, c, d])] 0 [] [] Try.func26 rfl rfl rfl rfl rfl rfl rfl rfl rfl ?_
  refine cR ?_
  refine oBox rfl rfl rfl rfl rfl rfl ?_
  refine oAlloc rfl rfl rfl rfl rfl rfl rfl ?_
  refine oN ?_
  refine cR ?_
  refine oM rfl rfl ?_
  first | refine oQ (Ia0 rfl rfl rfl rfl rfl rfl) rfl rfl ?_ | refine oQ (Ia1 rfl rfl rfl rfl rfl rfl) rfl rfl ?_
  first | refine oQ (Q_ldc rfl rfl rfl rfl rfl) rfl rfl ?_ | refine oQ (Ld rfl rfl rfl rfl) rfl rfl ?_
  first | refine oQ (Ia0 rfl rfl rfl rfl rfl rfl) rfl rfl ?_ | refine oQ (Ia1 rfl rfl rfl rfl rfl rfl) rfl rfl ?_
  first | refine oQ (Q_ldc rfl rfl rfl rfl rfl) rfl rfl ?_ | refine oQ (Ld rfl rfl rfl rfl) rfl rfl ?_
  first | refine oQ (Q_negu rfl (by omega)) rfl rfl ?_ | refine oQ (Q_neg rfl) rfl rfl ?_
  first | refine oQ (Ia0 rfl rfl rfl rfl rfl rfl) rfl rfl ?_ | refine oQ (Ia1 rfl rfl rfl rfl rfl rfl) rfl rfl ?_
  first | refine oQ (Q_ldc rfl rfl rfl rfl rfl) rfl rfl ?_ | refine oQ (Ld rfl rfl rfl rfl) rfl rfl ?_
  first | refine oQ (Q_negu rfl (by omega)) rfl rfl ?_ | refine oQ (Q_neg rfl) rfl rfl ?_
  first | refine oQ (Ia0 rfl rfl rfl rfl rfl rfl) rfl rfl ?_ | refine oQ (Ia1 rfl rfl rfl rfl rfl rfl) rfl rfl ?_
  first | refine oQ (Q_ldc rfl rfl rfl rfl rfl) rfl rfl ?_ | refine oQ (Ld rfl rfl rfl rfl) rfl rfl ?_
  refine oQ (Q_call0 (hmd) rfl rfl rfl) rfl rfl ?_
  first | refine oSw rfl rfl rfl rfl ?_ | refine oSa rfl rfl rfl rfl ?_
  refine oN ?_
  refine CW_ret ?_
  all_goals (
   ((refine exitQ (.inr rfl) 0 (.cons (.arr rfl rfl rfl rfl (by first | omega | (dsimp only; omega) | (simp; omega) | (simp; done))) .nil) ?_ rfl vHn rfl rfl); rfl))
theorem l05Times_con (p a b c d e f g h : Int) (hp : primeB p = true) (hA : ∀ x ∈ [a, b, c, d], 0 ≤ x ∧ x ≤ 12) (hE : ∀ x ∈ [e, f, g, h], 0 ≤ x ∧ x ≤ 12) : ConQ Try.prog [] 24 [.int p, .arr [a, b, c, d], .arr [e, f, g, h]] [] (.arr (normL p (thL4 [a, b, c, d] [e, f, g, h]))) := by
  have hpb := prime_bd hp
  have ha := hA a (by simp)
  have hb := hA b (by simp)
  have hc0 := hA c (by simp)
  have hd := hA d (by simp)
  have he := hE e (by simp)
  have hf := hE f (by simp)
  have hg0 := hE g (by simp)
  have hh := hE h (by simp)
  have hnl4 : (normL p (thL4 [a, b, c, d] [e, f, g, h])).length = 4 := by rw [normL_length]; rfl
  have hmd := l05Made_con p (a * e + b * g) (a * f + b * h) (c * e + d * g) (c * f + d * h) hp
  change ConQ _ _ _ _ _ (.arr (normL p (thL4 [a, b, c, d] [e, f, g, h]))) at hmd
  generalize normL p (thL4 [a, b, c, d] [e, f, g, h]) = B at *
  refine conW tab_ok [(0, .int p), (1, .arr [a, b, c, d]), (2, .arr [e, f, g, h])] 0 [] [] Try.func24 rfl rfl rfl rfl rfl rfl rfl rfl rfl ?_
  refine cR ?_
  iterate 2 refine oBox rfl rfl rfl rfl rfl rfl ?_
  refine oAlloc rfl rfl rfl rfl rfl rfl rfl ?_
  refine oN ?_
  refine cR ?_
  refine oM rfl rfl ?_
  first | refine oQ (Ia0 rfl rfl rfl rfl rfl rfl) rfl rfl ?_ | refine oQ (Ia1 rfl rfl rfl rfl rfl rfl) rfl rfl ?_
  first | refine oQ (Q_ldc rfl rfl rfl rfl rfl) rfl rfl ?_ | refine oQ (Ld rfl rfl rfl rfl) rfl rfl ?_
  first | refine oQ (Ia0 rfl rfl rfl rfl rfl rfl) rfl rfl ?_ | refine oQ (Ia1 rfl rfl rfl rfl rfl rfl) rfl rfl ?_
  first | refine oQ (Q_ldc rfl rfl rfl rfl rfl) rfl rfl ?_ | refine oQ (Ld rfl rfl rfl rfl) rfl rfl ?_
  refine oMulN 12 12 rfl rfl (by omega) (by omega) (by decide) rfl (fun z12 hz12 hl12 hu12 => ?_)
  first | refine oQ (Ia0 rfl rfl rfl rfl rfl rfl) rfl rfl ?_ | refine oQ (Ia1 rfl rfl rfl rfl rfl rfl) rfl rfl ?_
  first | refine oQ (Q_ldc rfl rfl rfl rfl rfl) rfl rfl ?_ | refine oQ (Ld rfl rfl rfl rfl) rfl rfl ?_
  first | refine oQ (Ia0 rfl rfl rfl rfl rfl rfl) rfl rfl ?_ | refine oQ (Ia1 rfl rfl rfl rfl rfl rfl) rfl rfl ?_
  first | refine oQ (Q_ldc rfl rfl rfl rfl rfl) rfl rfl ?_ | refine oQ (Ld rfl rfl rfl rfl) rfl rfl ?_
  refine oMulN 12 12 rfl rfl (by omega) (by omega) (by decide) rfl (fun z17 hz17 hl17 hu17 => ?_)
  first | refine oQ (Q_binu rfl rfl rfl (by omega)) rfl rfl ?_ | refine oQ (Q_bin rfl rfl rfl) rfl rfl ?_
  first | refine oQ (Ia0 rfl rfl rfl rfl rfl rfl) rfl rfl ?_ | refine oQ (Ia1 rfl rfl rfl rfl rfl rfl) rfl rfl ?_
  first | refine oQ (Q_ldc rfl rfl rfl rfl rfl) rfl rfl ?_ | refine oQ (Ld rfl rfl rfl rfl) rfl rfl ?_
  first | refine oQ (Ia0 rfl rfl rfl rfl rfl rfl) rfl rfl ?_ | refine oQ (Ia1 rfl rfl rfl rfl rfl rfl) rfl rfl ?_
  first | refine oQ (Q_ldc rfl rfl rfl rfl rfl) rfl rfl ?_ | refine oQ (Ld rfl rfl rfl rfl) rfl rfl ?_
  refine oMulN 12 12 rfl rfl (by omega) (by omega) (by decide) rfl (fun z23 hz23 hl23 hu23 => ?_)
  first | refine oQ (Ia0 rfl rfl rfl rfl rfl rfl) rfl rfl ?_ | refine oQ (Ia1 rfl rfl rfl rfl rfl rfl) rfl rfl ?_
  first | refine oQ (Q_ldc rfl rfl rfl rfl rfl) rfl rfl ?_ | refine oQ (Ld rfl rfl rfl rfl) rfl rfl ?_
  first | refine oQ (Ia0 rfl rfl rfl rfl rfl rfl) rfl rfl ?_ | refine oQ (Ia1 rfl rfl rfl rfl rfl rfl) rfl rfl ?_
  first | refine oQ (Q_ldc rfl rfl rfl rfl rfl) rfl rfl ?_ | refine oQ (Ld rfl rfl rfl rfl) rfl rfl ?_
  refine oMulN 12 12 rfl rfl (by omega) (by omega) (by decide) rfl (fun z28 hz28 hl28 hu28 => ?_)
  first | refine oQ (Q_binu rfl rfl rfl (by omega)) rfl rfl ?_ | refine oQ (Q_bin rfl rfl rfl) rfl rfl ?_
  first | refine oQ (Ia0 rfl rfl rfl rfl rfl rfl) rfl rfl ?_ | refine oQ (Ia1 rfl rfl rfl rfl rfl rfl) rfl rfl ?_
  first | refine oQ (Q_ldc rfl rfl rfl rfl rfl) rfl rfl ?_ | refine oQ (Ld rfl rfl rfl rfl) rfl rfl ?_
  first | refine oQ (Ia0 rfl rfl rfl rfl rfl rfl) rfl rfl ?_ | refine oQ (Ia1 rfl rfl rfl rfl rfl rfl) rfl rfl ?_
  first | refine oQ (Q_ldc rfl rfl rfl rfl rfl) rfl rfl ?_ | refine oQ (Ld rfl rfl rfl rfl) rfl rfl ?_
  refine oMulN 12 12 rfl rfl (by omega) (by omega) (by decide) rfl (fun z34 hz34 hl34 hu34 => ?_)
  first | refine oQ (Ia0 rfl rfl rfl rfl rfl rfl) rfl rfl ?_ | refine oQ (Ia1 rfl rfl rfl rfl rfl rfl) rfl rfl ?_
  first | refine oQ (Q_ldc rfl rfl rfl rfl rfl) rfl rfl ?_ | refine oQ (Ld rfl rfl rfl rfl) rfl rfl ?_
  first | refine oQ (Ia0 rfl rfl rfl rfl rfl rfl) rfl rfl ?_ | refine oQ (Ia1 rfl rfl rfl rfl rfl rfl) rfl rfl ?_
  first | refine oQ (Q_ldc rfl rfl rfl rfl rfl) rfl rfl ?_ | refine oQ (Ld rfl rfl rfl rfl) rfl rfl ?_
  refine oMulN 12 12 rfl rfl (by omega) (by omega) (by decide) rfl (fun z39 hz39 hl39 hu39 => ?_)
  first | refine oQ (Q_binu rfl rfl rfl (by omega)) rfl rfl ?_ | refine oQ (Q_bin rfl rfl rfl) rfl rfl ?_
  first | refine oQ (Ia0 rfl rfl rfl rfl rfl rfl) rfl rfl ?_ | refine oQ (Ia1 rfl rfl rfl rfl rfl rfl) rfl rfl ?_
  first | refine oQ (Q_ldc rfl rfl rfl rfl rfl) rfl rfl ?_ | refine oQ (Ld rfl rfl rfl rfl) rfl rfl ?_
  first | refine oQ (Ia0 rfl rfl rfl rfl rfl rfl) rfl rfl ?_ | refine oQ (Ia1 rfl rfl rfl rfl rfl rfl) rfl rfl ?_
  first | refine oQ (Q_ldc rfl rfl rfl rfl rfl) rfl rfl ?_ | refine oQ (Ld rfl rfl rfl rfl) rfl rfl ?_
  refine oMulN 12 12 rfl rfl (by omega) (by omega) (by decide) rfl (fun z45 hz45 hl45 hu45 => ?_)
  first | refine oQ (Ia0 rfl rfl rfl rfl rfl rfl) rfl rfl ?_ | refine oQ (Ia1 rfl rfl rfl rfl rfl rfl) rfl rfl ?_
  first | refine oQ (Q_ldc rfl rfl rfl rfl rfl) rfl rfl ?_ | refine oQ (Ld rfl rfl rfl rfl) rfl rfl ?_
  first | refine oQ (Ia0 rfl rfl rfl rfl rfl rfl) rfl rfl ?_ | refine oQ (Ia1 rfl rfl rfl rfl rfl rfl) rfl rfl ?_
  first | refine oQ (Q_ldc rfl rfl rfl rfl rfl) rfl rfl ?_ | refine oQ (Ld rfl rfl rfl rfl) rfl rfl ?_
  refine oMulN 12 12 rfl rfl (by omega) (by omega) (by decide) rfl (fun z50 hz50 hl50 hu50 => ?_)
  first | refine oQ (Q_binu rfl rfl rfl (by omega)) rfl rfl ?_ | refine oQ (Q_bin rfl rfl rfl) rfl rfl ?_
  subst hz12 hz17 hz23 hz28 hz34 hz39 hz45 hz50
  refine oQ (Q_call0 (hmd) rfl rfl rfl) rfl rfl ?_
  first | refine oSw rfl rfl rfl rfl ?_ | refine oSa rfl rfl rfl rfl ?_
  refine oN ?_
  refine CW_ret ?_
  all_goals (
   ((refine exitQ (.inr rfl) 0 (.cons (.arr rfl rfl rfl rfl (by first | omega | (dsimp only; omega) | (simp; omega) | (simp; done))) .nil) ?_ rfl vHn rfl rfl); rfl))
theorem l05Frame_con (p a b c : Int) (hp : primeB p = true) (ha : 0 ≤ a ∧ a ≤ p) (hb : 0 ≤ b ∧ b ≤ p) (hc0 : 0 ≤ c ∧ c ≤ p) : ConQ Try.prog [] 25 [.int p, .int a, .int b, .int c] [] (.arr (frL p a b c)) := by
  have hpb := prime_bd hp
  have xa := prX_bd hp ha
  have xb := prX_bd hp hb
  have xc := prX_bd hp hc0
  have hnl : (frL p a b c).length = 4 := by unfold frL; rw [normL_length]; rfl
  have hmd := l05Made_con p (frF p a b c * prX p a) (frG p a b c * prX p b) (frF p a b c * prY p a) (frG p a b c * prY p b) hp
  change ConQ _ _ _ _ _ (.arr (frL p a b c)) at hmd
  generalize frL p a b c = B at *
  have hinv := l01Inverse_con (prX p a * prY p b - prX p b * prY p a) p hp
  have hiz := invz_bd hp (mod_bd hp (prX p a * prY p b - prX p b * prY p a)).1 (mod_bd hp (prX p a * prY p b - prX p b * prY p a)).2
  have hf := l01Mod_con ((prX p c * prY p b - prX p b * prY p c) * invP p ((prX p a * prY p b - prX p b * prY p a) % p)) p (by omega) (by omega)
  change ConQ _ _ _ _ _ (.int (frF p a b c)) at hf
  have hfb : 0 ≤ frF p a b c ∧ frF p a b c < p := mod_bd hp _
  have hg0 := l01Mod_con ((prX p a * prY p c - prX p c * prY p a) * invP p ((prX p a * prY p b - prX p b * prY p a) % p)) p (by omega) (by omega)
  change ConQ _ _ _ _ _ (.int (frG p a b c)) at hg0
  have hgb : 0 ≤ frG p a b c ∧ frG p a b c < p := mod_bd hp _
  generalize frF p a b c = F at *
  generalize frG p a b c = G at *
  have p1 := l05Pair_con p a
  have p2 := l05Pair_con p b
  have p3 := l05Pair_con p c
  generalize prX p a = x at *
  generalize prY p a = y at *
  generalize prX p b = u at *
  generalize prY p b = v at *
  generalize prX p c = s at *
  generalize prY p c = t at *
  generalize hii : invP p ((x * v - u * y) % p) = i at *
  refine conW tab_ok [(0, .int p), (1, .int a), (2, .int b), (3, .int c)] 0 [] [] Try.func25 rfl rfl rfl rfl rfl rfl rfl rfl rfl ?_
  refine cR ?_
  refine oAlloc rfl rfl rfl rfl rfl rfl rfl ?_
  refine oN ?_
  refine cR ?_
  iterate 2 refine oM rfl rfl ?_
  refine oQ (Q_call0 (p1) rfl rfl rfl) rfl rfl ?_
  refine oM rfl rfl ?_
  iterate 2 refine oQ (Q_extract rfl rfl) rfl rfl ?_
  iterate 2 refine oA rfl rfl ?_
  refine oN ?_
  refine cR ?_
  iterate 2 refine oM rfl rfl ?_
  refine oQ (Q_call0 (p2) rfl rfl rfl) rfl rfl ?_
  refine oM rfl rfl ?_
  iterate 2 refine oQ (Q_extract rfl rfl) rfl rfl ?_
  iterate 2 refine oA rfl rfl ?_
  refine oN ?_
  refine cR ?_
  iterate 2 refine oM rfl rfl ?_
  refine oQ (Q_call0 (p3) rfl rfl rfl) rfl rfl ?_
  refine oM rfl rfl ?_
  iterate 2 refine oQ (Q_extract rfl rfl) rfl rfl ?_
  iterate 2 refine oA rfl rfl ?_
  refine oN ?_
  refine cR ?_
  iterate 3 refine oM rfl rfl ?_
  refine oMul 13 13 rfl rfl (by omega) (by omega) (by decide) rfl (fun z39 hz39 hl39 hu39 => ?_)
  iterate 2 refine oM rfl rfl ?_
  refine oMul 13 13 rfl rfl (by omega) (by omega) (by decide) rfl (fun z42 hz42 hl42 hu42 => ?_)
  first | refine oQ (Q_binu rfl rfl rfl (by omega)) rfl rfl ?_ | refine oQ (Q_bin rfl rfl rfl) rfl rfl ?_
  subst hz39 hz42
  refine oQ (Q_call0 (hinv) rfl rfl rfl) rfl rfl ?_
  refine oA rfl rfl ?_
  refine oN ?_
  refine cR ?_
  iterate 3 refine oM rfl rfl ?_
  refine oMul 13 13 rfl rfl (by omega) (by omega) (by decide) rfl (fun z48 hz48 hl48 hu48 => ?_)
  iterate 2 refine oM rfl rfl ?_
  refine oMul 13 13 rfl rfl (by omega) (by omega) (by decide) rfl (fun z51 hz51 hl51 hu51 => ?_)
  first | refine oQ (Q_binu rfl rfl rfl (by omega)) rfl rfl ?_ | refine oQ (Q_bin rfl rfl rfl) rfl rfl ?_
  refine oM rfl rfl ?_
  refine oMul 400 13 rfl rfl (by omega) (by omega) (by decide) rfl (fun z54 hz54 hl54 hu54 => ?_)
  subst hz48 hz51 hz54
  refine oQ (Q_call0 (hf) rfl rfl rfl) rfl rfl ?_
  refine oA rfl rfl ?_
  refine oN ?_
  refine cR ?_
  iterate 3 refine oM rfl rfl ?_
  refine oMul 13 13 rfl rfl (by omega) (by omega) (by decide) rfl (fun z59 hz59 hl59 hu59 => ?_)
  iterate 2 refine oM rfl rfl ?_
  refine oMul 13 13 rfl rfl (by omega) (by omega) (by decide) rfl (fun z62 hz62 hl62 hu62 => ?_)
  first | refine oQ (Q_binu rfl rfl rfl (by omega)) rfl rfl ?_ | refine oQ (Q_bin rfl rfl rfl) rfl rfl ?_
  refine oM rfl rfl ?_
  refine oMul 400 13 rfl rfl (by omega) (by omega) (by decide) rfl (fun z65 hz65 hl65 hu65 => ?_)
  subst hz59 hz62 hz65
  refine oQ (Q_call0 (hg0) rfl rfl rfl) rfl rfl ?_
  refine oA rfl rfl ?_
  refine oN ?_
  refine cR ?_
  iterate 3 refine oM rfl rfl ?_
  refine oMul 13 13 rfl rfl (by omega) (by omega) (by decide) rfl (fun z70 hz70 hl70 hu70 => ?_)
  iterate 2 refine oM rfl rfl ?_
  refine oMul 13 13 rfl rfl (by omega) (by omega) (by decide) rfl (fun z73 hz73 hl73 hu73 => ?_)
  iterate 2 refine oM rfl rfl ?_
  refine oMul 13 13 rfl rfl (by omega) (by omega) (by decide) rfl (fun z76 hz76 hl76 hu76 => ?_)
  iterate 2 refine oM rfl rfl ?_
  refine oMul 13 13 rfl rfl (by omega) (by omega) (by decide) rfl (fun z79 hz79 hl79 hu79 => ?_)
  subst hz70 hz73 hz76 hz79
  refine oQ (Q_call0 (hmd) rfl rfl rfl) rfl rfl ?_
  first | refine oSw rfl rfl rfl rfl ?_ | refine oSa rfl rfl rfl rfl ?_
  refine oN ?_
  refine CW_ret ?_
  all_goals (
   ((refine exitQ (.inr rfl) 0 (.cons (.arr rfl rfl rfl rfl (by first | omega | (dsimp only; omega) | (simp; omega) | (simp; done))) .nil) ?_ rfl vHn rfl rfl); rfl))
end Go.Proofs.Ytchikadcicecoaa
namespace Go.Proofs.Ytchikadcicecoaa
set_option maxRecDepth 10000
set_option linter.unusedSimpArgs false
set_option linter.unusedVariables false
/-- the digits of a number -/
def dg (n i : Nat) : N4 := (i / (n * n * n), i / (n * n) % n, i / n % n, i % n)
theorem dg_lt {n i : Nat} (hn : 0 < n) (hi : i < n * n * n * n) : (dg n i).1 < n ∧ (dg n i).2.1 < n ∧ (dg n i).2.2.1 < n ∧ (dg n i).2.2.2 < n := by
  refine ⟨?_, Nat.mod_lt _ hn, Nat.mod_lt _ hn, Nat.mod_lt _ hn⟩
  show i / (n * n * n) < n
  rw [Nat.div_lt_iff_lt_mul (Nat.mul_pos (Nat.mul_pos hn hn) hn)]
  rw [Nat.mul_comm]
  exact hi
theorem dg_sur {n : Nat} (hn : 0 < n) {m : N4} (h1 : m.1 < n) (h2 : m.2.1 < n) (h3 : m.2.2.1 < n) (h4 : m.2.2.2 < n) : ∃ i, i < n * n * n * n ∧ dg n i = m := by
  obtain ⟨a, b, c, d⟩ := m
  dsimp only at h1 h2 h3 h4
  have e1 : a * (n * n * n) + b * (n * n) + c * n + d = ((a * n + b) * n + c) * n + d := by
    simp only [Nat.add_mul, Nat.mul_assoc]
  refine ⟨((a * n + b) * n + c) * n + d, ?_, ?_⟩
  · have k1 : a * n + b < n * n := by
      have : (a + 1) * n ≤ n * n := Nat.mul_le_mul_right n h1
      rw [Nat.add_mul] at this; omega
    have k2 : (a * n + b) * n + c < n * n * n := by
      have : (a * n + b + 1) * n ≤ n * n * n := Nat.mul_le_mul_right n k1
      rw [Nat.add_mul] at this; omega
    have : ((a * n + b) * n + c + 1) * n ≤ n * n * n * n := Nat.mul_le_mul_right n k2
    rw [Nat.add_mul] at this; omega
  · have d1 : (((a * n + b) * n + c) * n + d) / n = (a * n + b) * n + c := by
      rw [Nat.mul_comm _ n, Nat.mul_add_div hn, Nat.div_eq_of_lt h4, Nat.add_zero]
    have d2 : ((a * n + b) * n + c) / n = a * n + b := by
      rw [Nat.mul_comm _ n, Nat.mul_add_div hn, Nat.div_eq_of_lt h3, Nat.add_zero]
    have d3 : (a * n + b) / n = a := by
      rw [Nat.mul_comm _ n, Nat.mul_add_div hn, Nat.div_eq_of_lt h2, Nat.add_zero]
    unfold dg
    rw [← Nat.div_div_eq_div_mul, ← Nat.div_div_eq_div_mul, d1, d2, d3]
    simp only [Prod.mk.injEq]
    refine ⟨trivial, ?_, ?_, ?_⟩
    · rw [Nat.mul_comm _ n, Nat.mul_add_mod, Nat.mod_eq_of_lt h2]
    · rw [Nat.mul_comm _ n, Nat.mul_add_mod, Nat.mod_eq_of_lt h3]
    · rw [Nat.mul_comm _ n, Nat.mul_add_mod, Nat.mod_eq_of_lt h4]
/-- the first valid map, by its number, for which something is so -/
def fqN (n : Nat) (g : N4 → Bool) (m : N4) : Bool := moebB (n : Int) (toM m) && g m
def fM (n : Nat) (g : N4 → Bool) : Option N4 := ((List.range (n * n * n * n)).find? fun i => fqN n g (dg n i)).map (dg n)
theorem fM_some {n : Nat} {g : N4 → Bool} {i : Nat} (hi : i < n * n * n * n) (h0 : ∀ j, j < i → fqN n g (dg n j) = false) (h1 : fqN n g (dg n i) = true) : fM n g = some (dg n i) := by
  have : (List.range (n * n * n * n)).find? (fun i => fqN n g (dg n i)) = some i := by
    rw [List.find?_eq_some_iff_getElem]
    refine ⟨h1, i, by simpa using hi, by simp, fun j hj => ?_⟩
    simp [h0 j hj]
  unfold fM; rw [this]; rfl
theorem fM_none {n : Nat} {g : N4 → Bool} (h0 : ∀ j, j < n * n * n * n → fqN n g (dg n j) = false) : fM n g = none := by
  have : (List.range (n * n * n * n)).find? (fun i => fqN n g (dg n i)) = none := by
    rw [List.find?_eq_none]
    intro j hj
    simp [h0 j (by simpa using hj)]
  unfold fM; rw [this]; rfl
attribute [local irreducible] CW OW QW QOp Con thenP inBlockP AW QX RW AX
end Go.Proofs.Ytchikadcicecoaa
namespace Go.Proofs.Ytchikadcicecoaa
set_option maxRecDepth 10000
set_option linter.unusedSimpArgs false
set_option linter.unusedVariables false
def gM (n a b c d e f : Nat) (m : N4) : Bool := decide (atN n m a = d) && decide (atN n m b = e) && decide (atN n m c = f)
theorem fM_uniq {n : Nat} (hp : primeB (n : Int) = true) {g : N4 → Bool} {w : N4} (hw : w ∈ MN n) (hg : g w = true) (hu : ∀ m, m ∈ MN n → g m = true → m = w) : fM n g = some w := by
  have hb := prime_bd hp
  have hn : 2 ≤ n := by omega
  have hl := MN_lt hn hw
  obtain ⟨i, hi, he⟩ := dg_sur (by omega) hl.1 hl.2.1 hl.2.2.1 hl.2.2.2
  have hqi : fqN n g (dg n i) = true := by
    rw [he]
    simp only [fqN, Bool.and_eq_true]
    exact ⟨(moeb_mem hp hl.1 hl.2.1 hl.2.2.1 hl.2.2.2).2 hw, hg⟩
  cases hfm : (List.range (n * n * n * n)).find? (fun i => fqN n g (dg n i)) with
  | none =>
    rw [List.find?_eq_none] at hfm
    exact absurd hqi (hfm i (by simpa using hi))
  | some j =>
    have h1 := List.find?_some hfm
    have h2 := List.mem_of_find?_eq_some hfm
    have h3 := dg_lt (n := n) (by omega) (show j < n * n * n * n by simpa using h2)
    simp only [fqN, Bool.and_eq_true] at h1
    have hm := (moeb_mem hp h3.1 h3.2.1 h3.2.2.1 h3.2.2.2).1 h1.1
    unfold fM
    rw [hfm]
    exact congrArg some (hu _ hm h1.2)
/-- what both sides refuse -/
def moBad (p : Int) (A B : List Int) (n m : Nat) : Prop := ¬ (primeB p = true ∧ n = 3 ∧ m = 3 ∧ difB A n = true ∧ placesB p (A.take n) = true ∧ difB B m = true ∧ placesB p (B.take m) = true)
attribute [local irreducible] CW OW QW QOp Con thenP inBlockP AW QX RW AX
theorem mof1_con (n a b c d e f : Nat) (m : N4) (t0 t1 : TypeId) (ra rb : List Int) (k0 k1 : Nat) (hp : primeB (n : Int) = true) (ha : a ≤ n) (hb : b ≤ n) (hc0 : c ≤ n) (hm : m ∈ MN n) : ConQ Try.prog [] 29 [.arr (toM m), .ptr 1000 0, .ptr 1001 0, .ptr 1002 0] [(1000, .ints 2 [(n : Int)]), (1001, .vals 28 [.slice 1003 0 3 k0]), (1002, .vals 28 [.slice 1004 0 3 k1]), (1003, .ints t0 ((a : Int) :: (b : Int) :: (c : Int) :: ra)), (1004, .ints t1 ((d : Int) :: (e : Int) :: (f : Int) :: rb))] (.bool (gM n a b c d e f m)) := by
  have hpb := prime_bd hp
  have hlt := MN_lt (show 2 ≤ n by omega) hm
  have hat := fun (x : Nat) (hx : x ≤ n) => at_con (n : Int) (m.1 : Int) (m.2.1 : Int) (m.2.2.1 : Int) (m.2.2.2 : Int) (x : Int) hp (by omega) (by omega) (by omega) (by omega) (by omega)
  simp only [at_cast] at hat
  have cst : ∀ x y : Nat, (((x : Nat) : Int) = (y : Int)) = (x = y) := fun x y => propext (by omega)
  refine conW tab_ok [(0, .arr (toM m)), (1, .ptr 1000 0), (2, .ptr 1001 0), (3, .ptr 1002 0)] 0 [1000, 1001, 1002, 1003, 1004] [1000, 1001, 1002, 1003, 1004] Try.func29 rfl rfl rfl rfl rfl rfl rfl rfl rfl ?_
  refine cR ?_
  refine oBox rfl rfl rfl rfl rfl rfl ?_
  refine oA rfl rfl ?_
  refine oN ?_
  refine CW_seq ?_
  refine CW_draw lateOk (by decide +kernel) ?_
  first | refine qQ (Lw rfl rfl rfl rfl) rfl rfl ?_ | refine qQ (La rfl rfl rfl rfl rfl) rfl rfl ?_
  first | refine qQ (Q_ldc rfl rfl rfl rfl rfl) rfl rfl ?_ | refine qQ (Ld rfl rfl rfl rfl) rfl rfl ?_
  refine qQ (Q_ldv rfl rfl rfl rfl rfl rfl) rfl rfl ?_
  first | refine qQ (Is0 rfl rfl rfl rfl rfl rfl) rfl rfl ?_ | refine qQ (Is1 rfl rfl rfl rfl rfl rfl) rfl rfl ?_
  first | refine qQ (Q_ldc rfl rfl rfl rfl rfl) rfl rfl ?_ | refine qQ (Ld rfl rfl rfl rfl) rfl rfl ?_
  refine qQ (Q_call0 (hat a ha) rfl rfl rfl) rfl rfl ?_
  refine qQ (Q_ldv rfl rfl rfl rfl rfl rfl) rfl rfl ?_
  first | refine qQ (Is0 rfl rfl rfl rfl rfl rfl) rfl rfl ?_ | refine qQ (Is1 rfl rfl rfl rfl rfl rfl) rfl rfl ?_
  first | refine qQ (Q_ldc rfl rfl rfl rfl rfl) rfl rfl ?_ | refine qQ (Ld rfl rfl rfl rfl) rfl rfl ?_
  refine qQ (Q_bin rfl rfl rfl) rfl rfl ?_
  refine qM rfl rfl ?_
  all_goals first | refine qT rfl rfl ?_ | refine q1 rfl rfl rfl ?_ | refine q0 rfl rfl rfl ?_ | refine qgP1 rfl rfl rfl (fun hg => ?_) (fun hg => ?_) | refine qgP0 rfl rfl rfl (fun hg => ?_) (fun hg => ?_)
  all_goals try simp only [s1, s2, s3, s4, s5, s6, s7, s8, s9, s10, s11, s12] at hg
  all_goals first | refine qQ (Lw rfl rfl rfl rfl) rfl rfl ?_ | refine qQ (La rfl rfl rfl rfl rfl) rfl rfl ?_ | skip
  all_goals first | refine qT rfl rfl ?_ | refine q1 rfl rfl rfl ?_ | refine q0 rfl rfl rfl ?_ | refine qgP1 rfl rfl rfl (fun hg => ?_) (fun hg => ?_) | refine qgP0 rfl rfl rfl (fun hg => ?_) (fun hg => ?_)
  all_goals try simp only [s1, s2, s3, s4, s5, s6, s7, s8, s9, s10, s11, s12] at hg
  all_goals first | refine qQ (Q_ldc rfl rfl rfl rfl rfl) rfl rfl ?_ | refine qQ (Ld rfl rfl rfl rfl) rfl rfl ?_ | skip
  all_goals first | refine qT rfl rfl ?_ | refine q1 rfl rfl rfl ?_ | refine q0 rfl rfl rfl ?_ | refine qgP1 rfl rfl rfl (fun hg => ?_) (fun hg => ?_) | refine qgP0 rfl rfl rfl (fun hg => ?_) (fun hg => ?_)
  all_goals try simp only [s1, s2, s3, s4, s5, s6, s7, s8, s9, s10, s11, s12] at hg
  all_goals first | (refine qQ (Q_ldv rfl rfl rfl rfl rfl rfl) rfl rfl ?_) | skip
  all_goals first | refine qT rfl rfl ?_ | refine q1 rfl rfl rfl ?_ | refine q0 rfl rfl rfl ?_ | refine qgP1 rfl rfl rfl (fun hg => ?_) (fun hg => ?_) | refine qgP0 rfl rfl rfl (fun hg => ?_) (fun hg => ?_)
  all_goals try simp only [s1, s2, s3, s4, s5, s6, s7, s8, s9, s10, s11, s12] at hg
  all_goals first | refine qQ (Is0 rfl rfl rfl rfl rfl rfl) rfl rfl ?_ | refine qQ (Is1 rfl rfl rfl rfl rfl rfl) rfl rfl ?_ | skip
  all_goals first | refine qT rfl rfl ?_ | refine q1 rfl rfl rfl ?_ | refine q0 rfl rfl rfl ?_ | refine qgP1 rfl rfl rfl (fun hg => ?_) (fun hg => ?_) | refine qgP0 rfl rfl rfl (fun hg => ?_) (fun hg => ?_)
  all_goals try simp only [s1, s2, s3, s4, s5, s6, s7, s8, s9, s10, s11, s12] at hg
  all_goals first | refine qQ (Q_ldc rfl rfl rfl rfl rfl) rfl rfl ?_ | refine qQ (Ld rfl rfl rfl rfl) rfl rfl ?_ | skip
  all_goals first | refine qT rfl rfl ?_ | refine q1 rfl rfl rfl ?_ | refine q0 rfl rfl rfl ?_ | refine qgP1 rfl rfl rfl (fun hg => ?_) (fun hg => ?_) | refine qgP0 rfl rfl rfl (fun hg => ?_) (fun hg => ?_)
  all_goals try simp only [s1, s2, s3, s4, s5, s6, s7, s8, s9, s10, s11, s12] at hg
  all_goals first | (refine qQ (Q_call0 (hat b hb) rfl rfl rfl) rfl rfl ?_) | skip
  all_goals first | refine qT rfl rfl ?_ | refine q1 rfl rfl rfl ?_ | refine q0 rfl rfl rfl ?_ | refine qgP1 rfl rfl rfl (fun hg => ?_) (fun hg => ?_) | refine qgP0 rfl rfl rfl (fun hg => ?_) (fun hg => ?_)
  all_goals try simp only [s1, s2, s3, s4, s5, s6, s7, s8, s9, s10, s11, s12] at hg
  all_goals first | (refine qQ (Q_ldv rfl rfl rfl rfl rfl rfl) rfl rfl ?_) | skip
  all_goals first | refine qT rfl rfl ?_ | refine q1 rfl rfl rfl ?_ | refine q0 rfl rfl rfl ?_ | refine qgP1 rfl rfl rfl (fun hg => ?_) (fun hg => ?_) | refine qgP0 rfl rfl rfl (fun hg => ?_) (fun hg => ?_)
  all_goals try simp only [s1, s2, s3, s4, s5, s6, s7, s8, s9, s10, s11, s12] at hg
  all_goals first | refine qQ (Is0 rfl rfl rfl rfl rfl rfl) rfl rfl ?_ | refine qQ (Is1 rfl rfl rfl rfl rfl rfl) rfl rfl ?_ | skip
  all_goals first | refine qT rfl rfl ?_ | refine q1 rfl rfl rfl ?_ | refine q0 rfl rfl rfl ?_ | refine qgP1 rfl rfl rfl (fun hg => ?_) (fun hg => ?_) | refine qgP0 rfl rfl rfl (fun hg => ?_) (fun hg => ?_)
  all_goals try simp only [s1, s2, s3, s4, s5, s6, s7, s8, s9, s10, s11, s12] at hg
  all_goals first | refine qQ (Q_ldc rfl rfl rfl rfl rfl) rfl rfl ?_ | refine qQ (Ld rfl rfl rfl rfl) rfl rfl ?_ | skip
  all_goals first | refine qT rfl rfl ?_ | refine q1 rfl rfl rfl ?_ | refine q0 rfl rfl rfl ?_ | refine qgP1 rfl rfl rfl (fun hg => ?_) (fun hg => ?_) | refine qgP0 rfl rfl rfl (fun hg => ?_) (fun hg => ?_)
  all_goals try simp only [s1, s2, s3, s4, s5, s6, s7, s8, s9, s10, s11, s12] at hg
  all_goals first | (refine qQ (Q_bin rfl rfl rfl) rfl rfl ?_) | skip
  all_goals first | refine qQ (Q_pick_t rfl (by with_reducible rfl) rfl rfl) rfl rfl ?_ | refine qQ (Q_pick_f rfl (by with_reducible rfl) rfl rfl) rfl rfl ?_
  all_goals first | (refine qM rfl rfl ?_)
  all_goals first | refine qT rfl rfl ?_ | refine q1 rfl rfl rfl ?_ | refine q0 rfl rfl rfl ?_ | refine qgP1 rfl rfl rfl (fun hg => ?_) (fun hg => ?_) | refine qgP0 rfl rfl rfl (fun hg => ?_) (fun hg => ?_)
  all_goals try simp only [s1, s2, s3, s4, s5, s6, s7, s8, s9, s10, s11, s12] at hg
  all_goals first | refine qQ (Lw rfl rfl rfl rfl) rfl rfl ?_ | refine qQ (La rfl rfl rfl rfl rfl) rfl rfl ?_ | skip
  all_goals first | refine qT rfl rfl ?_ | refine q1 rfl rfl rfl ?_ | refine q0 rfl rfl rfl ?_ | refine qgP1 rfl rfl rfl (fun hg => ?_) (fun hg => ?_) | refine qgP0 rfl rfl rfl (fun hg => ?_) (fun hg => ?_)
  all_goals try simp only [s1, s2, s3, s4, s5, s6, s7, s8, s9, s10, s11, s12] at hg
  all_goals first | refine qQ (Q_ldc rfl rfl rfl rfl rfl) rfl rfl ?_ | refine qQ (Ld rfl rfl rfl rfl) rfl rfl ?_ | skip
  all_goals first | refine qT rfl rfl ?_ | refine q1 rfl rfl rfl ?_ | refine q0 rfl rfl rfl ?_ | refine qgP1 rfl rfl rfl (fun hg => ?_) (fun hg => ?_) | refine qgP0 rfl rfl rfl (fun hg => ?_) (fun hg => ?_)
  all_goals try simp only [s1, s2, s3, s4, s5, s6, s7, s8, s9, s10, s11, s12] at hg
  all_goals first | (refine qQ (Q_ldv rfl rfl rfl rfl rfl rfl) rfl rfl ?_) | skip
  all_goals first | refine qT rfl rfl ?_ | refine q1 rfl rfl rfl ?_ | refine q0 rfl rfl rfl ?_ | refine qgP1 rfl rfl rfl (fun hg => ?_) (fun hg => ?_) | refine qgP0 rfl rfl rfl (fun hg => ?_) (fun hg => ?_)
  all_goals try simp only [s1, s2, s3, s4, s5, s6, s7, s8, s9, s10, s11, s12] at hg
  all_goals first | refine qQ (Is0 rfl rfl rfl rfl rfl rfl) rfl rfl ?_ | refine qQ (Is1 rfl rfl rfl rfl rfl rfl) rfl rfl ?_ | skip
  all_goals first | refine qT rfl rfl ?_ | refine q1 rfl rfl rfl ?_ | refine q0 rfl rfl rfl ?_ | refine qgP1 rfl rfl rfl (fun hg => ?_) (fun hg => ?_) | refine qgP0 rfl rfl rfl (fun hg => ?_) (fun hg => ?_)
  all_goals try simp only [s1, s2, s3, s4, s5, s6, s7, s8, s9, s10, s11, s12] at hg
  all_goals first | refine qQ (Q_ldc rfl rfl rfl rfl rfl) rfl rfl ?_ | refine qQ (Ld rfl rfl rfl rfl) rfl rfl ?_ | skip
  all_goals first | refine qT rfl rfl ?_ | refine q1 rfl rfl rfl ?_ | refine q0 rfl rfl rfl ?_ | refine qgP1 rfl rfl rfl (fun hg => ?_) (fun hg => ?_) | refine qgP0 rfl rfl rfl (fun hg => ?_) (fun hg => ?_)
  all_goals try simp only [s1, s2, s3, s4, s5, s6, s7, s8, s9, s10, s11, s12] at hg
  all_goals first | (refine qQ (Q_call0 (hat c hc0) rfl rfl rfl) rfl rfl ?_) | skip
  all_goals first | refine qT rfl rfl ?_ | refine q1 rfl rfl rfl ?_ | refine q0 rfl rfl rfl ?_ | refine qgP1 rfl rfl rfl (fun hg => ?_) (fun hg => ?_) | refine qgP0 rfl rfl rfl (fun hg => ?_) (fun hg => ?_)
  all_goals try simp only [s1, s2, s3, s4, s5, s6, s7, s8, s9, s10, s11, s12] at hg
  all_goals first | (refine qQ (Q_ldv rfl rfl rfl rfl rfl rfl) rfl rfl ?_) | skip
  all_goals first | refine qT rfl rfl ?_ | refine q1 rfl rfl rfl ?_ | refine q0 rfl rfl rfl ?_ | refine qgP1 rfl rfl rfl (fun hg => ?_) (fun hg => ?_) | refine qgP0 rfl rfl rfl (fun hg => ?_) (fun hg => ?_)
  all_goals try simp only [s1, s2, s3, s4, s5, s6, s7, s8, s9, s10, s11, s12] at hg
  all_goals first | refine qQ (Is0 rfl rfl rfl rfl rfl rfl) rfl rfl ?_ | refine qQ (Is1 rfl rfl rfl rfl rfl rfl) rfl rfl ?_ | skip
  all_goals first | refine qT rfl rfl ?_ | refine q1 rfl rfl rfl ?_ | refine q0 rfl rfl rfl ?_ | refine qgP1 rfl rfl rfl (fun hg => ?_) (fun hg => ?_) | refine qgP0 rfl rfl rfl (fun hg => ?_) (fun hg => ?_)
  all_goals try simp only [s1, s2, s3, s4, s5, s6, s7, s8, s9, s10, s11, s12] at hg
  all_goals first | refine qQ (Q_ldc rfl rfl rfl rfl rfl) rfl rfl ?_ | refine qQ (Ld rfl rfl rfl rfl) rfl rfl ?_ | skip
  all_goals first | refine qT rfl rfl ?_ | refine q1 rfl rfl rfl ?_ | refine q0 rfl rfl rfl ?_ | refine qgP1 rfl rfl rfl (fun hg => ?_) (fun hg => ?_) | refine qgP0 rfl rfl rfl (fun hg => ?_) (fun hg => ?_)
  all_goals try simp only [s1, s2, s3, s4, s5, s6, s7, s8, s9, s10, s11, s12] at hg
  all_goals first | (refine qQ (Q_bin rfl rfl rfl) rfl rfl ?_) | skip
  all_goals first | refine qQ (Q_pick_t rfl (by with_reducible rfl) rfl rfl) rfl rfl ?_ | refine qQ (Q_pick_f rfl (by with_reducible rfl) rfl rfl) rfl rfl ?_
  all_goals first | (refine qA rfl rfl ?_)
  all_goals refine QW_nil ?_
  all_goals with_reducible refine tN ?_
  all_goals (
   refine CW_ret ?_)
  all_goals (
   refine exitQ (.inr rfl) 0 (.cons (.tmp rfl rfl) .nil) ?_ rfl (vHc rfl (vHc rfl (vHc rfl (vHc rfl (vHc rfl vHn))))) rfl rfl
   simp only [resV, V.bool.injEq, gM]
   clear hat
   simp only [cst] at *
   first | (simp_all; done) | (rw [Bool.eq_iff_iff]; simp_all; done) | (rw [Bool.eq_iff_iff]; simp_all; omega))
theorem moebiusThat_s (f : Nat) (L0 L3 L4 : List Int) (t0 t1 : TypeId) (k0 k1 : Nat) (g : N4 → Bool) (n : Nat) (hp : primeB (n : Int) = true) (hf : ∀ m : N4, m ∈ MN n → ConQ Try.prog [] f [.arr (toM m), .ptr 1000 0, .ptr 1001 0, .ptr 1002 0] [(1000, .ints 2 L0), (1001, .vals 28 [.slice 1003 0 3 k0]), (1002, .vals 28 [.slice 1004 0 3 k1]), (1003, .ints t0 L3), (1004, .ints t1 L4)] (.bool (g m))) : ConQ Try.prog [] 17 [.int (n : Int), .func f [] [.ptr 1000 0, .ptr 1001 0, .ptr 1002 0]] [(1000, .ints 2 L0), (1001, .vals 28 [.slice 1003 0 3 k0]), (1002, .vals 28 [.slice 1004 0 3 k1]), (1003, .ints t0 L3), (1004, .ints t1 L4)] (.tuple [.arr (toM ((fM n g).getD (0, 0, 0, 0))), .bool (fM n g).isSome]) := by
  have hpb := prime_bd hp
  have hn13 : n ≤ 13 := by omega
  have h2 : n * n ≤ 13 * 13 := Nat.mul_le_mul hn13 hn13
  have h3 : n * n * n ≤ 13 * 13 * 13 := Nat.mul_le_mul h2 hn13
  have h4 : n * n * n * n ≤ 13 * 13 * 13 * 13 := Nat.mul_le_mul h3 hn13
  have p2 : 0 < n * n := Nat.mul_pos (by omega) (by omega)
  have p3 : 0 < n * n * n := Nat.mul_pos p2 (by omega)
  refine conW tab_ok [(0, .int (n : Int)), (1, .func f [] [.ptr 1000 0, .ptr 1001 0, .ptr 1002 0])] 0 [1000, 1001, 1002, 1003, 1004] [1000, 1001, 1002, 1003, 1004] Try.func17 rfl rfl rfl rfl rfl rfl rfl rfl rfl ?_
  refine cR ?_
  refine oAlloc rfl rfl rfl rfl rfl rfl rfl ?_
  refine oA rfl rfl ?_
  refine oN ?_
  refine CW_seq ?_
  refine cR ?_
  iterate 2 refine oM rfl rfl ?_
  refine oQ (Q_nmul rfl rfl (by omega)) rfl rfl ?_
  refine oM rfl rfl ?_
  refine oQ (Q_nmul rfl rfl (by omega)) rfl rfl ?_
  refine oM rfl rfl ?_
  refine oQ (Q_nmul rfl rfl (by omega)) rfl rfl ?_
  refine oM rfl rfl ?_
  refine oN ?_
  refine CW_block ?_
  refine CW_loop (ι := Nat) (fun i => i ≤ n * n * n * n ∧ ∀ j, j < i → fqN n g (dg n j) = false) (fun i => ⟨[(0, .int (n : Int)), (1, .func f [] [.ptr 1000 0, .ptr 1001 0, .ptr 1002 0]), (4, .ptr 0 0), (14, .int ((n * n * n * n : Nat) : Int)), (15, .int (i : Nat))], [(0, .ints 23 [0, 0, 0, 0]), (1000, .ints 2 L0), (1001, .vals 28 [.slice 1003 0 3 k0]), (1002, .vals 28 [.slice 1004 0 3 k1]), (1003, .ints t0 L3), (1004, .ints t1 L4)], 1⟩) (fun i => n * n * n * n - i) 0 ?_ ?_ ?_
  · exact ⟨Nat.zero_le _, fun j h => absurd h (Nat.not_lt_zero _)⟩
  · refine View.mk' [] rfl rfl rfl ?_ ?_
    repeat' first | exact vFn | refine vFc rfl ?_ | exact vHn | refine vHc rfl ?_ | refine vFc (congrArg (fun z => some (V.int z)) ?_) ?_ | refine vHc (congrArg (fun z => some (Blk.ints _ z)) ?_) ?_ | refine vFc (congrArg (fun z => some (V.bool z)) ?_) ?_ | refine vFs rfl rfl ?_ ?_
  rintro i ⟨hi, hno⟩
  refine cR ?_
  refine oQ (Q_bin rfl rfl rfl) rfl rfl ?_
  refine oN ?_
  refine CW_seq ?_
  first | refine cT rfl ?_ | refine cF rfl ?_ | refine CW_cond rfl (fun hc => ?_) (fun hc => ?_)
  all_goals try simp only [s1, s2, s3, s4, s5, s6, s7, s8, s9, s10, s11, s12] at hc
  all_goals first
    | (
     refine CW_skip ?_)
    | (
     refine CW_exit ?_)
  all_goals first
    | with_reducible refine tR ?_
    | with_reducible refine tE ?_
    | (
     with_reducible refine tN ?_
     refine CW_seq ?_
     refine CW_block ?_
     refine cR ?_
     refine oM rfl rfl ?_
     refine oA rfl rfl ?_
     refine oN ?_
     refine CW_seq ?_
     refine CW_any (fun i => List.elem i [24]) 25 rfl lateOk (by decide +kernel) (fun hst => ?_)
     refine aP 0 hst rfl rfl (by decide +kernel) (PX_move rfl rfl) rfl rfl ?_
     refine aP 1 hst rfl rfl (by decide +kernel) (PX_move rfl rfl) rfl rfl ?_
     refine aP 2 hst rfl rfl (by decide +kernel) (PX_move rfl rfl) rfl rfl ?_
     refine aQ 3 hst rfl rfl (by decide +kernel) (QX_of (Q_nmul rfl rfl (by omega)) NE_bin) rfl rfl ?_
     refine aP 4 hst rfl rfl (by decide +kernel) (PX_move rfl rfl) rfl rfl ?_
     refine aQ 5 hst rfl rfl (by decide +kernel) (QX_of (Q_nmul rfl rfl (by omega)) NE_bin) rfl rfl ?_
     refine aQ 6 hst rfl rfl (by decide +kernel) (QX_of (Q_nquo rfl rfl (by omega) (by omega)) NE_bin) rfl rfl ?_
     refine aP 7 hst rfl rfl (by decide +kernel) (PX_move rfl rfl) rfl rfl ?_
     refine aP 8 hst rfl rfl (by decide +kernel) (PX_move rfl rfl) rfl rfl ?_
     refine aP 9 hst rfl rfl (by decide +kernel) (PX_move rfl rfl) rfl rfl ?_
     refine aQ 10 hst rfl rfl (by decide +kernel) (QX_of (Q_nmul rfl rfl (by omega)) NE_bin) rfl rfl ?_
     refine aQ 11 hst rfl rfl (by decide +kernel) (QX_of (Q_nquo rfl rfl (by omega) (by omega)) NE_bin) rfl rfl ?_
     refine aP 12 hst rfl rfl (by decide +kernel) (PX_move rfl rfl) rfl rfl ?_
     refine aQ 13 hst rfl rfl (by decide +kernel) (QX_of (Q_nrem rfl rfl (by omega)) NE_bin) rfl rfl ?_
     refine aP 14 hst rfl rfl (by decide +kernel) (PX_move rfl rfl) rfl rfl ?_
     refine aP 15 hst rfl rfl (by decide +kernel) (PX_move rfl rfl) rfl rfl ?_
     refine aQ 16 hst rfl rfl (by decide +kernel) (QX_of (Q_nquo rfl rfl (by omega) (by omega)) NE_bin) rfl rfl ?_
     refine aP 17 hst rfl rfl (by decide +kernel) (PX_move rfl rfl) rfl rfl ?_
     refine aQ 18 hst rfl rfl (by decide +kernel) (QX_of (Q_nrem rfl rfl (by omega)) NE_bin) rfl rfl ?_
     refine aP 19 hst rfl rfl (by decide +kernel) (PX_move rfl rfl) rfl rfl ?_
     refine aP 20 hst rfl rfl (by decide +kernel) (PX_move rfl rfl) rfl rfl ?_
     refine aQ 21 hst rfl rfl (by decide +kernel) (QX_of (Q_nrem rfl rfl (by omega)) NE_bin) rfl rfl ?_
     (have hiN : i < n * n * n * n := by omega); (have hdl := dg_lt (n := n) (by omega) hiN); refine aQ 22 hst rfl rfl (by decide +kernel) (QX_of (v := .arr (toM (dg n i))) (Q_build rfl rfl rfl rfl rfl rfl rfl rfl) NE_build) rfl rfl ?_
     refine AW_one (i := 23) (by decide +kernel) ?_
     refine gAlloc rfl rfl rfl rfl rfl rfl rfl rfl rfl ?_
     refine AW_last [24] rfl (by decide +kernel) rfl ?_
     first | refine oSw rfl rfl rfl rfl ?_ | refine oSa rfl rfl rfl rfl ?_
     refine OW_nil (npN ?_)
     all_goals with_reducible refine tN ?_
     all_goals (
      refine cR ?_
      refine oM rfl rfl ?_
      first | refine oQ (Lw rfl rfl rfl rfl) rfl rfl ?_ | refine oQ (La rfl rfl rfl rfl rfl) rfl rfl ?_
      refine oQ (Q_call0 (isMoebius_con (n : Int) ((dg n i).1 : Int) ((dg n i).2.1 : Int) ((dg n i).2.2.1 : Int) ((dg n i).2.2.2 : Int) hp) rfl rfl rfl) rfl rfl ?_
      refine oM rfl rfl ?_
      all_goals first | refine oT rfl rfl ?_ | refine o1 rfl rfl rfl ?_ | refine o0 rfl rfl rfl ?_ | refine ogP1 rfl rfl rfl (fun hg => ?_) (fun hg => ?_) | refine ogP0 rfl rfl rfl (fun hg => ?_) (fun hg => ?_)
      all_goals try simp only [s1, s2, s3, s4, s5, s6, s7, s8, s9, s10, s11, s12] at hg
      all_goals first | (refine oM rfl rfl ?_) | skip
      all_goals first | refine oT rfl rfl ?_ | refine o1 rfl rfl rfl ?_ | refine o0 rfl rfl rfl ?_ | refine ogP1 rfl rfl rfl (fun hg => ?_) (fun hg => ?_) | refine ogP0 rfl rfl rfl (fun hg => ?_) (fun hg => ?_)
      all_goals try simp only [s1, s2, s3, s4, s5, s6, s7, s8, s9, s10, s11, s12] at hg
      all_goals first | refine oQ (Lw rfl rfl rfl rfl) rfl rfl ?_ | refine oQ (La rfl rfl rfl rfl rfl) rfl rfl ?_ | skip
      all_goals first | refine oT rfl rfl ?_ | refine o1 rfl rfl rfl ?_ | refine o0 rfl rfl rfl ?_ | refine ogP1 rfl rfl rfl (fun hg => ?_) (fun hg => ?_) | refine ogP0 rfl rfl rfl (fun hg => ?_) (fun hg => ?_)
      all_goals try simp only [s1, s2, s3, s4, s5, s6, s7, s8, s9, s10, s11, s12] at hg
      all_goals first | ((have hm := (moeb_mem hp hdl.1 hdl.2.1 hdl.2.2.1 hdl.2.2.2).1 hg); refine oQ (Q_callf (hf _ hm) [] rfl rfl rfl (Fits.mk' (vHc rfl (vHc rfl (vHc rfl (vHc rfl (vHc rfl vHn))))) rfl rfl (by simp)) rfl rfl) rfl rfl ?_) | skip
      all_goals first | refine oQ (Q_pick_t rfl (by with_reducible rfl) rfl rfl) rfl rfl ?_ | refine oQ (Q_pick_f rfl (by with_reducible rfl) rfl rfl) rfl rfl ?_
      all_goals refine oN ?_
      all_goals (
       first | refine cT rfl ?_ | refine cF rfl ?_ | refine CW_cond rfl (fun hc => ?_) (fun hc => ?_)
       all_goals try simp only [s1, s2, s3, s4, s5, s6, s7, s8, s9, s10, s11, s12] at hc
       all_goals first
         | (
          refine CW_skip ?_)
         | (
          refine cR ?_
          first | refine oQ (Lw rfl rfl rfl rfl) rfl rfl ?_ | refine oQ (La rfl rfl rfl rfl rfl) rfl rfl ?_
          first | refine oSw rfl rfl rfl rfl ?_ | refine oSa rfl rfl rfl rfl ?_
          refine oA rfl rfl ?_
          refine oN ?_
          refine CW_ret ?_)))
     all_goals first | with_reducible refine bN ?_ | with_reducible refine bE ?_ | with_reducible refine bR ?_ | refine bX rfl ?_
     all_goals first
       | with_reducible refine tR ?_
       | with_reducible refine tE ?_
       | (
        with_reducible refine tN ?_
        refine CW_region ?_
        first | refine oQ (Q_binu rfl rfl rfl (by omega)) rfl rfl ?_ | refine oQ (Q_bin rfl rfl rfl) rfl rfl ?_
        refine oM rfl rfl ?_
        refine OW_nil ?_))
  all_goals first
    | with_reducible refine tR ?_
    | with_reducible refine tE ?_
    | (
     with_reducible refine tN ?_
     refine ⟨i + 1, ?_, ?_, View.mk' [] rfl rfl rfl ?_ ?_⟩
     · refine ⟨by omega, fun j hj => ?_⟩
       by_cases e : j = i
       · subst e
         first
           | (have hg' : moebB (n : Int) (toM (dg n j)) = false := hg; simp only [fqN, hg']; rfl)
           | (have hg' : moebB (n : Int) (toM (dg n j)) = true := hg; simp only [fqN, hg', hc]; rfl)
       · exact hno j (by omega)
     · omega
     all_goals (repeat' first | exact vFn | refine vFc rfl ?_ | exact vHn | refine vHc rfl ?_ | refine vFc (congrArg (fun z => some (V.int z)) ?_) ?_ | refine vHc (congrArg (fun z => some (Blk.ints _ z)) ?_) ?_ | refine vFc (congrArg (fun z => some (V.bool z)) ?_) ?_ | refine vFs rfl rfl ?_ ?_))
  all_goals first | with_reducible refine bN ?_ | with_reducible refine bE ?_ | with_reducible refine bR ?_ | refine bX rfl ?_
  all_goals first
    | with_reducible refine tR ?_
    | with_reducible refine tE ?_
    | (
     with_reducible refine tN ?_
     refine cR ?_
     refine oQ (Q_build rfl rfl rfl rfl rfl rfl rfl rfl) rfl rfl ?_
     first | refine oSw rfl rfl rfl rfl ?_ | refine oSa rfl rfl rfl rfl ?_
     refine oA rfl rfl ?_
     refine oN ?_
     refine CW_ret ?_)
  all_goals (
   first
     | (have hg' : moebB (n : Int) (toM (dg n i)) = true := hg
        have hfm := fM_some (n := n) (g := g) (i := i) (by omega) hno (by simp only [fqN, hg', hc]; rfl)
        rw [hfm]
        refine exitQ (.inr rfl) 0 (.cons (.arr rfl rfl rfl rfl (by first | omega | (dsimp only; omega) | (simp; omega) | (simp; done))) (.cons (.tmp rfl rfl) .nil)) ?_ rfl (vHc rfl (vHc rfl (vHc rfl (vHc rfl (vHc rfl vHn))))) rfl rfl
        rfl)
     | (have hfm := fM_none (n := n) (g := g) (fun j hj => hno j (by omega))
        rw [hfm]
        refine exitQ (.inr rfl) 0 (.cons (.arr rfl rfl rfl rfl (by first | omega | (dsimp only; omega) | (simp; omega) | (simp; done))) (.cons (.tmp rfl rfl) .nil)) ?_ rfl (vHc rfl (vHc rfl (vHc rfl (vHc rfl (vHc rfl vHn))))) rfl rfl
        rfl))
theorem impl_Mo_ok (n a b c d e f : Nat) (w : N4) (t0 t1 : TypeId) (ra rb : List Int) (k0 k1 : Nat) (hk0 : 3 ≤ k0) (hk1 : 3 ≤ k1) (hp : primeB (n : Int) = true) (ha : a ≤ n) (hb : b ≤ n) (hc0 : c ≤ n) (hd : d ≤ n) (he : e ≤ n) (hf : f ≤ n) (h1 : a ≠ b ∧ a ≠ c ∧ b ≠ c) (h2 : d ≠ e ∧ d ≠ f ∧ e ≠ f) (hfm : fM n (gM n a b c d e f) = some w) : ConQ Try.prog [] 10 [.int (n : Int), .slice 0 0 3 k0, .slice 1 0 3 k1] [(0, .ints t0 ((a : Int) :: (b : Int) :: (c : Int) :: ra)), (1, .ints t1 ((d : Int) :: (e : Int) :: (f : Int) :: rb))] (.tuple [.arr (toM w), .int 0]) := by
  have hpr := isPrime_con (n : Int)
  rw [hp] at hpr
  have hd1 := areDifferent_con (n : Int) t0 ((a : Int) :: (b : Int) :: (c : Int) :: ra) 3 k0 (by simp) (by decide) hk0
  have hd2 := areDifferent_con (n : Int) t1 ((d : Int) :: (e : Int) :: (f : Int) :: rb) 3 k1 (by simp) (by decide) hk1
  have hq1 : placesB (n : Int) (((a : Int) :: (b : Int) :: (c : Int) :: ra).take 3) = true := by simp [placesB]; omega
  have hq2 : placesB (n : Int) (((d : Int) :: (e : Int) :: (f : Int) :: rb).take 3) = true := by simp [placesB]; omega
  rw [difB_three.2 ⟨by omega, by omega, by omega⟩, hq1] at hd1
  rw [difB_three.2 ⟨by omega, by omega, by omega⟩, hq2] at hd2
  have hth := moebiusThat_s 29 [(n : Int)] ((a : Int) :: (b : Int) :: (c : Int) :: ra) ((d : Int) :: (e : Int) :: (f : Int) :: rb) t0 t1 k0 k1 (gM n a b c d e f) n hp (fun m hm => mof1_con n a b c d e f m t0 t1 ra rb k0 k1 hp ha hb hc0 hm)
  rw [hfm] at hth
  refine conW tab_ok [(0, .int (n : Int)), (1, .slice 0 0 3 k0), (2, .slice 1 0 3 k1)] 2 [0, 1] [0, 1] Try.func10 rfl rfl rfl rfl rfl rfl rfl rfl rfl ?_
  refine cR ?_
  iterate 3 refine oBox rfl rfl rfl rfl rfl rfl ?_
  refine oAlloc rfl rfl rfl rfl rfl rfl rfl ?_
  refine oA rfl rfl ?_
  refine oN ?_
  refine CW_seq ?_
  refine cR ?_
  first | refine oQ (Q_ldc rfl rfl rfl rfl rfl) rfl rfl ?_ | refine oQ (Ld rfl rfl rfl rfl) rfl rfl ?_
  refine oQe (Q_call (hpr) [] rfl rfl (Fits.mk' vHn rfl rfl (by first | (simp; done) | exact glOk rfl rfl rfl)) rfl rfl) (show _ = .bool true from rfl) rfl rfl ?_
  refine oQe (Q_not rfl) (show _ = V.bool false from rfl) rfl rfl ?_
  refine oM rfl rfl ?_
  all_goals first | refine oT rfl rfl ?_ | refine o1 rfl rfl rfl ?_ | refine o0 rfl rfl rfl ?_ | refine ogP1 rfl rfl rfl (fun hg => ?_) (fun hg => ?_) | refine ogP0 rfl rfl rfl (fun hg => ?_) (fun hg => ?_)
  all_goals try simp only [s1, s2, s3, s4, s5, s6, s7, s8, s9, s10, s11, s12] at hg
  all_goals first | (refine oQ (Q_ldv rfl rfl rfl rfl rfl rfl) rfl rfl ?_) | skip
  all_goals first | refine oT rfl rfl ?_ | refine o1 rfl rfl rfl ?_ | refine o0 rfl rfl rfl ?_ | refine ogP1 rfl rfl rfl (fun hg => ?_) (fun hg => ?_) | refine ogP0 rfl rfl rfl (fun hg => ?_) (fun hg => ?_)
  all_goals try simp only [s1, s2, s3, s4, s5, s6, s7, s8, s9, s10, s11, s12] at hg
  all_goals first | refine oQ (Q_len rfl rfl rfl rfl) rfl rfl ?_ | refine oQ (Q_len0 rfl rfl rfl rfl) rfl rfl ?_ | skip
  all_goals first | refine oT rfl rfl ?_ | refine o1 rfl rfl rfl ?_ | refine o0 rfl rfl rfl ?_ | refine ogP1 rfl rfl rfl (fun hg => ?_) (fun hg => ?_) | refine ogP0 rfl rfl rfl (fun hg => ?_) (fun hg => ?_)
  all_goals try simp only [s1, s2, s3, s4, s5, s6, s7, s8, s9, s10, s11, s12] at hg
  all_goals first | (refine oQ (v := .bool false) (Q_bin rfl rfl rfl) rfl rfl ?_) | skip
  all_goals first | refine oQ (Q_pick_t rfl (by with_reducible rfl) rfl rfl) rfl rfl ?_ | refine oQ (Q_pick_f rfl (by with_reducible rfl) rfl rfl) rfl rfl ?_
  all_goals first | (refine oM rfl rfl ?_)
  all_goals first | refine oT rfl rfl ?_ | refine o1 rfl rfl rfl ?_ | refine o0 rfl rfl rfl ?_ | refine ogP1 rfl rfl rfl (fun hg => ?_) (fun hg => ?_) | refine ogP0 rfl rfl rfl (fun hg => ?_) (fun hg => ?_)
  all_goals try simp only [s1, s2, s3, s4, s5, s6, s7, s8, s9, s10, s11, s12] at hg
  all_goals first | (refine oQ (Q_ldv rfl rfl rfl rfl rfl rfl) rfl rfl ?_) | skip
  all_goals first | refine oT rfl rfl ?_ | refine o1 rfl rfl rfl ?_ | refine o0 rfl rfl rfl ?_ | refine ogP1 rfl rfl rfl (fun hg => ?_) (fun hg => ?_) | refine ogP0 rfl rfl rfl (fun hg => ?_) (fun hg => ?_)
  all_goals try simp only [s1, s2, s3, s4, s5, s6, s7, s8, s9, s10, s11, s12] at hg
  all_goals first | refine oQ (Q_len rfl rfl rfl rfl) rfl rfl ?_ | refine oQ (Q_len0 rfl rfl rfl rfl) rfl rfl ?_ | skip
  all_goals first | refine oT rfl rfl ?_ | refine o1 rfl rfl rfl ?_ | refine o0 rfl rfl rfl ?_ | refine ogP1 rfl rfl rfl (fun hg => ?_) (fun hg => ?_) | refine ogP0 rfl rfl rfl (fun hg => ?_) (fun hg => ?_)
  all_goals try simp only [s1, s2, s3, s4, s5, s6, s7, s8, s9, s10, s11, s12] at hg
  all_goals first | (refine oQ (v := .bool false) (Q_bin rfl rfl rfl) rfl rfl ?_) | skip
  all_goals first | refine oQ (Q_pick_t rfl (by with_reducible rfl) rfl rfl) rfl rfl ?_ | refine oQ (Q_pick_f rfl (by with_reducible rfl) rfl rfl) rfl rfl ?_
  all_goals first | (refine oM rfl rfl ?_)
  all_goals first | refine oT rfl rfl ?_ | refine o1 rfl rfl rfl ?_ | refine o0 rfl rfl rfl ?_ | refine ogP1 rfl rfl rfl (fun hg => ?_) (fun hg => ?_) | refine ogP0 rfl rfl rfl (fun hg => ?_) (fun hg => ?_)
  all_goals try simp only [s1, s2, s3, s4, s5, s6, s7, s8, s9, s10, s11, s12] at hg
  all_goals first | refine oQ (Q_ldc rfl rfl rfl rfl rfl) rfl rfl ?_ | refine oQ (Ld rfl rfl rfl rfl) rfl rfl ?_ | skip
  all_goals first | refine oT rfl rfl ?_ | refine o1 rfl rfl rfl ?_ | refine o0 rfl rfl rfl ?_ | refine ogP1 rfl rfl rfl (fun hg => ?_) (fun hg => ?_) | refine ogP0 rfl rfl rfl (fun hg => ?_) (fun hg => ?_)
  all_goals try simp only [s1, s2, s3, s4, s5, s6, s7, s8, s9, s10, s11, s12] at hg
  all_goals first | (refine oQ (Q_ldv rfl rfl rfl rfl rfl rfl) rfl rfl ?_) | skip
  all_goals first | refine oT rfl rfl ?_ | refine o1 rfl rfl rfl ?_ | refine o0 rfl rfl rfl ?_ | refine ogP1 rfl rfl rfl (fun hg => ?_) (fun hg => ?_) | refine ogP0 rfl rfl rfl (fun hg => ?_) (fun hg => ?_)
  all_goals try simp only [s1, s2, s3, s4, s5, s6, s7, s8, s9, s10, s11, s12] at hg
  all_goals first | (refine oQe (Q_call (hd1) [] rfl rfl (Fits.mk' (vHc rfl vHn) rfl rfl (by first | (simp; done) | exact glOk rfl rfl rfl)) rfl rfl) (show _ = .bool true from rfl) rfl rfl ?_) | skip
  all_goals first | refine oT rfl rfl ?_ | refine o1 rfl rfl rfl ?_ | refine o0 rfl rfl rfl ?_ | refine ogP1 rfl rfl rfl (fun hg => ?_) (fun hg => ?_) | refine ogP0 rfl rfl rfl (fun hg => ?_) (fun hg => ?_)
  all_goals try simp only [s1, s2, s3, s4, s5, s6, s7, s8, s9, s10, s11, s12] at hg
  all_goals first | (refine oQe (Q_not rfl) (show _ = V.bool false from rfl) rfl rfl ?_) | skip
  all_goals first | refine oQ (Q_pick_t rfl (by with_reducible rfl) rfl rfl) rfl rfl ?_ | refine oQ (Q_pick_f rfl (by with_reducible rfl) rfl rfl) rfl rfl ?_
  all_goals first | (refine oM rfl rfl ?_)
  all_goals first | refine oT rfl rfl ?_ | refine o1 rfl rfl rfl ?_ | refine o0 rfl rfl rfl ?_ | refine ogP1 rfl rfl rfl (fun hg => ?_) (fun hg => ?_) | refine ogP0 rfl rfl rfl (fun hg => ?_) (fun hg => ?_)
  all_goals try simp only [s1, s2, s3, s4, s5, s6, s7, s8, s9, s10, s11, s12] at hg
  all_goals first | refine oQ (Q_ldc rfl rfl rfl rfl rfl) rfl rfl ?_ | refine oQ (Ld rfl rfl rfl rfl) rfl rfl ?_ | skip
  all_goals first | refine oT rfl rfl ?_ | refine o1 rfl rfl rfl ?_ | refine o0 rfl rfl rfl ?_ | refine ogP1 rfl rfl rfl (fun hg => ?_) (fun hg => ?_) | refine ogP0 rfl rfl rfl (fun hg => ?_) (fun hg => ?_)
  all_goals try simp only [s1, s2, s3, s4, s5, s6, s7, s8, s9, s10, s11, s12] at hg
  all_goals first | (refine oQ (Q_ldv rfl rfl rfl rfl rfl rfl) rfl rfl ?_) | skip
  all_goals first | refine oT rfl rfl ?_ | refine o1 rfl rfl rfl ?_ | refine o0 rfl rfl rfl ?_ | refine ogP1 rfl rfl rfl (fun hg => ?_) (fun hg => ?_) | refine ogP0 rfl rfl rfl (fun hg => ?_) (fun hg => ?_)
  all_goals try simp only [s1, s2, s3, s4, s5, s6, s7, s8, s9, s10, s11, s12] at hg
  all_goals first | (refine oQe (Q_call (hd2) [(0, 1)] rfl rfl (Fits.mk' (vHc rfl vHn) rfl rfl (by first | (simp; done) | exact glOk rfl rfl rfl)) rfl rfl) (show _ = .bool true from rfl) rfl rfl ?_) | skip
  all_goals first | refine oT rfl rfl ?_ | refine o1 rfl rfl rfl ?_ | refine o0 rfl rfl rfl ?_ | refine ogP1 rfl rfl rfl (fun hg => ?_) (fun hg => ?_) | refine ogP0 rfl rfl rfl (fun hg => ?_) (fun hg => ?_)
  all_goals try simp only [s1, s2, s3, s4, s5, s6, s7, s8, s9, s10, s11, s12] at hg
  all_goals first | (refine oQe (Q_not rfl) (show _ = V.bool false from rfl) rfl rfl ?_) | skip
  all_goals first | refine oQ (Q_pick_t rfl (by with_reducible rfl) rfl rfl) rfl rfl ?_ | refine oQ (Q_pick_f rfl (by with_reducible rfl) rfl rfl) rfl rfl ?_
  all_goals refine oN ?_
  all_goals (
   first | refine cT rfl ?_ | refine cF rfl ?_ | refine CW_cond rfl (fun hc => ?_) (fun hc => ?_)
   all_goals try simp only [s1, s2, s3, s4, s5, s6, s7, s8, s9, s10, s11, s12] at hc
   all_goals first
     | (
      refine CW_skip ?_)
     | (
      refine cR ?_
      refine oQ (Q_build rfl rfl rfl rfl rfl rfl rfl rfl) rfl rfl ?_
      first | refine oSw rfl rfl rfl rfl ?_ | refine oSa rfl rfl rfl rfl ?_
      refine oA rfl rfl ?_
      refine oN ?_
      refine CW_ret ?_))
  all_goals first
    | with_reducible refine tR ?_
    | with_reducible refine tE ?_
    | (
     with_reducible refine tN ?_
     refine cR ?_
     first | refine oQ (Q_ldc rfl rfl rfl rfl rfl) rfl rfl ?_ | refine oQ (Ld rfl rfl rfl rfl) rfl rfl ?_
     refine oQ (Q_makeFunc rfl rfl) rfl rfl ?_
     refine oQe (Q_call (hth) [(1000, 2), (1001, 3), (1002, 4), (1003, 0), (1004, 1)] rfl rfl (Fits.mk' (vHc rfl (vHc rfl (vHc rfl (vHc rfl (vHc rfl vHn))))) rfl rfl (by first | (simp; done) | exact glOk rfl rfl rfl)) rfl rfl) (show _ = .tuple [.arr (toM w), .bool true] from rfl) rfl rfl ?_
     refine oM rfl rfl ?_
     iterate 2 refine oQ (Q_extract rfl rfl) rfl rfl ?_
     refine oAlloc rfl rfl rfl rfl rfl rfl rfl ?_
     first | refine oSw rfl rfl rfl rfl ?_ | refine oSa rfl rfl rfl rfl ?_
     refine oA rfl rfl ?_
     refine oN ?_
     refine cR ?_
     first | refine oQ (Lw rfl rfl rfl rfl) rfl rfl ?_ | refine oQ (La rfl rfl rfl rfl rfl) rfl rfl ?_
     first | refine oSw rfl rfl rfl rfl ?_ | refine oSa rfl rfl rfl rfl ?_
     refine oA rfl rfl ?_
     refine oN ?_
     refine CW_ret ?_)
  all_goals (
   ((refine exitQ (.inr rfl) 2 (.cons (.arr rfl rfl rfl rfl (by first | omega | (dsimp only; omega) | (simp; omega) | (simp; done))) (.cons (.tmp rfl rfl) .nil)) ?_ rfl (vHc rfl (vHc rfl vHn)) rfl rfl); rfl))
theorem impl_Mo_bad (p : Int) (A B : List Int) (n m : Nat) (t0 t1 : TypeId) (k0 k1 : Nat) (hA : n ≤ A.length) (hB : m ≤ B.length) (hn : n ≤ 1000000) (hm : m ≤ 1000000) (hk0 : n ≤ k0) (hk1 : m ≤ k1) (hbad : moBad p A B n m) : ConQ Try.prog [] 10 [.int p, .slice 0 0 n k0, .slice 1 0 m k1] [(0, .ints t0 A), (1, .ints t1 B)] (.tuple [.arr [0, 0, 0, 0], .int 2]) := by
  have hd1 := areDifferent_con p t0 A n k0 hA hn hk0
  have hd2 := areDifferent_con p t1 B m k1 hB hm hk1
  have hbad2 : primeB p = true → (n : Int) = 3 → (m : Int) = 3 → (difB A n && placesB p (A.take n)) = true → (difB B m && placesB p (B.take m)) = true → False := fun h1 h2 h3 h4 h5 => by
    simp only [Bool.and_eq_true] at h4 h5
    exact hbad ⟨h1, by omega, by omega, h4.1, h4.2, h5.1, h5.2⟩
  clear hbad
  generalize (difB A n && placesB p (A.take n)) = b1 at *
  generalize (difB B m && placesB p (B.take m)) = b2 at *
  refine conW tab_ok [(0, .int p), (1, .slice 0 0 n k0), (2, .slice 1 0 m k1)] 2 [0, 1] [0, 1] Try.func10 rfl rfl rfl rfl rfl rfl rfl rfl rfl ?_
  refine cR ?_
  iterate 3 refine oBox rfl rfl rfl rfl rfl rfl ?_
  refine oAlloc rfl rfl rfl rfl rfl rfl rfl ?_
  refine oA rfl rfl ?_
  refine oN ?_
  refine CW_seq ?_
  refine cR ?_
  first | refine oQ (Q_ldc rfl rfl rfl rfl rfl) rfl rfl ?_ | refine oQ (Ld rfl rfl rfl rfl) rfl rfl ?_
  refine oQ (Q_call0 (isPrime_con _) rfl rfl rfl) rfl rfl ?_
  refine oQ (Q_not rfl) rfl rfl ?_
  refine oM rfl rfl ?_
  all_goals first | refine oT rfl rfl ?_ | refine o1 rfl rfl rfl ?_ | refine o0 rfl rfl rfl ?_ | refine ogP1 rfl rfl rfl (fun hg => ?_) (fun hg => ?_) | refine ogP0 rfl rfl rfl (fun hg => ?_) (fun hg => ?_)
  all_goals try simp only [s1, s2, s3, s4, s5, s6, s7, s8, s9, s10, s11, s12] at hg
  all_goals first | (refine oQ (Q_ldv rfl rfl rfl rfl rfl rfl) rfl rfl ?_) | skip
  all_goals first | refine oT rfl rfl ?_ | refine o1 rfl rfl rfl ?_ | refine o0 rfl rfl rfl ?_ | refine ogP1 rfl rfl rfl (fun hg => ?_) (fun hg => ?_) | refine ogP0 rfl rfl rfl (fun hg => ?_) (fun hg => ?_)
  all_goals try simp only [s1, s2, s3, s4, s5, s6, s7, s8, s9, s10, s11, s12] at hg
  all_goals first | refine oQ (Q_len rfl rfl rfl rfl) rfl rfl ?_ | refine oQ (Q_len0 rfl rfl rfl rfl) rfl rfl ?_ | skip
  all_goals first | refine oT rfl rfl ?_ | refine o1 rfl rfl rfl ?_ | refine o0 rfl rfl rfl ?_ | refine ogP1 rfl rfl rfl (fun hg => ?_) (fun hg => ?_) | refine ogP0 rfl rfl rfl (fun hg => ?_) (fun hg => ?_)
  all_goals try simp only [s1, s2, s3, s4, s5, s6, s7, s8, s9, s10, s11, s12] at hg
  all_goals first | (refine oQ (Q_bin rfl rfl rfl) rfl rfl ?_) | skip
  all_goals first | refine oQ (Q_pick_t rfl (by with_reducible rfl) rfl rfl) rfl rfl ?_ | refine oQ (Q_pick_f rfl (by with_reducible rfl) rfl rfl) rfl rfl ?_
  all_goals first | (refine oM rfl rfl ?_)
  all_goals first | refine oT rfl rfl ?_ | refine o1 rfl rfl rfl ?_ | refine o0 rfl rfl rfl ?_ | refine ogP1 rfl rfl rfl (fun hg => ?_) (fun hg => ?_) | refine ogP0 rfl rfl rfl (fun hg => ?_) (fun hg => ?_)
  all_goals try simp only [s1, s2, s3, s4, s5, s6, s7, s8, s9, s10, s11, s12] at hg
  all_goals first | (refine oQ (Q_ldv rfl rfl rfl rfl rfl rfl) rfl rfl ?_) | skip
  all_goals first | refine oT rfl rfl ?_ | refine o1 rfl rfl rfl ?_ | refine o0 rfl rfl rfl ?_ | refine ogP1 rfl rfl rfl (fun hg => ?_) (fun hg => ?_) | refine ogP0 rfl rfl rfl (fun hg => ?_) (fun hg => ?_)
  all_goals try simp only [s1, s2, s3, s4, s5, s6, s7, s8, s9, s10, s11, s12] at hg
  all_goals first | refine oQ (Q_len rfl rfl rfl rfl) rfl rfl ?_ | refine oQ (Q_len0 rfl rfl rfl rfl) rfl rfl ?_ | skip
  all_goals first | refine oT rfl rfl ?_ | refine o1 rfl rfl rfl ?_ | refine o0 rfl rfl rfl ?_ | refine ogP1 rfl rfl rfl (fun hg => ?_) (fun hg => ?_) | refine ogP0 rfl rfl rfl (fun hg => ?_) (fun hg => ?_)
  all_goals try simp only [s1, s2, s3, s4, s5, s6, s7, s8, s9, s10, s11, s12] at hg
  all_goals first | (refine oQ (Q_bin rfl rfl rfl) rfl rfl ?_) | skip
  all_goals first | refine oQ (Q_pick_t rfl (by with_reducible rfl) rfl rfl) rfl rfl ?_ | refine oQ (Q_pick_f rfl (by with_reducible rfl) rfl rfl) rfl rfl ?_
  all_goals first | (refine oM rfl rfl ?_)
  all_goals first | refine oT rfl rfl ?_ | refine o1 rfl rfl rfl ?_ | refine o0 rfl rfl rfl ?_ | refine ogP1 rfl rfl rfl (fun hg => ?_) (fun hg => ?_) | refine ogP0 rfl rfl rfl (fun hg => ?_) (fun hg => ?_)
  all_goals try simp only [s1, s2, s3, s4, s5, s6, s7, s8, s9, s10, s11, s12] at hg
  all_goals first | refine oQ (Q_ldc rfl rfl rfl rfl rfl) rfl rfl ?_ | refine oQ (Ld rfl rfl rfl rfl) rfl rfl ?_ | skip
  all_goals first | refine oT rfl rfl ?_ | refine o1 rfl rfl rfl ?_ | refine o0 rfl rfl rfl ?_ | refine ogP1 rfl rfl rfl (fun hg => ?_) (fun hg => ?_) | refine ogP0 rfl rfl rfl (fun hg => ?_) (fun hg => ?_)
  all_goals try simp only [s1, s2, s3, s4, s5, s6, s7, s8, s9, s10, s11, s12] at hg
  all_goals first | (refine oQ (Q_ldv rfl rfl rfl rfl rfl rfl) rfl rfl ?_) | skip
  all_goals first | refine oT rfl rfl ?_ | refine o1 rfl rfl rfl ?_ | refine o0 rfl rfl rfl ?_ | refine ogP1 rfl rfl rfl (fun hg => ?_) (fun hg => ?_) | refine ogP0 rfl rfl rfl (fun hg => ?_) (fun hg => ?_)
  all_goals try simp only [s1, s2, s3, s4, s5, s6, s7, s8, s9, s10, s11, s12] at hg
  all_goals first | (refine oQ (Q_call (hd1) [] rfl rfl (Fits.mk' (vHc rfl vHn) rfl rfl (by first | (simp; done) | exact glOk rfl rfl rfl)) rfl rfl) rfl rfl ?_) | skip
  all_goals first | refine oT rfl rfl ?_ | refine o1 rfl rfl rfl ?_ | refine o0 rfl rfl rfl ?_ | refine ogP1 rfl rfl rfl (fun hg => ?_) (fun hg => ?_) | refine ogP0 rfl rfl rfl (fun hg => ?_) (fun hg => ?_)
  all_goals try simp only [s1, s2, s3, s4, s5, s6, s7, s8, s9, s10, s11, s12] at hg
  all_goals first | (refine oQ (Q_not rfl) rfl rfl ?_) | skip
  all_goals first | refine oQ (Q_pick_t rfl (by with_reducible rfl) rfl rfl) rfl rfl ?_ | refine oQ (Q_pick_f rfl (by with_reducible rfl) rfl rfl) rfl rfl ?_
  all_goals first | (refine oM rfl rfl ?_)
  all_goals first | refine oT rfl rfl ?_ | refine o1 rfl rfl rfl ?_ | refine o0 rfl rfl rfl ?_ | refine ogP1 rfl rfl rfl (fun hg => ?_) (fun hg => ?_) | refine ogP0 rfl rfl rfl (fun hg => ?_) (fun hg => ?_)
  all_goals try simp only [s1, s2, s3, s4, s5, s6, s7, s8, s9, s10, s11, s12] at hg
  all_goals first | refine oQ (Q_ldc rfl rfl rfl rfl rfl) rfl rfl ?_ | refine oQ (Ld rfl rfl rfl rfl) rfl rfl ?_ | skip
  all_goals first | refine oT rfl rfl ?_ | refine o1 rfl rfl rfl ?_ | refine o0 rfl rfl rfl ?_ | refine ogP1 rfl rfl rfl (fun hg => ?_) (fun hg => ?_) | refine ogP0 rfl rfl rfl (fun hg => ?_) (fun hg => ?_)
  all_goals try simp only [s1, s2, s3, s4, s5, s6, s7, s8, s9, s10, s11, s12] at hg
  all_goals first | (refine oQ (Q_ldv rfl rfl rfl rfl rfl rfl) rfl rfl ?_) | skip
  all_goals first | refine oT rfl rfl ?_ | refine o1 rfl rfl rfl ?_ | refine o0 rfl rfl rfl ?_ | refine ogP1 rfl rfl rfl (fun hg => ?_) (fun hg => ?_) | refine ogP0 rfl rfl rfl (fun hg => ?_) (fun hg => ?_)
  all_goals try simp only [s1, s2, s3, s4, s5, s6, s7, s8, s9, s10, s11, s12] at hg
  all_goals first | (refine oQ (Q_call (hd2) [(0, 1)] rfl rfl (Fits.mk' (vHc rfl vHn) rfl rfl (by first | (simp; done) | exact glOk rfl rfl rfl)) rfl rfl) rfl rfl ?_) | skip
  all_goals first | refine oT rfl rfl ?_ | refine o1 rfl rfl rfl ?_ | refine o0 rfl rfl rfl ?_ | refine ogP1 rfl rfl rfl (fun hg => ?_) (fun hg => ?_) | refine ogP0 rfl rfl rfl (fun hg => ?_) (fun hg => ?_)
  all_goals try simp only [s1, s2, s3, s4, s5, s6, s7, s8, s9, s10, s11, s12] at hg
  all_goals first | (refine oQ (Q_not rfl) rfl rfl ?_) | skip
  all_goals first | refine oQ (Q_pick_t rfl (by with_reducible rfl) rfl rfl) rfl rfl ?_ | refine oQ (Q_pick_f rfl (by with_reducible rfl) rfl rfl) rfl rfl ?_
  all_goals refine oN ?_
  all_goals (
   first | refine cT rfl ?_ | refine cF rfl ?_ | refine CW_cond rfl (fun hc => ?_) (fun hc => ?_)
   all_goals try simp only [s1, s2, s3, s4, s5, s6, s7, s8, s9, s10, s11, s12] at hc
   all_goals try (exfalso; first | (simp_all; done) | (cases hc; done); done)
   all_goals first
     | (
      refine CW_skip ?_)
     | (
      refine cR ?_
      refine oQ (Q_build rfl rfl rfl rfl rfl rfl rfl rfl) rfl rfl ?_
      first | refine oSw rfl rfl rfl rfl ?_ | refine oSa rfl rfl rfl rfl ?_
      refine oA rfl rfl ?_
      refine oN ?_
      refine CW_ret ?_))
  all_goals first
    | with_reducible refine tR ?_
    | with_reducible refine tE ?_
    | (
     with_reducible refine tN ?_
     refine cR ?_
     first | refine oQ (Q_ldc rfl rfl rfl rfl rfl) rfl rfl ?_ | refine oQ (Ld rfl rfl rfl rfl) rfl rfl ?_
     refine oQ (Q_makeFunc rfl rfl) rfl rfl ?_
     (exfalso; simp_all; done)
     refine oM rfl rfl ?_
     iterate 2 refine oQ (Q_extract rfl rfl) rfl rfl ?_
     refine oAlloc rfl rfl rfl rfl rfl rfl rfl ?_
     first | refine oSw rfl rfl rfl rfl ?_ | refine oSa rfl rfl rfl rfl ?_
     refine oA rfl rfl ?_
     refine oN ?_
     refine cR ?_
     first | refine oQ (Lw rfl rfl rfl rfl) rfl rfl ?_ | refine oQ (La rfl rfl rfl rfl rfl) rfl rfl ?_
     first | refine oSw rfl rfl rfl rfl ?_ | refine oSa rfl rfl rfl rfl ?_
     refine oA rfl rfl ?_
     refine oN ?_
     refine CW_ret ?_)
  all_goals (
   first | ((refine exitQ (.inr rfl) 2 (.cons (.arr rfl rfl rfl rfl (by first | omega | (dsimp only; omega) | (simp; omega) | (simp; done))) (.cons (.tmp rfl rfl) .nil)) ?_ rfl (vHc rfl (vHc rfl vHn)) rfl rfl); rfl) | (exfalso; simp_all; done))
theorem impl_Mo_nn (p : Int) : ConQ Try.prog [] 10 [.int p, .nilsl, .nilsl] [] (.tuple [.arr [0, 0, 0, 0], .int 2]) := by
  refine conW tab_ok [(0, .int p), (1, .nilsl), (2, .nilsl)] 0 [] [] Try.func10 rfl rfl rfl rfl rfl rfl rfl rfl rfl ?_
  refine cR ?_
  iterate 3 refine oBox rfl rfl rfl rfl rfl rfl ?_
  refine oAlloc rfl rfl rfl rfl rfl rfl rfl ?_
  refine oA rfl rfl ?_
  refine oN ?_
  refine CW_seq ?_
  refine cR ?_
  first | refine oQ (Q_ldc rfl rfl rfl rfl rfl) rfl rfl ?_ | refine oQ (Ld rfl rfl rfl rfl) rfl rfl ?_
  refine oQ (Q_call0 (isPrime_con _) rfl rfl rfl) rfl rfl ?_
  refine oQ (Q_not rfl) rfl rfl ?_
  refine oM rfl rfl ?_
  all_goals first | refine oT rfl rfl ?_ | refine o1 rfl rfl rfl ?_ | refine o0 rfl rfl rfl ?_ | refine ogP1 rfl rfl rfl (fun hg => ?_) (fun hg => ?_) | refine ogP0 rfl rfl rfl (fun hg => ?_) (fun hg => ?_)
  all_goals try simp only [s1, s2, s3, s4, s5, s6, s7, s8, s9, s10, s11, s12] at hg
  all_goals first | (refine oQ (Q_ldv rfl rfl rfl rfl rfl rfl) rfl rfl ?_) | skip
  all_goals first | refine oT rfl rfl ?_ | refine o1 rfl rfl rfl ?_ | refine o0 rfl rfl rfl ?_ | refine ogP1 rfl rfl rfl (fun hg => ?_) (fun hg => ?_) | refine ogP0 rfl rfl rfl (fun hg => ?_) (fun hg => ?_)
  all_goals try simp only [s1, s2, s3, s4, s5, s6, s7, s8, s9, s10, s11, s12] at hg
  all_goals first | refine oQ (Q_len rfl rfl rfl rfl) rfl rfl ?_ | refine oQ (Q_len0 rfl rfl rfl rfl) rfl rfl ?_ | skip
  all_goals first | refine oT rfl rfl ?_ | refine o1 rfl rfl rfl ?_ | refine o0 rfl rfl rfl ?_ | refine ogP1 rfl rfl rfl (fun hg => ?_) (fun hg => ?_) | refine ogP0 rfl rfl rfl (fun hg => ?_) (fun hg => ?_)
  all_goals try simp only [s1, s2, s3, s4, s5, s6, s7, s8, s9, s10, s11, s12] at hg
  all_goals first | (refine oQ (v := .bool true) (Q_bin rfl rfl rfl) rfl rfl ?_) | skip
  all_goals first | refine oQ (Q_pick_t rfl (by with_reducible rfl) rfl rfl) rfl rfl ?_ | refine oQ (Q_pick_f rfl (by with_reducible rfl) rfl rfl) rfl rfl ?_
  all_goals first | (refine oM rfl rfl ?_)
  all_goals first | refine oT rfl rfl ?_ | refine o1 rfl rfl rfl ?_ | refine o0 rfl rfl rfl ?_ | refine ogP1 rfl rfl rfl (fun hg => ?_) (fun hg => ?_) | refine ogP0 rfl rfl rfl (fun hg => ?_) (fun hg => ?_)
  all_goals try simp only [s1, s2, s3, s4, s5, s6, s7, s8, s9, s10, s11, s12] at hg
  all_goals first | (refine oQ (Q_ldv rfl rfl rfl rfl rfl rfl) rfl rfl ?_) | skip
  all_goals first | refine oT rfl rfl ?_ | refine o1 rfl rfl rfl ?_ | refine o0 rfl rfl rfl ?_ | refine ogP1 rfl rfl rfl (fun hg => ?_) (fun hg => ?_) | refine ogP0 rfl rfl rfl (fun hg => ?_) (fun hg => ?_)
  all_goals try simp only [s1, s2, s3, s4, s5, s6, s7, s8, s9, s10, s11, s12] at hg
  all_goals first | refine oQ (Q_len rfl rfl rfl rfl) rfl rfl ?_ | refine oQ (Q_len0 rfl rfl rfl rfl) rfl rfl ?_ | skip
  all_goals first | refine oT rfl rfl ?_ | refine o1 rfl rfl rfl ?_ | refine o0 rfl rfl rfl ?_ | refine ogP1 rfl rfl rfl (fun hg => ?_) (fun hg => ?_) | refine ogP0 rfl rfl rfl (fun hg => ?_) (fun hg => ?_)
  all_goals try simp only [s1, s2, s3, s4, s5, s6, s7, s8, s9, s10, s11, s12] at hg
  all_goals first | (refine oQ (v := .bool true) (Q_bin rfl rfl rfl) rfl rfl ?_) | skip
  all_goals first | refine oQ (Q_pick_t rfl (by with_reducible rfl) rfl rfl) rfl rfl ?_ | refine oQ (Q_pick_f rfl (by with_reducible rfl) rfl rfl) rfl rfl ?_
  all_goals first | (refine oM rfl rfl ?_)
  all_goals first | refine oT rfl rfl ?_ | refine o1 rfl rfl rfl ?_ | refine o0 rfl rfl rfl ?_ | refine ogP1 rfl rfl rfl (fun hg => ?_) (fun hg => ?_) | refine ogP0 rfl rfl rfl (fun hg => ?_) (fun hg => ?_)
  all_goals try simp only [s1, s2, s3, s4, s5, s6, s7, s8, s9, s10, s11, s12] at hg
  all_goals first | refine oQ (Q_ldc rfl rfl rfl rfl rfl) rfl rfl ?_ | refine oQ (Ld rfl rfl rfl rfl) rfl rfl ?_ | skip
  all_goals first | refine oT rfl rfl ?_ | refine o1 rfl rfl rfl ?_ | refine o0 rfl rfl rfl ?_ | refine ogP1 rfl rfl rfl (fun hg => ?_) (fun hg => ?_) | refine ogP0 rfl rfl rfl (fun hg => ?_) (fun hg => ?_)
  all_goals try simp only [s1, s2, s3, s4, s5, s6, s7, s8, s9, s10, s11, s12] at hg
  all_goals first | (refine oQ (Q_ldv rfl rfl rfl rfl rfl rfl) rfl rfl ?_) | skip
  all_goals first | refine oT rfl rfl ?_ | refine o1 rfl rfl rfl ?_ | refine o0 rfl rfl rfl ?_ | refine ogP1 rfl rfl rfl (fun hg => ?_) (fun hg => ?_) | refine ogP0 rfl rfl rfl (fun hg => ?_) (fun hg => ?_)
  all_goals try simp only [s1, s2, s3, s4, s5, s6, s7, s8, s9, s10, s11, s12] at hg
  all_goals first | ((exfalso; simp_all; done)) | skip
  all_goals first | refine oT rfl rfl ?_ | refine o1 rfl rfl rfl ?_ | refine o0 rfl rfl rfl ?_ | refine ogP1 rfl rfl rfl (fun hg => ?_) (fun hg => ?_) | refine ogP0 rfl rfl rfl (fun hg => ?_) (fun hg => ?_)
  all_goals try simp only [s1, s2, s3, s4, s5, s6, s7, s8, s9, s10, s11, s12] at hg
  all_goals first | (refine oQ (Q_not rfl) rfl rfl ?_) | skip
  all_goals first | refine oQ (Q_pick_t rfl (by with_reducible rfl) rfl rfl) rfl rfl ?_ | refine oQ (Q_pick_f rfl (by with_reducible rfl) rfl rfl) rfl rfl ?_
  all_goals first | (refine oM rfl rfl ?_)
  all_goals first | refine oT rfl rfl ?_ | refine o1 rfl rfl rfl ?_ | refine o0 rfl rfl rfl ?_ | refine ogP1 rfl rfl rfl (fun hg => ?_) (fun hg => ?_) | refine ogP0 rfl rfl rfl (fun hg => ?_) (fun hg => ?_)
  all_goals try simp only [s1, s2, s3, s4, s5, s6, s7, s8, s9, s10, s11, s12] at hg
  all_goals first | refine oQ (Q_ldc rfl rfl rfl rfl rfl) rfl rfl ?_ | refine oQ (Ld rfl rfl rfl rfl) rfl rfl ?_ | skip
  all_goals first | refine oT rfl rfl ?_ | refine o1 rfl rfl rfl ?_ | refine o0 rfl rfl rfl ?_ | refine ogP1 rfl rfl rfl (fun hg => ?_) (fun hg => ?_) | refine ogP0 rfl rfl rfl (fun hg => ?_) (fun hg => ?_)
  all_goals try simp only [s1, s2, s3, s4, s5, s6, s7, s8, s9, s10, s11, s12] at hg
  all_goals first | (refine oQ (Q_ldv rfl rfl rfl rfl rfl rfl) rfl rfl ?_) | skip
  all_goals first | refine oT rfl rfl ?_ | refine o1 rfl rfl rfl ?_ | refine o0 rfl rfl rfl ?_ | refine ogP1 rfl rfl rfl (fun hg => ?_) (fun hg => ?_) | refine ogP0 rfl rfl rfl (fun hg => ?_) (fun hg => ?_)
  all_goals try simp only [s1, s2, s3, s4, s5, s6, s7, s8, s9, s10, s11, s12] at hg
  all_goals first | ((exfalso; simp_all; done)) | skip
  all_goals first | refine oT rfl rfl ?_ | refine o1 rfl rfl rfl ?_ | refine o0 rfl rfl rfl ?_ | refine ogP1 rfl rfl rfl (fun hg => ?_) (fun hg => ?_) | refine ogP0 rfl rfl rfl (fun hg => ?_) (fun hg => ?_)
  all_goals try simp only [s1, s2, s3, s4, s5, s6, s7, s8, s9, s10, s11, s12] at hg
  all_goals first | (refine oQ (Q_not rfl) rfl rfl ?_) | skip
  all_goals first | refine oQ (Q_pick_t rfl (by with_reducible rfl) rfl rfl) rfl rfl ?_ | refine oQ (Q_pick_f rfl (by with_reducible rfl) rfl rfl) rfl rfl ?_
  all_goals refine oN ?_
  all_goals (
   first | refine cT rfl ?_ | refine cF rfl ?_ | refine CW_cond rfl (fun hc => ?_) (fun hc => ?_)
   all_goals try simp only [s1, s2, s3, s4, s5, s6, s7, s8, s9, s10, s11, s12] at hc
   all_goals first
     | (
      refine CW_skip ?_)
     | (
      refine cR ?_
      refine oQ (Q_build rfl rfl rfl rfl rfl rfl rfl rfl) rfl rfl ?_
      first | refine oSw rfl rfl rfl rfl ?_ | refine oSa rfl rfl rfl rfl ?_
      refine oA rfl rfl ?_
      refine oN ?_
      refine CW_ret ?_))
  all_goals first
    | with_reducible refine tR ?_
    | with_reducible refine tE ?_
    | (
     with_reducible refine tN ?_
     refine cR ?_
     first | refine oQ (Q_ldc rfl rfl rfl rfl rfl) rfl rfl ?_ | refine oQ (Ld rfl rfl rfl rfl) rfl rfl ?_
     refine oQ (Q_makeFunc rfl rfl) rfl rfl ?_
     (exfalso; simp_all; done)
     refine oM rfl rfl ?_
     iterate 2 refine oQ (Q_extract rfl rfl) rfl rfl ?_
     refine oAlloc rfl rfl rfl rfl rfl rfl rfl ?_
     first | refine oSw rfl rfl rfl rfl ?_ | refine oSa rfl rfl rfl rfl ?_
     refine oA rfl rfl ?_
     refine oN ?_
     refine cR ?_
     first | refine oQ (Lw rfl rfl rfl rfl) rfl rfl ?_ | refine oQ (La rfl rfl rfl rfl rfl) rfl rfl ?_
     first | refine oSw rfl rfl rfl rfl ?_ | refine oSa rfl rfl rfl rfl ?_
     refine oA rfl rfl ?_
     refine oN ?_
     refine CW_ret ?_)
  all_goals (
   first | ((refine exitQ (.inr rfl) 0 (.cons (.arr rfl rfl rfl rfl (by first | omega | (dsimp only; omega) | (simp; omega) | (simp; done))) (.cons (.tmp rfl rfl) .nil)) ?_ rfl vHn rfl rfl); rfl) | (exfalso; simp_all; done))
theorem impl_Mo_nr (p : Int) (B : List Int) (m : Nat) (t1 : TypeId) (k1 : Nat) : ConQ Try.prog [] 10 [.int p, .nilsl, .slice 0 0 m k1] [(0, .ints t1 B)] (.tuple [.arr [0, 0, 0, 0], .int 2]) := by
  refine conW tab_ok [(0, .int p), (1, .nilsl), (2, .slice 0 0 m k1)] 1 [0] [0] Try.func10 rfl rfl rfl rfl rfl rfl rfl rfl rfl ?_
  refine cR ?_
  iterate 3 refine oBox rfl rfl rfl rfl rfl rfl ?_
  refine oAlloc rfl rfl rfl rfl rfl rfl rfl ?_
  refine oA rfl rfl ?_
  refine oN ?_
  refine CW_seq ?_
  refine cR ?_
  first | refine oQ (Q_ldc rfl rfl rfl rfl rfl) rfl rfl ?_ | refine oQ (Ld rfl rfl rfl rfl) rfl rfl ?_
  refine oQ (Q_call0 (isPrime_con _) rfl rfl rfl) rfl rfl ?_
  refine oQ (Q_not rfl) rfl rfl ?_
  refine oM rfl rfl ?_
  all_goals first | refine oT rfl rfl ?_ | refine o1 rfl rfl rfl ?_ | refine o0 rfl rfl rfl ?_ | refine ogP1 rfl rfl rfl (fun hg => ?_) (fun hg => ?_) | refine ogP0 rfl rfl rfl (fun hg => ?_) (fun hg => ?_)
  all_goals try simp only [s1, s2, s3, s4, s5, s6, s7, s8, s9, s10, s11, s12] at hg
  all_goals first | (refine oQ (Q_ldv rfl rfl rfl rfl rfl rfl) rfl rfl ?_) | skip
  all_goals first | refine oT rfl rfl ?_ | refine o1 rfl rfl rfl ?_ | refine o0 rfl rfl rfl ?_ | refine ogP1 rfl rfl rfl (fun hg => ?_) (fun hg => ?_) | refine ogP0 rfl rfl rfl (fun hg => ?_) (fun hg => ?_)
  all_goals try simp only [s1, s2, s3, s4, s5, s6, s7, s8, s9, s10, s11, s12] at hg
  all_goals first | refine oQ (Q_len rfl rfl rfl rfl) rfl rfl ?_ | refine oQ (Q_len0 rfl rfl rfl rfl) rfl rfl ?_ | skip
  all_goals first | refine oT rfl rfl ?_ | refine o1 rfl rfl rfl ?_ | refine o0 rfl rfl rfl ?_ | refine ogP1 rfl rfl rfl (fun hg => ?_) (fun hg => ?_) | refine ogP0 rfl rfl rfl (fun hg => ?_) (fun hg => ?_)
  all_goals try simp only [s1, s2, s3, s4, s5, s6, s7, s8, s9, s10, s11, s12] at hg
  all_goals first | (refine oQ (v := .bool true) (Q_bin rfl rfl rfl) rfl rfl ?_) | skip
  all_goals first | refine oQ (Q_pick_t rfl (by with_reducible rfl) rfl rfl) rfl rfl ?_ | refine oQ (Q_pick_f rfl (by with_reducible rfl) rfl rfl) rfl rfl ?_
  all_goals first | (refine oM rfl rfl ?_)
  all_goals first | refine oT rfl rfl ?_ | refine o1 rfl rfl rfl ?_ | refine o0 rfl rfl rfl ?_ | refine ogP1 rfl rfl rfl (fun hg => ?_) (fun hg => ?_) | refine ogP0 rfl rfl rfl (fun hg => ?_) (fun hg => ?_)
  all_goals try simp only [s1, s2, s3, s4, s5, s6, s7, s8, s9, s10, s11, s12] at hg
  all_goals first | (refine oQ (Q_ldv rfl rfl rfl rfl rfl rfl) rfl rfl ?_) | skip
  all_goals first | refine oT rfl rfl ?_ | refine o1 rfl rfl rfl ?_ | refine o0 rfl rfl rfl ?_ | refine ogP1 rfl rfl rfl (fun hg => ?_) (fun hg => ?_) | refine ogP0 rfl rfl rfl (fun hg => ?_) (fun hg => ?_)
  all_goals try simp only [s1, s2, s3, s4, s5, s6, s7, s8, s9, s10, s11, s12] at hg
  all_goals first | refine oQ (Q_len rfl rfl rfl rfl) rfl rfl ?_ | refine oQ (Q_len0 rfl rfl rfl rfl) rfl rfl ?_ | skip
  all_goals first | refine oT rfl rfl ?_ | refine o1 rfl rfl rfl ?_ | refine o0 rfl rfl rfl ?_ | refine ogP1 rfl rfl rfl (fun hg => ?_) (fun hg => ?_) | refine ogP0 rfl rfl rfl (fun hg => ?_) (fun hg => ?_)
  all_goals try simp only [s1, s2, s3, s4, s5, s6, s7, s8, s9, s10, s11, s12] at hg
  all_goals first | (refine oQ (Q_bin rfl rfl rfl) rfl rfl ?_) | skip
  all_goals first | refine oQ (Q_pick_t rfl (by with_reducible rfl) rfl rfl) rfl rfl ?_ | refine oQ (Q_pick_f rfl (by with_reducible rfl) rfl rfl) rfl rfl ?_
  all_goals first | (refine oM rfl rfl ?_)
  all_goals first | refine oT rfl rfl ?_ | refine o1 rfl rfl rfl ?_ | refine o0 rfl rfl rfl ?_ | refine ogP1 rfl rfl rfl (fun hg => ?_) (fun hg => ?_) | refine ogP0 rfl rfl rfl (fun hg => ?_) (fun hg => ?_)
  all_goals try simp only [s1, s2, s3, s4, s5, s6, s7, s8, s9, s10, s11, s12] at hg
  all_goals first | refine oQ (Q_ldc rfl rfl rfl rfl rfl) rfl rfl ?_ | refine oQ (Ld rfl rfl rfl rfl) rfl rfl ?_ | skip
  all_goals first | refine oT rfl rfl ?_ | refine o1 rfl rfl rfl ?_ | refine o0 rfl rfl rfl ?_ | refine ogP1 rfl rfl rfl (fun hg => ?_) (fun hg => ?_) | refine ogP0 rfl rfl rfl (fun hg => ?_) (fun hg => ?_)
  all_goals try simp only [s1, s2, s3, s4, s5, s6, s7, s8, s9, s10, s11, s12] at hg
  all_goals first | (refine oQ (Q_ldv rfl rfl rfl rfl rfl rfl) rfl rfl ?_) | skip
  all_goals first | refine oT rfl rfl ?_ | refine o1 rfl rfl rfl ?_ | refine o0 rfl rfl rfl ?_ | refine ogP1 rfl rfl rfl (fun hg => ?_) (fun hg => ?_) | refine ogP0 rfl rfl rfl (fun hg => ?_) (fun hg => ?_)
  all_goals try simp only [s1, s2, s3, s4, s5, s6, s7, s8, s9, s10, s11, s12] at hg
  all_goals first | ((exfalso; simp_all; done)) | skip
  all_goals first | refine oT rfl rfl ?_ | refine o1 rfl rfl rfl ?_ | refine o0 rfl rfl rfl ?_ | refine ogP1 rfl rfl rfl (fun hg => ?_) (fun hg => ?_) | refine ogP0 rfl rfl rfl (fun hg => ?_) (fun hg => ?_)
  all_goals try simp only [s1, s2, s3, s4, s5, s6, s7, s8, s9, s10, s11, s12] at hg
  all_goals first | (refine oQ (Q_not rfl) rfl rfl ?_) | skip
  all_goals first | refine oQ (Q_pick_t rfl (by with_reducible rfl) rfl rfl) rfl rfl ?_ | refine oQ (Q_pick_f rfl (by with_reducible rfl) rfl rfl) rfl rfl ?_
  all_goals first | (refine oM rfl rfl ?_)
  all_goals first | refine oT rfl rfl ?_ | refine o1 rfl rfl rfl ?_ | refine o0 rfl rfl rfl ?_ | refine ogP1 rfl rfl rfl (fun hg => ?_) (fun hg => ?_) | refine ogP0 rfl rfl rfl (fun hg => ?_) (fun hg => ?_)
  all_goals try simp only [s1, s2, s3, s4, s5, s6, s7, s8, s9, s10, s11, s12] at hg
  all_goals first | refine oQ (Q_ldc rfl rfl rfl rfl rfl) rfl rfl ?_ | refine oQ (Ld rfl rfl rfl rfl) rfl rfl ?_ | skip
  all_goals first | refine oT rfl rfl ?_ | refine o1 rfl rfl rfl ?_ | refine o0 rfl rfl rfl ?_ | refine ogP1 rfl rfl rfl (fun hg => ?_) (fun hg => ?_) | refine ogP0 rfl rfl rfl (fun hg => ?_) (fun hg => ?_)
  all_goals try simp only [s1, s2, s3, s4, s5, s6, s7, s8, s9, s10, s11, s12] at hg
  all_goals first | (refine oQ (Q_ldv rfl rfl rfl rfl rfl rfl) rfl rfl ?_) | skip
  all_goals first | refine oT rfl rfl ?_ | refine o1 rfl rfl rfl ?_ | refine o0 rfl rfl rfl ?_ | refine ogP1 rfl rfl rfl (fun hg => ?_) (fun hg => ?_) | refine ogP0 rfl rfl rfl (fun hg => ?_) (fun hg => ?_)
  all_goals try simp only [s1, s2, s3, s4, s5, s6, s7, s8, s9, s10, s11, s12] at hg
  all_goals first | ((exfalso; simp_all; done)) | skip
  all_goals first | refine oT rfl rfl ?_ | refine o1 rfl rfl rfl ?_ | refine o0 rfl rfl rfl ?_ | refine ogP1 rfl rfl rfl (fun hg => ?_) (fun hg => ?_) | refine ogP0 rfl rfl rfl (fun hg => ?_) (fun hg => ?_)
  all_goals try simp only [s1, s2, s3, s4, s5, s6, s7, s8, s9, s10, s11, s12] at hg
  all_goals first | (refine oQ (Q_not rfl) rfl rfl ?_) | skip
  all_goals first | refine oQ (Q_pick_t rfl (by with_reducible rfl) rfl rfl) rfl rfl ?_ | refine oQ (Q_pick_f rfl (by with_reducible rfl) rfl rfl) rfl rfl ?_
  all_goals refine oN ?_
  all_goals (
   first | refine cT rfl ?_ | refine cF rfl ?_ | refine CW_cond rfl (fun hc => ?_) (fun hc => ?_)
   all_goals try simp only [s1, s2, s3, s4, s5, s6, s7, s8, s9, s10, s11, s12] at hc
   all_goals first
     | (
      refine CW_skip ?_)
     | (
      refine cR ?_
      refine oQ (Q_build rfl rfl rfl rfl rfl rfl rfl rfl) rfl rfl ?_
      first | refine oSw rfl rfl rfl rfl ?_ | refine oSa rfl rfl rfl rfl ?_
      refine oA rfl rfl ?_
      refine oN ?_
      refine CW_ret ?_))
  all_goals first
    | with_reducible refine tR ?_
    | with_reducible refine tE ?_
    | (
     with_reducible refine tN ?_
     refine cR ?_
     first | refine oQ (Q_ldc rfl rfl rfl rfl rfl) rfl rfl ?_ | refine oQ (Ld rfl rfl rfl rfl) rfl rfl ?_
     refine oQ (Q_makeFunc rfl rfl) rfl rfl ?_
     (exfalso; simp_all; done)
     refine oM rfl rfl ?_
     iterate 2 refine oQ (Q_extract rfl rfl) rfl rfl ?_
     refine oAlloc rfl rfl rfl rfl rfl rfl rfl ?_
     first | refine oSw rfl rfl rfl rfl ?_ | refine oSa rfl rfl rfl rfl ?_
     refine oA rfl rfl ?_
     refine oN ?_
     refine cR ?_
     first | refine oQ (Lw rfl rfl rfl rfl) rfl rfl ?_ | refine oQ (La rfl rfl rfl rfl rfl) rfl rfl ?_
     first | refine oSw rfl rfl rfl rfl ?_ | refine oSa rfl rfl rfl rfl ?_
     refine oA rfl rfl ?_
     refine oN ?_
     refine CW_ret ?_)
  all_goals (
   first | ((refine exitQ (.inr rfl) 1 (.cons (.arr rfl rfl rfl rfl (by first | omega | (dsimp only; omega) | (simp; omega) | (simp; done))) (.cons (.tmp rfl rfl) .nil)) ?_ rfl (vHc rfl vHn) rfl rfl); rfl) | (exfalso; simp_all; done))
theorem impl_Mo_rn (p : Int) (A : List Int) (n : Nat) (t0 : TypeId) (k0 : Nat) : ConQ Try.prog [] 10 [.int p, .slice 0 0 n k0, .nilsl] [(0, .ints t0 A)] (.tuple [.arr [0, 0, 0, 0], .int 2]) := by
  refine conW tab_ok [(0, .int p), (1, .slice 0 0 n k0), (2, .nilsl)] 1 [0] [0] Try.func10 rfl rfl rfl rfl rfl rfl rfl rfl rfl ?_
  refine cR ?_
  iterate 3 refine oBox rfl rfl rfl rfl rfl rfl ?_
  refine oAlloc rfl rfl rfl rfl rfl rfl rfl ?_
  refine oA rfl rfl ?_
  refine oN ?_
  refine CW_seq ?_
  refine cR ?_
  first | refine oQ (Q_ldc rfl rfl rfl rfl rfl) rfl rfl ?_ | refine oQ (Ld rfl rfl rfl rfl) rfl rfl ?_
  refine oQ (Q_call0 (isPrime_con _) rfl rfl rfl) rfl rfl ?_
  refine oQ (Q_not rfl) rfl rfl ?_
  refine oM rfl rfl ?_
  all_goals first | refine oT rfl rfl ?_ | refine o1 rfl rfl rfl ?_ | refine o0 rfl rfl rfl ?_ | refine ogP1 rfl rfl rfl (fun hg => ?_) (fun hg => ?_) | refine ogP0 rfl rfl rfl (fun hg => ?_) (fun hg => ?_)
  all_goals try simp only [s1, s2, s3, s4, s5, s6, s7, s8, s9, s10, s11, s12] at hg
  all_goals first | (refine oQ (Q_ldv rfl rfl rfl rfl rfl rfl) rfl rfl ?_) | skip
  all_goals first | refine oT rfl rfl ?_ | refine o1 rfl rfl rfl ?_ | refine o0 rfl rfl rfl ?_ | refine ogP1 rfl rfl rfl (fun hg => ?_) (fun hg => ?_) | refine ogP0 rfl rfl rfl (fun hg => ?_) (fun hg => ?_)
  all_goals try simp only [s1, s2, s3, s4, s5, s6, s7, s8, s9, s10, s11, s12] at hg
  all_goals first | refine oQ (Q_len rfl rfl rfl rfl) rfl rfl ?_ | refine oQ (Q_len0 rfl rfl rfl rfl) rfl rfl ?_ | skip
  all_goals first | refine oT rfl rfl ?_ | refine o1 rfl rfl rfl ?_ | refine o0 rfl rfl rfl ?_ | refine ogP1 rfl rfl rfl (fun hg => ?_) (fun hg => ?_) | refine ogP0 rfl rfl rfl (fun hg => ?_) (fun hg => ?_)
  all_goals try simp only [s1, s2, s3, s4, s5, s6, s7, s8, s9, s10, s11, s12] at hg
  all_goals first | (refine oQ (Q_bin rfl rfl rfl) rfl rfl ?_) | skip
  all_goals first | refine oQ (Q_pick_t rfl (by with_reducible rfl) rfl rfl) rfl rfl ?_ | refine oQ (Q_pick_f rfl (by with_reducible rfl) rfl rfl) rfl rfl ?_
  all_goals first | (refine oM rfl rfl ?_)
  all_goals first | refine oT rfl rfl ?_ | refine o1 rfl rfl rfl ?_ | refine o0 rfl rfl rfl ?_ | refine ogP1 rfl rfl rfl (fun hg => ?_) (fun hg => ?_) | refine ogP0 rfl rfl rfl (fun hg => ?_) (fun hg => ?_)
  all_goals try simp only [s1, s2, s3, s4, s5, s6, s7, s8, s9, s10, s11, s12] at hg
  all_goals first | (refine oQ (Q_ldv rfl rfl rfl rfl rfl rfl) rfl rfl ?_) | skip
  all_goals first | refine oT rfl rfl ?_ | refine o1 rfl rfl rfl ?_ | refine o0 rfl rfl rfl ?_ | refine ogP1 rfl rfl rfl (fun hg => ?_) (fun hg => ?_) | refine ogP0 rfl rfl rfl (fun hg => ?_) (fun hg => ?_)
  all_goals try simp only [s1, s2, s3, s4, s5, s6, s7, s8, s9, s10, s11, s12] at hg
  all_goals first | refine oQ (Q_len rfl rfl rfl rfl) rfl rfl ?_ | refine oQ (Q_len0 rfl rfl rfl rfl) rfl rfl ?_ | skip
  all_goals first | refine oT rfl rfl ?_ | refine o1 rfl rfl rfl ?_ | refine o0 rfl rfl rfl ?_ | refine ogP1 rfl rfl rfl (fun hg => ?_) (fun hg => ?_) | refine ogP0 rfl rfl rfl (fun hg => ?_) (fun hg => ?_)
  all_goals try simp only [s1, s2, s3, s4, s5, s6, s7, s8, s9, s10, s11, s12] at hg
  all_goals first | (refine oQ (v := .bool true) (Q_bin rfl rfl rfl) rfl rfl ?_) | skip
  all_goals first | refine oQ (Q_pick_t rfl (by with_reducible rfl) rfl rfl) rfl rfl ?_ | refine oQ (Q_pick_f rfl (by with_reducible rfl) rfl rfl) rfl rfl ?_
  all_goals first | (refine oM rfl rfl ?_)
  all_goals first | refine oT rfl rfl ?_ | refine o1 rfl rfl rfl ?_ | refine o0 rfl rfl rfl ?_ | refine ogP1 rfl rfl rfl (fun hg => ?_) (fun hg => ?_) | refine ogP0 rfl rfl rfl (fun hg => ?_) (fun hg => ?_)
  all_goals try simp only [s1, s2, s3, s4, s5, s6, s7, s8, s9, s10, s11, s12] at hg
  all_goals first | refine oQ (Q_ldc rfl rfl rfl rfl rfl) rfl rfl ?_ | refine oQ (Ld rfl rfl rfl rfl) rfl rfl ?_ | skip
  all_goals first | refine oT rfl rfl ?_ | refine o1 rfl rfl rfl ?_ | refine o0 rfl rfl rfl ?_ | refine ogP1 rfl rfl rfl (fun hg => ?_) (fun hg => ?_) | refine ogP0 rfl rfl rfl (fun hg => ?_) (fun hg => ?_)
  all_goals try simp only [s1, s2, s3, s4, s5, s6, s7, s8, s9, s10, s11, s12] at hg
  all_goals first | (refine oQ (Q_ldv rfl rfl rfl rfl rfl rfl) rfl rfl ?_) | skip
  all_goals first | refine oT rfl rfl ?_ | refine o1 rfl rfl rfl ?_ | refine o0 rfl rfl rfl ?_ | refine ogP1 rfl rfl rfl (fun hg => ?_) (fun hg => ?_) | refine ogP0 rfl rfl rfl (fun hg => ?_) (fun hg => ?_)
  all_goals try simp only [s1, s2, s3, s4, s5, s6, s7, s8, s9, s10, s11, s12] at hg
  all_goals first | ((exfalso; simp_all; done)) | skip
  all_goals first | refine oT rfl rfl ?_ | refine o1 rfl rfl rfl ?_ | refine o0 rfl rfl rfl ?_ | refine ogP1 rfl rfl rfl (fun hg => ?_) (fun hg => ?_) | refine ogP0 rfl rfl rfl (fun hg => ?_) (fun hg => ?_)
  all_goals try simp only [s1, s2, s3, s4, s5, s6, s7, s8, s9, s10, s11, s12] at hg
  all_goals first | (refine oQ (Q_not rfl) rfl rfl ?_) | skip
  all_goals first | refine oQ (Q_pick_t rfl (by with_reducible rfl) rfl rfl) rfl rfl ?_ | refine oQ (Q_pick_f rfl (by with_reducible rfl) rfl rfl) rfl rfl ?_
  all_goals first | (refine oM rfl rfl ?_)
  all_goals first | refine oT rfl rfl ?_ | refine o1 rfl rfl rfl ?_ | refine o0 rfl rfl rfl ?_ | refine ogP1 rfl rfl rfl (fun hg => ?_) (fun hg => ?_) | refine ogP0 rfl rfl rfl (fun hg => ?_) (fun hg => ?_)
  all_goals try simp only [s1, s2, s3, s4, s5, s6, s7, s8, s9, s10, s11, s12] at hg
  all_goals first | refine oQ (Q_ldc rfl rfl rfl rfl rfl) rfl rfl ?_ | refine oQ (Ld rfl rfl rfl rfl) rfl rfl ?_ | skip
  all_goals first | refine oT rfl rfl ?_ | refine o1 rfl rfl rfl ?_ | refine o0 rfl rfl rfl ?_ | refine ogP1 rfl rfl rfl (fun hg => ?_) (fun hg => ?_) | refine ogP0 rfl rfl rfl (fun hg => ?_) (fun hg => ?_)
  all_goals try simp only [s1, s2, s3, s4, s5, s6, s7, s8, s9, s10, s11, s12] at hg
  all_goals first | (refine oQ (Q_ldv rfl rfl rfl rfl rfl rfl) rfl rfl ?_) | skip
  all_goals first | refine oT rfl rfl ?_ | refine o1 rfl rfl rfl ?_ | refine o0 rfl rfl rfl ?_ | refine ogP1 rfl rfl rfl (fun hg => ?_) (fun hg => ?_) | refine ogP0 rfl rfl rfl (fun hg => ?_) (fun hg => ?_)
  all_goals try simp only [s1, s2, s3, s4, s5, s6, s7, s8, s9, s10, s11, s12] at hg
  all_goals first | ((exfalso; simp_all; done)) | skip
  all_goals first | refine oT rfl rfl ?_ | refine o1 rfl rfl rfl ?_ | refine o0 rfl rfl rfl ?_ | refine ogP1 rfl rfl rfl (fun hg => ?_) (fun hg => ?_) | refine ogP0 rfl rfl rfl (fun hg => ?_) (fun hg => ?_)
  all_goals try simp only [s1, s2, s3, s4, s5, s6, s7, s8, s9, s10, s11, s12] at hg
  all_goals first | (refine oQ (Q_not rfl) rfl rfl ?_) | skip
  all_goals first | refine oQ (Q_pick_t rfl (by with_reducible rfl) rfl rfl) rfl rfl ?_ | refine oQ (Q_pick_f rfl (by with_reducible rfl) rfl rfl) rfl rfl ?_
  all_goals refine oN ?_
  all_goals (
   first | refine cT rfl ?_ | refine cF rfl ?_ | refine CW_cond rfl (fun hc => ?_) (fun hc => ?_)
   all_goals try simp only [s1, s2, s3, s4, s5, s6, s7, s8, s9, s10, s11, s12] at hc
   all_goals first
     | (
      refine CW_skip ?_)
     | (
      refine cR ?_
      refine oQ (Q_build rfl rfl rfl rfl rfl rfl rfl rfl) rfl rfl ?_
      first | refine oSw rfl rfl rfl rfl ?_ | refine oSa rfl rfl rfl rfl ?_
      refine oA rfl rfl ?_
      refine oN ?_
      refine CW_ret ?_))
  all_goals first
    | with_reducible refine tR ?_
    | with_reducible refine tE ?_
    | (
     with_reducible refine tN ?_
     refine cR ?_
     first | refine oQ (Q_ldc rfl rfl rfl rfl rfl) rfl rfl ?_ | refine oQ (Ld rfl rfl rfl rfl) rfl rfl ?_
     refine oQ (Q_makeFunc rfl rfl) rfl rfl ?_
     (exfalso; simp_all; done)
     refine oM rfl rfl ?_
     iterate 2 refine oQ (Q_extract rfl rfl) rfl rfl ?_
     refine oAlloc rfl rfl rfl rfl rfl rfl rfl ?_
     first | refine oSw rfl rfl rfl rfl ?_ | refine oSa rfl rfl rfl rfl ?_
     refine oA rfl rfl ?_
     refine oN ?_
     refine cR ?_
     first | refine oQ (Lw rfl rfl rfl rfl) rfl rfl ?_ | refine oQ (La rfl rfl rfl rfl rfl) rfl rfl ?_
     first | refine oSw rfl rfl rfl rfl ?_ | refine oSa rfl rfl rfl rfl ?_
     refine oA rfl rfl ?_
     refine oN ?_
     refine CW_ret ?_)
  all_goals (
   first | ((refine exitQ (.inr rfl) 1 (.cons (.arr rfl rfl rfl rfl (by first | omega | (dsimp only; omega) | (simp; omega) | (simp; done))) (.cons (.tmp rfl rfl) .nil)) ?_ rfl (vHc rfl vHn) rfl rfl); rfl) | (exfalso; simp_all; done))
end Go.Proofs.Ytchikadcicecoaa
namespace Go.Proofs.Ytchikadcicecoaa
set_option maxRecDepth 10000
set_option linter.unusedSimpArgs false
set_option linter.unusedVariables false
theorem frL_four {p a b c : Int} (hp : primeB p = true) : ∃ w0 w1 w2 w3, frL p a b c = [w0, w1, w2, w3] ∧ ∀ x ∈ [w0, w1, w2, w3], 0 ≤ x ∧ x ≤ 12 := by
  obtain ⟨w0, w1, w2, w3, h⟩ := l4_form (m := frL p a b c) (by unfold frL; rw [normL_length]; rfl)
  refine ⟨w0, w1, w2, w3, h, ?_⟩
  rw [← h]
  exact nl4_bd hp _ _ _ _
theorem bkL_four {p : Int} {m : List Int} (hp : primeB p = true) : ∃ w0 w1 w2 w3, bkL p m = [w0, w1, w2, w3] ∧ ∀ x ∈ [w0, w1, w2, w3], 0 ≤ x ∧ x ≤ 12 := by
  obtain ⟨w0, w1, w2, w3, h⟩ := l4_form (m := bkL p m) (by unfold bkL; rw [normL_length]; rfl)
  refine ⟨w0, w1, w2, w3, h, ?_⟩
  rw [← h]
  exact nl4_bd hp _ _ _ _
attribute [local irreducible] CW OW QW QOp Con thenP inBlockP AW QX RW AX
theorem l01Own_con (t : TypeId) (x y z : Int) (r : List Int) (k : Nat) : Con Try.prog [] 22 [.slice 0 0 3 k] [(0, .ints t (x :: y :: z :: r))] (fun v H' => ∃ k2 sp, 3 ≤ k2 ∧ k2 ≤ 3 + sp.length ∧ v = .slice 2 0 3 k2 ∧ H' = [(0, .ints t (x :: y :: z :: r)), (2, .ints 2 ([x, y, z] ++ sp))]) := by
  have hsl : ∀ H : Hp, lkB H 0 = some (.ints t (x :: y :: z :: r)) → IsSl H 1 (.slice 0 0 3 k) 3 [x, y, z] := fun H h => by
    have := IsSl.mk (sz := 1) (o := 0) (n := 3) (k := k) h (by simp)
    simpa using this
  refine conW tab_ok [(0, .slice 0 0 3 k)] 1 [0] [0] Try.func22 rfl rfl rfl rfl rfl rfl rfl rfl rfl ?_
  refine cR ?_
  refine oA rfl rfl ?_
  refine oN ?_
  refine cR ?_
  refine oBsl (zl := []) (r := []) rfl rfl rfl rfl (.inl ⟨rfl, rfl⟩) rfl rfl rfl rfl rfl rfl ?_
  refine oM rfl rfl ?_
  refine oAppOwn (sz := 1) (by_ := 8) (l := []) (m := 0) (k := 0) rfl rfl rfl rfl rfl rfl ⟨by decide, rfl, .inl ⟨rfl, rfl⟩⟩ rfl rfl rfl rfl rfl (hsl _ rfl) (by simp) (by omega) (by omega) (by omega) rfl rfl (fun k2 sp2 h1 h2 => ?_)
  refine oA rfl rfl ?_
  refine oN ?_
  refine CW_ret ?_
  all_goals (
   exact exitH (r0 := .slice 2 0 3 k2) (H0 := [(0, .ints t (x :: y :: z :: r)), (2, .ints 2 ([x, y, z] ++ sp2))]) (.inr rfl) [] 3 (.cons (.tmp rfl rfl) .nil) rfl rfl rfl (vHc rfl (vHc rfl vHn)) rfl rfl ⟨k2, sp2, by omega, by omega, rfl, rfl⟩)
theorem spec_Mo_ok (n a b c d e f : Nat) (t0 t1 : TypeId) (ra rb : List Int) (k0 k1 : Nat) (hk0 : 3 ≤ k0) (hk1 : 3 ≤ k1) (hp : primeB (n : Int) = true) (ha : a ≤ n) (hb : b ≤ n) (hc0 : c ≤ n) (hd : d ≤ n) (he : e ≤ n) (hf : f ≤ n) (h1 : a ≠ b ∧ a ≠ c ∧ b ≠ c) (h2 : d ≠ e ∧ d ≠ f ∧ e ≠ f) : ConQ Try.prog [] 8 [.int (n : Int), .slice 0 0 3 k0, .slice 1 0 3 k1] [(0, .ints t0 ((a : Int) :: (b : Int) :: (c : Int) :: ra)), (1, .ints t1 ((d : Int) :: (e : Int) :: (f : Int) :: rb))] (.tuple [.arr (moL (n : Int) a b c d e f), .int 0]) := by
  have hpr := l01Prime_con (n : Int)
  rw [hp] at hpr
  have hd1 := l05Different_con t0 ((a : Int) :: (b : Int) :: (c : Int) :: ra) 3 k0 (by simp) (by decide)
  have hd2 := l05Different_con t1 ((d : Int) :: (e : Int) :: (f : Int) :: rb) 3 k1 (by simp) (by decide)
  rw [difB_three.2 ⟨by omega, by omega, by omega⟩] at hd1
  rw [difB_three.2 ⟨by omega, by omega, by omega⟩] at hd2
  have hsl : ∀ H : Hp, lkB H 1 = some (.ints t1 ((d : Int) :: (e : Int) :: (f : Int) :: rb)) → IsSl H 1 (.slice 1 0 3 k1) 3 [(d : Int), (e : Int), (f : Int)] := fun H h => by
    have := IsSl.mk (sz := 1) (o := 0) (n := 3) (k := k1) h (by simp)
    simpa using this
  have hown := l01Own_con t0 (a : Int) (b : Int) (c : Int) ra k0
  have hpl : placesB (n : Int) [(a : Int), (b : Int), (c : Int), (d : Int), (e : Int), (f : Int)] = true := by simp [placesB]; omega
  have hcd := fun (sp : List Int) (k : Nat) => l05Code_row (n : Int) 23 [] 0 0 (Nat.le_refl 0) (by decide) 2 ([(a : Int), (b : Int), (c : Int), (d : Int), (e : Int), (f : Int)] ++ sp) 6 k (by simp) (by decide)
  have hcd2 : ∀ (sp : List Int) (k : Nat), ConQ Try.prog [] 12 [.int (n : Int), .slice 0 0 0 0, .slice 1 0 6 k] [(0, .ints 23 []), (1, .ints 2 ([(a : Int), (b : Int), (c : Int), (d : Int), (e : Int), (f : Int)] ++ sp))] (.int 0) := fun sp k => by
    have h := hcd sp k
    rw [show List.take 6 ([(a : Int), (b : Int), (c : Int), (d : Int), (e : Int), (f : Int)] ++ sp) = [(a : Int), (b : Int), (c : Int), (d : Int), (e : Int), (f : Int)] from rfl, show codeP (n : Int) (badM (n : Int) [] 0) [(a : Int), (b : Int), (c : Int), (d : Int), (e : Int), (f : Int)] = 0 from codeP_ok hp rfl hpl] at h
    exact h
  clear hcd
  have hf1 := l05Frame_con (n : Int) a b c hp (by omega) (by omega) (by omega)
  have hf2 := l05Frame_con (n : Int) d e f hp (by omega) (by omega) (by omega)
  unfold moL
  obtain ⟨v0, v1, v2, v3, hv, hvb⟩ := frL_four (p := (n : Int)) (a := a) (b := b) (c := c) hp
  obtain ⟨w0, w1, w2, w3, hw, hwb⟩ := frL_four (p := (n : Int)) (a := d) (b := e) (c := f) hp
  rw [hv] at hf1 ⊢
  rw [hw] at hf2 ⊢
  have hbk := l05Back_con (n : Int) v0 v1 v2 v3 hp hvb
  obtain ⟨u0, u1, u2, u3, hu, hub⟩ := bkL_four (p := (n : Int)) (m := [v0, v1, v2, v3]) hp
  rw [hu] at hbk ⊢
  have htm := l05Times_con (n : Int) w0 w1 w2 w3 u0 u1 u2 u3 hp hwb hub
  have hml : (normL (n : Int) (thL4 [w0, w1, w2, w3] [u0, u1, u2, u3])).length = 4 := by rw [normL_length]; rfl
  generalize normL (n : Int) (thL4 [w0, w1, w2, w3] [u0, u1, u2, u3]) = Z at *
  refine conW tab_ok [(0, .int (n : Int)), (1, .slice 0 0 3 k0), (2, .slice 1 0 3 k1)] 2 [0, 1] [0, 1] Try.func8 rfl rfl rfl rfl rfl rfl rfl rfl rfl ?_
  refine cR ?_
  refine oAlloc rfl rfl rfl rfl rfl rfl rfl ?_
  refine oA rfl rfl ?_
  refine oN ?_
  refine CW_seq ?_
  refine cR ?_
  refine oM rfl rfl ?_
  refine oQe (Q_call (hpr) [] rfl rfl (Fits.mk' vHn rfl rfl (by first | (simp; done) | exact glOk rfl rfl rfl)) rfl rfl) (show _ = .bool true from rfl) rfl rfl ?_
  refine oQe (Q_not rfl) (show _ = V.bool false from rfl) rfl rfl ?_
  refine oM rfl rfl ?_
  all_goals first | refine oT rfl rfl ?_ | refine o1 rfl rfl rfl ?_ | refine o0 rfl rfl rfl ?_ | refine ogP1 rfl rfl rfl (fun hg => ?_) (fun hg => ?_) | refine ogP0 rfl rfl rfl (fun hg => ?_) (fun hg => ?_)
  all_goals try simp only [s1, s2, s3, s4, s5, s6, s7, s8, s9, s10, s11, s12] at hg
  all_goals first | (refine oM rfl rfl ?_) | skip
  all_goals first | refine oT rfl rfl ?_ | refine o1 rfl rfl rfl ?_ | refine o0 rfl rfl rfl ?_ | refine ogP1 rfl rfl rfl (fun hg => ?_) (fun hg => ?_) | refine ogP0 rfl rfl rfl (fun hg => ?_) (fun hg => ?_)
  all_goals try simp only [s1, s2, s3, s4, s5, s6, s7, s8, s9, s10, s11, s12] at hg
  all_goals first | refine oQ (Q_len rfl rfl rfl rfl) rfl rfl ?_ | refine oQ (Q_len0 rfl rfl rfl rfl) rfl rfl ?_ | skip
  all_goals first | refine oT rfl rfl ?_ | refine o1 rfl rfl rfl ?_ | refine o0 rfl rfl rfl ?_ | refine ogP1 rfl rfl rfl (fun hg => ?_) (fun hg => ?_) | refine ogP0 rfl rfl rfl (fun hg => ?_) (fun hg => ?_)
  all_goals try simp only [s1, s2, s3, s4, s5, s6, s7, s8, s9, s10, s11, s12] at hg
  all_goals first | (refine oQ (v := .bool false) (Q_bin rfl rfl rfl) rfl rfl ?_) | skip
  all_goals first | refine oQ (Q_pick_t rfl (by with_reducible rfl) rfl rfl) rfl rfl ?_ | refine oQ (Q_pick_f rfl (by with_reducible rfl) rfl rfl) rfl rfl ?_
  all_goals first | (refine oM rfl rfl ?_)
  all_goals first | refine oT rfl rfl ?_ | refine o1 rfl rfl rfl ?_ | refine o0 rfl rfl rfl ?_ | refine ogP1 rfl rfl rfl (fun hg => ?_) (fun hg => ?_) | refine ogP0 rfl rfl rfl (fun hg => ?_) (fun hg => ?_)
  all_goals try simp only [s1, s2, s3, s4, s5, s6, s7, s8, s9, s10, s11, s12] at hg
  all_goals first | (refine oM rfl rfl ?_) | skip
  all_goals first | refine oT rfl rfl ?_ | refine o1 rfl rfl rfl ?_ | refine o0 rfl rfl rfl ?_ | refine ogP1 rfl rfl rfl (fun hg => ?_) (fun hg => ?_) | refine ogP0 rfl rfl rfl (fun hg => ?_) (fun hg => ?_)
  all_goals try simp only [s1, s2, s3, s4, s5, s6, s7, s8, s9, s10, s11, s12] at hg
  all_goals first | refine oQ (Q_len rfl rfl rfl rfl) rfl rfl ?_ | refine oQ (Q_len0 rfl rfl rfl rfl) rfl rfl ?_ | skip
  all_goals first | refine oT rfl rfl ?_ | refine o1 rfl rfl rfl ?_ | refine o0 rfl rfl rfl ?_ | refine ogP1 rfl rfl rfl (fun hg => ?_) (fun hg => ?_) | refine ogP0 rfl rfl rfl (fun hg => ?_) (fun hg => ?_)
  all_goals try simp only [s1, s2, s3, s4, s5, s6, s7, s8, s9, s10, s11, s12] at hg
  all_goals first | (refine oQ (v := .bool false) (Q_bin rfl rfl rfl) rfl rfl ?_) | skip
  all_goals first | refine oQ (Q_pick_t rfl (by with_reducible rfl) rfl rfl) rfl rfl ?_ | refine oQ (Q_pick_f rfl (by with_reducible rfl) rfl rfl) rfl rfl ?_
  all_goals refine oN ?_
  all_goals (
   first | refine cT rfl ?_ | refine cF rfl ?_ | refine CW_cond rfl (fun hc => ?_) (fun hc => ?_)
   all_goals try simp only [s1, s2, s3, s4, s5, s6, s7, s8, s9, s10, s11, s12] at hc
   all_goals first
     | (
      refine CW_skip ?_)
     | (
      refine cR ?_
      refine oQ (Q_build rfl rfl rfl rfl rfl rfl rfl rfl) rfl rfl ?_
      first | refine oSw rfl rfl rfl rfl ?_ | refine oSa rfl rfl rfl rfl ?_
      refine oA rfl rfl ?_
      refine oN ?_
      refine CW_ret ?_))
  all_goals first
    | with_reducible refine tR ?_
    | with_reducible refine tE ?_
    | (
     with_reducible refine tN ?_
     refine CW_seq ?_
     refine cR ?_
     refine oM rfl rfl ?_
     refine oBsl (zl := [0, 0, 0, 0]) (r := []) rfl rfl rfl rfl (.inr ⟨rfl, rfl, by decide⟩) rfl rfl rfl rfl rfl rfl ?_
     refine oM rfl rfl ?_
     refine oCall (hown) [] 3 rfl rfl (Fits.mk' (vHc rfl vHn) rfl rfl (by first | (simp; done) | exact glOk rfl rfl rfl)) rfl rfl ?_
     rintro r H1 ⟨k2, sp2, g1, g2, rfl, rfl⟩
     refine ⟨.slice 6 0 3 k2, [(0, .ints t0 ((a : Int) :: (b : Int) :: (c : Int) :: ra)), (6, .ints 2 ([(a : Int), (b : Int), (c : Int)] ++ sp2))], rfl, rfl, rfl, ?_⟩
     refine oM rfl rfl ?_
     refine oAppOwn (sz := 1) (by_ := 8) (m := 3) (k := k2) rfl rfl rfl rfl rfl rfl ⟨by decide, rfl, .inl ⟨rfl, rfl⟩⟩ rfl rfl rfl rfl rfl (hsl _ rfl) (by simp; omega) (by omega) (by omega) (by omega) rfl rfl (fun k3 sp3 h5 h6 => ?_)
     refine oQ (Q_call (hcd2 sp3 k3) [(0, 3), (1, 7)] rfl rfl (Fits.mk' (vHc rfl (vHc rfl vHn)) rfl rfl (by first | (simp; done) | exact glOk rfl rfl rfl)) rfl rfl) rfl rfl ?_
     refine oA rfl rfl ?_
     refine oN ?_
     refine cR ?_
     refine oM rfl rfl ?_
     refine oQ (v := .bool false) (Q_bin rfl rfl rfl) rfl rfl ?_
     refine oN ?_
     first | refine cT rfl ?_ | refine cF rfl ?_ | refine CW_cond rfl (fun hc => ?_) (fun hc => ?_)
     all_goals try simp only [s1, s2, s3, s4, s5, s6, s7, s8, s9, s10, s11, s12] at hc
     all_goals first
       | (
        refine CW_skip ?_)
       | (
        refine cR ?_
        refine oQ (Q_build rfl rfl rfl rfl rfl rfl rfl rfl) rfl rfl ?_
        refine oM rfl rfl ?_
        first | refine oSw rfl rfl rfl rfl ?_ | refine oSa rfl rfl rfl rfl ?_
        refine oA rfl rfl ?_
        refine oN ?_
        refine CW_ret ?_)
     all_goals first
       | with_reducible refine tR ?_
       | with_reducible refine tE ?_
       | (
        with_reducible refine tN ?_
        refine CW_seq ?_
        refine cR ?_
        refine oM rfl rfl ?_
        refine oQe (Q_call (hd1) [] rfl rfl (Fits.mk' (vHc rfl vHn) rfl rfl (by first | (simp; done) | exact glOk rfl rfl rfl)) rfl rfl) (show _ = .bool true from rfl) rfl rfl ?_
        refine oQe (Q_not rfl) (show _ = V.bool false from rfl) rfl rfl ?_
        refine oM rfl rfl ?_
        all_goals first | refine oT rfl rfl ?_ | refine o1 rfl rfl rfl ?_ | refine o0 rfl rfl rfl ?_ | refine ogP1 rfl rfl rfl (fun hg => ?_) (fun hg => ?_) | refine ogP0 rfl rfl rfl (fun hg => ?_) (fun hg => ?_)
        all_goals try simp only [s1, s2, s3, s4, s5, s6, s7, s8, s9, s10, s11, s12] at hg
        all_goals first | (refine oM rfl rfl ?_) | skip
        all_goals first | refine oT rfl rfl ?_ | refine o1 rfl rfl rfl ?_ | refine o0 rfl rfl rfl ?_ | refine ogP1 rfl rfl rfl (fun hg => ?_) (fun hg => ?_) | refine ogP0 rfl rfl rfl (fun hg => ?_) (fun hg => ?_)
        all_goals try simp only [s1, s2, s3, s4, s5, s6, s7, s8, s9, s10, s11, s12] at hg
        all_goals first | (refine oQe (Q_call (hd2) [(0, 1)] rfl rfl (Fits.mk' (vHc rfl vHn) rfl rfl (by first | (simp; done) | exact glOk rfl rfl rfl)) rfl rfl) (show _ = .bool true from rfl) rfl rfl ?_) | skip
        all_goals first | refine oT rfl rfl ?_ | refine o1 rfl rfl rfl ?_ | refine o0 rfl rfl rfl ?_ | refine ogP1 rfl rfl rfl (fun hg => ?_) (fun hg => ?_) | refine ogP0 rfl rfl rfl (fun hg => ?_) (fun hg => ?_)
        all_goals try simp only [s1, s2, s3, s4, s5, s6, s7, s8, s9, s10, s11, s12] at hg
        all_goals first | (refine oQe (Q_not rfl) (show _ = V.bool false from rfl) rfl rfl ?_) | skip
        all_goals first | refine oQ (Q_pick_t rfl (by with_reducible rfl) rfl rfl) rfl rfl ?_ | refine oQ (Q_pick_f rfl (by with_reducible rfl) rfl rfl) rfl rfl ?_
        all_goals refine oN ?_
        all_goals (
         first | refine cT rfl ?_ | refine cF rfl ?_ | refine CW_cond rfl (fun hc => ?_) (fun hc => ?_)
         all_goals try simp only [s1, s2, s3, s4, s5, s6, s7, s8, s9, s10, s11, s12] at hc
         all_goals first
           | (
            refine CW_skip ?_)
           | (
            refine cR ?_
            refine oQ (Q_build rfl rfl rfl rfl rfl rfl rfl rfl) rfl rfl ?_
            first | refine oSw rfl rfl rfl rfl ?_ | refine oSa rfl rfl rfl rfl ?_
            refine oA rfl rfl ?_
            refine oN ?_
            refine CW_ret ?_))
        all_goals first
          | with_reducible refine tR ?_
          | with_reducible refine tE ?_
          | (
           with_reducible refine tN ?_
           refine CW_seq ?_
           refine CW_any (fun i => List.elem i [26, 27]) 28 rfl lateOk (by decide +kernel) (fun hst => ?_)
           refine aP 0 hst rfl rfl (by decide +kernel) (PX_move rfl rfl) rfl rfl ?_
           refine aP 1 hst rfl rfl (by decide +kernel) (PX_move rfl rfl) rfl rfl ?_
           refine aP 2 hst rfl rfl (by decide +kernel) (PX_move rfl rfl) rfl rfl ?_
           first | refine aQ 3 hst rfl rfl (by decide +kernel) (QX_of (Is0 rfl rfl rfl rfl rfl rfl) NE_ix) rfl rfl ?_ | refine aQ 3 hst rfl rfl (by decide +kernel) (QX_of (Is1 rfl rfl rfl rfl rfl rfl) NE_ix) rfl rfl ?_
           first | refine aQ 4 hst rfl rfl (by decide +kernel) (QX_of (Q_ldc rfl rfl rfl rfl rfl) NE_load) rfl rfl ?_ | refine aQ 4 hst rfl rfl (by decide +kernel) (QX_of (Ld rfl rfl rfl rfl) NE_load) rfl rfl ?_
           refine aP 5 hst rfl rfl (by decide +kernel) (PX_move rfl rfl) rfl rfl ?_
           first | refine aQ 6 hst rfl rfl (by decide +kernel) (QX_of (Is0 rfl rfl rfl rfl rfl rfl) NE_ix) rfl rfl ?_ | refine aQ 6 hst rfl rfl (by decide +kernel) (QX_of (Is1 rfl rfl rfl rfl rfl rfl) NE_ix) rfl rfl ?_
           first | refine aQ 7 hst rfl rfl (by decide +kernel) (QX_of (Q_ldc rfl rfl rfl rfl rfl) NE_load) rfl rfl ?_ | refine aQ 7 hst rfl rfl (by decide +kernel) (QX_of (Ld rfl rfl rfl rfl) NE_load) rfl rfl ?_
           refine aP 8 hst rfl rfl (by decide +kernel) (PX_move rfl rfl) rfl rfl ?_
           first | refine aQ 9 hst rfl rfl (by decide +kernel) (QX_of (Is0 rfl rfl rfl rfl rfl rfl) NE_ix) rfl rfl ?_ | refine aQ 9 hst rfl rfl (by decide +kernel) (QX_of (Is1 rfl rfl rfl rfl rfl rfl) NE_ix) rfl rfl ?_
           first | refine aQ 10 hst rfl rfl (by decide +kernel) (QX_of (Q_ldc rfl rfl rfl rfl rfl) NE_load) rfl rfl ?_ | refine aQ 10 hst rfl rfl (by decide +kernel) (QX_of (Ld rfl rfl rfl rfl) NE_load) rfl rfl ?_
           refine aQ 11 hst rfl rfl (by decide +kernel) (QX_call0 (hf2) rfl rfl rfl) rfl rfl ?_
           refine aP 12 hst rfl rfl (by decide +kernel) (PX_move rfl rfl) rfl rfl ?_
           refine aP 13 hst rfl rfl (by decide +kernel) (PX_move rfl rfl) rfl rfl ?_
           refine aP 14 hst rfl rfl (by decide +kernel) (PX_move rfl rfl) rfl rfl ?_
           first | refine aQ 15 hst rfl rfl (by decide +kernel) (QX_of (Is0 rfl rfl rfl rfl rfl rfl) NE_ix) rfl rfl ?_ | refine aQ 15 hst rfl rfl (by decide +kernel) (QX_of (Is1 rfl rfl rfl rfl rfl rfl) NE_ix) rfl rfl ?_
           first | refine aQ 16 hst rfl rfl (by decide +kernel) (QX_of (Q_ldc rfl rfl rfl rfl rfl) NE_load) rfl rfl ?_ | refine aQ 16 hst rfl rfl (by decide +kernel) (QX_of (Ld rfl rfl rfl rfl) NE_load) rfl rfl ?_
           refine aP 17 hst rfl rfl (by decide +kernel) (PX_move rfl rfl) rfl rfl ?_
           first | refine aQ 18 hst rfl rfl (by decide +kernel) (QX_of (Is0 rfl rfl rfl rfl rfl rfl) NE_ix) rfl rfl ?_ | refine aQ 18 hst rfl rfl (by decide +kernel) (QX_of (Is1 rfl rfl rfl rfl rfl rfl) NE_ix) rfl rfl ?_
           first | refine aQ 19 hst rfl rfl (by decide +kernel) (QX_of (Q_ldc rfl rfl rfl rfl rfl) NE_load) rfl rfl ?_ | refine aQ 19 hst rfl rfl (by decide +kernel) (QX_of (Ld rfl rfl rfl rfl) NE_load) rfl rfl ?_
           refine aP 20 hst rfl rfl (by decide +kernel) (PX_move rfl rfl) rfl rfl ?_
           first | refine aQ 21 hst rfl rfl (by decide +kernel) (QX_of (Is0 rfl rfl rfl rfl rfl rfl) NE_ix) rfl rfl ?_ | refine aQ 21 hst rfl rfl (by decide +kernel) (QX_of (Is1 rfl rfl rfl rfl rfl rfl) NE_ix) rfl rfl ?_
           first | refine aQ 22 hst rfl rfl (by decide +kernel) (QX_of (Q_ldc rfl rfl rfl rfl rfl) NE_load) rfl rfl ?_ | refine aQ 22 hst rfl rfl (by decide +kernel) (QX_of (Ld rfl rfl rfl rfl) NE_load) rfl rfl ?_
           refine aQ 23 hst rfl rfl (by decide +kernel) (QX_call0 (hf1) rfl rfl rfl) rfl rfl ?_
           refine aQ 24 hst rfl rfl (by decide +kernel) (QX_call0 (hbk) rfl rfl rfl) rfl rfl ?_
           refine aQ 25 hst rfl rfl (by decide +kernel) (QX_call0 (htm) rfl rfl rfl) rfl rfl ?_
           refine AW_last [26, 27] rfl (by decide +kernel) rfl ?_
           first | refine oSw rfl rfl rfl rfl ?_ | refine oSa rfl rfl rfl rfl ?_
           refine oA rfl rfl ?_
           refine OW_nil (npN ?_)
           all_goals with_reducible refine tN ?_
           all_goals (
            refine CW_ret ?_))))
  all_goals (
   ((refine exitQ (.inr rfl) 2 (.cons (.arr rfl rfl rfl rfl (by first | omega | (dsimp only; omega) | (simp; omega) | (simp; done))) (.cons (.tmp rfl rfl) .nil)) ?_ rfl (vHc rfl (vHc rfl vHn)) rfl rfl); rfl))
theorem spec_Mo_bad3 (p x y z u v w : Int) (ra rb : List Int) (t0 t1 : TypeId) (k0 k1 : Nat) (hbad : moBad p (x :: y :: z :: ra) (u :: v :: w :: rb) 3 3) (hp : primeB p = true) : ConQ Try.prog [] 8 [.int p, .slice 0 0 3 k0, .slice 1 0 3 k1] [(0, .ints t0 (x :: y :: z :: ra)), (1, .ints t1 (u :: v :: w :: rb))] (.tuple [.arr [0, 0, 0, 0], .int 2]) := by
  have hpr := l01Prime_con p
  rw [hp] at hpr
  have hd1 := l05Different_con t0 (x :: y :: z :: ra) 3 k0 (by simp) (by decide)
  have hd2 := l05Different_con t1 (u :: v :: w :: rb) 3 k1 (by simp) (by decide)
  have hsl : ∀ H : Hp, lkB H 1 = some (.ints t1 (u :: v :: w :: rb)) → IsSl H 1 (.slice 1 0 3 k1) 3 [u, v, w] := fun H h => by
    have := IsSl.mk (sz := 1) (o := 0) (n := 3) (k := k1) h (by simp)
    simpa using this
  have hown := l01Own_con t0 x y z ra k0
  have hcd : ∀ (sp : List Int) (k : Nat), ConQ Try.prog [] 12 [.int p, .slice 0 0 0 0, .slice 1 0 6 k] [(0, .ints 23 []), (1, .ints 2 ([x, y, z, u, v, w] ++ sp))] (.int (if placesB p [x, y, z, u, v, w] = true then 0 else 2)) := fun sp k => by
    have h := l05Code_row p 23 [] 0 0 (Nat.le_refl 0) (by decide) 2 ([x, y, z, u, v, w] ++ sp) 6 k (by simp) (by decide)
    rw [show List.take 6 ([x, y, z, u, v, w] ++ sp) = [x, y, z, u, v, w] from rfl] at h
    have e : codeP p (badM p [] 0) [x, y, z, u, v, w] = if placesB p [x, y, z, u, v, w] = true then 0 else 2 := by
      unfold codeP; rw [if_pos hp]; rfl
    rw [e] at h
    exact h
  have hpl : placesB p [x, y, z, u, v, w] = (placesB p [x, y, z] && placesB p [u, v, w]) := by simp [placesB, Bool.and_assoc]
  have hbad2 : difB (x :: y :: z :: ra) 3 = true → placesB p [x, y, z] = true → difB (u :: v :: w :: rb) 3 = true → placesB p [u, v, w] = true → False := fun q1 q2 q3 q4 => hbad ⟨hp, rfl, rfl, q1, q2, q3, q4⟩
  clear hbad
  rw [hpl] at hcd
  generalize difB (x :: y :: z :: ra) 3 = b1 at *
  generalize difB (u :: v :: w :: rb) 3 = b2 at *
  generalize placesB p [x, y, z] = b3 at *
  generalize placesB p [u, v, w] = b4 at *
  clear hpl
  cases hb34 : (b3 && b4) with
  | false =>
    rw [hb34] at hcd
    simp only [Bool.false_eq_true, if_false] at hcd
    refine conW tab_ok [(0, .int p), (1, .slice 0 0 3 k0), (2, .slice 1 0 3 k1)] 2 [0, 1] [0, 1] Try.func8 rfl rfl rfl rfl rfl rfl rfl rfl rfl ?_
    refine cR ?_
    refine oAlloc rfl rfl rfl rfl rfl rfl rfl ?_
    refine oA rfl rfl ?_
    refine oN ?_
    refine CW_seq ?_
    refine cR ?_
    refine oM rfl rfl ?_
    refine oQe (Q_call (hpr) [] rfl rfl (Fits.mk' vHn rfl rfl (by first | (simp; done) | exact glOk rfl rfl rfl)) rfl rfl) (show _ = .bool true from rfl) rfl rfl ?_
    refine oQe (Q_not rfl) (show _ = V.bool false from rfl) rfl rfl ?_
    refine oM rfl rfl ?_
    all_goals first | refine oT rfl rfl ?_ | refine o1 rfl rfl rfl ?_ | refine o0 rfl rfl rfl ?_ | refine ogP1 rfl rfl rfl (fun hg => ?_) (fun hg => ?_) | refine ogP0 rfl rfl rfl (fun hg => ?_) (fun hg => ?_)
    all_goals try simp only [s1, s2, s3, s4, s5, s6, s7, s8, s9, s10, s11, s12] at hg
    all_goals first | (refine oM rfl rfl ?_) | skip
    all_goals first | refine oT rfl rfl ?_ | refine o1 rfl rfl rfl ?_ | refine o0 rfl rfl rfl ?_ | refine ogP1 rfl rfl rfl (fun hg => ?_) (fun hg => ?_) | refine ogP0 rfl rfl rfl (fun hg => ?_) (fun hg => ?_)
    all_goals try simp only [s1, s2, s3, s4, s5, s6, s7, s8, s9, s10, s11, s12] at hg
    all_goals first | refine oQ (Q_len rfl rfl rfl rfl) rfl rfl ?_ | refine oQ (Q_len0 rfl rfl rfl rfl) rfl rfl ?_ | skip
    all_goals first | refine oT rfl rfl ?_ | refine o1 rfl rfl rfl ?_ | refine o0 rfl rfl rfl ?_ | refine ogP1 rfl rfl rfl (fun hg => ?_) (fun hg => ?_) | refine ogP0 rfl rfl rfl (fun hg => ?_) (fun hg => ?_)
    all_goals try simp only [s1, s2, s3, s4, s5, s6, s7, s8, s9, s10, s11, s12] at hg
    all_goals first | (refine oQ (v := .bool false) (Q_bin rfl rfl rfl) rfl rfl ?_) | skip
    all_goals first | refine oQ (Q_pick_t rfl (by with_reducible rfl) rfl rfl) rfl rfl ?_ | refine oQ (Q_pick_f rfl (by with_reducible rfl) rfl rfl) rfl rfl ?_
    all_goals first | (refine oM rfl rfl ?_)
    all_goals first | refine oT rfl rfl ?_ | refine o1 rfl rfl rfl ?_ | refine o0 rfl rfl rfl ?_ | refine ogP1 rfl rfl rfl (fun hg => ?_) (fun hg => ?_) | refine ogP0 rfl rfl rfl (fun hg => ?_) (fun hg => ?_)
    all_goals try simp only [s1, s2, s3, s4, s5, s6, s7, s8, s9, s10, s11, s12] at hg
    all_goals first | (refine oM rfl rfl ?_) | skip
    all_goals first | refine oT rfl rfl ?_ | refine o1 rfl rfl rfl ?_ | refine o0 rfl rfl rfl ?_ | refine ogP1 rfl rfl rfl (fun hg => ?_) (fun hg => ?_) | refine ogP0 rfl rfl rfl (fun hg => ?_) (fun hg => ?_)
    all_goals try simp only [s1, s2, s3, s4, s5, s6, s7, s8, s9, s10, s11, s12] at hg
    all_goals first | refine oQ (Q_len rfl rfl rfl rfl) rfl rfl ?_ | refine oQ (Q_len0 rfl rfl rfl rfl) rfl rfl ?_ | skip
    all_goals first | refine oT rfl rfl ?_ | refine o1 rfl rfl rfl ?_ | refine o0 rfl rfl rfl ?_ | refine ogP1 rfl rfl rfl (fun hg => ?_) (fun hg => ?_) | refine ogP0 rfl rfl rfl (fun hg => ?_) (fun hg => ?_)
    all_goals try simp only [s1, s2, s3, s4, s5, s6, s7, s8, s9, s10, s11, s12] at hg
    all_goals first | (refine oQ (v := .bool false) (Q_bin rfl rfl rfl) rfl rfl ?_) | skip
    all_goals first | refine oQ (Q_pick_t rfl (by with_reducible rfl) rfl rfl) rfl rfl ?_ | refine oQ (Q_pick_f rfl (by with_reducible rfl) rfl rfl) rfl rfl ?_
    all_goals refine oN ?_
    all_goals (
     first | refine cT rfl ?_ | refine cF rfl ?_ | refine CW_cond rfl (fun hc => ?_) (fun hc => ?_)
     all_goals try simp only [s1, s2, s3, s4, s5, s6, s7, s8, s9, s10, s11, s12] at hc
     all_goals first
       | (
        refine CW_skip ?_)
       | (
        refine cR ?_
        refine oQ (Q_build rfl rfl rfl rfl rfl rfl rfl rfl) rfl rfl ?_
        first | refine oSw rfl rfl rfl rfl ?_ | refine oSa rfl rfl rfl rfl ?_
        refine oA rfl rfl ?_
        refine oN ?_
        refine CW_ret ?_))
    all_goals first
      | with_reducible refine tR ?_
      | with_reducible refine tE ?_
      | (
       with_reducible refine tN ?_
       refine CW_seq ?_
       refine cR ?_
       refine oM rfl rfl ?_
       refine oBsl (zl := [0, 0, 0, 0]) (r := []) rfl rfl rfl rfl (.inr ⟨rfl, rfl, by decide⟩) rfl rfl rfl rfl rfl rfl ?_
       refine oM rfl rfl ?_
       refine oCall (hown) [] 3 rfl rfl (Fits.mk' (vHc rfl vHn) rfl rfl (by first | (simp; done) | exact glOk rfl rfl rfl)) rfl rfl ?_
       rintro r H1 ⟨k2, sp2, g1, g2, rfl, rfl⟩
       refine ⟨.slice 6 0 3 k2, [(0, .ints t0 (x :: y :: z :: ra)), (6, .ints 2 ([x, y, z] ++ sp2))], rfl, rfl, rfl, ?_⟩
       refine oM rfl rfl ?_
       refine oAppOwn (sz := 1) (by_ := 8) (m := 3) (k := k2) rfl rfl rfl rfl rfl rfl ⟨by decide, rfl, .inl ⟨rfl, rfl⟩⟩ rfl rfl rfl rfl rfl (hsl _ rfl) (by simp; omega) (by omega) (by omega) (by omega) rfl rfl (fun k3 sp3 h5 h6 => ?_)
       refine oQ (Q_call (hcd sp3 k3) [(0, 3), (1, 7)] rfl rfl (Fits.mk' (vHc rfl (vHc rfl vHn)) rfl rfl (by first | (simp; done) | exact glOk rfl rfl rfl)) rfl rfl) rfl rfl ?_
       refine oA rfl rfl ?_
       refine oN ?_
       refine cR ?_
       refine oM rfl rfl ?_
       refine oQ (v := .bool true) (Q_bin rfl rfl rfl) rfl rfl ?_
       refine oN ?_
       first | refine cT rfl ?_ | refine cF rfl ?_ | refine CW_cond rfl (fun hc => ?_) (fun hc => ?_)
       all_goals try simp only [s1, s2, s3, s4, s5, s6, s7, s8, s9, s10, s11, s12] at hc
       all_goals first
         | (
          refine CW_skip ?_)
         | (
          refine cR ?_
          refine oQ (Q_build rfl rfl rfl rfl rfl rfl rfl rfl) rfl rfl ?_
          refine oM rfl rfl ?_
          first | refine oSw rfl rfl rfl rfl ?_ | refine oSa rfl rfl rfl rfl ?_
          refine oA rfl rfl ?_
          refine oN ?_
          refine CW_ret ?_)
       all_goals first
         | with_reducible refine tR ?_
         | with_reducible refine tE ?_
         | (
          with_reducible refine tN ?_
          refine CW_seq ?_
          refine cR ?_
          refine oM rfl rfl ?_
          fail "call of loop.example/g01310/spec.l05Different at slot 35"
          refine oQ (Q_not rfl) rfl rfl ?_
          refine oM rfl rfl ?_
          all_goals first | refine oT rfl rfl ?_ | refine o1 rfl rfl rfl ?_ | refine o0 rfl rfl rfl ?_ | refine ogP1 rfl rfl rfl (fun hg => ?_) (fun hg => ?_) | refine ogP0 rfl rfl rfl (fun hg => ?_) (fun hg => ?_)
          all_goals try simp only [s1, s2, s3, s4, s5, s6, s7, s8, s9, s10, s11, s12] at hg
          all_goals first | (refine oM rfl rfl ?_) | skip
          all_goals first | refine oT rfl rfl ?_ | refine o1 rfl rfl rfl ?_ | refine o0 rfl rfl rfl ?_ | refine ogP1 rfl rfl rfl (fun hg => ?_) (fun hg => ?_) | refine ogP0 rfl rfl rfl (fun hg => ?_) (fun hg => ?_)
          all_goals try simp only [s1, s2, s3, s4, s5, s6, s7, s8, s9, s10, s11, s12] at hg
          all_goals first | (fail "call of loop.example/g01310/spec.l05Different at slot 39") | skip
          all_goals first | refine oT rfl rfl ?_ | refine o1 rfl rfl rfl ?_ | refine o0 rfl rfl rfl ?_ | refine ogP1 rfl rfl rfl (fun hg => ?_) (fun hg => ?_) | refine ogP0 rfl rfl rfl (fun hg => ?_) (fun hg => ?_)
          all_goals try simp only [s1, s2, s3, s4, s5, s6, s7, s8, s9, s10, s11, s12] at hg
          all_goals first | (refine oQ (Q_not rfl) rfl rfl ?_) | skip
          all_goals first | refine oQ (Q_pick_t rfl (by with_reducible rfl) rfl rfl) rfl rfl ?_ | refine oQ (Q_pick_f rfl (by with_reducible rfl) rfl rfl) rfl rfl ?_
          all_goals refine oN ?_
          all_goals (
           first | refine cT rfl ?_ | refine cF rfl ?_ | refine CW_cond rfl (fun hc => ?_) (fun hc => ?_)
           all_goals try simp only [s1, s2, s3, s4, s5, s6, s7, s8, s9, s10, s11, s12] at hc
           all_goals first
             | (
              refine CW_skip ?_)
             | (
              refine cR ?_
              refine oQ (Q_build rfl rfl rfl rfl rfl rfl rfl rfl) rfl rfl ?_
              first | refine oSw rfl rfl rfl rfl ?_ | refine oSa rfl rfl rfl rfl ?_
              refine oA rfl rfl ?_
              refine oN ?_
              refine CW_ret ?_))
          all_goals first
            | with_reducible refine tR ?_
            | with_reducible refine tE ?_
            | (
             with_reducible refine tN ?_
             refine CW_seq ?_
             refine CW_any (fun i => List.elem i [26, 27]) 28 rfl lateOk (by decide +kernel) (fun hst => ?_)
             refine aP 0 hst rfl rfl (by decide +kernel) (PX_move rfl rfl) rfl rfl ?_
             refine aP 1 hst rfl rfl (by decide +kernel) (PX_move rfl rfl) rfl rfl ?_
             refine aP 2 hst rfl rfl (by decide +kernel) (PX_move rfl rfl) rfl rfl ?_
             first | refine aQ 3 hst rfl rfl (by decide +kernel) (QX_of (Is0 rfl rfl rfl rfl rfl rfl) NE_ix) rfl rfl ?_ | refine aQ 3 hst rfl rfl (by decide +kernel) (QX_of (Is1 rfl rfl rfl rfl rfl rfl) NE_ix) rfl rfl ?_
             first | refine aQ 4 hst rfl rfl (by decide +kernel) (QX_of (Q_ldc rfl rfl rfl rfl rfl) NE_load) rfl rfl ?_ | refine aQ 4 hst rfl rfl (by decide +kernel) (QX_of (Ld rfl rfl rfl rfl) NE_load) rfl rfl ?_
             refine aP 5 hst rfl rfl (by decide +kernel) (PX_move rfl rfl) rfl rfl ?_
             first | refine aQ 6 hst rfl rfl (by decide +kernel) (QX_of (Is0 rfl rfl rfl rfl rfl rfl) NE_ix) rfl rfl ?_ | refine aQ 6 hst rfl rfl (by decide +kernel) (QX_of (Is1 rfl rfl rfl rfl rfl rfl) NE_ix) rfl rfl ?_
             first | refine aQ 7 hst rfl rfl (by decide +kernel) (QX_of (Q_ldc rfl rfl rfl rfl rfl) NE_load) rfl rfl ?_ | refine aQ 7 hst rfl rfl (by decide +kernel) (QX_of (Ld rfl rfl rfl rfl) NE_load) rfl rfl ?_
             refine aP 8 hst rfl rfl (by decide +kernel) (PX_move rfl rfl) rfl rfl ?_
             first | refine aQ 9 hst rfl rfl (by decide +kernel) (QX_of (Is0 rfl rfl rfl rfl rfl rfl) NE_ix) rfl rfl ?_ | refine aQ 9 hst rfl rfl (by decide +kernel) (QX_of (Is1 rfl rfl rfl rfl rfl rfl) NE_ix) rfl rfl ?_
             first | refine aQ 10 hst rfl rfl (by decide +kernel) (QX_of (Q_ldc rfl rfl rfl rfl rfl) NE_load) rfl rfl ?_ | refine aQ 10 hst rfl rfl (by decide +kernel) (QX_of (Ld rfl rfl rfl rfl) NE_load) rfl rfl ?_
             fail "call of loop.example/g01310/spec.l05Frame at slot 54"
             refine aP 12 hst rfl rfl (by decide +kernel) (PX_move rfl rfl) rfl rfl ?_
             refine aP 13 hst rfl rfl (by decide +kernel) (PX_move rfl rfl) rfl rfl ?_
             refine aP 14 hst rfl rfl (by decide +kernel) (PX_move rfl rfl) rfl rfl ?_
             first | refine aQ 15 hst rfl rfl (by decide +kernel) (QX_of (Is0 rfl rfl rfl rfl rfl rfl) NE_ix) rfl rfl ?_ | refine aQ 15 hst rfl rfl (by decide +kernel) (QX_of (Is1 rfl rfl rfl rfl rfl rfl) NE_ix) rfl rfl ?_
             first | refine aQ 16 hst rfl rfl (by decide +kernel) (QX_of (Q_ldc rfl rfl rfl rfl rfl) NE_load) rfl rfl ?_ | refine aQ 16 hst rfl rfl (by decide +kernel) (QX_of (Ld rfl rfl rfl rfl) NE_load) rfl rfl ?_
             refine aP 17 hst rfl rfl (by decide +kernel) (PX_move rfl rfl) rfl rfl ?_
             first | refine aQ 18 hst rfl rfl (by decide +kernel) (QX_of (Is0 rfl rfl rfl rfl rfl rfl) NE_ix) rfl rfl ?_ | refine aQ 18 hst rfl rfl (by decide +kernel) (QX_of (Is1 rfl rfl rfl rfl rfl rfl) NE_ix) rfl rfl ?_
             first | refine aQ 19 hst rfl rfl (by decide +kernel) (QX_of (Q_ldc rfl rfl rfl rfl rfl) NE_load) rfl rfl ?_ | refine aQ 19 hst rfl rfl (by decide +kernel) (QX_of (Ld rfl rfl rfl rfl) NE_load) rfl rfl ?_
             refine aP 20 hst rfl rfl (by decide +kernel) (PX_move rfl rfl) rfl rfl ?_
             first | refine aQ 21 hst rfl rfl (by decide +kernel) (QX_of (Is0 rfl rfl rfl rfl rfl rfl) NE_ix) rfl rfl ?_ | refine aQ 21 hst rfl rfl (by decide +kernel) (QX_of (Is1 rfl rfl rfl rfl rfl rfl) NE_ix) rfl rfl ?_
             first | refine aQ 22 hst rfl rfl (by decide +kernel) (QX_of (Q_ldc rfl rfl rfl rfl rfl) NE_load) rfl rfl ?_ | refine aQ 22 hst rfl rfl (by decide +kernel) (QX_of (Ld rfl rfl rfl rfl) NE_load) rfl rfl ?_
             fail "call of loop.example/g01310/spec.l05Frame at slot 66"
             fail "call of loop.example/g01310/spec.l05Back at slot 67"
             fail "call of loop.example/g01310/spec.l05Times at slot 68"
             refine AW_last [26, 27] rfl (by decide +kernel) rfl ?_
             first | refine oSw rfl rfl rfl rfl ?_ | refine oSa rfl rfl rfl rfl ?_
             refine oA rfl rfl ?_
             refine OW_nil (npN ?_)
             all_goals with_reducible refine tN ?_
             all_goals (
              refine CW_ret ?_))))
    all_goals (
     first | ((refine exitQ (.inr rfl) 2 (.cons (.arr rfl rfl rfl rfl (by first | omega | (dsimp only; omega) | (simp; omega) | (simp; done))) (.cons (.tmp rfl rfl) .nil)) ?_ rfl (vHc rfl (vHc rfl vHn)) rfl rfl); rfl) | (exfalso; simp_all; done))
  | true =>
    rw [hb34] at hcd
    simp only [if_true] at hcd
    simp only [Bool.and_eq_true] at hb34
    have hbad3 : b1 = true → b2 = true → False := fun q1 q2 => hbad2 q1 hb34.1 q2 hb34.2
    clear hbad2
    refine conW tab_ok [(0, .int p), (1, .slice 0 0 3 k0), (2, .slice 1 0 3 k1)] 2 [0, 1] [0, 1] Try.func8 rfl rfl rfl rfl rfl rfl rfl rfl rfl ?_
    refine cR ?_
    refine oAlloc rfl rfl rfl rfl rfl rfl rfl ?_
    refine oA rfl rfl ?_
    refine oN ?_
    refine CW_seq ?_
    refine cR ?_
    refine oM rfl rfl ?_
    refine oQe (Q_call (hpr) [] rfl rfl (Fits.mk' vHn rfl rfl (by first | (simp; done) | exact glOk rfl rfl rfl)) rfl rfl) (show _ = .bool true from rfl) rfl rfl ?_
    refine oQe (Q_not rfl) (show _ = V.bool false from rfl) rfl rfl ?_
    refine oM rfl rfl ?_
    all_goals first | refine oT rfl rfl ?_ | refine o1 rfl rfl rfl ?_ | refine o0 rfl rfl rfl ?_ | refine ogP1 rfl rfl rfl (fun hg => ?_) (fun hg => ?_) | refine ogP0 rfl rfl rfl (fun hg => ?_) (fun hg => ?_)
    all_goals try simp only [s1, s2, s3, s4, s5, s6, s7, s8, s9, s10, s11, s12] at hg
    all_goals first | (refine oM rfl rfl ?_) | skip
    all_goals first | refine oT rfl rfl ?_ | refine o1 rfl rfl rfl ?_ | refine o0 rfl rfl rfl ?_ | refine ogP1 rfl rfl rfl (fun hg => ?_) (fun hg => ?_) | refine ogP0 rfl rfl rfl (fun hg => ?_) (fun hg => ?_)
    all_goals try simp only [s1, s2, s3, s4, s5, s6, s7, s8, s9, s10, s11, s12] at hg
    all_goals first | refine oQ (Q_len rfl rfl rfl rfl) rfl rfl ?_ | refine oQ (Q_len0 rfl rfl rfl rfl) rfl rfl ?_ | skip
    all_goals first | refine oT rfl rfl ?_ | refine o1 rfl rfl rfl ?_ | refine o0 rfl rfl rfl ?_ | refine ogP1 rfl rfl rfl (fun hg => ?_) (fun hg => ?_) | refine ogP0 rfl rfl rfl (fun hg => ?_) (fun hg => ?_)
    all_goals try simp only [s1, s2, s3, s4, s5, s6, s7, s8, s9, s10, s11, s12] at hg
    all_goals first | (refine oQ (v := .bool false) (Q_bin rfl rfl rfl) rfl rfl ?_) | skip
    all_goals first | refine oQ (Q_pick_t rfl (by with_reducible rfl) rfl rfl) rfl rfl ?_ | refine oQ (Q_pick_f rfl (by with_reducible rfl) rfl rfl) rfl rfl ?_
    all_goals first | (refine oM rfl rfl ?_)
    all_goals first | refine oT rfl rfl ?_ | refine o1 rfl rfl rfl ?_ | refine o0 rfl rfl rfl ?_ | refine ogP1 rfl rfl rfl (fun hg => ?_) (fun hg => ?_) | refine ogP0 rfl rfl rfl (fun hg => ?_) (fun hg => ?_)
    all_goals try simp only [s1, s2, s3, s4, s5, s6, s7, s8, s9, s10, s11, s12] at hg
    all_goals first | (refine oM rfl rfl ?_) | skip
    all_goals first | refine oT rfl rfl ?_ | refine o1 rfl rfl rfl ?_ | refine o0 rfl rfl rfl ?_ | refine ogP1 rfl rfl rfl (fun hg => ?_) (fun hg => ?_) | refine ogP0 rfl rfl rfl (fun hg => ?_) (fun hg => ?_)
    all_goals try simp only [s1, s2, s3, s4, s5, s6, s7, s8, s9, s10, s11, s12] at hg
    all_goals first | refine oQ (Q_len rfl rfl rfl rfl) rfl rfl ?_ | refine oQ (Q_len0 rfl rfl rfl rfl) rfl rfl ?_ | skip
    all_goals first | refine oT rfl rfl ?_ | refine o1 rfl rfl rfl ?_ | refine o0 rfl rfl rfl ?_ | refine ogP1 rfl rfl rfl (fun hg => ?_) (fun hg => ?_) | refine ogP0 rfl rfl rfl (fun hg => ?_) (fun hg => ?_)
    all_goals try simp only [s1, s2, s3, s4, s5, s6, s7, s8, s9, s10, s11, s12] at hg
    all_goals first | (refine oQ (v := .bool false) (Q_bin rfl rfl rfl) rfl rfl ?_) | skip
    all_goals first | refine oQ (Q_pick_t rfl (by with_reducible rfl) rfl rfl) rfl rfl ?_ | refine oQ (Q_pick_f rfl (by with_reducible rfl) rfl rfl) rfl rfl ?_
    all_goals refine oN ?_
    all_goals (
     first | refine cT rfl ?_ | refine cF rfl ?_ | refine CW_cond rfl (fun hc => ?_) (fun hc => ?_)
     all_goals try simp only [s1, s2, s3, s4, s5, s6, s7, s8, s9, s10, s11, s12] at hc
     all_goals try (exfalso; first | (cases hc; done) | (simp_all; done); done)
     all_goals first
       | (
        refine CW_skip ?_)
       | (
        refine cR ?_
        refine oQ (Q_build rfl rfl rfl rfl rfl rfl rfl rfl) rfl rfl ?_
        first | refine oSw rfl rfl rfl rfl ?_ | refine oSa rfl rfl rfl rfl ?_
        refine oA rfl rfl ?_
        refine oN ?_
        refine CW_ret ?_))
    all_goals first
      | with_reducible refine tR ?_
      | with_reducible refine tE ?_
      | (
       with_reducible refine tN ?_
       refine CW_seq ?_
       refine cR ?_
       refine oM rfl rfl ?_
       refine oBsl (zl := [0, 0, 0, 0]) (r := []) rfl rfl rfl rfl (.inr ⟨rfl, rfl, by decide⟩) rfl rfl rfl rfl rfl rfl ?_
       refine oM rfl rfl ?_
       refine oCall (hown) [] 3 rfl rfl (Fits.mk' (vHc rfl vHn) rfl rfl (by first | (simp; done) | exact glOk rfl rfl rfl)) rfl rfl ?_
       rintro r H1 ⟨k2, sp2, g1, g2, rfl, rfl⟩
       refine ⟨.slice 6 0 3 k2, [(0, .ints t0 (x :: y :: z :: ra)), (6, .ints 2 ([x, y, z] ++ sp2))], rfl, rfl, rfl, ?_⟩
       refine oM rfl rfl ?_
       refine oAppOwn (sz := 1) (by_ := 8) (m := 3) (k := k2) rfl rfl rfl rfl rfl rfl ⟨by decide, rfl, .inl ⟨rfl, rfl⟩⟩ rfl rfl rfl rfl rfl (hsl _ rfl) (by simp; omega) (by omega) (by omega) (by omega) rfl rfl (fun k3 sp3 h5 h6 => ?_)
       refine oQ (Q_call (hcd sp3 k3) [(0, 3), (1, 7)] rfl rfl (Fits.mk' (vHc rfl (vHc rfl vHn)) rfl rfl (by first | (simp; done) | exact glOk rfl rfl rfl)) rfl rfl) rfl rfl ?_
       refine oA rfl rfl ?_
       refine oN ?_
       refine cR ?_
       refine oM rfl rfl ?_
       refine oQ (v := .bool false) (Q_bin rfl rfl rfl) rfl rfl ?_
       refine oN ?_
       first | refine cT rfl ?_ | refine cF rfl ?_ | refine CW_cond rfl (fun hc => ?_) (fun hc => ?_)
       all_goals try simp only [s1, s2, s3, s4, s5, s6, s7, s8, s9, s10, s11, s12] at hc
       all_goals try (exfalso; first | (cases hc; done) | (simp_all; done); done)
       all_goals first
         | (
          refine CW_skip ?_)
         | (
          refine cR ?_
          refine oQ (Q_build rfl rfl rfl rfl rfl rfl rfl rfl) rfl rfl ?_
          refine oM rfl rfl ?_
          first | refine oSw rfl rfl rfl rfl ?_ | refine oSa rfl rfl rfl rfl ?_
          refine oA rfl rfl ?_
          refine oN ?_
          refine CW_ret ?_)
       all_goals first
         | with_reducible refine tR ?_
         | with_reducible refine tE ?_
         | (
          with_reducible refine tN ?_
          refine CW_seq ?_
          refine cR ?_
          refine oM rfl rfl ?_
          refine oQ (Q_call (hd1) [] rfl rfl (Fits.mk' (vHc rfl vHn) rfl rfl (by first | (simp; done) | exact glOk rfl rfl rfl)) rfl rfl) rfl rfl ?_
          refine oQ (Q_not rfl) rfl rfl ?_
          refine oM rfl rfl ?_
          all_goals first | refine oT rfl rfl ?_ | refine o1 rfl rfl rfl ?_ | refine o0 rfl rfl rfl ?_ | refine ogP1 rfl rfl rfl (fun hg => ?_) (fun hg => ?_) | refine ogP0 rfl rfl rfl (fun hg => ?_) (fun hg => ?_)
          all_goals try simp only [s1, s2, s3, s4, s5, s6, s7, s8, s9, s10, s11, s12] at hg
          all_goals first | (refine oM rfl rfl ?_) | skip
          all_goals first | refine oT rfl rfl ?_ | refine o1 rfl rfl rfl ?_ | refine o0 rfl rfl rfl ?_ | refine ogP1 rfl rfl rfl (fun hg => ?_) (fun hg => ?_) | refine ogP0 rfl rfl rfl (fun hg => ?_) (fun hg => ?_)
          all_goals try simp only [s1, s2, s3, s4, s5, s6, s7, s8, s9, s10, s11, s12] at hg
          all_goals first | (refine oQ (Q_call (hd2) [(0, 1)] rfl rfl (Fits.mk' (vHc rfl vHn) rfl rfl (by first | (simp; done) | exact glOk rfl rfl rfl)) rfl rfl) rfl rfl ?_) | skip
          all_goals first | refine oT rfl rfl ?_ | refine o1 rfl rfl rfl ?_ | refine o0 rfl rfl rfl ?_ | refine ogP1 rfl rfl rfl (fun hg => ?_) (fun hg => ?_) | refine ogP0 rfl rfl rfl (fun hg => ?_) (fun hg => ?_)
          all_goals try simp only [s1, s2, s3, s4, s5, s6, s7, s8, s9, s10, s11, s12] at hg
          all_goals first | (refine oQ (Q_not rfl) rfl rfl ?_) | skip
          all_goals first | refine oQ (Q_pick_t rfl (by with_reducible rfl) rfl rfl) rfl rfl ?_ | refine oQ (Q_pick_f rfl (by with_reducible rfl) rfl rfl) rfl rfl ?_
          all_goals refine oN ?_
          all_goals (
           first | refine cT rfl ?_ | refine cF rfl ?_ | refine CW_cond rfl (fun hc => ?_) (fun hc => ?_)
           all_goals try simp only [s1, s2, s3, s4, s5, s6, s7, s8, s9, s10, s11, s12] at hc
           all_goals try (exfalso; first | (cases hc; done) | (simp_all; done); done)
           all_goals first
             | (
              refine CW_skip ?_)
             | (
              refine cR ?_
              refine oQ (Q_build rfl rfl rfl rfl rfl rfl rfl rfl) rfl rfl ?_
              first | refine oSw rfl rfl rfl rfl ?_ | refine oSa rfl rfl rfl rfl ?_
              refine oA rfl rfl ?_
              refine oN ?_
              refine CW_ret ?_))
          all_goals first
            | with_reducible refine tR ?_
            | with_reducible refine tE ?_
            | (
             with_reducible refine tN ?_
             refine CW_seq ?_
             refine CW_any (fun i => List.elem i [26, 27]) 28 rfl lateOk (by decide +kernel) (fun hst => ?_)
             refine aP 0 hst rfl rfl (by decide +kernel) (PX_move rfl rfl) rfl rfl ?_
             refine aP 1 hst rfl rfl (by decide +kernel) (PX_move rfl rfl) rfl rfl ?_
             refine aP 2 hst rfl rfl (by decide +kernel) (PX_move rfl rfl) rfl rfl ?_
             first | refine aQ 3 hst rfl rfl (by decide +kernel) (QX_of (Is0 rfl rfl rfl rfl rfl rfl) NE_ix) rfl rfl ?_ | refine aQ 3 hst rfl rfl (by decide +kernel) (QX_of (Is1 rfl rfl rfl rfl rfl rfl) NE_ix) rfl rfl ?_
             (exfalso; simp_all; done)
             refine aP 5 hst rfl rfl (by decide +kernel) (PX_move rfl rfl) rfl rfl ?_
             first | refine aQ 6 hst rfl rfl (by decide +kernel) (QX_of (Is0 rfl rfl rfl rfl rfl rfl) NE_ix) rfl rfl ?_ | refine aQ 6 hst rfl rfl (by decide +kernel) (QX_of (Is1 rfl rfl rfl rfl rfl rfl) NE_ix) rfl rfl ?_
             first | refine aQ 7 hst rfl rfl (by decide +kernel) (QX_of (Q_ldc rfl rfl rfl rfl rfl) NE_load) rfl rfl ?_ | refine aQ 7 hst rfl rfl (by decide +kernel) (QX_of (Ld rfl rfl rfl rfl) NE_load) rfl rfl ?_
             refine aP 8 hst rfl rfl (by decide +kernel) (PX_move rfl rfl) rfl rfl ?_
             first | refine aQ 9 hst rfl rfl (by decide +kernel) (QX_of (Is0 rfl rfl rfl rfl rfl rfl) NE_ix) rfl rfl ?_ | refine aQ 9 hst rfl rfl (by decide +kernel) (QX_of (Is1 rfl rfl rfl rfl rfl rfl) NE_ix) rfl rfl ?_
             first | refine aQ 10 hst rfl rfl (by decide +kernel) (QX_of (Q_ldc rfl rfl rfl rfl rfl) NE_load) rfl rfl ?_ | refine aQ 10 hst rfl rfl (by decide +kernel) (QX_of (Ld rfl rfl rfl rfl) NE_load) rfl rfl ?_
             fail "call of loop.example/g01310/spec.l05Frame at slot 54"
             refine aP 12 hst rfl rfl (by decide +kernel) (PX_move rfl rfl) rfl rfl ?_
             refine aP 13 hst rfl rfl (by decide +kernel) (PX_move rfl rfl) rfl rfl ?_
             refine aP 14 hst rfl rfl (by decide +kernel) (PX_move rfl rfl) rfl rfl ?_
             first | refine aQ 15 hst rfl rfl (by decide +kernel) (QX_of (Is0 rfl rfl rfl rfl rfl rfl) NE_ix) rfl rfl ?_ | refine aQ 15 hst rfl rfl (by decide +kernel) (QX_of (Is1 rfl rfl rfl rfl rfl rfl) NE_ix) rfl rfl ?_
             first | refine aQ 16 hst rfl rfl (by decide +kernel) (QX_of (Q_ldc rfl rfl rfl rfl rfl) NE_load) rfl rfl ?_ | refine aQ 16 hst rfl rfl (by decide +kernel) (QX_of (Ld rfl rfl rfl rfl) NE_load) rfl rfl ?_
             refine aP 17 hst rfl rfl (by decide +kernel) (PX_move rfl rfl) rfl rfl ?_
             first | refine aQ 18 hst rfl rfl (by decide +kernel) (QX_of (Is0 rfl rfl rfl rfl rfl rfl) NE_ix) rfl rfl ?_ | refine aQ 18 hst rfl rfl (by decide +kernel) (QX_of (Is1 rfl rfl rfl rfl rfl rfl) NE_ix) rfl rfl ?_
             first | refine aQ 19 hst rfl rfl (by decide +kernel) (QX_of (Q_ldc rfl rfl rfl rfl rfl) NE_load) rfl rfl ?_ | refine aQ 19 hst rfl rfl (by decide +kernel) (QX_of (Ld rfl rfl rfl rfl) NE_load) rfl rfl ?_
             refine aP 20 hst rfl rfl (by decide +kernel) (PX_move rfl rfl) rfl rfl ?_
             first | refine aQ 21 hst rfl rfl (by decide +kernel) (QX_of (Is0 rfl rfl rfl rfl rfl rfl) NE_ix) rfl rfl ?_ | refine aQ 21 hst rfl rfl (by decide +kernel) (QX_of (Is1 rfl rfl rfl rfl rfl rfl) NE_ix) rfl rfl ?_
             first | refine aQ 22 hst rfl rfl (by decide +kernel) (QX_of (Q_ldc rfl rfl rfl rfl rfl) NE_load) rfl rfl ?_ | refine aQ 22 hst rfl rfl (by decide +kernel) (QX_of (Ld rfl rfl rfl rfl) NE_load) rfl rfl ?_
             fail "call of loop.example/g01310/spec.l05Frame at slot 66"
             fail "call of loop.example/g01310/spec.l05Back at slot 67"
             fail "call of loop.example/g01310/spec.l05Times at slot 68"
             refine AW_last [26, 27] rfl (by decide +kernel) rfl ?_
             first | refine oSw rfl rfl rfl rfl ?_ | refine oSa rfl rfl rfl rfl ?_
             refine oA rfl rfl ?_
             refine OW_nil (npN ?_)
             all_goals with_reducible refine tN ?_
             all_goals (
              refine CW_ret ?_))))
    all_goals (
     first | ((refine exitQ (.inr rfl) 2 (.cons (.arr rfl rfl rfl rfl (by first | omega | (dsimp only; omega) | (simp; omega) | (simp; done))) (.cons (.tmp rfl rfl) .nil)) ?_ rfl (vHc rfl (vHc rfl vHn)) rfl rfl); rfl) | (exfalso; simp_all; done))
theorem spec_Mo_badn (p : Int) (A B : List Int) (n m : Nat) (t0 t1 : TypeId) (k0 k1 : Nat) (hbad : ¬ (primeB p = true ∧ n = 3 ∧ m = 3)) : ConQ Try.prog [] 8 [.int p, .slice 0 0 n k0, .slice 1 0 m k1] [(0, .ints t0 A), (1, .ints t1 B)] (.tuple [.arr [0, 0, 0, 0], .int 2]) := by
  have hbad2 : primeB p = true → (n : Int) = 3 → (m : Int) = 3 → False := fun h1 h2 h3 => hbad ⟨h1, by omega, by omega⟩
  clear hbad
  refine conW tab_ok [(0, .int p), (1, .slice 0 0 n k0), (2, .slice 1 0 m k1)] 2 [0, 1] [0, 1] Try.func8 rfl rfl rfl rfl rfl rfl rfl rfl rfl ?_
  refine cR ?_
  refine oAlloc rfl rfl rfl rfl rfl rfl rfl ?_
  refine oA rfl rfl ?_
  refine oN ?_
  refine CW_seq ?_
  refine cR ?_
  refine oM rfl rfl ?_
  refine oQ (Q_call0 (l01Prime_con _) rfl rfl rfl) rfl rfl ?_
  refine oQ (Q_not rfl) rfl rfl ?_
  refine oM rfl rfl ?_
  all_goals first | refine oT rfl rfl ?_ | refine o1 rfl rfl rfl ?_ | refine o0 rfl rfl rfl ?_ | refine ogP1 rfl rfl rfl (fun hg => ?_) (fun hg => ?_) | refine ogP0 rfl rfl rfl (fun hg => ?_) (fun hg => ?_)
  all_goals try simp only [s1, s2, s3, s4, s5, s6, s7, s8, s9, s10, s11, s12] at hg
  all_goals first | (refine oM rfl rfl ?_) | skip
  all_goals first | refine oT rfl rfl ?_ | refine o1 rfl rfl rfl ?_ | refine o0 rfl rfl rfl ?_ | refine ogP1 rfl rfl rfl (fun hg => ?_) (fun hg => ?_) | refine ogP0 rfl rfl rfl (fun hg => ?_) (fun hg => ?_)
  all_goals try simp only [s1, s2, s3, s4, s5, s6, s7, s8, s9, s10, s11, s12] at hg
  all_goals first | refine oQ (Q_len rfl rfl rfl rfl) rfl rfl ?_ | refine oQ (Q_len0 rfl rfl rfl rfl) rfl rfl ?_ | skip
  all_goals first | refine oT rfl rfl ?_ | refine o1 rfl rfl rfl ?_ | refine o0 rfl rfl rfl ?_ | refine ogP1 rfl rfl rfl (fun hg => ?_) (fun hg => ?_) | refine ogP0 rfl rfl rfl (fun hg => ?_) (fun hg => ?_)
  all_goals try simp only [s1, s2, s3, s4, s5, s6, s7, s8, s9, s10, s11, s12] at hg
  all_goals first | (refine oQ (Q_bin rfl rfl rfl) rfl rfl ?_) | skip
  all_goals first | refine oQ (Q_pick_t rfl (by with_reducible rfl) rfl rfl) rfl rfl ?_ | refine oQ (Q_pick_f rfl (by with_reducible rfl) rfl rfl) rfl rfl ?_
  all_goals first | (refine oM rfl rfl ?_)
  all_goals first | refine oT rfl rfl ?_ | refine o1 rfl rfl rfl ?_ | refine o0 rfl rfl rfl ?_ | refine ogP1 rfl rfl rfl (fun hg => ?_) (fun hg => ?_) | refine ogP0 rfl rfl rfl (fun hg => ?_) (fun hg => ?_)
  all_goals try simp only [s1, s2, s3, s4, s5, s6, s7, s8, s9, s10, s11, s12] at hg
  all_goals first | (refine oM rfl rfl ?_) | skip
  all_goals first | refine oT rfl rfl ?_ | refine o1 rfl rfl rfl ?_ | refine o0 rfl rfl rfl ?_ | refine ogP1 rfl rfl rfl (fun hg => ?_) (fun hg => ?_) | refine ogP0 rfl rfl rfl (fun hg => ?_) (fun hg => ?_)
  all_goals try simp only [s1, s2, s3, s4, s5, s6, s7, s8, s9, s10, s11, s12] at hg
  all_goals first | refine oQ (Q_len rfl rfl rfl rfl) rfl rfl ?_ | refine oQ (Q_len0 rfl rfl rfl rfl) rfl rfl ?_ | skip
  all_goals first | refine oT rfl rfl ?_ | refine o1 rfl rfl rfl ?_ | refine o0 rfl rfl rfl ?_ | refine ogP1 rfl rfl rfl (fun hg => ?_) (fun hg => ?_) | refine ogP0 rfl rfl rfl (fun hg => ?_) (fun hg => ?_)
  all_goals try simp only [s1, s2, s3, s4, s5, s6, s7, s8, s9, s10, s11, s12] at hg
  all_goals first | (refine oQ (Q_bin rfl rfl rfl) rfl rfl ?_) | skip
  all_goals first | refine oQ (Q_pick_t rfl (by with_reducible rfl) rfl rfl) rfl rfl ?_ | refine oQ (Q_pick_f rfl (by with_reducible rfl) rfl rfl) rfl rfl ?_
  all_goals refine oN ?_
  all_goals (
   first | refine cT rfl ?_ | refine cF rfl ?_ | refine CW_cond rfl (fun hc => ?_) (fun hc => ?_)
   all_goals try simp only [s1, s2, s3, s4, s5, s6, s7, s8, s9, s10, s11, s12] at hc
   all_goals try (exfalso; first | (simp_all; done) | (cases hc; done); done)
   all_goals first
     | (
      refine CW_skip ?_)
     | (
      refine cR ?_
      refine oQ (Q_build rfl rfl rfl rfl rfl rfl rfl rfl) rfl rfl ?_
      first | refine oSw rfl rfl rfl rfl ?_ | refine oSa rfl rfl rfl rfl ?_
      refine oA rfl rfl ?_
      refine oN ?_
      refine CW_ret ?_))
  all_goals first
    | with_reducible refine tR ?_
    | with_reducible refine tE ?_
    | (
     with_reducible refine tN ?_
     refine CW_seq ?_
     refine cR ?_
     refine oM rfl rfl ?_
     (exfalso; simp_all; done)
     refine oM rfl rfl ?_
     fail "call of loop.example/g01310/spec.l01Own at slot 26"
     refine oM rfl rfl ?_
     fail "builtin append at slot 28"
     fail "call of loop.example/g01310/spec.l05Code at slot 29"
     refine oA rfl rfl ?_
     refine oN ?_
     refine cR ?_
     refine oM rfl rfl ?_
     refine oQ (Q_bin rfl rfl rfl) rfl rfl ?_
     refine oN ?_
     first | refine cT rfl ?_ | refine cF rfl ?_ | refine CW_cond rfl (fun hc => ?_) (fun hc => ?_)
     all_goals try simp only [s1, s2, s3, s4, s5, s6, s7, s8, s9, s10, s11, s12] at hc
     all_goals try (exfalso; first | (simp_all; done) | (cases hc; done); done)
     all_goals first
       | (
        refine CW_skip ?_)
       | (
        refine cR ?_
        refine oQ (Q_build rfl rfl rfl rfl rfl rfl rfl rfl) rfl rfl ?_
        refine oM rfl rfl ?_
        first | refine oSw rfl rfl rfl rfl ?_ | refine oSa rfl rfl rfl rfl ?_
        refine oA rfl rfl ?_
        refine oN ?_
        refine CW_ret ?_)
     all_goals first
       | with_reducible refine tR ?_
       | with_reducible refine tE ?_
       | (
        with_reducible refine tN ?_
        refine CW_seq ?_
        refine cR ?_
        refine oM rfl rfl ?_
        fail "call of loop.example/g01310/spec.l05Different at slot 35"
        refine oQ (Q_not rfl) rfl rfl ?_
        refine oM rfl rfl ?_
        all_goals first | refine oT rfl rfl ?_ | refine o1 rfl rfl rfl ?_ | refine o0 rfl rfl rfl ?_ | refine ogP1 rfl rfl rfl (fun hg => ?_) (fun hg => ?_) | refine ogP0 rfl rfl rfl (fun hg => ?_) (fun hg => ?_)
        all_goals try simp only [s1, s2, s3, s4, s5, s6, s7, s8, s9, s10, s11, s12] at hg
        all_goals first | (refine oM rfl rfl ?_) | skip
        all_goals first | refine oT rfl rfl ?_ | refine o1 rfl rfl rfl ?_ | refine o0 rfl rfl rfl ?_ | refine ogP1 rfl rfl rfl (fun hg => ?_) (fun hg => ?_) | refine ogP0 rfl rfl rfl (fun hg => ?_) (fun hg => ?_)
        all_goals try simp only [s1, s2, s3, s4, s5, s6, s7, s8, s9, s10, s11, s12] at hg
        all_goals first | (fail "call of loop.example/g01310/spec.l05Different at slot 39") | skip
        all_goals first | refine oT rfl rfl ?_ | refine o1 rfl rfl rfl ?_ | refine o0 rfl rfl rfl ?_ | refine ogP1 rfl rfl rfl (fun hg => ?_) (fun hg => ?_) | refine ogP0 rfl rfl rfl (fun hg => ?_) (fun hg => ?_)
        all_goals try simp only [s1, s2, s3, s4, s5, s6, s7, s8, s9, s10, s11, s12] at hg
        all_goals first | (refine oQ (Q_not rfl) rfl rfl ?_) | skip
        all_goals first | refine oQ (Q_pick_t rfl (by with_reducible rfl) rfl rfl) rfl rfl ?_ | refine oQ (Q_pick_f rfl (by with_reducible rfl) rfl rfl) rfl rfl ?_
        all_goals refine oN ?_
        all_goals (
         first | refine cT rfl ?_ | refine cF rfl ?_ | refine CW_cond rfl (fun hc => ?_) (fun hc => ?_)
         all_goals try simp only [s1, s2, s3, s4, s5, s6, s7, s8, s9, s10, s11, s12] at hc
         all_goals try (exfalso; first | (simp_all; done) | (cases hc; done); done)
         all_goals first
           | (
            refine CW_skip ?_)
           | (
            refine cR ?_
            refine oQ (Q_build rfl rfl rfl rfl rfl rfl rfl rfl) rfl rfl ?_
            first | refine oSw rfl rfl rfl rfl ?_ | refine oSa rfl rfl rfl rfl ?_
            refine oA rfl rfl ?_
            refine oN ?_
            refine CW_ret ?_))
        all_goals first
          | with_reducible refine tR ?_
          | with_reducible refine tE ?_
          | (
           with_reducible refine tN ?_
           refine CW_seq ?_
           refine CW_any (fun i => List.elem i [26, 27]) 28 rfl lateOk (by decide +kernel) (fun hst => ?_)
           refine aP 0 hst rfl rfl (by decide +kernel) (PX_move rfl rfl) rfl rfl ?_
           refine aP 1 hst rfl rfl (by decide +kernel) (PX_move rfl rfl) rfl rfl ?_
           refine aP 2 hst rfl rfl (by decide +kernel) (PX_move rfl rfl) rfl rfl ?_
           first | refine aQ 3 hst rfl rfl (by decide +kernel) (QX_of (Is0 rfl rfl rfl rfl rfl rfl) NE_ix) rfl rfl ?_ | refine aQ 3 hst rfl rfl (by decide +kernel) (QX_of (Is1 rfl rfl rfl rfl rfl rfl) NE_ix) rfl rfl ?_
           first | refine aQ 4 hst rfl rfl (by decide +kernel) (QX_of (Q_ldc rfl rfl rfl rfl rfl) NE_load) rfl rfl ?_ | refine aQ 4 hst rfl rfl (by decide +kernel) (QX_of (Ld rfl rfl rfl rfl) NE_load) rfl rfl ?_
           refine aP 5 hst rfl rfl (by decide +kernel) (PX_move rfl rfl) rfl rfl ?_
           first | refine aQ 6 hst rfl rfl (by decide +kernel) (QX_of (Is0 rfl rfl rfl rfl rfl rfl) NE_ix) rfl rfl ?_ | refine aQ 6 hst rfl rfl (by decide +kernel) (QX_of (Is1 rfl rfl rfl rfl rfl rfl) NE_ix) rfl rfl ?_
           first | refine aQ 7 hst rfl rfl (by decide +kernel) (QX_of (Q_ldc rfl rfl rfl rfl rfl) NE_load) rfl rfl ?_ | refine aQ 7 hst rfl rfl (by decide +kernel) (QX_of (Ld rfl rfl rfl rfl) NE_load) rfl rfl ?_
           refine aP 8 hst rfl rfl (by decide +kernel) (PX_move rfl rfl) rfl rfl ?_
           first | refine aQ 9 hst rfl rfl (by decide +kernel) (QX_of (Is0 rfl rfl rfl rfl rfl rfl) NE_ix) rfl rfl ?_ | refine aQ 9 hst rfl rfl (by decide +kernel) (QX_of (Is1 rfl rfl rfl rfl rfl rfl) NE_ix) rfl rfl ?_
           first | refine aQ 10 hst rfl rfl (by decide +kernel) (QX_of (Q_ldc rfl rfl rfl rfl rfl) NE_load) rfl rfl ?_ | refine aQ 10 hst rfl rfl (by decide +kernel) (QX_of (Ld rfl rfl rfl rfl) NE_load) rfl rfl ?_
           fail "call of loop.example/g01310/spec.l05Frame at slot 54"
           refine aP 12 hst rfl rfl (by decide +kernel) (PX_move rfl rfl) rfl rfl ?_
           refine aP 13 hst rfl rfl (by decide +kernel) (PX_move rfl rfl) rfl rfl ?_
           refine aP 14 hst rfl rfl (by decide +kernel) (PX_move rfl rfl) rfl rfl ?_
           first | refine aQ 15 hst rfl rfl (by decide +kernel) (QX_of (Is0 rfl rfl rfl rfl rfl rfl) NE_ix) rfl rfl ?_ | refine aQ 15 hst rfl rfl (by decide +kernel) (QX_of (Is1 rfl rfl rfl rfl rfl rfl) NE_ix) rfl rfl ?_
           first | refine aQ 16 hst rfl rfl (by decide +kernel) (QX_of (Q_ldc rfl rfl rfl rfl rfl) NE_load) rfl rfl ?_ | refine aQ 16 hst rfl rfl (by decide +kernel) (QX_of (Ld rfl rfl rfl rfl) NE_load) rfl rfl ?_
           refine aP 17 hst rfl rfl (by decide +kernel) (PX_move rfl rfl) rfl rfl ?_
           first | refine aQ 18 hst rfl rfl (by decide +kernel) (QX_of (Is0 rfl rfl rfl rfl rfl rfl) NE_ix) rfl rfl ?_ | refine aQ 18 hst rfl rfl (by decide +kernel) (QX_of (Is1 rfl rfl rfl rfl rfl rfl) NE_ix) rfl rfl ?_
           first | refine aQ 19 hst rfl rfl (by decide +kernel) (QX_of (Q_ldc rfl rfl rfl rfl rfl) NE_load) rfl rfl ?_ | refine aQ 19 hst rfl rfl (by decide +kernel) (QX_of (Ld rfl rfl rfl rfl) NE_load) rfl rfl ?_
           refine aP 20 hst rfl rfl (by decide +kernel) (PX_move rfl rfl) rfl rfl ?_
           first | refine aQ 21 hst rfl rfl (by decide +kernel) (QX_of (Is0 rfl rfl rfl rfl rfl rfl) NE_ix) rfl rfl ?_ | refine aQ 21 hst rfl rfl (by decide +kernel) (QX_of (Is1 rfl rfl rfl rfl rfl rfl) NE_ix) rfl rfl ?_
           first | refine aQ 22 hst rfl rfl (by decide +kernel) (QX_of (Q_ldc rfl rfl rfl rfl rfl) NE_load) rfl rfl ?_ | refine aQ 22 hst rfl rfl (by decide +kernel) (QX_of (Ld rfl rfl rfl rfl) NE_load) rfl rfl ?_
           fail "call of loop.example/g01310/spec.l05Frame at slot 66"
           fail "call of loop.example/g01310/spec.l05Back at slot 67"
           fail "call of loop.example/g01310/spec.l05Times at slot 68"
           refine AW_last [26, 27] rfl (by decide +kernel) rfl ?_
           first | refine oSw rfl rfl rfl rfl ?_ | refine oSa rfl rfl rfl rfl ?_
           refine oA rfl rfl ?_
           refine OW_nil (npN ?_)
           all_goals with_reducible refine tN ?_
           all_goals (
            refine CW_ret ?_))))
  all_goals (
   first | ((refine exitQ (.inr rfl) 2 (.cons (.arr rfl rfl rfl rfl (by first | omega | (dsimp only; omega) | (simp; omega) | (simp; done))) (.cons (.tmp rfl rfl) .nil)) ?_ rfl (vHc rfl (vHc rfl vHn)) rfl rfl); rfl) | (exfalso; simp_all; done))
end Go.Proofs.Ytchikadcicecoaa
namespace Go.Proofs.Ytchikadcicecoaa
attribute [local irreducible] CW OW QW QOp Con thenP inBlockP
set_option maxRecDepth 10000
set_option linter.unusedSimpArgs false
set_option linter.unusedVariables false
/-- the room that the laws leave behind a copy -/
def roomN (n : Nat) : Nat := if n % 6 = 5 then 0 else if n % 3 = 0 then 1 else n
theorem roomN_le (n : Nat) : roomN n ≤ n + 1 := by unfold roomN; split <;> (try split) <;> omega
def mark : Int := -7000000000000000101
theorem fill_set' {L : List Int} {i N : Nat} (h : i < L.length) (hL : L.length ≤ N) : (L.take i ++ List.replicate (N - i) 0).set i (L.getD i 0) = L.take (i + 1) ++ List.replicate (N - (i + 1)) 0 := by
  have e : N - i = (N - (i + 1)) + 1 := by omega
  rw [e, List.replicate_succ, take_snoc h, List.set_append_right _ _ (by simp; omega)]
  have : i - (L.take i).length = 0 := by simp; omega
  rw [this]
  simp
theorem pad_set {L : List Int} {i N : Nat} (m : Int) (h : L.length + i < N) : (L ++ List.replicate i m ++ List.replicate (N - L.length - i) 0).set (L.length + i) m = L ++ List.replicate (i + 1) m ++ List.replicate (N - L.length - (i + 1)) 0 := by
  have e : N - L.length - i = (N - L.length - (i + 1)) + 1 := by omega
  rw [e, List.replicate_succ, List.set_append_right _ _ (by simp)]
  have : L.length + i - (L ++ List.replicate i m).length = 0 := by simp
  rw [this, List.set_cons_zero, List.replicate_succ']
  simp
theorem roomBehind_con (n : Nat) : ConQ Try.prog [] 27 [.int n] [] (.int (roomN n)) := by
  refine conW tab_ok [(0, .int n)] 0 [] [] Try.func27 rfl rfl rfl rfl rfl rfl rfl rfl rfl ?_
  refine cR ?_
  refine oA rfl rfl ?_
  refine oN ?_
  refine CW_seq ?_
  refine cR ?_
  refine oM rfl rfl ?_
  refine oRem rfl rfl (by omega) rfl (fun z4 hz4 hl4 hu4 => ?_)
  refine oQ (Q_bin rfl rfl rfl) rfl rfl ?_
  refine oN ?_
  first | refine cT rfl ?_ | refine cF rfl ?_ | refine CW_cond rfl (fun hc => ?_) (fun hc => ?_)
  all_goals try simp only [s1, s2, s3, s4, s5, s6, s7, s8, s9, s10, s11, s12] at hc
  all_goals first
    | (
     refine CW_skip ?_)
    | (
     refine cR ?_
     refine oA rfl rfl ?_
     refine oN ?_
     refine CW_ret ?_)
  all_goals first
    | with_reducible refine tR ?_
    | with_reducible refine tE ?_
    | (
     with_reducible refine tN ?_
     refine CW_seq ?_
     refine cR ?_
     refine oM rfl rfl ?_
     refine oRem rfl rfl (by omega) rfl (fun z7 hz7 hl7 hu7 => ?_)
     refine oQ (Q_bin rfl rfl rfl) rfl rfl ?_
     refine oN ?_
     first | refine cT rfl ?_ | refine cF rfl ?_ | refine CW_cond rfl (fun hc => ?_) (fun hc => ?_)
     all_goals try simp only [s1, s2, s3, s4, s5, s6, s7, s8, s9, s10, s11, s12] at hc
     all_goals first
       | (
        refine CW_skip ?_)
       | (
        refine cR ?_
        refine oA rfl rfl ?_
        refine oN ?_
        refine CW_ret ?_)
     all_goals first
       | with_reducible refine tR ?_
       | with_reducible refine tE ?_
       | (
        with_reducible refine tN ?_
        refine cR ?_
        refine oM rfl rfl ?_
        refine oA rfl rfl ?_
        refine oN ?_
        refine CW_ret ?_))
  all_goals (
   refine exitQ (.inr rfl) 0 (.cons (.tmp rfl rfl) .nil) ?_ rfl vHn rfl rfl
   simp only [resV, V.int.injEq]
   simp only [Int.tmod_eq_emod_of_nonneg (show (0 : Int) ≤ n by omega)] at *
   unfold roomN
   split <;> (try split) <;> omega)
def copyR (t : TypeId) (H0 : Hp) (l : List Int) (n : Nat) (m : List Int) (bare : Bool) (r : V) (H' : Hp) : Prop :=
  if (bare && n == 0) = true then r = .nilsl ∧ H' = H0 else r = .slice 1 0 n (n + roomN n) ∧ H' = H0 ++ [(1, .ints t (l ++ m))]
theorem toInt64S_row (l : List Int) (o n k : Nat) (b : Bool) (hl : l.length = n) (hn : n ≤ 1000000) : Con Try.prog [] 9 [.slice 0 o n k, .bool b] [(0, .ro o l)]
    (copyR 2 [(0, .ro o l)] l n (List.replicate (roomN n) mark) b) := by
  have hr := roomN_le n
  refine conW tab_ok [(0, .slice 0 o n k), (1, .bool b)] 1 [0] [] Try.func9 rfl rfl rfl rfl rfl rfl rfl rfl rfl ?_
  refine cR ?_
  refine oA rfl rfl ?_
  refine oN ?_
  refine CW_seq ?_
  refine cR ?_
  iterate 2 refine oM rfl rfl ?_
  all_goals first | refine oT rfl rfl ?_ | refine o1 rfl rfl rfl ?_ | refine o0 rfl rfl rfl ?_ | refine ogP1 rfl rfl rfl (fun hg => ?_) (fun hg => ?_) | refine ogP0 rfl rfl rfl (fun hg => ?_) (fun hg => ?_)
  all_goals try simp only [s1, s2, s3, s4, s5, s6, s7, s8, s9, s10, s11, s12] at hg
  all_goals first | (refine oM rfl rfl ?_) | skip
  all_goals first | refine oT rfl rfl ?_ | refine o1 rfl rfl rfl ?_ | refine o0 rfl rfl rfl ?_ | refine ogP1 rfl rfl rfl (fun hg => ?_) (fun hg => ?_) | refine ogP0 rfl rfl rfl (fun hg => ?_) (fun hg => ?_)
  all_goals try simp only [s1, s2, s3, s4, s5, s6, s7, s8, s9, s10, s11, s12] at hg
  all_goals first | refine oQ (Q_len rfl rfl rfl rfl) rfl rfl ?_ | refine oQ (Q_len0 rfl rfl rfl rfl) rfl rfl ?_ | skip
  all_goals first | refine oT rfl rfl ?_ | refine o1 rfl rfl rfl ?_ | refine o0 rfl rfl rfl ?_ | refine ogP1 rfl rfl rfl (fun hg => ?_) (fun hg => ?_) | refine ogP0 rfl rfl rfl (fun hg => ?_) (fun hg => ?_)
  all_goals try simp only [s1, s2, s3, s4, s5, s6, s7, s8, s9, s10, s11, s12] at hg
  all_goals first | (refine oQ (Q_bin rfl rfl rfl) rfl rfl ?_) | skip
  all_goals first | refine oQ (Q_pick_t rfl (by with_reducible rfl) rfl rfl) rfl rfl ?_ | refine oQ (Q_pick_f rfl (by with_reducible rfl) rfl rfl) rfl rfl ?_
  all_goals refine oN ?_
  all_goals (
   first | refine cT rfl ?_ | refine cF rfl ?_ | refine CW_cond rfl (fun hc => ?_) (fun hc => ?_)
   all_goals try simp only [s1, s2, s3, s4, s5, s6, s7, s8, s9, s10, s11, s12] at hc
   all_goals first
     | (
      refine CW_skip ?_)
     | (
      refine cR ?_
      refine oA rfl rfl ?_
      refine oN ?_
      refine CW_ret ?_))
  all_goals first
    | with_reducible refine tR ?_
    | with_reducible refine tE ?_
    | (
     with_reducible refine tN ?_
     refine cR ?_
     refine oM rfl rfl ?_
     first | refine oQ (Q_len rfl rfl rfl rfl) rfl rfl ?_ | refine oQ (Q_len0 rfl rfl rfl rfl) rfl rfl ?_
     refine oM rfl rfl ?_
     first | refine oQ (Q_len rfl rfl rfl rfl) rfl rfl ?_ | refine oQ (Q_len0 rfl rfl rfl rfl) rfl rfl ?_
     refine oQ (Q_call0 (roomBehind_con n) rfl rfl rfl) rfl rfl ?_
     refine oQ (Q_binu (z := ((n + roomN n : Nat) : Int)) rfl rfl (congrArg some (by omega)) (by omega)) rfl rfl ?_
     refine oMk rfl rfl rfl ⟨by decide, rfl, .inl ⟨rfl, rfl⟩⟩ rfl rfl rfl (by first | omega | (dsimp only; omega) | (simp; omega) | (simp; done)) (by first | omega | (dsimp only; omega) | (simp; omega) | (simp; done)) (by first | omega | (dsimp only; omega) | (simp; omega) | (simp; done)) rfl rfl ?_
     refine oA rfl rfl ?_
     refine oN ?_
     refine CW_seq ?_
     refine cR ?_
     refine oA rfl rfl ?_
     refine oN ?_
     refine CW_block ?_
     refine CW_loop (ι := Nat) (fun i => i ≤ n) (fun i => ⟨[(0, .slice 0 o n k), (1, .bool b), (5, .slice 1 0 (n + roomN n) (n + roomN n)), (6, .int i)], [(0, .ro o l), (1, .ints 2 (l.take i ++ List.replicate (n + roomN n - i) 0))], 2⟩) (fun i => n - i) 0 ?_ ?_ ?_
     · first | trivial | omega | (simp; done) | (simp; omega)
     · refine View.mk' [] rfl rfl rfl ?_ ?_
       repeat' first | exact vFn | refine vFc rfl ?_ | exact vHn | refine vHc rfl ?_ | refine vFc (congrArg (fun z => some (V.int z)) ?_) ?_ | refine vHc (congrArg (fun z => some (Blk.ints _ z)) ?_) ?_ | refine vFc (congrArg (fun z => some (V.bool z)) ?_) ?_ | refine vFs rfl rfl ?_ ?_
       all_goals simp
     intro i hi
     refine CW_seq ?_
     refine cR ?_
     iterate 2 refine oM rfl rfl ?_
     first | refine oQ (Q_len rfl rfl rfl rfl) rfl rfl ?_ | refine oQ (Q_len0 rfl rfl rfl rfl) rfl rfl ?_
     refine oQ (Q_bin rfl rfl rfl) rfl rfl ?_
     refine oN ?_
     first | refine cT rfl ?_ | refine cF rfl ?_ | refine CW_cond rfl (fun hc => ?_) (fun hc => ?_)
     all_goals try simp only [s1, s2, s3, s4, s5, s6, s7, s8, s9, s10, s11, s12] at hc
     all_goals first
       | (
        refine CW_skip ?_)
       | (
        refine CW_exit ?_)
     all_goals first
       | with_reducible refine tR ?_
       | with_reducible refine tE ?_
       | (
        with_reducible refine tN ?_
        refine CW_seq ?_
        refine CW_block ?_
        refine CW_region ?_
        iterate 4 refine oM rfl rfl ?_
        first | refine oQ (Is0 rfl rfl rfl rfl rfl rfl) rfl rfl ?_ | refine oQ (Is1 rfl rfl rfl rfl rfl rfl) rfl rfl ?_
        refine oQ (Q_ldr (j := i) rfl rfl rfl rfl (by simp) (by omega)) rfl rfl ?_
        first | refine oQ (Is0 rfl rfl rfl rfl rfl rfl) rfl rfl ?_ | refine oQ (Is1 rfl rfl rfl rfl rfl rfl) rfl rfl ?_
        refine oS rfl rfl rfl rfl rfl ?_
        refine OW_nil ?_
        all_goals first | with_reducible refine bN ?_ | with_reducible refine bE ?_ | with_reducible refine bR ?_ | refine bX rfl ?_
        all_goals with_reducible refine tN ?_
        all_goals (
         refine CW_region ?_
         refine oM rfl rfl ?_
         first | refine oQ (Q_binu rfl rfl rfl (by omega)) rfl rfl ?_ | refine oQ (Q_bin rfl rfl rfl) rfl rfl ?_
         refine oA rfl rfl ?_
         refine OW_nil ?_))
     all_goals first
       | with_reducible refine tR ?_
       | with_reducible refine tE ?_
       | (
        with_reducible refine tN ?_
        refine ⟨i + 1, ?_, ?_, View.mk' [] rfl rfl rfl ?_ ?_⟩
        · omega
        · omega
        all_goals (repeat' first | exact vFn | refine vFc rfl ?_ | exact vHn | refine vHc rfl ?_ | refine vFc (congrArg (fun z => some (V.int z)) ?_) ?_ | refine vHc (congrArg (fun z => some (Blk.ints _ z)) ?_) ?_ | refine vFc (congrArg (fun z => some (V.bool z)) ?_) ?_ | refine vFs rfl rfl ?_ ?_)
        all_goals exact fill_set' (by omega) (by omega))
     all_goals first | with_reducible refine bN ?_ | with_reducible refine bE ?_ | with_reducible refine bR ?_ | refine bX rfl ?_
     all_goals with_reducible refine tN ?_
     all_goals (
      refine CW_seq ?_
      refine cR ?_
      refine oM rfl rfl ?_
      first | refine oQ (Q_len rfl rfl rfl rfl) rfl rfl ?_ | refine oQ (Q_len0 rfl rfl rfl rfl) rfl rfl ?_
      refine oA rfl rfl ?_
      refine oN ?_
      refine CW_block ?_
      refine CW_loop (ι := Nat) (fun j => j ≤ roomN n) (fun j => ⟨[(0, .slice 0 o n k), (1, .bool b), (5, .slice 1 0 (n + roomN n) (n + roomN n)), (7, .int ((n + j : Nat) : Int))], [(0, .ro o l), (1, .ints 2 (l ++ List.replicate j mark ++ List.replicate (n + roomN n - l.length - j) 0))], 2⟩) (fun j => roomN n - j) 0 ?_ ?_ ?_
      · first | trivial | omega | (simp; done) | (simp; omega)
      · refine View.mk' [] rfl rfl rfl ?_ ?_
        repeat' first | exact vFn | refine vFc rfl ?_ | exact vHn | refine vHc rfl ?_ | refine vFc (congrArg (fun z => some (V.int z)) ?_) ?_ | refine vHc (congrArg (fun z => some (Blk.ints _ z)) ?_) ?_ | refine vFc (congrArg (fun z => some (V.bool z)) ?_) ?_ | refine vFs rfl rfl ?_ ?_
        all_goals (have e : i = n := by omega)
        all_goals (subst e; simp [← hl])
      intro j hj
      refine CW_seq ?_
      refine cR ?_
      iterate 2 refine oM rfl rfl ?_
      first | refine oQ (Q_len rfl rfl rfl rfl) rfl rfl ?_ | refine oQ (Q_len0 rfl rfl rfl rfl) rfl rfl ?_
      refine oQ (Q_bin rfl rfl rfl) rfl rfl ?_
      refine oN ?_
      first | refine cT rfl ?_ | refine cF rfl ?_ | refine CW_cond rfl (fun hc => ?_) (fun hc => ?_)
      all_goals try simp only [s1, s2, s3, s4, s5, s6, s7, s8, s9, s10, s11, s12] at hc
      all_goals first
        | (
         refine CW_skip ?_)
        | (
         refine CW_exit ?_)
      all_goals first
        | with_reducible refine tR ?_
        | with_reducible refine tE ?_
        | (
         with_reducible refine tN ?_
         refine CW_seq ?_
         refine CW_block ?_
         refine CW_region ?_
         iterate 2 refine oM rfl rfl ?_
         first | refine oQ (Is0 rfl rfl rfl rfl rfl rfl) rfl rfl ?_ | refine oQ (Is1 rfl rfl rfl rfl rfl rfl) rfl rfl ?_
         refine oS rfl rfl rfl rfl rfl ?_
         refine OW_nil ?_
         all_goals first | with_reducible refine bN ?_ | with_reducible refine bE ?_ | with_reducible refine bR ?_ | refine bX rfl ?_
         all_goals with_reducible refine tN ?_
         all_goals (
          refine CW_region ?_
          refine oM rfl rfl ?_
          first | refine oQ (Q_binu rfl rfl rfl (by omega)) rfl rfl ?_ | refine oQ (Q_bin rfl rfl rfl) rfl rfl ?_
          refine oA rfl rfl ?_
          refine OW_nil ?_))
      all_goals first
        | with_reducible refine tR ?_
        | with_reducible refine tE ?_
        | (
         with_reducible refine tN ?_
         refine ⟨j + 1, ?_, ?_, View.mk' [] rfl rfl rfl ?_ ?_⟩
         · omega
         · omega
         all_goals (repeat' first | exact vFn | refine vFc rfl ?_ | exact vHn | refine vHc rfl ?_ | refine vFc (congrArg (fun z => some (V.int z)) ?_) ?_ | refine vHc (congrArg (fun z => some (Blk.ints _ z)) ?_) ?_ | refine vFc (congrArg (fun z => some (V.bool z)) ?_) ?_ | refine vFs rfl rfl ?_ ?_)
         all_goals (rw [show n + j = l.length + j by omega]; exact pad_set mark (by omega)))
      all_goals first | with_reducible refine bN ?_ | with_reducible refine bE ?_ | with_reducible refine bR ?_ | refine bX rfl ?_
      all_goals with_reducible refine tN ?_
      all_goals (
       refine cR ?_
       iterate 2 refine oM rfl rfl ?_
       first | refine oQ (Q_len rfl rfl rfl rfl) rfl rfl ?_ | refine oQ (Q_len0 rfl rfl rfl rfl) rfl rfl ?_
       refine oQ (Q_slsH rfl rfl rfl rfl rfl (by first | omega | (dsimp only; omega) | (simp; omega) | (simp; done))) rfl rfl ?_
       refine oA rfl rfl ?_
       refine oN ?_
       refine CW_ret ?_)))
  all_goals (
   first
     | (refine exitH (r0 := .nilsl) (H0 := [(0, .ro o l)]) (.inr rfl) [] 1 (.cons (.tmp rfl rfl) .nil) rfl rfl rfl (vHc rfl vHn) rfl rfl ?_; unfold copyR; rw [if_pos (by simp [hg]; omega)]; exact ⟨rfl, rfl⟩)
     | (have e : j = roomN n := by omega
        subst e
        refine exitH (r0 := .slice 1 0 n (n + roomN n)) (H0 := [(0, .ro o l), (1, .ints 2 (l ++ List.replicate (roomN n) mark))]) (.inr rfl) [] 2 (.cons (.tmp rfl rfl) .nil) rfl rfl rfl (vHc rfl (vHc (congrArg (fun z => some (Blk.ints 2 z)) ?_) vHn)) rfl rfl ?_
        · rw [show n + roomN n - l.length - roomN n = 0 by omega]; simp
        · unfold copyR; rw [if_neg (by simp [hg]; try omega)]; exact ⟨rfl, rfl⟩))
theorem toInt64S_nil (b : Bool) : Con Try.prog [] 9 [.nilsl, .bool b] [] (copyR 2 [] [] 0 [mark] b) := by
  refine conW tab_ok [(0, .nilsl), (1, .bool b)] 0 [] [] Try.func9 rfl rfl rfl rfl rfl rfl rfl rfl rfl ?_
  refine cR ?_
  refine oA rfl rfl ?_
  refine oN ?_
  refine CW_seq ?_
  refine cR ?_
  iterate 2 refine oM rfl rfl ?_
  all_goals first | refine oT rfl rfl ?_ | refine o1 rfl rfl rfl ?_ | refine o0 rfl rfl rfl ?_ | refine ogP1 rfl rfl rfl (fun hg => ?_) (fun hg => ?_) | refine ogP0 rfl rfl rfl (fun hg => ?_) (fun hg => ?_)
  all_goals try simp only [s1, s2, s3, s4, s5, s6, s7, s8, s9, s10, s11, s12] at hg
  all_goals first | (refine oM rfl rfl ?_) | skip
  all_goals first | refine oT rfl rfl ?_ | refine o1 rfl rfl rfl ?_ | refine o0 rfl rfl rfl ?_ | refine ogP1 rfl rfl rfl (fun hg => ?_) (fun hg => ?_) | refine ogP0 rfl rfl rfl (fun hg => ?_) (fun hg => ?_)
  all_goals try simp only [s1, s2, s3, s4, s5, s6, s7, s8, s9, s10, s11, s12] at hg
  all_goals first | refine oQ (Q_len rfl rfl rfl rfl) rfl rfl ?_ | refine oQ (Q_len0 rfl rfl rfl rfl) rfl rfl ?_ | skip
  all_goals first | refine oT rfl rfl ?_ | refine o1 rfl rfl rfl ?_ | refine o0 rfl rfl rfl ?_ | refine ogP1 rfl rfl rfl (fun hg => ?_) (fun hg => ?_) | refine ogP0 rfl rfl rfl (fun hg => ?_) (fun hg => ?_)
  all_goals try simp only [s1, s2, s3, s4, s5, s6, s7, s8, s9, s10, s11, s12] at hg
  all_goals first | (refine oQ (Q_bin rfl rfl rfl) rfl rfl ?_) | skip
  all_goals first | refine oQ (Q_pick_t rfl (by with_reducible rfl) rfl rfl) rfl rfl ?_ | refine oQ (Q_pick_f rfl (by with_reducible rfl) rfl rfl) rfl rfl ?_
  all_goals refine oN ?_
  all_goals (
   first | refine cT rfl ?_ | refine cF rfl ?_ | refine CW_cond rfl (fun hc => ?_) (fun hc => ?_)
   all_goals try simp only [s1, s2, s3, s4, s5, s6, s7, s8, s9, s10, s11, s12] at hc
   all_goals try (exfalso; first | omega | (simp at hc); done)
   all_goals first
     | (
      refine CW_skip ?_)
     | (
      refine cR ?_
      refine oA rfl rfl ?_
      refine oN ?_
      refine CW_ret ?_))
  all_goals first
    | with_reducible refine tR ?_
    | with_reducible refine tE ?_
    | (
     with_reducible refine tN ?_
     refine cR ?_
     refine oM rfl rfl ?_
     first | refine oQ (Q_len rfl rfl rfl rfl) rfl rfl ?_ | refine oQ (Q_len0 rfl rfl rfl rfl) rfl rfl ?_
     refine oM rfl rfl ?_
     first | refine oQ (Q_len rfl rfl rfl rfl) rfl rfl ?_ | refine oQ (Q_len0 rfl rfl rfl rfl) rfl rfl ?_
     refine oQ (Q_call0 (roomBehind_con 0) rfl rfl rfl) rfl rfl ?_
     refine oQ (Q_binu (z := ((1 : Nat) : Int)) rfl rfl rfl (by omega)) rfl rfl ?_
     refine oMk rfl rfl rfl ⟨by decide, rfl, .inl ⟨rfl, rfl⟩⟩ rfl rfl rfl (by first | omega | (dsimp only; omega) | (simp; omega) | (simp; done)) (by first | omega | (dsimp only; omega) | (simp; omega) | (simp; done)) (by first | omega | (dsimp only; omega) | (simp; omega) | (simp; done)) rfl rfl ?_
     refine oA rfl rfl ?_
     refine oN ?_
     refine CW_seq ?_
     refine cR ?_
     refine oA rfl rfl ?_
     refine oN ?_
     refine CW_block ?_
     refine CW_loop (ι := Nat) (fun i => i = 0) (fun i => ⟨[(0, .nilsl), (1, .bool b), (5, .slice 0 0 1 1), (6, .int i)], [(0, .ints 2 [0])], 1⟩) (fun i => 0) 0 ?_ ?_ ?_
     · first | trivial | omega | (simp; done) | (simp; omega)
     · refine View.mk' [] rfl rfl rfl ?_ ?_
       repeat' first | exact vFn | refine vFc rfl ?_ | exact vHn | refine vHc rfl ?_ | refine vFc (congrArg (fun z => some (V.int z)) ?_) ?_ | refine vHc (congrArg (fun z => some (Blk.ints _ z)) ?_) ?_ | refine vFc (congrArg (fun z => some (V.bool z)) ?_) ?_ | refine vFs rfl rfl ?_ ?_
     intro i hi
     refine CW_seq ?_
     refine cR ?_
     iterate 2 refine oM rfl rfl ?_
     first | refine oQ (Q_len rfl rfl rfl rfl) rfl rfl ?_ | refine oQ (Q_len0 rfl rfl rfl rfl) rfl rfl ?_
     refine oQ (Q_bin rfl rfl rfl) rfl rfl ?_
     refine oN ?_
     first | refine cT rfl ?_ | refine cF rfl ?_ | refine CW_cond rfl (fun hc => ?_) (fun hc => ?_)
     all_goals try simp only [s1, s2, s3, s4, s5, s6, s7, s8, s9, s10, s11, s12] at hc
     all_goals try (exfalso; first | omega | (simp at hc); done)
     all_goals first
       | (
        refine CW_skip ?_)
       | (
        refine CW_exit ?_)
     all_goals first
       | with_reducible refine tR ?_
       | with_reducible refine tE ?_
       | (
        with_reducible refine tN ?_
        refine CW_seq ?_
        refine CW_block ?_
        refine CW_region ?_
        iterate 4 refine oM rfl rfl ?_
        first | refine oQ (Is0 rfl rfl rfl rfl rfl rfl) rfl rfl ?_ | refine oQ (Is1 rfl rfl rfl rfl rfl rfl) rfl rfl ?_
        refine oQ (Ld rfl rfl rfl rfl) rfl rfl ?_
        first | refine oQ (Is0 rfl rfl rfl rfl rfl rfl) rfl rfl ?_ | refine oQ (Is1 rfl rfl rfl rfl rfl rfl) rfl rfl ?_
        refine oS rfl rfl rfl rfl rfl ?_
        refine OW_nil ?_
        all_goals first | with_reducible refine bN ?_ | with_reducible refine bE ?_ | with_reducible refine bR ?_ | refine bX rfl ?_
        all_goals with_reducible refine tN ?_
        all_goals (
         refine CW_region ?_
         refine oM rfl rfl ?_
         first | refine oQ (Q_binu rfl rfl rfl (by omega)) rfl rfl ?_ | refine oQ (Q_bin rfl rfl rfl) rfl rfl ?_
         refine oA rfl rfl ?_
         refine OW_nil ?_))
     all_goals first
       | with_reducible refine tR ?_
       | with_reducible refine tE ?_
       | (
        with_reducible refine tN ?_
        refine ⟨i + 1, ?_, ?_, View.mk' [] rfl rfl rfl ?_ ?_⟩
        · omega
        · omega
        all_goals (repeat' first | exact vFn | refine vFc rfl ?_ | exact vHn | refine vHc rfl ?_ | refine vFc (congrArg (fun z => some (V.int z)) ?_) ?_ | refine vHc (congrArg (fun z => some (Blk.ints _ z)) ?_) ?_ | refine vFc (congrArg (fun z => some (V.bool z)) ?_) ?_ | refine vFs rfl rfl ?_ ?_))
     all_goals first | with_reducible refine bN ?_ | with_reducible refine bE ?_ | with_reducible refine bR ?_ | refine bX rfl ?_
     all_goals with_reducible refine tN ?_
     all_goals (
      refine CW_seq ?_
      refine cR ?_
      refine oM rfl rfl ?_
      first | refine oQ (Q_len rfl rfl rfl rfl) rfl rfl ?_ | refine oQ (Q_len0 rfl rfl rfl rfl) rfl rfl ?_
      refine oA rfl rfl ?_
      refine oN ?_
      refine CW_block ?_
      refine CW_loop (ι := Nat) (fun j => j ≤ 1) (fun j => ⟨[(0, .nilsl), (1, .bool b), (5, .slice 0 0 1 1), (7, .int j)], [(0, .ints 2 [if j = 0 then 0 else mark])], 1⟩) (fun j => 1 - j) 0 ?_ ?_ ?_
      · first | trivial | omega | (simp; done) | (simp; omega)
      · refine View.mk' [] rfl rfl rfl ?_ ?_
        repeat' first | exact vFn | refine vFc rfl ?_ | exact vHn | refine vHc rfl ?_ | refine vFc (congrArg (fun z => some (V.int z)) ?_) ?_ | refine vHc (congrArg (fun z => some (Blk.ints _ z)) ?_) ?_ | refine vFc (congrArg (fun z => some (V.bool z)) ?_) ?_ | refine vFs rfl rfl ?_ ?_
      intro j hj
      refine CW_seq ?_
      refine cR ?_
      iterate 2 refine oM rfl rfl ?_
      first | refine oQ (Q_len rfl rfl rfl rfl) rfl rfl ?_ | refine oQ (Q_len0 rfl rfl rfl rfl) rfl rfl ?_
      refine oQ (Q_bin rfl rfl rfl) rfl rfl ?_
      refine oN ?_
      first | refine cT rfl ?_ | refine cF rfl ?_ | refine CW_cond rfl (fun hc => ?_) (fun hc => ?_)
      all_goals try simp only [s1, s2, s3, s4, s5, s6, s7, s8, s9, s10, s11, s12] at hc
      all_goals try (exfalso; first | omega | (simp at hc); done)
      all_goals first
        | (
         refine CW_skip ?_)
        | (
         refine CW_exit ?_)
      all_goals first
        | with_reducible refine tR ?_
        | with_reducible refine tE ?_
        | (
         with_reducible refine tN ?_
         refine CW_seq ?_
         refine CW_block ?_
         refine CW_region ?_
         iterate 2 refine oM rfl rfl ?_
         first | refine oQ (Is0 rfl rfl rfl rfl rfl rfl) rfl rfl ?_ | refine oQ (Is1 rfl rfl rfl rfl rfl rfl) rfl rfl ?_
         refine oS rfl rfl rfl rfl rfl ?_
         refine OW_nil ?_
         all_goals first | with_reducible refine bN ?_ | with_reducible refine bE ?_ | with_reducible refine bR ?_ | refine bX rfl ?_
         all_goals with_reducible refine tN ?_
         all_goals (
          refine CW_region ?_
          refine oM rfl rfl ?_
          first | refine oQ (Q_binu rfl rfl rfl (by omega)) rfl rfl ?_ | refine oQ (Q_bin rfl rfl rfl) rfl rfl ?_
          refine oA rfl rfl ?_
          refine OW_nil ?_))
      all_goals first
        | with_reducible refine tR ?_
        | with_reducible refine tE ?_
        | (
         with_reducible refine tN ?_
         refine ⟨j + 1, ?_, ?_, View.mk' [] rfl rfl rfl ?_ ?_⟩
         · omega
         · omega
         all_goals (repeat' first | exact vFn | refine vFc rfl ?_ | exact vHn | refine vHc rfl ?_ | refine vFc (congrArg (fun z => some (V.int z)) ?_) ?_ | refine vHc (congrArg (fun z => some (Blk.ints _ z)) ?_) ?_ | refine vFc (congrArg (fun z => some (V.bool z)) ?_) ?_ | refine vFs rfl rfl ?_ ?_)
         all_goals (have e : j = 0 := by omega)
         all_goals (subst e; rfl))
      all_goals first | with_reducible refine bN ?_ | with_reducible refine bE ?_ | with_reducible refine bR ?_ | refine bX rfl ?_
      all_goals with_reducible refine tN ?_
      all_goals (
       refine cR ?_
       iterate 2 refine oM rfl rfl ?_
       first | refine oQ (Q_len rfl rfl rfl rfl) rfl rfl ?_ | refine oQ (Q_len0 rfl rfl rfl rfl) rfl rfl ?_
       refine oQ (Q_slsH rfl rfl rfl rfl rfl (by first | omega | (dsimp only; omega) | (simp; omega) | (simp; done))) rfl rfl ?_
       refine oA rfl rfl ?_
       refine oN ?_
       refine CW_ret ?_)))
  all_goals (
   first
     | (refine exitH (r0 := .nilsl) (H0 := []) (.inr rfl) [] 0 (.cons (.tmp rfl rfl) .nil) rfl rfl rfl vHn rfl rfl ?_; unfold copyR; rw [if_pos (by simp [hg])]; exact ⟨rfl, rfl⟩)
     | (have e : j = 1 := by omega
        subst e
        refine exitH (r0 := .slice 1 0 0 1) (H0 := [(1, .ints 2 [mark])]) (.inr rfl) [(1, 0)] 2 (.cons (.tmp rfl rfl) .nil) rfl rfl rfl (vHc rfl vHn) rfl rfl ?_
        unfold copyR; rw [if_neg (by simp [hg])]; exact ⟨rfl, rfl⟩))
theorem take_eq_snoc {A B : List Int} {i : Nat} (hA : i < A.length) (hB : i < B.length) (h : A.take i = B.take i) (h2 : A.getD i 0 = B.getD i 0) : A.take (i + 1) = B.take (i + 1) := by
  rw [take_snoc hA, take_snoc hB, h, h2]
theorem take_ne {A B : List Int} {i n : Nat} (hA : i < A.length) (hB : i < B.length) (hn : i < n) (h2 : A.getD i 0 ≠ B.getD i 0) : A.take n ≠ B.take n := by
  intro h
  apply h2
  have := congrArg (fun l => l.getD i 0) h
  simpa [List.getD, List.getElem?_take, hn] using this
theorem eqInt64S_con (t t' : TypeId) (A B : List Int) (n k m k' : Nat) (hn : n ≤ A.length) (hm : m ≤ B.length) (h6 : n ≤ 1000000000 ∧ m ≤ 1000000000) : ConQ Try.prog [] 30 [.slice 0 0 n k, .slice 1 0 m k'] [(0, .ints t A), (1, .ints t' B)] (.bool (decide (A.take n = B.take m))) := by
  refine conW tab_ok [(0, .slice 0 0 n k), (1, .slice 1 0 m k')] 2 [0, 1] [0, 1] Try.func30 rfl rfl rfl rfl rfl rfl rfl rfl rfl ?_
  refine cR ?_
  refine oA rfl rfl ?_
  refine oN ?_
  refine CW_seq ?_
  refine cR ?_
  refine oM rfl rfl ?_
  first | refine oQ (Q_len rfl rfl rfl rfl) rfl rfl ?_ | refine oQ (Q_len0 rfl rfl rfl rfl) rfl rfl ?_
  refine oM rfl rfl ?_
  first | refine oQ (Q_len rfl rfl rfl rfl) rfl rfl ?_ | refine oQ (Q_len0 rfl rfl rfl rfl) rfl rfl ?_
  refine oQ (Q_bin rfl rfl rfl) rfl rfl ?_
  refine oN ?_
  first | refine cT rfl ?_ | refine cF rfl ?_ | refine CW_cond rfl (fun hc => ?_) (fun hc => ?_)
  all_goals try simp only [s1, s2, s3, s4, s5, s6, s7, s8, s9, s10, s11, s12] at hc
  all_goals first
    | (
     refine CW_skip ?_)
    | (
     refine cR ?_
     refine oA rfl rfl ?_
     refine oN ?_
     refine CW_ret ?_)
  all_goals first
    | with_reducible refine tR ?_
    | with_reducible refine tE ?_
    | (
     with_reducible refine tN ?_
     refine CW_seq ?_
     refine cR ?_
     refine oA rfl rfl ?_
     refine oN ?_
     refine CW_block ?_
     refine CW_loop (ι := Nat) (fun i => i ≤ n ∧ n = m ∧ A.take i = B.take i) (fun i => ⟨[(0, .slice 0 0 n k), (1, .slice 1 0 m k'), (5, .int i)], [(0, .ints t A), (1, .ints t' B)], 2⟩) (fun i => n - i) 0 ?_ ?_ ?_
     · exact ⟨Nat.zero_le _, by omega, rfl⟩
     · refine View.mk' [] rfl rfl rfl ?_ ?_
       repeat' first | exact vFn | refine vFc rfl ?_ | exact vHn | refine vHc rfl ?_ | refine vFc (congrArg (fun z => some (V.int z)) ?_) ?_ | refine vHc (congrArg (fun z => some (Blk.ints _ z)) ?_) ?_ | refine vFc (congrArg (fun z => some (V.bool z)) ?_) ?_ | refine vFs rfl rfl ?_ ?_
     intro i hi
     obtain ⟨hi1, hi2, hi3⟩ := hi
     refine CW_seq ?_
     refine cR ?_
     iterate 2 refine oM rfl rfl ?_
     first | refine oQ (Q_len rfl rfl rfl rfl) rfl rfl ?_ | refine oQ (Q_len0 rfl rfl rfl rfl) rfl rfl ?_
     refine oQ (Q_bin rfl rfl rfl) rfl rfl ?_
     refine oN ?_
     first | refine cT rfl ?_ | refine cF rfl ?_ | refine CW_cond rfl (fun hc => ?_) (fun hc => ?_)
     all_goals try simp only [s1, s2, s3, s4, s5, s6, s7, s8, s9, s10, s11, s12] at hc
     all_goals first
       | (
        refine CW_skip ?_)
       | (
        refine CW_exit ?_)
     all_goals first
       | with_reducible refine tR ?_
       | with_reducible refine tE ?_
       | (
        with_reducible refine tN ?_
        refine CW_seq ?_
        refine CW_block ?_
        refine CW_seq ?_
        refine CW_draw lateOk (by decide +kernel) ?_
        iterate 2 refine qM rfl rfl ?_
        first | refine qQ (Is0 rfl rfl rfl rfl rfl rfl) rfl rfl ?_ | refine qQ (Is1 rfl rfl rfl rfl rfl rfl) rfl rfl ?_
        refine qQ (Ld rfl rfl rfl rfl) rfl rfl ?_
        iterate 2 refine qM rfl rfl ?_
        first | refine qQ (Is0 rfl rfl rfl rfl rfl rfl) rfl rfl ?_ | refine qQ (Is1 rfl rfl rfl rfl rfl rfl) rfl rfl ?_
        refine qQ (Ld rfl rfl rfl rfl) rfl rfl ?_
        refine qQ (Q_bin rfl rfl rfl) rfl rfl ?_
        refine QW_nil ?_
        all_goals with_reducible refine tN ?_
        all_goals (
         first | refine cT rfl ?_ | refine cF rfl ?_ | refine CW_cond rfl (fun hc => ?_) (fun hc => ?_)
         all_goals try simp only [s1, s2, s3, s4, s5, s6, s7, s8, s9, s10, s11, s12] at hc
         all_goals first
           | (
            refine CW_skip ?_)
           | (
            refine cR ?_
            refine oA rfl rfl ?_
            refine oN ?_
            refine CW_ret ?_))
        all_goals first | with_reducible refine bN ?_ | with_reducible refine bE ?_ | with_reducible refine bR ?_ | refine bX rfl ?_
        all_goals first
          | with_reducible refine tR ?_
          | with_reducible refine tE ?_
          | (
           with_reducible refine tN ?_
           refine CW_region ?_
           refine oM rfl rfl ?_
           first | refine oQ (Q_binu rfl rfl rfl (by omega)) rfl rfl ?_ | refine oQ (Q_bin rfl rfl rfl) rfl rfl ?_
           refine oA rfl rfl ?_
           refine OW_nil ?_))
     all_goals first
       | with_reducible refine tR ?_
       | with_reducible refine tE ?_
       | (
        with_reducible refine tN ?_
        refine ⟨i + 1, ?_, ?_, View.mk' [] rfl rfl rfl ?_ ?_⟩
        · exact ⟨by omega, hi2, take_eq_snoc (by omega) (by omega) hi3 hc⟩
        · omega
        all_goals (repeat' first | exact vFn | refine vFc rfl ?_ | exact vHn | refine vHc rfl ?_ | refine vFc (congrArg (fun z => some (V.int z)) ?_) ?_ | refine vHc (congrArg (fun z => some (Blk.ints _ z)) ?_) ?_ | refine vFc (congrArg (fun z => some (V.bool z)) ?_) ?_ | refine vFs rfl rfl ?_ ?_))
     all_goals first | with_reducible refine bN ?_ | with_reducible refine bE ?_ | with_reducible refine bR ?_ | refine bX rfl ?_
     all_goals first
       | with_reducible refine tR ?_
       | with_reducible refine tE ?_
       | (
        with_reducible refine tN ?_
        refine cR ?_
        refine oA rfl rfl ?_
        refine oN ?_
        refine CW_ret ?_))
  all_goals (
   refine exitQ (.inr rfl) 2 (.cons (.tmp rfl rfl) .nil) ?_ rfl (vHc rfl (vHc rfl vHn)) rfl rfl
   simp only [resV, V.bool.injEq]
   first
     | (have e : i = n := (by omega); subst e; subst hi2; simp [hi3]; done)
     | (have h9 := take_ne (A := A) (B := B) (n := n) (by omega) (by omega) (by omega) hc; subst hi2; symm; exact decide_eq_false h9)
     | (symm; rw [decide_eq_false_iff_not]; intro h; have := congrArg List.length h; simp at this; omega))
theorem intactInt64S_con (t t' : TypeId) (A B : List Int) (n : Nat) (hA : A.length = n + roomN n) (hB : B.length = n + roomN n) (h6 : n ≤ 1000000) : ConQ Try.prog [] 11 [.slice 0 0 n (n + roomN n), .slice 1 0 n (n + roomN n)] [(0, .ints t A), (1, .ints t' B)] (.bool (decide (A = B))) := by
  have hr := roomN_le n
  refine conW tab_ok [(0, .slice 0 0 n (n + roomN n)), (1, .slice 1 0 n (n + roomN n))] 2 [0, 1] [0, 1] Try.func11 rfl rfl rfl rfl rfl rfl rfl rfl rfl ?_
  refine cR ?_
  refine oA rfl rfl ?_
  refine oN ?_
  refine cR ?_
  refine oM rfl rfl ?_
  first | refine oQ (Q_len rfl rfl rfl rfl) rfl rfl ?_ | refine oQ (Q_len0 rfl rfl rfl rfl) rfl rfl ?_
  refine oM rfl rfl ?_
  first | refine oQ (Q_len rfl rfl rfl rfl) rfl rfl ?_ | refine oQ (Q_len0 rfl rfl rfl rfl) rfl rfl ?_
  refine oQ (Q_call0 (roomBehind_con n) rfl rfl rfl) rfl rfl ?_
  refine oQ (Q_binu (z := ((n + roomN n : Nat) : Int)) rfl rfl (congrArg some (by omega)) (by omega)) rfl rfl ?_
  refine oA rfl rfl ?_
  refine oN ?_
  refine CW_seq ?_
  refine CW_draw lateOk (by decide +kernel) ?_
  refine qM rfl rfl ?_
  first | refine qQ (Q_len rfl rfl rfl rfl) rfl rfl ?_ | refine qQ (Q_len0 rfl rfl rfl rfl) rfl rfl ?_
  refine qM rfl rfl ?_
  first | refine qQ (Q_len rfl rfl rfl rfl) rfl rfl ?_ | refine qQ (Q_len0 rfl rfl rfl rfl) rfl rfl ?_
  refine qQ (Q_bin rfl rfl rfl) rfl rfl ?_
  refine qM rfl rfl ?_
  all_goals first | refine qT rfl rfl ?_ | refine q1 rfl rfl rfl ?_ | refine q0 rfl rfl rfl ?_ | refine qgP1 rfl rfl rfl (fun hg => ?_) (fun hg => ?_) | refine qgP0 rfl rfl rfl (fun hg => ?_) (fun hg => ?_)
  all_goals try simp only [s1, s2, s3, s4, s5, s6, s7, s8, s9, s10, s11, s12] at hg
  all_goals first | (refine qM rfl rfl ?_) | skip
  all_goals first | refine qT rfl rfl ?_ | refine q1 rfl rfl rfl ?_ | refine q0 rfl rfl rfl ?_ | refine qgP1 rfl rfl rfl (fun hg => ?_) (fun hg => ?_) | refine qgP0 rfl rfl rfl (fun hg => ?_) (fun hg => ?_)
  all_goals try simp only [s1, s2, s3, s4, s5, s6, s7, s8, s9, s10, s11, s12] at hg
  all_goals first | (refine qM rfl rfl ?_) | skip
  all_goals first | refine qT rfl rfl ?_ | refine q1 rfl rfl rfl ?_ | refine q0 rfl rfl rfl ?_ | refine qgP1 rfl rfl rfl (fun hg => ?_) (fun hg => ?_) | refine qgP0 rfl rfl rfl (fun hg => ?_) (fun hg => ?_)
  all_goals try simp only [s1, s2, s3, s4, s5, s6, s7, s8, s9, s10, s11, s12] at hg
  all_goals first | (refine qQ (Q_slsH rfl rfl rfl rfl rfl (by first | omega | (dsimp only; omega) | (simp; omega) | (simp; done))) rfl rfl ?_) | skip
  all_goals first | refine qT rfl rfl ?_ | refine q1 rfl rfl rfl ?_ | refine q0 rfl rfl rfl ?_ | refine qgP1 rfl rfl rfl (fun hg => ?_) (fun hg => ?_) | refine qgP0 rfl rfl rfl (fun hg => ?_) (fun hg => ?_)
  all_goals try simp only [s1, s2, s3, s4, s5, s6, s7, s8, s9, s10, s11, s12] at hg
  all_goals first | (refine qM rfl rfl ?_) | skip
  all_goals first | refine qT rfl rfl ?_ | refine q1 rfl rfl rfl ?_ | refine q0 rfl rfl rfl ?_ | refine qgP1 rfl rfl rfl (fun hg => ?_) (fun hg => ?_) | refine qgP0 rfl rfl rfl (fun hg => ?_) (fun hg => ?_)
  all_goals try simp only [s1, s2, s3, s4, s5, s6, s7, s8, s9, s10, s11, s12] at hg
  all_goals first | (refine qM rfl rfl ?_) | skip
  all_goals first | refine qT rfl rfl ?_ | refine q1 rfl rfl rfl ?_ | refine q0 rfl rfl rfl ?_ | refine qgP1 rfl rfl rfl (fun hg => ?_) (fun hg => ?_) | refine qgP0 rfl rfl rfl (fun hg => ?_) (fun hg => ?_)
  all_goals try simp only [s1, s2, s3, s4, s5, s6, s7, s8, s9, s10, s11, s12] at hg
  all_goals first | (refine qQ (Q_slsH rfl rfl rfl rfl rfl (by first | omega | (dsimp only; omega) | (simp; omega) | (simp; done))) rfl rfl ?_) | skip
  all_goals first | refine qT rfl rfl ?_ | refine q1 rfl rfl rfl ?_ | refine q0 rfl rfl rfl ?_ | refine qgP1 rfl rfl rfl (fun hg => ?_) (fun hg => ?_) | refine qgP0 rfl rfl rfl (fun hg => ?_) (fun hg => ?_)
  all_goals try simp only [s1, s2, s3, s4, s5, s6, s7, s8, s9, s10, s11, s12] at hg
  all_goals first | (refine qQ (Q_call (eqInt64S_con t t' A B (n + roomN n) (n + roomN n) (n + roomN n) (n + roomN n) (by omega) (by omega) (by omega)) [] rfl rfl (Fits.mk' (vHc rfl (vHc rfl vHn)) rfl rfl (by simp)) rfl rfl) rfl rfl ?_) | skip
  all_goals first | refine qQ (Q_pick_t rfl (by with_reducible rfl) rfl rfl) rfl rfl ?_ | refine qQ (Q_pick_f rfl (by with_reducible rfl) rfl rfl) rfl rfl ?_
  all_goals first | (refine qA rfl rfl ?_)
  all_goals refine QW_nil ?_
  all_goals with_reducible refine tN ?_
  all_goals (
   refine CW_ret ?_)
  all_goals (
   refine exitQ (.inr rfl) 2 (.cons (.tmp rfl rfl) .nil) ?_ rfl (vHc rfl (vHc rfl vHn)) rfl rfl
   first | (exfalso; simp at hg; done) | (simp only [resV, ren, V.bool.injEq]; rw [← hA, List.take_length, hA, ← hB, List.take_length]))
end Go.Proofs.Ytchikadcicecoaa
namespace Go.Proofs.Ytchikadcicecoaa
set_option maxRecDepth 10000
set_option linter.unusedSimpArgs false
set_option linter.unusedVariables false
attribute [local irreducible] CW OW QW QOp Con thenP inBlockP AW QX RW AX
theorem eqMoebius_con (a b : List Int) (ha : a.length = 4) (hb : b.length = 4) : ConQ Try.prog [] 7 [.arr a, .arr b] [] (.bool (decide (a = b))) := by
  refine conW tab_ok [(0, .arr a), (1, .arr b)] 0 [] [] Try.func7 rfl rfl rfl rfl rfl rfl rfl rfl rfl ?_
  refine cR ?_
  iterate 2 refine oBox rfl rfl rfl rfl rfl rfl ?_
  refine oA rfl rfl ?_
  refine oN ?_
  refine CW_seq ?_
  refine cR ?_
  refine oA rfl rfl ?_
  refine oN ?_
  refine CW_block ?_
  refine CW_loop (ι := Nat) (fun i => i ≤ 4 ∧ a.take i = b.take i) (fun i => ⟨[(2, .ptr 0 0), (3, .ptr 1 0), (5, .int i)], [(0, .ints 23 a), (1, .ints 23 b)], 2⟩) (fun i => 4 - i) 0 ?_ ?_ ?_
  · exact ⟨Nat.zero_le _, rfl⟩
  · refine View.mk' [] rfl rfl rfl ?_ ?_
    repeat' first | exact vFn | refine vFc rfl ?_ | exact vHn | refine vHc rfl ?_ | refine vFc (congrArg (fun z => some (V.int z)) ?_) ?_ | refine vHc (congrArg (fun z => some (Blk.ints _ z)) ?_) ?_ | refine vFc (congrArg (fun z => some (V.bool z)) ?_) ?_ | refine vFs rfl rfl ?_ ?_
  rintro i ⟨hi, hi2⟩
  refine CW_seq ?_
  refine cR ?_
  refine oM rfl rfl ?_
  refine oQ (Q_bin rfl rfl rfl) rfl rfl ?_
  refine oN ?_
  first | refine cT rfl ?_ | refine cF rfl ?_ | refine CW_cond rfl (fun hc => ?_) (fun hc => ?_)
  all_goals try simp only [s1, s2, s3, s4, s5, s6, s7, s8, s9, s10, s11, s12] at hc
  all_goals first
    | (
     refine CW_skip ?_)
    | (
     refine CW_exit ?_)
  all_goals first
    | with_reducible refine tR ?_
    | with_reducible refine tE ?_
    | (
     with_reducible refine tN ?_
     refine CW_seq ?_
     refine CW_block ?_
     refine CW_seq ?_
     refine CW_draw lateOk (by decide +kernel) ?_
     refine qM rfl rfl ?_
     first | refine qQ (Ia0 rfl rfl rfl rfl rfl rfl) rfl rfl ?_ | refine qQ (Ia1 rfl rfl rfl rfl rfl rfl) rfl rfl ?_
     refine qQ (Ld rfl rfl rfl rfl) rfl rfl ?_
     refine qM rfl rfl ?_
     first | refine qQ (Ia0 rfl rfl rfl rfl rfl rfl) rfl rfl ?_ | refine qQ (Ia1 rfl rfl rfl rfl rfl rfl) rfl rfl ?_
     refine qQ (Ld rfl rfl rfl rfl) rfl rfl ?_
     refine qQ (Q_bin rfl rfl rfl) rfl rfl ?_
     refine QW_nil ?_
     all_goals with_reducible refine tN ?_
     all_goals (
      first | refine cT rfl ?_ | refine cF rfl ?_ | refine CW_cond rfl (fun hc => ?_) (fun hc => ?_)
      all_goals try simp only [s1, s2, s3, s4, s5, s6, s7, s8, s9, s10, s11, s12] at hc
      all_goals first
        | (
         refine CW_skip ?_)
        | (
         refine cR ?_
         refine oA rfl rfl ?_
         refine oN ?_
         refine CW_ret ?_))
     all_goals first | with_reducible refine bN ?_ | with_reducible refine bE ?_ | with_reducible refine bR ?_ | refine bX rfl ?_
     all_goals first
       | with_reducible refine tR ?_
       | with_reducible refine tE ?_
       | (
        with_reducible refine tN ?_
        refine CW_region ?_
        refine oM rfl rfl ?_
        first | refine oQ (Q_binu rfl rfl rfl (by omega)) rfl rfl ?_ | refine oQ (Q_bin rfl rfl rfl) rfl rfl ?_
        refine oA rfl rfl ?_
        refine OW_nil ?_))
  all_goals first
    | with_reducible refine tR ?_
    | with_reducible refine tE ?_
    | (
     with_reducible refine tN ?_
     refine ⟨i + 1, ?_, ?_, View.mk' [] rfl rfl rfl ?_ ?_⟩
     · exact ⟨by omega, take_eq_snoc (by omega) (by omega) hi2 hc⟩
     · omega
     all_goals (repeat' first | exact vFn | refine vFc rfl ?_ | exact vHn | refine vHc rfl ?_ | refine vFc (congrArg (fun z => some (V.int z)) ?_) ?_ | refine vHc (congrArg (fun z => some (Blk.ints _ z)) ?_) ?_ | refine vFc (congrArg (fun z => some (V.bool z)) ?_) ?_ | refine vFs rfl rfl ?_ ?_))
  all_goals first | with_reducible refine bN ?_ | with_reducible refine bE ?_ | with_reducible refine bR ?_ | refine bX rfl ?_
  all_goals first
    | with_reducible refine tR ?_
    | with_reducible refine tE ?_
    | (
     with_reducible refine tN ?_
     refine cR ?_
     refine oA rfl rfl ?_
     refine oN ?_
     refine CW_ret ?_)
  all_goals (
   refine exitQ (.inr rfl) 0 (.cons (.tmp rfl rfl) .nil) ?_ rfl vHn rfl rfl
   simp only [resV, V.bool.injEq]
   first
     | (have e : i = 4 := (by omega); subst e; rw [List.take_of_length_le (by omega), List.take_of_length_le (by omega)] at hi2; simp [hi2]; done)
     | (have h9 := take_ne (A := a) (B := b) (n := 4) (by omega) (by omega) (by omega) hc; symm; exact decide_eq_false (fun h => h9 (by rw [h]))))
theorem eqMoebius_same (a : List Int) (ha : a.length = 4) : ConQ Try.prog [] 7 [.arr a, .arr a] [] (.bool true) := by
  have := eqMoebius_con a a ha ha
  simpa using this
end Go.Proofs.Ytchikadcicecoaa
