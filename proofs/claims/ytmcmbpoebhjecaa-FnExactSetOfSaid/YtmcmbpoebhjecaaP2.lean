/- Contracts: comparing, sorted sets of points. -/
import Derived.Test.YtmcmbpoebhjecaaP1
import Derived.Test.YtmcmbpoebhjecaaB1
namespace Go.Proofs.Ytmcmbpoebhjecaa
attribute [local irreducible] CW OW QW QOp Con thenP inBlockP
set_option maxRecDepth 10000
set_option linter.unusedSimpArgs false
set_option linter.unusedVariables false
def cmpI (a b : Int) : Int := if a < b then -1 else if b < a then 1 else 0
def lexC : List Int → List Int → Int
  | a :: r, b :: s => if a = b then lexC r s else cmpI a b
  | _, _ => 0
theorem lexC_drop : ∀ (i : Nat) (a b : List Int), a.take i = b.take i → i ≤ a.length → i ≤ b.length → lexC a b = lexC (a.drop i) (b.drop i)
  | 0, a, b, _, _, _ => by simp
  | i + 1, a :: r, b :: s, h, h1, h2 => by
    simp only [List.take_succ_cons, List.cons.injEq] at h
    simp only [List.length_cons] at h1 h2
    rw [lexC, if_pos h.1, lexC_drop i r s h.2 (by omega) (by omega)]
    rfl
  | i + 1, [], _, _, h, _ => by simp at h
  | i + 1, _ :: _, [], _, _, h => by simp at h
theorem isNaN_con (x : Int) : ConQ Try.prog [] 147 [.int x] [] (.bool false) := by
  refine conW tab_ok [(0, .int x)] 0 [] [] Try.func147 rfl rfl rfl rfl rfl rfl rfl rfl rfl ?_
  refine cR ?_
  refine oA rfl rfl ?_
  refine oN ?_
  refine cR ?_
  iterate 2 refine oM rfl rfl ?_
  refine oQ (Q_bin rfl rfl rfl) rfl rfl ?_
  refine oA rfl rfl ?_
  refine oN ?_
  refine CW_ret ?_
  all_goals (
   refine exitQ (.inr rfl) 0 (.cons (.tmp rfl rfl) .nil) ?_ rfl vHn rfl rfl
   simp [resV])
theorem cmp_con (a b : Int) : ConQ Try.prog [] 138 [.int a, .int b] [] (.int (cmpI a b)) := by
  refine conW tab_ok [(0, .int a), (1, .int b)] 0 [] [] Try.func138 rfl rfl rfl rfl rfl rfl rfl rfl rfl ?_
  refine cR ?_
  refine oA rfl rfl ?_
  refine oN ?_
  refine cR ?_
  refine oM rfl rfl ?_
  refine oQ (Q_call0 (isNaN_con _) rfl rfl rfl) rfl rfl ?_
  refine oA rfl rfl ?_
  refine oN ?_
  refine cR ?_
  refine oM rfl rfl ?_
  refine oQ (Q_call0 (isNaN_con _) rfl rfl rfl) rfl rfl ?_
  refine oA rfl rfl ?_
  refine oN ?_
  refine CW_seq ?_
  refine cR ?_
  refine oM rfl rfl ?_
  refine oN ?_
  first | refine cT rfl ?_ | refine cF rfl ?_ | refine CW_cond rfl (fun hc => ?_) (fun hc => ?_)
  all_goals try simp only [s1, s2, s3, s4, s5, s6, s7, s8, s9, s10, s11, s12] at hc
  all_goals first
    | (
     refine CW_skip ?_)
    | (
     refine CW_seq ?_
     refine cR ?_
     refine oM rfl rfl ?_
     refine oN ?_
     first | refine cT rfl ?_ | refine cF rfl ?_ | refine CW_cond rfl (fun hc => ?_) (fun hc => ?_)
     all_goals try simp only [s1, s2, s3, s4, s5, s6, s7, s8, s9, s10, s11, s12] at hc
     all_goals first
       | (
        refine CW_skip ?_)
       | (
        refine cR ?_
        refine oA rfl rfl ?_
        refine oN ?_
        refine CW_ret ?_)
     all_goals first
       | with_reducible refine tR ?_
       | with_reducible refine tE ?_
       | (
        with_reducible refine tN ?_
        refine cR ?_
        refine oA rfl rfl ?_
        refine oN ?_
        refine CW_ret ?_))
  all_goals first
    | with_reducible refine tR ?_
    | with_reducible refine tE ?_
    | (
     with_reducible refine tN ?_
     refine CW_seq ?_
     refine cR ?_
     refine oM rfl rfl ?_
     refine oN ?_
     first | refine cT rfl ?_ | refine cF rfl ?_ | refine CW_cond rfl (fun hc => ?_) (fun hc => ?_)
     all_goals try simp only [s1, s2, s3, s4, s5, s6, s7, s8, s9, s10, s11, s12] at hc
     all_goals first
       | (
        refine CW_skip ?_)
       | (
        refine cR ?_
        refine oA rfl rfl ?_
        refine oN ?_
        refine CW_ret ?_)
     all_goals first
       | with_reducible refine tR ?_
       | with_reducible refine tE ?_
       | (
        with_reducible refine tN ?_
        refine CW_seq ?_
        refine cR ?_
        iterate 2 refine oM rfl rfl ?_
        refine oQ (Q_bin rfl rfl rfl) rfl rfl ?_
        refine oN ?_
        first | refine cT rfl ?_ | refine cF rfl ?_ | refine CW_cond rfl (fun hc => ?_) (fun hc => ?_)
        all_goals try simp only [s1, s2, s3, s4, s5, s6, s7, s8, s9, s10, s11, s12] at hc
        all_goals first
          | (
           refine CW_skip ?_)
          | (
           refine cR ?_
           refine oA rfl rfl ?_
           refine oN ?_
           refine CW_ret ?_)
        all_goals first
          | with_reducible refine tR ?_
          | with_reducible refine tE ?_
          | (
           with_reducible refine tN ?_
           refine CW_seq ?_
           refine cR ?_
           iterate 2 refine oM rfl rfl ?_
           refine oQ (Q_bin rfl rfl rfl) rfl rfl ?_
           refine oN ?_
           first | refine cT rfl ?_ | refine cF rfl ?_ | refine CW_cond rfl (fun hc => ?_) (fun hc => ?_)
           all_goals try simp only [s1, s2, s3, s4, s5, s6, s7, s8, s9, s10, s11, s12] at hc
           all_goals first
             | (
              refine CW_skip ?_)
             | (
              refine cR ?_
              refine oA rfl rfl ?_
              refine oN ?_
              refine CW_ret ?_)
           all_goals first
             | with_reducible refine tR ?_
             | with_reducible refine tE ?_
             | (
              with_reducible refine tN ?_
              refine cR ?_
              refine oA rfl rfl ?_
              refine oN ?_
              refine CW_ret ?_))))
  all_goals (
   refine exitQ (.inr rfl) 0 (.cons (.tmp rfl rfl) .nil) ?_ rfl vHn rfl rfl
   simp only [resV, cmpI, V.int.injEq]
   (split <;> (try split) <;> omega))
theorem lexC_at {a b : List Int} {i : Nat} (ha : i < a.length) (hb : i < b.length) (h : a.take i = b.take i) (hne : cmpI (a.getD i 0) (b.getD i 0) ≠ 0) : lexC a b = cmpI (a.getD i 0) (b.getD i 0) := by
  rw [lexC_drop i a b h (by omega) (by omega), List.drop_eq_getElem_cons ha, List.drop_eq_getElem_cons hb]
  have e1 : a.getD i 0 = a[i] := by simp [List.getD, ha]
  have e2 : b.getD i 0 = b[i] := by simp [List.getD, hb]
  rw [e1, e2] at hne ⊢
  have : a[i] ≠ b[i] := fun h => by rw [h] at hne; simp [cmpI] at hne
  rw [lexC, if_neg this]
theorem lexC_self (a : List Int) : lexC a a = 0 := by
  induction a with
  | nil => rfl
  | cons x r ih => rw [lexC, if_pos rfl, ih]
theorem cmpI_zero {a b : Int} (h : cmpI a b = 0) : a = b := by
  unfold cmpI at h
  split at h
  · cases h
  · split at h
    · cases h
    · omega
theorem slicesCompare_con (t t' : TypeId) (A B : List Int) (n k k' : Nat) (hA : A.length = n) (hB : B.length = n) (h6 : n ≤ 1000000000) : ConQ Try.prog [] 123 [.slice 0 0 n k, .slice 1 0 n k'] [(0, .ints t A), (1, .ints t' B)] (.int (lexC A B)) := by
  refine conW tab_ok [(0, .slice 0 0 n k), (1, .slice 1 0 n k')] 2 [0, 1] [0, 1] Try.func123 rfl rfl rfl rfl rfl rfl rfl rfl rfl ?_
  refine cR ?_
  refine oA rfl rfl ?_
  refine oN ?_
  refine CW_seq ?_
  refine cR ?_
  refine oM rfl rfl ?_
  first | refine oQ (Q_len rfl rfl rfl rfl) rfl rfl ?_ | refine oQ (Q_len0 rfl rfl rfl rfl) rfl rfl ?_
  refine oM rfl rfl ?_
  refine oN ?_
  refine CW_block ?_
  refine CW_loop (ι := Nat) (fun i => i ≤ n ∧ A.take i = B.take i) (fun i => ⟨[(0, .slice 0 0 n k), (1, .slice 1 0 n k'), (9, .slice 0 0 n k), (10, .int n), (11, .int i)], [(0, .ints t A), (1, .ints t' B)], 2⟩) (fun i => n - i) 0 ?_ ?_ ?_
  · exact ⟨Nat.zero_le _, rfl⟩
  · refine View.mk' [] rfl rfl rfl ?_ ?_
    repeat' first | exact vFn | refine vFc rfl ?_ | exact vHn | refine vHc rfl ?_ | refine vFc (congrArg (fun z => some (V.int z)) ?_) ?_ | refine vHc (congrArg (fun z => some (Blk.ints _ z)) ?_) ?_ | refine vFc (congrArg (fun z => some (V.bool z)) ?_) ?_ | refine vFs rfl rfl ?_ ?_
  rintro i ⟨hi, hi2⟩
  refine cR ?_
  refine oQ (Q_bin rfl rfl rfl) rfl rfl ?_
  refine oN ?_
  refine CW_seq ?_
  first | refine cT rfl ?_ | refine cF rfl ?_ | refine CW_cond rfl (fun hc => ?_) (fun hc => ?_)
  all_goals try simp only [s1, s2, s3, s4, s5, s6, s7, s8, s9, s10, s11, s12] at hc
  all_goals try (exfalso; omega; done)
  all_goals first
    | (
     refine CW_skip ?_)
    | (
     refine CW_exit ?_)
  all_goals first
    | with_reducible refine tR ?_
    | with_reducible refine tE ?_
    | (
     with_reducible refine tN ?_
     refine CW_seq ?_
     refine CW_block ?_
     refine cR ?_
     refine oM rfl rfl ?_
     first | refine oQ (Is0 rfl rfl rfl rfl rfl rfl) rfl rfl ?_ | refine oQ (Is1 rfl rfl rfl rfl rfl rfl) rfl rfl ?_
     refine oQ (Ld rfl rfl rfl rfl) rfl rfl ?_
     iterate 2 refine oA rfl rfl ?_
     refine oN ?_
     refine CW_seq ?_
     refine cR ?_
     iterate 2 refine oM rfl rfl ?_
     first | refine oQ (Q_len rfl rfl rfl rfl) rfl rfl ?_ | refine oQ (Q_len0 rfl rfl rfl rfl) rfl rfl ?_
     refine oQ (Q_bin rfl rfl rfl) rfl rfl ?_
     refine oN ?_
     first | refine cT rfl ?_ | refine cF rfl ?_ | refine CW_cond rfl (fun hc => ?_) (fun hc => ?_)
     all_goals try simp only [s1, s2, s3, s4, s5, s6, s7, s8, s9, s10, s11, s12] at hc
     all_goals try (exfalso; omega; done)
     all_goals first
       | (
        refine CW_skip ?_)
       | (
        refine cR ?_
        refine oA rfl rfl ?_
        refine oN ?_
        refine CW_ret ?_)
     all_goals first
       | with_reducible refine tR ?_
       | with_reducible refine tE ?_
       | (
        with_reducible refine tN ?_
        refine cR ?_
        iterate 2 refine oM rfl rfl ?_
        first | refine oQ (Is0 rfl rfl rfl rfl rfl rfl) rfl rfl ?_ | refine oQ (Is1 rfl rfl rfl rfl rfl rfl) rfl rfl ?_
        refine oQ (Ld rfl rfl rfl rfl) rfl rfl ?_
        refine oA rfl rfl ?_
        refine oN ?_
        refine cR ?_
        iterate 2 refine oM rfl rfl ?_
        refine oQ (Q_call0 (cmp_con _ _) rfl rfl rfl) rfl rfl ?_
        refine oA rfl rfl ?_
        refine oN ?_
        refine cR ?_
        refine oM rfl rfl ?_
        refine oQ (Q_bin rfl rfl rfl) rfl rfl ?_
        refine oN ?_
        first | refine cT rfl ?_ | refine cF rfl ?_ | refine CW_cond rfl (fun hc => ?_) (fun hc => ?_)
        all_goals try simp only [s1, s2, s3, s4, s5, s6, s7, s8, s9, s10, s11, s12] at hc
        all_goals try (exfalso; omega; done)
        all_goals first
          | (
           refine CW_skip ?_)
          | (
           refine cR ?_
           refine oM rfl rfl ?_
           refine oA rfl rfl ?_
           refine oN ?_
           refine CW_ret ?_))
     all_goals first | with_reducible refine bN ?_ | with_reducible refine bE ?_ | with_reducible refine bR ?_ | refine bX rfl ?_
     all_goals first
       | with_reducible refine tR ?_
       | with_reducible refine tE ?_
       | (
        with_reducible refine tN ?_
        refine CW_region ?_
        first | refine oQ (Q_binu rfl rfl rfl (by omega)) rfl rfl ?_ | refine oQ (Q_bin rfl rfl rfl) rfl rfl ?_
        refine oM rfl rfl ?_
        refine OW_nil ?_))
  all_goals first
    | with_reducible refine tR ?_
    | with_reducible refine tE ?_
    | (
     with_reducible refine tN ?_
     refine ⟨i + 1, ?_, ?_, View.mk' [] rfl rfl rfl ?_ ?_⟩
     · exact ⟨by omega, take_eq_snoc (by omega) (by omega) hi2 (cmpI_zero hc)⟩
     · omega
     all_goals (repeat' first | exact vFn | refine vFc rfl ?_ | exact vHn | refine vHc rfl ?_ | refine vFc (congrArg (fun z => some (V.int z)) ?_) ?_ | refine vHc (congrArg (fun z => some (Blk.ints _ z)) ?_) ?_ | refine vFc (congrArg (fun z => some (V.bool z)) ?_) ?_ | refine vFs rfl rfl ?_ ?_))
  all_goals first | with_reducible refine bN ?_ | with_reducible refine bE ?_ | with_reducible refine bR ?_ | refine bX rfl ?_
  all_goals first
    | with_reducible refine tR ?_
    | with_reducible refine tE ?_
    | (
     with_reducible refine tN ?_
     refine CW_seq ?_
     refine cR ?_
     refine oM rfl rfl ?_
     first | refine oQ (Q_len rfl rfl rfl rfl) rfl rfl ?_ | refine oQ (Q_len0 rfl rfl rfl rfl) rfl rfl ?_
     refine oM rfl rfl ?_
     first | refine oQ (Q_len rfl rfl rfl rfl) rfl rfl ?_ | refine oQ (Q_len0 rfl rfl rfl rfl) rfl rfl ?_
     refine oQ (Q_bin rfl rfl rfl) rfl rfl ?_
     refine oN ?_
     first | refine cT rfl ?_ | refine cF rfl ?_ | refine CW_cond rfl (fun hc => ?_) (fun hc => ?_)
     all_goals try simp only [s1, s2, s3, s4, s5, s6, s7, s8, s9, s10, s11, s12] at hc
     all_goals try (exfalso; omega; done)
     all_goals first
       | (
        refine CW_skip ?_)
       | (
        refine cR ?_
        refine oA rfl rfl ?_
        refine oN ?_
        refine CW_ret ?_)
     all_goals first
       | with_reducible refine tR ?_
       | with_reducible refine tE ?_
       | (
        with_reducible refine tN ?_
        refine cR ?_
        refine oA rfl rfl ?_
        refine oN ?_
        refine CW_ret ?_))
  all_goals (
   refine exitQ (.inr rfl) 2 (.cons (.tmp rfl rfl) .nil) ?_ rfl (vHc rfl (vHc rfl vHn)) rfl rfl
   first
     | exact congrArg V.int (lexC_at (by omega) (by omega) hi2 hc).symm
     | (have e : i = n := by omega
        subst e
        rw [List.take_of_length_le (by omega), List.take_of_length_le (by omega)] at hi2
        subst hi2
        exact congrArg V.int (lexC_self _).symm))
theorem compareTriples_con (a b : List Int) (ha : a.length = 3) (hb : b.length = 3) : ConQ Try.prog [] 108 [.arr a, .arr b] [] (.int (lexC a b)) := by
  refine conW tab_ok [(0, .arr a), (1, .arr b)] 0 [] [] Try.func108 rfl rfl rfl rfl rfl rfl rfl rfl rfl ?_
  refine cR ?_
  iterate 2 refine oBox rfl rfl rfl rfl rfl rfl ?_
  refine oA rfl rfl ?_
  refine oN ?_
  refine CW_seq ?_
  refine CW_draw lateOk (by decide +kernel) ?_
  iterate 2 refine qQ (Q_slaF rfl rfl rfl rfl) rfl rfl ?_
  refine qQ (Q_call (slicesCompare_con 49 49 a b 3 3 3 ha hb (by omega)) [] rfl rfl (Fits.mk' (vHc rfl (vHc rfl vHn)) rfl rfl (by simp)) rfl rfl) rfl rfl ?_
  refine qA rfl rfl ?_
  refine QW_nil ?_
  all_goals with_reducible refine tN ?_
  all_goals (
   refine CW_ret ?_)
  all_goals (
   exact exitQ (.inr rfl) 0 (.cons (.tmp rfl rfl) .nil) rfl rfl vHn rfl rfl)
/-- a list of triples grows from place to place, up to place n -/
def growsB (M : List Int) (n : Nat) : Bool := (List.range (n - 1)).all fun i => decide (lexC (elemAt 3 M i) (elemAt 3 M (i + 1)) < 0)
theorem grows_no {M : List Int} {n i : Nat} (hi : i + 1 < n) (h : ¬ lexC (elemAt 3 M i) (elemAt 3 M (i + 1)) < 0) : growsB M n = false := by
  unfold growsB
  rw [List.all_eq_false]
  exact ⟨i, by simp; omega, by simp [h]⟩
theorem grows_yes {M : List Int} {n : Nat} (h : ∀ i, i + 1 < n → lexC (elemAt 3 M i) (elemAt 3 M (i + 1)) < 0) : growsB M n = true := by
  unfold growsB
  rw [List.all_eq_true]
  intro i hi
  simp only [List.mem_range] at hi
  simpa using h i (by omega)
theorem isSet_con (tM : TypeId) (M : List Int) (n k : Nat) (hM : n * 3 ≤ M.length) (hn : n ≤ 1000000000) : ConQ Try.prog [] 91 [.slice 0 0 n k] [(0, .ints tM M)] (.bool (growsB M n && decide ((n : Int) ≤ 60))) := by
  refine conW tab_ok [(0, .slice 0 0 n k)] 1 [0] [0] Try.func91 rfl rfl rfl rfl rfl rfl rfl rfl rfl ?_
  refine cR ?_
  refine oA rfl rfl ?_
  refine oN ?_
  refine CW_seq ?_
  refine cR ?_
  refine oA rfl rfl ?_
  refine oN ?_
  refine CW_block ?_
  refine CW_loop (ι := Nat) (fun j => (j ≤ n) ∧ ∀ i, i < j → lexC (elemAt 3 M i) (elemAt 3 M (i + 1)) < 0) (fun j => ⟨[(0, .slice 0 0 n k), (3, .int ((j + 1 : Nat) : Int))], [(0, .ints tM M)], 1⟩) (fun j => n - j) 0 ?_ ?_ ?_
  · exact ⟨Nat.zero_le _, fun i h => absurd h (Nat.not_lt_zero _)⟩
  · refine View.mk' [] rfl rfl rfl ?_ ?_
    repeat' first | exact vFn | refine vFc rfl ?_ | exact vHn | refine vHc rfl ?_ | refine vFc (congrArg (fun z => some (V.int z)) ?_) ?_ | refine vHc (congrArg (fun z => some (Blk.ints _ z)) ?_) ?_ | refine vFc (congrArg (fun z => some (V.bool z)) ?_) ?_ | refine vFs rfl rfl ?_ ?_
  rintro j ⟨hj, hj2⟩
  refine CW_seq ?_
  refine cR ?_
  iterate 2 refine oM rfl rfl ?_
  first | refine oQ (Q_len rfl rfl rfl rfl) rfl rfl ?_ | refine oQ (Q_len0 rfl rfl rfl rfl) rfl rfl ?_
  refine oQ (Q_bin rfl rfl rfl) rfl rfl ?_
  refine oN ?_
  first | refine cT rfl ?_ | refine cF rfl ?_ | refine CW_cond rfl (fun hc => ?_) (fun hc => ?_)
  all_goals try simp only [s1, s2, s3, s4, s5, s6, s7, s8, s9, s10, s11, s12] at hc
  all_goals first
    | (
     refine CW_skip ?_)
    | (
     refine CW_exit ?_)
  all_goals first
    | with_reducible refine tR ?_
    | with_reducible refine tE ?_
    | (
     with_reducible refine tN ?_
     refine CW_seq ?_
     refine CW_block ?_
     refine CW_seq ?_
     refine CW_draw lateOk (by decide +kernel) ?_
     iterate 2 refine qM rfl rfl ?_
     refine qQ (Q_binu (z := ((j : Nat) : Int)) rfl rfl (congrArg some (by omega)) (by omega)) rfl rfl ?_
     first | refine qQ (Q_ixs0z 3 rfl rfl rfl rfl rfl rfl (by first | omega | (dsimp only; omega) | (simp; omega) | (simp; done))) rfl rfl ?_ | refine qQ (Q_ixsz 3 rfl rfl rfl rfl rfl rfl (by first | omega | (dsimp only; omega) | (simp; omega) | (simp; done))) rfl rfl ?_
     first | refine qQ (Lw rfl rfl rfl rfl) rfl rfl ?_ | refine qQ (La rfl rfl rfl rfl rfl) rfl rfl ?_
     iterate 2 refine qM rfl rfl ?_
     first | refine qQ (Q_ixs0z 3 rfl rfl rfl rfl rfl rfl (by first | omega | (dsimp only; omega) | (simp; omega) | (simp; done))) rfl rfl ?_ | refine qQ (Q_ixsz 3 rfl rfl rfl rfl rfl rfl (by first | omega | (dsimp only; omega) | (simp; omega) | (simp; done))) rfl rfl ?_
     first | refine qQ (Lw rfl rfl rfl rfl) rfl rfl ?_ | refine qQ (La rfl rfl rfl rfl rfl) rfl rfl ?_
     refine qQ (Q_call0 (compareTriples_con _ _ (elemAt_length hM (by omega)) (elemAt_length hM (by omega))) rfl rfl rfl) rfl rfl ?_
     refine qQ (Q_bin rfl rfl rfl) rfl rfl ?_
     refine QW_nil ?_
     all_goals with_reducible refine tN ?_
     all_goals (
      first | refine cT rfl ?_ | refine cF rfl ?_ | refine CW_cond rfl (fun hc => ?_) (fun hc => ?_)
      all_goals try simp only [s1, s2, s3, s4, s5, s6, s7, s8, s9, s10, s11, s12] at hc
      all_goals first
        | (
         refine CW_skip ?_)
        | (
         refine cR ?_
         refine oA rfl rfl ?_
         refine oN ?_
         refine CW_ret ?_))
     all_goals first | with_reducible refine bN ?_ | with_reducible refine bE ?_ | with_reducible refine bR ?_ | refine bX rfl ?_
     all_goals first
       | with_reducible refine tR ?_
       | with_reducible refine tE ?_
       | (
        with_reducible refine tN ?_
        refine CW_region ?_
        refine oM rfl rfl ?_
        first | refine oQ (Q_binu rfl rfl rfl (by omega)) rfl rfl ?_ | refine oQ (Q_bin rfl rfl rfl) rfl rfl ?_
        refine oA rfl rfl ?_
        refine OW_nil ?_))
  all_goals first
    | with_reducible refine tR ?_
    | with_reducible refine tE ?_
    | (
     with_reducible refine tN ?_
     refine ⟨j + 1, ?_, ?_, View.mk' [] rfl rfl rfl ?_ ?_⟩
     · refine ⟨by omega, fun i hi => ?_⟩
       by_cases e : i = j
       · subst e; omega
       · exact hj2 i (by omega)
     · omega
     all_goals (repeat' first | exact vFn | refine vFc rfl ?_ | exact vHn | refine vHc rfl ?_ | refine vFc (congrArg (fun z => some (V.int z)) ?_) ?_ | refine vHc (congrArg (fun z => some (Blk.ints _ z)) ?_) ?_ | refine vFc (congrArg (fun z => some (V.bool z)) ?_) ?_ | refine vFs rfl rfl ?_ ?_))
  all_goals first | with_reducible refine bN ?_ | with_reducible refine bE ?_ | with_reducible refine bR ?_ | refine bX rfl ?_
  all_goals first
    | with_reducible refine tR ?_
    | with_reducible refine tE ?_
    | (
     with_reducible refine tN ?_
     refine cR ?_
     refine oM rfl rfl ?_
     first | refine oQ (Q_len rfl rfl rfl rfl) rfl rfl ?_ | refine oQ (Q_len0 rfl rfl rfl rfl) rfl rfl ?_
     refine oQ (Q_bin rfl rfl rfl) rfl rfl ?_
     refine oA rfl rfl ?_
     refine oN ?_
     refine CW_ret ?_)
  all_goals (
   refine exitQ (.inr rfl) 1 (.cons (.tmp rfl rfl) .nil) ?_ rfl (vHc rfl vHn) rfl rfl
   simp only [resV, V.bool.injEq]
   first
     | (rw [grows_no (i := j) (by omega) (by omega)]; rfl)
     | (rw [grows_yes (fun i hi => hj2 i (by omega))]; rfl))
theorem l07Before_con (a b : List Int) (ha : a.length = 3) (hb : b.length = 3) : ConQ Try.prog [] 103 [.arr a, .arr b] [] (.bool (decide (lexC a b < 0))) := by
  refine conW tab_ok [(0, .arr a), (1, .arr b)] 0 [] [] Try.func103 rfl rfl rfl rfl rfl rfl rfl rfl rfl ?_
  refine cR ?_
  iterate 2 refine oBox rfl rfl rfl rfl rfl rfl ?_
  refine oA rfl rfl ?_
  refine oN ?_
  refine CW_seq ?_
  refine cR ?_
  refine oA rfl rfl ?_
  refine oN ?_
  refine CW_block ?_
  refine CW_loop (ι := Nat) (fun i => i ≤ 3 ∧ a.take i = b.take i) (fun i => ⟨[(2, .ptr 0 0), (3, .ptr 1 0), (5, .int i)], [(0, .ints 49 a), (1, .ints 49 b)], 2⟩) (fun i => 3 - i) 0 ?_ ?_ ?_
  · exact ⟨Nat.zero_le _, rfl⟩
  · refine View.mk' [] rfl rfl rfl ?_ ?_
    repeat' first | exact vFn | refine vFc rfl ?_ | exact vHn | refine vHc rfl ?_ | refine vFc (congrArg (fun z => some (V.int z)) ?_) ?_ | refine vHc (congrArg (fun z => some (Blk.ints _ z)) ?_) ?_ | refine vFc (congrArg (fun z => some (V.bool z)) ?_) ?_ | refine vFs rfl rfl ?_ ?_
  rintro i ⟨hi, hi2⟩
  refine CW_seq ?_
  refine cR ?_
  refine oM rfl rfl ?_
  refine oQ (Q_bin rfl rfl rfl) rfl rfl ?_
  refine oN ?_
  first | refine cT rfl ?_ | refine cF rfl ?_ | refine CW_cond rfl (fun hc => ?_) (fun hc => ?_)
  all_goals try simp only [s1, s2, s3, s4, s5, s6, s7, s8, s9, s10, s11, s12] at hc
  all_goals first
    | (
     refine CW_skip ?_)
    | (
     refine CW_exit ?_)
  all_goals first
    | with_reducible refine tR ?_
    | with_reducible refine tE ?_
    | (
     with_reducible refine tN ?_
     refine CW_seq ?_
     refine CW_block ?_
     refine CW_seq ?_
     refine CW_draw lateOk (by decide +kernel) ?_
     refine qM rfl rfl ?_
     first | refine qQ (Ia0 rfl rfl rfl rfl rfl rfl) rfl rfl ?_ | refine qQ (Ia1 rfl rfl rfl rfl rfl rfl) rfl rfl ?_
     refine qQ (Ld rfl rfl rfl rfl) rfl rfl ?_
     refine qM rfl rfl ?_
     first | refine qQ (Ia0 rfl rfl rfl rfl rfl rfl) rfl rfl ?_ | refine qQ (Ia1 rfl rfl rfl rfl rfl rfl) rfl rfl ?_
     refine qQ (Ld rfl rfl rfl rfl) rfl rfl ?_
     refine qQ (Q_bin rfl rfl rfl) rfl rfl ?_
     refine QW_nil ?_
     all_goals with_reducible refine tN ?_
     all_goals (
      first | refine cT rfl ?_ | refine cF rfl ?_ | refine CW_cond rfl (fun hc => ?_) (fun hc => ?_)
      all_goals try simp only [s1, s2, s3, s4, s5, s6, s7, s8, s9, s10, s11, s12] at hc
      all_goals first
        | (
         refine CW_skip ?_)
        | (
         refine CW_seq ?_
         refine CW_draw lateOk (by decide +kernel) ?_
         refine qM rfl rfl ?_
         first | refine qQ (Ia0 rfl rfl rfl rfl rfl rfl) rfl rfl ?_ | refine qQ (Ia1 rfl rfl rfl rfl rfl rfl) rfl rfl ?_
         refine qQ (Ld rfl rfl rfl rfl) rfl rfl ?_
         refine qM rfl rfl ?_
         first | refine qQ (Ia0 rfl rfl rfl rfl rfl rfl) rfl rfl ?_ | refine qQ (Ia1 rfl rfl rfl rfl rfl rfl) rfl rfl ?_
         refine qQ (Ld rfl rfl rfl rfl) rfl rfl ?_
         refine qQ (Q_bin rfl rfl rfl) rfl rfl ?_
         refine qA rfl rfl ?_
         refine QW_nil ?_
         all_goals with_reducible refine tN ?_
         all_goals (
          refine CW_ret ?_)))
     all_goals first | with_reducible refine bN ?_ | with_reducible refine bE ?_ | with_reducible refine bR ?_ | refine bX rfl ?_
     all_goals first
       | with_reducible refine tR ?_
       | with_reducible refine tE ?_
       | (
        with_reducible refine tN ?_
        refine CW_region ?_
        refine oM rfl rfl ?_
        first | refine oQ (Q_binu rfl rfl rfl (by omega)) rfl rfl ?_ | refine oQ (Q_bin rfl rfl rfl) rfl rfl ?_
        refine oA rfl rfl ?_
        refine OW_nil ?_))
  all_goals first
    | with_reducible refine tR ?_
    | with_reducible refine tE ?_
    | (
     with_reducible refine tN ?_
     refine ⟨i + 1, ?_, ?_, View.mk' [] rfl rfl rfl ?_ ?_⟩
     · exact ⟨by omega, take_eq_snoc (by omega) (by omega) hi2 hc⟩
     · omega
     all_goals (repeat' first | exact vFn | refine vFc rfl ?_ | exact vHn | refine vHc rfl ?_ | refine vFc (congrArg (fun z => some (V.int z)) ?_) ?_ | refine vHc (congrArg (fun z => some (Blk.ints _ z)) ?_) ?_ | refine vFc (congrArg (fun z => some (V.bool z)) ?_) ?_ | refine vFs rfl rfl ?_ ?_))
  all_goals first | with_reducible refine bN ?_ | with_reducible refine bE ?_ | with_reducible refine bR ?_ | refine bX rfl ?_
  all_goals first
    | with_reducible refine tR ?_
    | with_reducible refine tE ?_
    | (
     with_reducible refine tN ?_
     refine cR ?_
     refine oA rfl rfl ?_
     refine oN ?_
     refine CW_ret ?_)
  all_goals (
   refine exitQ (.inr rfl) 0 (.cons (.tmp rfl rfl) .nil) ?_ rfl vHn rfl rfl
   simp only [resV, V.bool.injEq]
   first
     | (have e : i = 3 := (by omega); subst e; rw [List.take_of_length_le (by omega), List.take_of_length_le (by omega)] at hi2; subst hi2; rw [lexC_self]; rfl)
     | (have hne : cmpI (a.getD i 0) (b.getD i 0) ≠ 0 := (fun h => hc (cmpI_zero h))
        rw [lexC_at (by omega) (by omega) hi2 hne]
        unfold cmpI
        rw [Bool.eq_iff_iff, decide_eq_true_iff, decide_eq_true_iff]
        split <;> (try split) <;> omega))
theorem l07Is_con (tM : TypeId) (M : List Int) (n k : Nat) (hM : n * 3 ≤ M.length) (hn : n ≤ 1000000000) : ConQ Try.prog [] 89 [.slice 0 0 n k] [(0, .ints tM M)] (.bool (growsB M n && decide ((n : Int) ≤ 60))) := by
  refine conW tab_ok [(0, .slice 0 0 n k)] 1 [0] [0] Try.func89 rfl rfl rfl rfl rfl rfl rfl rfl rfl ?_
  refine cR ?_
  refine oA rfl rfl ?_
  refine oN ?_
  refine CW_seq ?_
  refine cR ?_
  refine oA rfl rfl ?_
  refine oN ?_
  refine CW_block ?_
  refine CW_loop (ι := Nat) (fun j => (j ≤ n) ∧ ∀ i, i < j → lexC (elemAt 3 M i) (elemAt 3 M (i + 1)) < 0) (fun j => ⟨[(0, .slice 0 0 n k), (3, .int ((j + 1 : Nat) : Int))], [(0, .ints tM M)], 1⟩) (fun j => n - j) 0 ?_ ?_ ?_
  · exact ⟨Nat.zero_le _, fun i h => absurd h (Nat.not_lt_zero _)⟩
  · refine View.mk' [] rfl rfl rfl ?_ ?_
    repeat' first | exact vFn | refine vFc rfl ?_ | exact vHn | refine vHc rfl ?_ | refine vFc (congrArg (fun z => some (V.int z)) ?_) ?_ | refine vHc (congrArg (fun z => some (Blk.ints _ z)) ?_) ?_ | refine vFc (congrArg (fun z => some (V.bool z)) ?_) ?_ | refine vFs rfl rfl ?_ ?_
  rintro j ⟨hj, hj2⟩
  refine CW_seq ?_
  refine cR ?_
  iterate 2 refine oM rfl rfl ?_
  first | refine oQ (Q_len rfl rfl rfl rfl) rfl rfl ?_ | refine oQ (Q_len0 rfl rfl rfl rfl) rfl rfl ?_
  refine oQ (Q_bin rfl rfl rfl) rfl rfl ?_
  refine oN ?_
  first | refine cT rfl ?_ | refine cF rfl ?_ | refine CW_cond rfl (fun hc => ?_) (fun hc => ?_)
  all_goals try simp only [s1, s2, s3, s4, s5, s6, s7, s8, s9, s10, s11, s12] at hc
  all_goals first
    | (
     refine CW_skip ?_)
    | (
     refine CW_exit ?_)
  all_goals first
    | with_reducible refine tR ?_
    | with_reducible refine tE ?_
    | (
     with_reducible refine tN ?_
     refine CW_seq ?_
     refine CW_block ?_
     refine CW_seq ?_
     refine CW_draw lateOk (by decide +kernel) ?_
     iterate 2 refine qM rfl rfl ?_
     refine qQ (Q_binu (z := ((j : Nat) : Int)) rfl rfl (congrArg some (by omega)) (by omega)) rfl rfl ?_
     first | refine qQ (Q_ixs0z 3 rfl rfl rfl rfl rfl rfl (by first | omega | (dsimp only; omega) | (simp; omega) | (simp; done))) rfl rfl ?_ | refine qQ (Q_ixsz 3 rfl rfl rfl rfl rfl rfl (by first | omega | (dsimp only; omega) | (simp; omega) | (simp; done))) rfl rfl ?_
     first | refine qQ (Lw rfl rfl rfl rfl) rfl rfl ?_ | refine qQ (La rfl rfl rfl rfl rfl) rfl rfl ?_
     iterate 2 refine qM rfl rfl ?_
     first | refine qQ (Q_ixs0z 3 rfl rfl rfl rfl rfl rfl (by first | omega | (dsimp only; omega) | (simp; omega) | (simp; done))) rfl rfl ?_ | refine qQ (Q_ixsz 3 rfl rfl rfl rfl rfl rfl (by first | omega | (dsimp only; omega) | (simp; omega) | (simp; done))) rfl rfl ?_
     first | refine qQ (Lw rfl rfl rfl rfl) rfl rfl ?_ | refine qQ (La rfl rfl rfl rfl rfl) rfl rfl ?_
     refine qQ (Q_call0 (l07Before_con _ _ (elemAt_length hM (by omega)) (elemAt_length hM (by omega))) rfl rfl rfl) rfl rfl ?_
     refine qQ (Q_not rfl) rfl rfl ?_
     refine QW_nil ?_
     all_goals with_reducible refine tN ?_
     all_goals (
      first | refine cT rfl ?_ | refine cF rfl ?_ | refine CW_cond rfl (fun hc => ?_) (fun hc => ?_)
      all_goals try simp only [s1, s2, s3, s4, s5, s6, s7, s8, s9, s10, s11, s12] at hc
      all_goals first
        | (
         refine CW_skip ?_)
        | (
         refine cR ?_
         refine oA rfl rfl ?_
         refine oN ?_
         refine CW_ret ?_))
     all_goals first | with_reducible refine bN ?_ | with_reducible refine bE ?_ | with_reducible refine bR ?_ | refine bX rfl ?_
     all_goals first
       | with_reducible refine tR ?_
       | with_reducible refine tE ?_
       | (
        with_reducible refine tN ?_
        refine CW_region ?_
        refine oM rfl rfl ?_
        first | refine oQ (Q_binu rfl rfl rfl (by omega)) rfl rfl ?_ | refine oQ (Q_bin rfl rfl rfl) rfl rfl ?_
        refine oA rfl rfl ?_
        refine OW_nil ?_))
  all_goals first
    | with_reducible refine tR ?_
    | with_reducible refine tE ?_
    | (
     with_reducible refine tN ?_
     refine ⟨j + 1, ?_, ?_, View.mk' [] rfl rfl rfl ?_ ?_⟩
     · refine ⟨by omega, fun i hi => ?_⟩
       by_cases e : i = j
       · subst e; exact hc
       · exact hj2 i (by omega)
     · omega
     all_goals (repeat' first | exact vFn | refine vFc rfl ?_ | exact vHn | refine vHc rfl ?_ | refine vFc (congrArg (fun z => some (V.int z)) ?_) ?_ | refine vHc (congrArg (fun z => some (Blk.ints _ z)) ?_) ?_ | refine vFc (congrArg (fun z => some (V.bool z)) ?_) ?_ | refine vFs rfl rfl ?_ ?_))
  all_goals first | with_reducible refine bN ?_ | with_reducible refine bE ?_ | with_reducible refine bR ?_ | refine bX rfl ?_
  all_goals first
    | with_reducible refine tR ?_
    | with_reducible refine tE ?_
    | (
     with_reducible refine tN ?_
     refine cR ?_
     refine oM rfl rfl ?_
     first | refine oQ (Q_len rfl rfl rfl rfl) rfl rfl ?_ | refine oQ (Q_len0 rfl rfl rfl rfl) rfl rfl ?_
     refine oQ (Q_bin rfl rfl rfl) rfl rfl ?_
     refine oA rfl rfl ?_
     refine oN ?_
     refine CW_ret ?_)
  all_goals (
   refine exitQ (.inr rfl) 1 (.cons (.tmp rfl rfl) .nil) ?_ rfl (vHc rfl vHn) rfl rfl
   simp only [resV, V.bool.injEq]
   first
     | (rw [grows_no (i := j) (by omega) (by omega)]; rfl)
     | (rw [grows_yes (fun i hi => hj2 i (by omega))]; rfl))
end Go.Proofs.Ytmcmbpoebhjecaa
