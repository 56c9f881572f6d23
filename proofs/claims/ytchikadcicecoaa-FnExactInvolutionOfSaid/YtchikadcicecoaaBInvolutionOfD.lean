/- What the last text of InvolutionOf needs, part 4: contracts of functions and plain mathematics. No conditions beyond those each theorem states. -/
import Derived.Deep.Slices
import Derived.Test.YtchikadcicecoaaProg
import Derived.Deep.Quiet
import Derived.Test.YtchikadcicecoaaBInvolutionOfC
namespace Go.Proofs.Ytchikadcicecoaa
theorem TI.of {P : Program} {t : Nat} {x : TI} (h1 : P.underlying t = some x.d) (h2 : (P.info? t).map (fun i => (i.size, i.bytes, i.zero)) = some (x.size, x.bytes, x.z.map (rv fun b => b))) (h3 : ∀ v, x.z = some v → v.ids = []) (h4 : x.g = true → P.eqGuardType P.depth t = false) : x.ok P t := by
  cases hi : P.info? t with
  | none => simp [hi] at h2
  | some i =>
    simp only [hi, Option.map_some, Option.some.injEq, Prod.mk.injEq] at h2
    exact ⟨h1, ⟨i, hi, h2.1, h2.2.1, fun v hv => ⟨by rw [h2.2.2, hv]; rfl, h3 v hv⟩⟩, h4⟩
theorem TI.of0 {P : Program} {t : Nat} {x : TI} (h1 : P.underlying t = some x.d) (h2 : (P.info? t).map (fun i => (i.size, i.bytes)) = some (x.size, x.bytes)) (h3 : x.z = none) (h4 : x.g = true → P.eqGuardType P.depth t = false) : x.ok P t := by
  cases hi : P.info? t with
  | none => simp [hi] at h2
  | some i =>
    simp only [hi, Option.map_some, Option.some.injEq, Prod.mk.injEq] at h2
    exact ⟨h1, ⟨i, hi, h2.1, h2.2, fun v hv => by rw [h3] at hv; cases hv⟩, h4⟩
def tab : TT := [(1, ⟨.func #[] #[] false, 1, 8, none, false⟩),
  (2, ⟨.int .i64, 1, 8, some (.int 0), false⟩),
  (3, ⟨.int .i64, 1, 8, some (.int 0), false⟩),
  (4, ⟨.bool, 1, 1, some (.bool false), false⟩),
  (22, ⟨.array 4 2, 4, 32, some (.arr [0, 0, 0, 0]), true⟩),
  (23, ⟨.array 4 2, 4, 32, some (.arr [0, 0, 0, 0]), true⟩),
  (25, ⟨.func #[2, 2, 2, 2, 2] #[23, 2] false, 1, 8, none, false⟩),
  (26, ⟨.func #[23, 23] #[4] false, 1, 8, none, false⟩),
  (27, ⟨.func #[2, 2, 2, 2, 2] #[4] false, 1, 8, none, false⟩),
  (28, ⟨.slice 2, 1, 24, some (.nilsl), false⟩),
  (29, ⟨.func #[2, 28, 28] #[23, 2] false, 1, 8, none, false⟩),
  (30, ⟨.func #[28, 4] #[28] false, 1, 8, none, false⟩),
  (31, ⟨.func #[28, 28] #[4] false, 1, 8, none, false⟩),
  (32, ⟨.func #[2, 28, 28] #[4] false, 1, 8, none, false⟩),
  (33, ⟨.func #[2, 34, 28] #[2] true, 1, 8, none, false⟩),
  (34, ⟨.slice 23, 1, 24, some (.nilsl), false⟩),
  (35, ⟨.func #[2] #[34] false, 1, 8, none, false⟩),
  (36, ⟨.func #[2, 23, 2] #[2] false, 1, 8, none, false⟩),
  (37, ⟨.func #[2] #[4] false, 1, 8, none, false⟩),
  (38, ⟨.func #[2, 28] #[4] true, 1, 8, none, false⟩),
  (40, ⟨.func #[2, 43] #[23, 4] false, 1, 8, none, false⟩),
  (41, ⟨.func #[2, 2] #[2] false, 1, 8, none, false⟩),
  (42, ⟨.func #[2] #[2] false, 1, 8, none, false⟩),
  (43, ⟨.func #[23] #[4] false, 1, 8, none, false⟩),
  (44, ⟨.func #[28] #[28] false, 1, 8, none, false⟩),
  (45, ⟨.func #[28] #[4] true, 1, 8, none, false⟩),
  (46, ⟨.func #[2, 23, 23] #[23] false, 1, 8, none, false⟩),
  (47, ⟨.func #[2, 2, 2, 2] #[23] false, 1, 8, none, false⟩),
  (48, ⟨.func #[2, 23] #[23] false, 1, 8, none, false⟩),
  (49, ⟨.func #[3] #[3] false, 1, 8, none, false⟩),
  (50, ⟨.func #[2, 23] #[4] false, 1, 8, none, false⟩),
  (51, ⟨.func #[2, 2, 2] #[4] false, 1, 8, none, false⟩),
  (52, ⟨.func #[2, 2, 2] #[2] false, 1, 8, none, false⟩),
  (53, ⟨.array 2 2, 2, 16, some (.arr [0, 0]), true⟩),
  (54, ⟨.func #[2, 2] #[53] false, 1, 8, none, false⟩),
  (55, ⟨.func #[2, 2, 2, 2, 2] #[23] false, 1, 8, none, false⟩),
  (57, ⟨.func #[2, 2] #[2, 2] false, 1, 8, none, false⟩),
  (58, ⟨.func #[28, 2] #[4] false, 1, 8, none, false⟩),
  (59, ⟨.func #[2, 28] #[4] false, 1, 8, none, false⟩),
  (61, ⟨.func #[2, 28] #[28, 4] false, 1, 8, none, false⟩),
  (62, ⟨.func #[28, 2] #[3] false, 1, 8, none, false⟩),
  (63, ⟨.func #[] #[9] false, 1, 8, none, false⟩),
  (66, ⟨.array 0 16, 0, 0, none, false⟩),
  (69, ⟨.func #[] #[3] false, 1, 8, none, false⟩),
  (73, ⟨.func #[79, 79] #[4] false, 1, 8, none, false⟩)]
theorem tab_ok : TOK Try.prog tab :=
  TOK.cons (TI.of0 (by kernel_rfl) (by kernel_rfl) rfl (fun h => by cases h)) <|
  TOK.cons (TI.of (by kernel_rfl) (by kernel_rfl) (fun v hv => by injection hv with hv; subst hv; rfl) (fun h => by cases h)) <|
  TOK.cons (TI.of (by kernel_rfl) (by kernel_rfl) (fun v hv => by injection hv with hv; subst hv; rfl) (fun h => by cases h)) <|
  TOK.cons (TI.of (by kernel_rfl) (by kernel_rfl) (fun v hv => by injection hv with hv; subst hv; rfl) (fun h => by cases h)) <|
  TOK.cons (TI.of (by kernel_rfl) (by kernel_rfl) (fun v hv => by injection hv with hv; subst hv; rfl) (fun _ => by kernel_rfl)) <|
  TOK.cons (TI.of (by kernel_rfl) (by kernel_rfl) (fun v hv => by injection hv with hv; subst hv; rfl) (fun _ => by kernel_rfl)) <|
  TOK.cons (TI.of0 (by kernel_rfl) (by kernel_rfl) rfl (fun h => by cases h)) <|
  TOK.cons (TI.of0 (by kernel_rfl) (by kernel_rfl) rfl (fun h => by cases h)) <|
  TOK.cons (TI.of0 (by kernel_rfl) (by kernel_rfl) rfl (fun h => by cases h)) <|
  TOK.cons (TI.of (by kernel_rfl) (by kernel_rfl) (fun v hv => by injection hv with hv; subst hv; rfl) (fun h => by cases h)) <|
  TOK.cons (TI.of0 (by kernel_rfl) (by kernel_rfl) rfl (fun h => by cases h)) <|
  TOK.cons (TI.of0 (by kernel_rfl) (by kernel_rfl) rfl (fun h => by cases h)) <|
  TOK.cons (TI.of0 (by kernel_rfl) (by kernel_rfl) rfl (fun h => by cases h)) <|
  TOK.cons (TI.of0 (by kernel_rfl) (by kernel_rfl) rfl (fun h => by cases h)) <|
  TOK.cons (TI.of0 (by kernel_rfl) (by kernel_rfl) rfl (fun h => by cases h)) <|
  TOK.cons (TI.of (by kernel_rfl) (by kernel_rfl) (fun v hv => by injection hv with hv; subst hv; rfl) (fun h => by cases h)) <|
  TOK.cons (TI.of0 (by kernel_rfl) (by kernel_rfl) rfl (fun h => by cases h)) <|
  TOK.cons (TI.of0 (by kernel_rfl) (by kernel_rfl) rfl (fun h => by cases h)) <|
  TOK.cons (TI.of0 (by kernel_rfl) (by kernel_rfl) rfl (fun h => by cases h)) <|
  TOK.cons (TI.of0 (by kernel_rfl) (by kernel_rfl) rfl (fun h => by cases h)) <|
  TOK.cons (TI.of0 (by kernel_rfl) (by kernel_rfl) rfl (fun h => by cases h)) <|
  TOK.cons (TI.of0 (by kernel_rfl) (by kernel_rfl) rfl (fun h => by cases h)) <|
  TOK.cons (TI.of0 (by kernel_rfl) (by kernel_rfl) rfl (fun h => by cases h)) <|
  TOK.cons (TI.of0 (by kernel_rfl) (by kernel_rfl) rfl (fun h => by cases h)) <|
  TOK.cons (TI.of0 (by kernel_rfl) (by kernel_rfl) rfl (fun h => by cases h)) <|
  TOK.cons (TI.of0 (by kernel_rfl) (by kernel_rfl) rfl (fun h => by cases h)) <|
  TOK.cons (TI.of0 (by kernel_rfl) (by kernel_rfl) rfl (fun h => by cases h)) <|
  TOK.cons (TI.of0 (by kernel_rfl) (by kernel_rfl) rfl (fun h => by cases h)) <|
  TOK.cons (TI.of0 (by kernel_rfl) (by kernel_rfl) rfl (fun h => by cases h)) <|
  TOK.cons (TI.of0 (by kernel_rfl) (by kernel_rfl) rfl (fun h => by cases h)) <|
  TOK.cons (TI.of0 (by kernel_rfl) (by kernel_rfl) rfl (fun h => by cases h)) <|
  TOK.cons (TI.of0 (by kernel_rfl) (by kernel_rfl) rfl (fun h => by cases h)) <|
  TOK.cons (TI.of0 (by kernel_rfl) (by kernel_rfl) rfl (fun h => by cases h)) <|
  TOK.cons (TI.of (by kernel_rfl) (by kernel_rfl) (fun v hv => by injection hv with hv; subst hv; rfl) (fun _ => by kernel_rfl)) <|
  TOK.cons (TI.of0 (by kernel_rfl) (by kernel_rfl) rfl (fun h => by cases h)) <|
  TOK.cons (TI.of0 (by kernel_rfl) (by kernel_rfl) rfl (fun h => by cases h)) <|
  TOK.cons (TI.of0 (by kernel_rfl) (by kernel_rfl) rfl (fun h => by cases h)) <|
  TOK.cons (TI.of0 (by kernel_rfl) (by kernel_rfl) rfl (fun h => by cases h)) <|
  TOK.cons (TI.of0 (by kernel_rfl) (by kernel_rfl) rfl (fun h => by cases h)) <|
  TOK.cons (TI.of0 (by kernel_rfl) (by kernel_rfl) rfl (fun h => by cases h)) <|
  TOK.cons (TI.of0 (by kernel_rfl) (by kernel_rfl) rfl (fun h => by cases h)) <|
  TOK.cons (TI.of0 (by kernel_rfl) (by kernel_rfl) rfl (fun h => by cases h)) <|
  TOK.cons (TI.of0 (by kernel_rfl) (by kernel_rfl) rfl (fun h => by cases h)) <|
  TOK.cons (TI.of0 (by kernel_rfl) (by kernel_rfl) rfl (fun h => by cases h)) <|
  TOK.cons (TI.of0 (by kernel_rfl) (by kernel_rfl) rfl (fun h => by cases h)) <|
  TOK.nil
theorem lateOk : Try.prog.follows .mixedOrders = true := by kernel_rfl
noncomputable abbrev cx (gl : List (Nat × Nat)) (N : Nat) (D W : List Nat) : Cx := ⟨Try.prog, tab, tab_ok, gl, N, D, W⟩
end Go.Proofs.Ytchikadcicecoaa
namespace Go.Proofs.Ytchikadcicecoaa
/-- the five primes -/
def primeB (p : Int) : Bool := p == 3 || p == 5 || p == 7 || p == 11 || p == 13
theorem prime_cases {p : Int} (h : primeB p = true) : p = 3 ∨ p = 5 ∨ p = 7 ∨ p = 11 ∨ p = 13 := by
  simp [primeB] at h; omega
theorem prime_bd {p : Int} (h : primeB p = true) : 3 ≤ p ∧ p ≤ 13 := by
  have := prime_cases h; omega
theorem tmod_bd {n p : Int} (hp : 0 < p) : -p < n.tmod p ∧ n.tmod p < p := by
  rw [Int.tmod_eq_emod]
  have h1 := Int.emod_nonneg n (show p ≠ 0 by omega)
  have h2 := Int.emod_lt_of_pos n hp
  split
  · omega
  · have : (p.natAbs : Int) = p := Int.natAbs_of_nonneg (by omega)
    have h3 : n % p ≠ 0 := fun h => by rename_i h'; exact h' (.inr (Int.dvd_of_emod_eq_zero h))
    omega
theorem tmod_tmod {n p : Int} (hp : 0 < p) : (n.tmod p + p).tmod p = n % p := by
  have hb := tmod_bd (n := n) hp
  rw [Int.tmod_eq_emod_of_nonneg (by omega)]
  rw [Int.add_emod_right]
  rw [Int.tmod_eq_emod]
  have e : (p.natAbs : Int) = p := Int.natAbs_of_nonneg (by omega)
  split
  · simp
  · rw [e, Int.sub_emod, Int.emod_self, Int.sub_zero, Int.emod_emod_of_dvd _ (Int.dvd_refl p), Int.emod_emod_of_dvd _ (Int.dvd_refl p)]
/-- all numbers of a list are numbers modulo p -/
def modB (p : Int) (l : List Int) : Bool := l.all fun n => decide (0 ≤ n) && decide (n ≤ p - 1)
/-- the first number that is not 0 -/
def fnz : List Int → Int
  | [] => 0
  | a :: r => if a = 0 then fnz r else a
theorem fnz_append (l m : List Int) : fnz (l ++ m) = if fnz l = 0 then fnz m else fnz l := by
  induction l with
  | nil => simp [fnz]
  | cons a r ih =>
    simp only [List.cons_append, fnz]
    split
    · exact ih
    · rfl
/-- a normal list -/
def normB (p : Int) (l : List Int) : Bool := modB p l && (fnz l == 1)
theorem take_snoc {l : List Int} {i : Nat} (h : i < l.length) : l.take (i + 1) = l.take i ++ [l.getD i 0] := by
  rw [List.take_succ_eq_append_getElem h]; simp [List.getD, h]
theorem modB_snoc {p : Int} {l : List Int} {i : Nat} (hi : i < l.length) (h : modB p (l.take i) = true) (h1 : 0 ≤ l.getD i 0) (h2 : l.getD i 0 ≤ p - 1) : modB p (l.take (i + 1)) = true := by
  rw [take_snoc hi]
  simp only [modB, List.all_append, Bool.and_eq_true] at h ⊢
  exact ⟨h, by simp only [List.all_cons, List.all_nil, Bool.and_true, Bool.and_eq_true, decide_eq_true_eq]; exact ⟨h1, h2⟩⟩
theorem modB_fail {p : Int} {l : List Int} {i n : Nat} (hi : i < l.length) (hn : i < n) (h : (decide (0 ≤ l.getD i 0) && decide (l.getD i 0 ≤ p - 1)) = false) : modB p (l.take n) = false := by
  rw [modB, List.all_eq_false]
  refine ⟨l.getD i 0, ?_, by rw [h]; simp⟩
  rw [List.mem_take_iff_getElem]
  exact ⟨i, by omega, by simp [List.getD, hi]⟩
theorem fnz_take {l : List Int} {i : Nat} (h : i < l.length) : fnz (l.take (i + 1)) = if fnz (l.take i) = 0 then l.getD i 0 else fnz (l.take i) := by
  rw [take_snoc h, fnz_append]
  simp only [fnz]
  split
  · split <;> simp_all
  · rfl
theorem fnz_keep {l : List Int} {i n : Nat} (h : i ≤ n) (h0 : fnz (l.take i) ≠ 0) : fnz (l.take n) = fnz (l.take i) := by
  have : l.take n = l.take i ++ (l.take n).drop i := by
    have := (List.take_append_drop i (l.take n)).symm
    rwa [List.take_take, Nat.min_eq_left h] at this
  rw [this, fnz_append, if_neg h0]
theorem fnz_at {l : List Int} {i n : Nat} (h : i < l.length) (hn : i < n) (h0 : fnz (l.take i) = 0) (h1 : l.getD i 0 ≠ 0) : fnz (l.take n) = l.getD i 0 := by
  have e : fnz (l.take (i + 1)) = l.getD i 0 := by rw [fnz_take h, if_pos h0]
  rw [fnz_keep (i := i + 1) (by omega) (by rw [e]; exact h1), e]
end Go.Proofs.Ytchikadcicecoaa
namespace Go.Proofs.Ytchikadcicecoaa
attribute [local irreducible] CW OW QW QOp Con thenP inBlockP
set_option maxRecDepth 10000
set_option linter.unusedSimpArgs false
set_option linter.unusedVariables false
theorem isPrime_con (p : Int) : ConQ Try.prog [] 15 [.int p] [] (.bool (primeB p)) := by
  refine conW tab_ok [(0, .int p)] 0 [] [] Try.func15 rfl rfl rfl rfl rfl rfl rfl rfl rfl ?_
  refine cR ?_
  refine oA rfl rfl ?_
  refine oN ?_
  refine cR ?_
  refine oM rfl rfl ?_
  refine oQ (Q_bin rfl rfl rfl) rfl rfl ?_
  refine oM rfl rfl ?_
  all_goals first | refine oT rfl rfl ?_ | refine o1 rfl rfl rfl ?_ | refine o0 rfl rfl rfl ?_ | refine ogP1 rfl rfl rfl (fun hg => ?_) (fun hg => ?_) | refine ogP0 rfl rfl rfl (fun hg => ?_) (fun hg => ?_)
  all_goals try simp only [s1, s2, s3, s4, s5, s6, s7, s8, s9, s10, s11, s12] at hg
  all_goals first | (refine oM rfl rfl ?_) | skip
  all_goals first | refine oT rfl rfl ?_ | refine o1 rfl rfl rfl ?_ | refine o0 rfl rfl rfl ?_ | refine ogP1 rfl rfl rfl (fun hg => ?_) (fun hg => ?_) | refine ogP0 rfl rfl rfl (fun hg => ?_) (fun hg => ?_)
  all_goals try simp only [s1, s2, s3, s4, s5, s6, s7, s8, s9, s10, s11, s12] at hg
  all_goals first | (refine oQ (Q_bin rfl rfl rfl) rfl rfl ?_) | skip
  all_goals first | refine oQ (Q_pick_t rfl (by with_reducible rfl) rfl rfl) rfl rfl ?_ | refine oQ (Q_pick_f rfl (by with_reducible rfl) rfl rfl) rfl rfl ?_
  all_goals first | (refine oM rfl rfl ?_)
  all_goals first | refine oT rfl rfl ?_ | refine o1 rfl rfl rfl ?_ | refine o0 rfl rfl rfl ?_ | refine ogP1 rfl rfl rfl (fun hg => ?_) (fun hg => ?_) | refine ogP0 rfl rfl rfl (fun hg => ?_) (fun hg => ?_)
  all_goals try simp only [s1, s2, s3, s4, s5, s6, s7, s8, s9, s10, s11, s12] at hg
  all_goals first | (refine oM rfl rfl ?_) | skip
  all_goals first | refine oT rfl rfl ?_ | refine o1 rfl rfl rfl ?_ | refine o0 rfl rfl rfl ?_ | refine ogP1 rfl rfl rfl (fun hg => ?_) (fun hg => ?_) | refine ogP0 rfl rfl rfl (fun hg => ?_) (fun hg => ?_)
  all_goals try simp only [s1, s2, s3, s4, s5, s6, s7, s8, s9, s10, s11, s12] at hg
  all_goals first | (refine oQ (Q_bin rfl rfl rfl) rfl rfl ?_) | skip
  all_goals first | refine oQ (Q_pick_t rfl (by with_reducible rfl) rfl rfl) rfl rfl ?_ | refine oQ (Q_pick_f rfl (by with_reducible rfl) rfl rfl) rfl rfl ?_
  all_goals first | (refine oM rfl rfl ?_)
  all_goals first | refine oT rfl rfl ?_ | refine o1 rfl rfl rfl ?_ | refine o0 rfl rfl rfl ?_ | refine ogP1 rfl rfl rfl (fun hg => ?_) (fun hg => ?_) | refine ogP0 rfl rfl rfl (fun hg => ?_) (fun hg => ?_)
  all_goals try simp only [s1, s2, s3, s4, s5, s6, s7, s8, s9, s10, s11, s12] at hg
  all_goals first | (refine oM rfl rfl ?_) | skip
  all_goals first | refine oT rfl rfl ?_ | refine o1 rfl rfl rfl ?_ | refine o0 rfl rfl rfl ?_ | refine ogP1 rfl rfl rfl (fun hg => ?_) (fun hg => ?_) | refine ogP0 rfl rfl rfl (fun hg => ?_) (fun hg => ?_)
  all_goals try simp only [s1, s2, s3, s4, s5, s6, s7, s8, s9, s10, s11, s12] at hg
  all_goals first | (refine oQ (Q_bin rfl rfl rfl) rfl rfl ?_) | skip
  all_goals first | refine oQ (Q_pick_t rfl (by with_reducible rfl) rfl rfl) rfl rfl ?_ | refine oQ (Q_pick_f rfl (by with_reducible rfl) rfl rfl) rfl rfl ?_
  all_goals first | (refine oM rfl rfl ?_)
  all_goals first | refine oT rfl rfl ?_ | refine o1 rfl rfl rfl ?_ | refine o0 rfl rfl rfl ?_ | refine ogP1 rfl rfl rfl (fun hg => ?_) (fun hg => ?_) | refine ogP0 rfl rfl rfl (fun hg => ?_) (fun hg => ?_)
  all_goals try simp only [s1, s2, s3, s4, s5, s6, s7, s8, s9, s10, s11, s12] at hg
  all_goals first | (refine oM rfl rfl ?_) | skip
  all_goals first | refine oT rfl rfl ?_ | refine o1 rfl rfl rfl ?_ | refine o0 rfl rfl rfl ?_ | refine ogP1 rfl rfl rfl (fun hg => ?_) (fun hg => ?_) | refine ogP0 rfl rfl rfl (fun hg => ?_) (fun hg => ?_)
  all_goals try simp only [s1, s2, s3, s4, s5, s6, s7, s8, s9, s10, s11, s12] at hg
  all_goals first | (refine oQ (Q_bin rfl rfl rfl) rfl rfl ?_) | skip
  all_goals first | refine oQ (Q_pick_t rfl (by with_reducible rfl) rfl rfl) rfl rfl ?_ | refine oQ (Q_pick_f rfl (by with_reducible rfl) rfl rfl) rfl rfl ?_
  all_goals first | (refine oA rfl rfl ?_)
  all_goals refine oN ?_
  all_goals (
   refine CW_ret ?_)
  all_goals (
   refine exitQ (.inr rfl) 0 (.cons (.tmp rfl rfl) .nil) ?_ rfl vHn rfl rfl
   simp_all [resV, primeB])
theorem l01Prime_con (p : Int) : ConQ Try.prog [] 21 [.int p] [] (.bool (primeB p)) := by
  refine conW tab_ok [(0, .int p)] 0 [] [] Try.func21 rfl rfl rfl rfl rfl rfl rfl rfl rfl ?_
  refine cR ?_
  refine oA rfl rfl ?_
  refine oN ?_
  refine cR ?_
  refine oM rfl rfl ?_
  refine oQ (Q_bin rfl rfl rfl) rfl rfl ?_
  refine oM rfl rfl ?_
  all_goals first | refine oT rfl rfl ?_ | refine o1 rfl rfl rfl ?_ | refine o0 rfl rfl rfl ?_ | refine ogP1 rfl rfl rfl (fun hg => ?_) (fun hg => ?_) | refine ogP0 rfl rfl rfl (fun hg => ?_) (fun hg => ?_)
  all_goals try simp only [s1, s2, s3, s4, s5, s6, s7, s8, s9, s10, s11, s12] at hg
  all_goals first | (refine oM rfl rfl ?_) | skip
  all_goals first | refine oT rfl rfl ?_ | refine o1 rfl rfl rfl ?_ | refine o0 rfl rfl rfl ?_ | refine ogP1 rfl rfl rfl (fun hg => ?_) (fun hg => ?_) | refine ogP0 rfl rfl rfl (fun hg => ?_) (fun hg => ?_)
  all_goals try simp only [s1, s2, s3, s4, s5, s6, s7, s8, s9, s10, s11, s12] at hg
  all_goals first | (refine oQ (Q_bin rfl rfl rfl) rfl rfl ?_) | skip
  all_goals first | refine oQ (Q_pick_t rfl (by with_reducible rfl) rfl rfl) rfl rfl ?_ | refine oQ (Q_pick_f rfl (by with_reducible rfl) rfl rfl) rfl rfl ?_
  all_goals first | (refine oM rfl rfl ?_)
  all_goals first | refine oT rfl rfl ?_ | refine o1 rfl rfl rfl ?_ | refine o0 rfl rfl rfl ?_ | refine ogP1 rfl rfl rfl (fun hg => ?_) (fun hg => ?_) | refine ogP0 rfl rfl rfl (fun hg => ?_) (fun hg => ?_)
  all_goals try simp only [s1, s2, s3, s4, s5, s6, s7, s8, s9, s10, s11, s12] at hg
  all_goals first | (refine oM rfl rfl ?_) | skip
  all_goals first | refine oT rfl rfl ?_ | refine o1 rfl rfl rfl ?_ | refine o0 rfl rfl rfl ?_ | refine ogP1 rfl rfl rfl (fun hg => ?_) (fun hg => ?_) | refine ogP0 rfl rfl rfl (fun hg => ?_) (fun hg => ?_)
  all_goals try simp only [s1, s2, s3, s4, s5, s6, s7, s8, s9, s10, s11, s12] at hg
  all_goals first | (refine oQ (Q_bin rfl rfl rfl) rfl rfl ?_) | skip
  all_goals first | refine oQ (Q_pick_t rfl (by with_reducible rfl) rfl rfl) rfl rfl ?_ | refine oQ (Q_pick_f rfl (by with_reducible rfl) rfl rfl) rfl rfl ?_
  all_goals first | (refine oM rfl rfl ?_)
  all_goals first | refine oT rfl rfl ?_ | refine o1 rfl rfl rfl ?_ | refine o0 rfl rfl rfl ?_ | refine ogP1 rfl rfl rfl (fun hg => ?_) (fun hg => ?_) | refine ogP0 rfl rfl rfl (fun hg => ?_) (fun hg => ?_)
  all_goals try simp only [s1, s2, s3, s4, s5, s6, s7, s8, s9, s10, s11, s12] at hg
  all_goals first | (refine oM rfl rfl ?_) | skip
  all_goals first | refine oT rfl rfl ?_ | refine o1 rfl rfl rfl ?_ | refine o0 rfl rfl rfl ?_ | refine ogP1 rfl rfl rfl (fun hg => ?_) (fun hg => ?_) | refine ogP0 rfl rfl rfl (fun hg => ?_) (fun hg => ?_)
  all_goals try simp only [s1, s2, s3, s4, s5, s6, s7, s8, s9, s10, s11, s12] at hg
  all_goals first | (refine oQ (Q_bin rfl rfl rfl) rfl rfl ?_) | skip
  all_goals first | refine oQ (Q_pick_t rfl (by with_reducible rfl) rfl rfl) rfl rfl ?_ | refine oQ (Q_pick_f rfl (by with_reducible rfl) rfl rfl) rfl rfl ?_
  all_goals first | (refine oM rfl rfl ?_)
  all_goals first | refine oT rfl rfl ?_ | refine o1 rfl rfl rfl ?_ | refine o0 rfl rfl rfl ?_ | refine ogP1 rfl rfl rfl (fun hg => ?_) (fun hg => ?_) | refine ogP0 rfl rfl rfl (fun hg => ?_) (fun hg => ?_)
  all_goals try simp only [s1, s2, s3, s4, s5, s6, s7, s8, s9, s10, s11, s12] at hg
  all_goals first | (refine oM rfl rfl ?_) | skip
  all_goals first | refine oT rfl rfl ?_ | refine o1 rfl rfl rfl ?_ | refine o0 rfl rfl rfl ?_ | refine ogP1 rfl rfl rfl (fun hg => ?_) (fun hg => ?_) | refine ogP0 rfl rfl rfl (fun hg => ?_) (fun hg => ?_)
  all_goals try simp only [s1, s2, s3, s4, s5, s6, s7, s8, s9, s10, s11, s12] at hg
  all_goals first | (refine oQ (Q_bin rfl rfl rfl) rfl rfl ?_) | skip
  all_goals first | refine oQ (Q_pick_t rfl (by with_reducible rfl) rfl rfl) rfl rfl ?_ | refine oQ (Q_pick_f rfl (by with_reducible rfl) rfl rfl) rfl rfl ?_
  all_goals first | (refine oA rfl rfl ?_)
  all_goals refine oN ?_
  all_goals (
   refine CW_ret ?_)
  all_goals (
   refine exitQ (.inr rfl) 0 (.cons (.tmp rfl rfl) .nil) ?_ rfl vHn rfl rfl
   simp_all [resV, primeB])
theorem within_con (n l h : Int) : ConQ Try.prog [] 34 [.int n, .int l, .int h] [] (.bool (decide (l ≤ n) && decide (n ≤ h))) := by
  refine conW tab_ok [(0, .int n), (1, .int l), (2, .int h)] 0 [] [] Try.func34 rfl rfl rfl rfl rfl rfl rfl rfl rfl ?_
  refine cR ?_
  refine oA rfl rfl ?_
  refine oN ?_
  refine cR ?_
  iterate 2 refine oM rfl rfl ?_
  refine oQ (Q_bin rfl rfl rfl) rfl rfl ?_
  refine oM rfl rfl ?_
  all_goals first | refine oT rfl rfl ?_ | refine o1 rfl rfl rfl ?_ | refine o0 rfl rfl rfl ?_ | refine ogP1 rfl rfl rfl (fun hg => ?_) (fun hg => ?_) | refine ogP0 rfl rfl rfl (fun hg => ?_) (fun hg => ?_)
  all_goals try simp only [s1, s2, s3, s4, s5, s6, s7, s8, s9, s10, s11, s12] at hg
  all_goals first | (refine oM rfl rfl ?_) | skip
  all_goals first | refine oT rfl rfl ?_ | refine o1 rfl rfl rfl ?_ | refine o0 rfl rfl rfl ?_ | refine ogP1 rfl rfl rfl (fun hg => ?_) (fun hg => ?_) | refine ogP0 rfl rfl rfl (fun hg => ?_) (fun hg => ?_)
  all_goals try simp only [s1, s2, s3, s4, s5, s6, s7, s8, s9, s10, s11, s12] at hg
  all_goals first | (refine oM rfl rfl ?_) | skip
  all_goals first | refine oT rfl rfl ?_ | refine o1 rfl rfl rfl ?_ | refine o0 rfl rfl rfl ?_ | refine ogP1 rfl rfl rfl (fun hg => ?_) (fun hg => ?_) | refine ogP0 rfl rfl rfl (fun hg => ?_) (fun hg => ?_)
  all_goals try simp only [s1, s2, s3, s4, s5, s6, s7, s8, s9, s10, s11, s12] at hg
  all_goals first | (refine oQ (Q_bin rfl rfl rfl) rfl rfl ?_) | skip
  all_goals first | refine oQ (Q_pick_t rfl (by with_reducible rfl) rfl rfl) rfl rfl ?_ | refine oQ (Q_pick_f rfl (by with_reducible rfl) rfl rfl) rfl rfl ?_
  all_goals first | (refine oA rfl rfl ?_)
  all_goals refine oN ?_
  all_goals (
   refine CW_ret ?_)
  all_goals (
   refine exitQ (.inr rfl) 0 (.cons (.tmp rfl rfl) .nil) ?_ rfl vHn rfl rfl
   (simp_all [resV]) <;> (intros; omega))
theorem l01In_con (n l h : Int) : ConQ Try.prog [] 32 [.int n, .int l, .int h] [] (.bool (decide (l ≤ n) && decide (n ≤ h))) := by
  refine conW tab_ok [(0, .int n), (1, .int l), (2, .int h)] 0 [] [] Try.func32 rfl rfl rfl rfl rfl rfl rfl rfl rfl ?_
  refine cR ?_
  refine oA rfl rfl ?_
  refine oN ?_
  refine cR ?_
  iterate 2 refine oM rfl rfl ?_
  refine oQ (Q_bin rfl rfl rfl) rfl rfl ?_
  refine oM rfl rfl ?_
  all_goals first | refine oT rfl rfl ?_ | refine o1 rfl rfl rfl ?_ | refine o0 rfl rfl rfl ?_ | refine ogP1 rfl rfl rfl (fun hg => ?_) (fun hg => ?_) | refine ogP0 rfl rfl rfl (fun hg => ?_) (fun hg => ?_)
  all_goals try simp only [s1, s2, s3, s4, s5, s6, s7, s8, s9, s10, s11, s12] at hg
  all_goals first | (refine oM rfl rfl ?_) | skip
  all_goals first | refine oT rfl rfl ?_ | refine o1 rfl rfl rfl ?_ | refine o0 rfl rfl rfl ?_ | refine ogP1 rfl rfl rfl (fun hg => ?_) (fun hg => ?_) | refine ogP0 rfl rfl rfl (fun hg => ?_) (fun hg => ?_)
  all_goals try simp only [s1, s2, s3, s4, s5, s6, s7, s8, s9, s10, s11, s12] at hg
  all_goals first | (refine oM rfl rfl ?_) | skip
  all_goals first | refine oT rfl rfl ?_ | refine o1 rfl rfl rfl ?_ | refine o0 rfl rfl rfl ?_ | refine ogP1 rfl rfl rfl (fun hg => ?_) (fun hg => ?_) | refine ogP0 rfl rfl rfl (fun hg => ?_) (fun hg => ?_)
  all_goals try simp only [s1, s2, s3, s4, s5, s6, s7, s8, s9, s10, s11, s12] at hg
  all_goals first | (refine oQ (Q_bin rfl rfl rfl) rfl rfl ?_) | skip
  all_goals first | refine oQ (Q_pick_t rfl (by with_reducible rfl) rfl rfl) rfl rfl ?_ | refine oQ (Q_pick_f rfl (by with_reducible rfl) rfl rfl) rfl rfl ?_
  all_goals first | (refine oA rfl rfl ?_)
  all_goals refine oN ?_
  all_goals (
   refine CW_ret ?_)
  all_goals (
   refine exitQ (.inr rfl) 0 (.cons (.tmp rfl rfl) .nil) ?_ rfl vHn rfl rfl
   (simp_all [resV]) <;> (intros; omega))
theorem mod_con (n p : Int) (hp : 0 < p) (hp' : p ≤ 1000000) : ConQ Try.prog [] 46 [.int n, .int p] [] (.int (n % p)) := by
  have hb := tmod_bd (n := n) hp
  refine conW tab_ok [(0, .int n), (1, .int p)] 0 [] [] Try.func46 rfl rfl rfl rfl rfl rfl rfl rfl rfl ?_
  refine cR ?_
  refine oA rfl rfl ?_
  refine oN ?_
  refine cR ?_
  iterate 2 refine oM rfl rfl ?_
  refine oQ (Q_rem rfl rfl (by omega)) rfl rfl ?_
  refine oM rfl rfl ?_
  first | refine oQ (Q_binu rfl rfl rfl (by omega)) rfl rfl ?_ | refine oQ (Q_bin rfl rfl rfl) rfl rfl ?_
  refine oM rfl rfl ?_
  refine oQ (Q_rem rfl rfl (by omega)) rfl rfl ?_
  refine oA rfl rfl ?_
  refine oN ?_
  refine CW_ret ?_
  all_goals (
   refine exitQ (.inr rfl) 0 (.cons (.tmp rfl rfl) .nil) ?_ rfl vHn rfl rfl
   simp [resV, tmod_tmod hp])
theorem l01Mod_con (n p : Int) (hp : 0 < p) (hp' : p ≤ 1000000) : ConQ Try.prog [] 42 [.int p, .int n] [] (.int (n % p)) := by
  have hb := tmod_bd (n := n) hp
  refine conW tab_ok [(0, .int p), (1, .int n)] 0 [] [] Try.func42 rfl rfl rfl rfl rfl rfl rfl rfl rfl ?_
  refine cR ?_
  refine oA rfl rfl ?_
  refine oN ?_
  refine cR ?_
  iterate 2 refine oM rfl rfl ?_
  refine oQ (Q_rem rfl rfl (by omega)) rfl rfl ?_
  refine oM rfl rfl ?_
  first | refine oQ (Q_binu rfl rfl rfl (by omega)) rfl rfl ?_ | refine oQ (Q_bin rfl rfl rfl) rfl rfl ?_
  refine oM rfl rfl ?_
  refine oQ (Q_rem rfl rfl (by omega)) rfl rfl ?_
  refine oA rfl rfl ?_
  refine oN ?_
  refine CW_ret ?_
  all_goals (
   refine exitQ (.inr rfl) 0 (.cons (.tmp rfl rfl) .nil) ?_ rfl vHn rfl rfl
   simp [resV, tmod_tmod hp])
theorem areNumbers_con (p : Int) (t : TypeId) (L : List Int) (n k : Nat) (hn : n ≤ L.length) (hp : 0 ≤ p ∧ p ≤ 1000) (hL : n ≤ 1000000000) : ConQ Try.prog [] 51 [.int p, .slice 0 0 n k] [(0, .ints t L)] (.bool (modB p (L.take n))) := by
  refine conW tab_ok [(0, .int p), (1, .slice 0 0 n k)] 1 [0] [0] Try.func51 rfl rfl rfl rfl rfl rfl rfl rfl rfl ?_
  refine cR ?_
  refine oA rfl rfl ?_
  refine oN ?_
  refine CW_seq ?_
  refine cR ?_
  refine oM rfl rfl ?_
  first | refine oQ (Q_len rfl rfl rfl rfl) rfl rfl ?_ | refine oQ (Q_len0 rfl rfl rfl rfl) rfl rfl ?_
  refine oM rfl rfl ?_
  refine oN ?_
  refine CW_block ?_
  refine CW_loop (ι := Nat) (fun i => i ≤ n ∧ modB p (L.take i) = true) (fun i => ⟨[(0, .int p), (7, .slice 0 0 n k), (8, .int n), (9, .int i)], [(0, .ints t L)], 1⟩) (fun i => n - i) 0 ?_ ?_ ?_
  · exact ⟨Nat.zero_le _, rfl⟩
  · refine View.mk' [] rfl rfl rfl ?_ ?_
    repeat' first | exact vFn | refine vFc rfl ?_ | exact vHn | refine vHc rfl ?_ | refine vFc (congrArg (fun z => some (V.int z)) ?_) ?_ | refine vHc (congrArg (fun z => some (Blk.ints _ z)) ?_) ?_ | refine vFc (congrArg (fun z => some (V.bool z)) ?_) ?_ | refine vFs rfl rfl ?_ ?_
  intro i hi
  obtain ⟨hi1, hi2⟩ := hi
  refine cR ?_
  refine oQ (Q_bin rfl rfl rfl) rfl rfl ?_
  refine oN ?_
  refine CW_seq ?_
  first | refine cT rfl ?_ | refine cF rfl ?_ | refine CW_cond rfl (fun hc => ?_) (fun hc => ?_)
  all_goals try simp only [s1, s2, s3, s4, s5, s6, s7, s8, s9, s10, s11, s12] at hc
  all_goals first
    | (
     refine CW_skip ?_)
    | (
     refine CW_exit ?_)
  all_goals first
    | with_reducible refine tR ?_
    | with_reducible refine tE ?_
    | (
     with_reducible refine tN ?_
     refine CW_seq ?_
     refine CW_block ?_
     refine cR ?_
     first | refine oQ (Is0 rfl rfl rfl rfl rfl rfl) rfl rfl ?_ | refine oQ (Is1 rfl rfl rfl rfl rfl rfl) rfl rfl ?_
     refine oQ (Ld rfl rfl rfl rfl) rfl rfl ?_
     refine oA rfl rfl ?_
     refine oN ?_
     refine cR ?_
     iterate 2 refine oM rfl rfl ?_
     first | refine oQ (Q_binu rfl rfl rfl (by omega)) rfl rfl ?_ | refine oQ (Q_bin rfl rfl rfl) rfl rfl ?_
     refine oQ (Q_call0 (within_con _ _ _) rfl rfl rfl) rfl rfl ?_
     refine oQ (Q_not rfl) rfl rfl ?_
     refine oN ?_
     first | refine cT rfl ?_ | refine cF rfl ?_ | refine CW_cond rfl (fun hc => ?_) (fun hc => ?_)
     all_goals try simp only [s1, s2, s3, s4, s5, s6, s7, s8, s9, s10, s11, s12] at hc
     all_goals first
       | (
        refine CW_skip ?_)
       | (
        refine cR ?_
        refine oA rfl rfl ?_
        refine oN ?_
        refine CW_ret ?_)
     all_goals first | with_reducible refine bN ?_ | with_reducible refine bE ?_ | with_reducible refine bR ?_ | refine bX rfl ?_
     all_goals first
       | with_reducible refine tR ?_
       | with_reducible refine tE ?_
       | (
        with_reducible refine tN ?_
        refine CW_region ?_
        first | refine oQ (Q_binu rfl rfl rfl (by omega)) rfl rfl ?_ | refine oQ (Q_bin rfl rfl rfl) rfl rfl ?_
        refine oM rfl rfl ?_
        refine OW_nil ?_))
  all_goals first
    | with_reducible refine tR ?_
    | with_reducible refine tE ?_
    | (
     with_reducible refine tN ?_
     refine ⟨i + 1, ?_, ?_, View.mk' [] rfl rfl rfl ?_ ?_⟩
     · exact ⟨by omega, modB_snoc (by omega) hi2 (by simp_all) (by simp_all)⟩
     · omega
     all_goals (repeat' first | exact vFn | refine vFc rfl ?_ | exact vHn | refine vHc rfl ?_ | refine vFc (congrArg (fun z => some (V.int z)) ?_) ?_ | refine vHc (congrArg (fun z => some (Blk.ints _ z)) ?_) ?_ | refine vFc (congrArg (fun z => some (V.bool z)) ?_) ?_ | refine vFs rfl rfl ?_ ?_))
  all_goals first | with_reducible refine bN ?_ | with_reducible refine bE ?_ | with_reducible refine bR ?_ | refine bX rfl ?_
  all_goals first
    | with_reducible refine tR ?_
    | with_reducible refine tE ?_
    | (
     with_reducible refine tN ?_
     refine cR ?_
     refine oA rfl rfl ?_
     refine oN ?_
     refine CW_ret ?_)
  all_goals (
   refine exitQ (.inr rfl) 1 (.cons (.tmp rfl rfl) .nil) ?_ rfl (vHc rfl vHn) rfl rfl
   simp only [resV, V.bool.injEq]
   first | exact (modB_fail (by omega) (by omega) hc).symm | (have e : i = n := (by omega); subst e; exact hi2.symm))
theorem isNormal_con (p : Int) (t : TypeId) (L : List Int) (n k : Nat) (hn : n ≤ L.length) (hp : 0 ≤ p ∧ p ≤ 1000) (hL : n ≤ 1000000000) : ConQ Try.prog [] 45 [.int p, .slice 0 0 n k] [(0, .ints t L)] (.bool (normB p (L.take n))) := by
  refine conW tab_ok [(0, .int p), (1, .slice 0 0 n k)] 1 [0] [0] Try.func45 rfl rfl rfl rfl rfl rfl rfl rfl rfl ?_
  refine cR ?_
  refine oA rfl rfl ?_
  refine oN ?_
  refine CW_seq ?_
  refine cR ?_
  refine oM rfl rfl ?_
  first | refine oQ (Q_len rfl rfl rfl rfl) rfl rfl ?_ | refine oQ (Q_len0 rfl rfl rfl rfl) rfl rfl ?_
  refine oM rfl rfl ?_
  refine oN ?_
  refine CW_block ?_
  refine CW_loop (ι := Nat) (fun i => i ≤ n ∧ fnz (L.take i) = 0) (fun i => ⟨[(0, .int p), (1, .slice 0 0 n k), (7, .slice 0 0 n k), (8, .int n), (9, .int i)], [(0, .ints t L)], 1⟩) (fun i => n - i) 0 ?_ ?_ ?_
  · exact ⟨Nat.zero_le _, rfl⟩
  · refine View.mk' [] rfl rfl rfl ?_ ?_
    repeat' first | exact vFn | refine vFc rfl ?_ | exact vHn | refine vHc rfl ?_ | refine vFc (congrArg (fun z => some (V.int z)) ?_) ?_ | refine vHc (congrArg (fun z => some (Blk.ints _ z)) ?_) ?_ | refine vFc (congrArg (fun z => some (V.bool z)) ?_) ?_ | refine vFs rfl rfl ?_ ?_
  intro i hi
  obtain ⟨hi1, hi2⟩ := hi
  refine cR ?_
  refine oQ (Q_bin rfl rfl rfl) rfl rfl ?_
  refine oN ?_
  refine CW_seq ?_
  first | refine cT rfl ?_ | refine cF rfl ?_ | refine CW_cond rfl (fun hc => ?_) (fun hc => ?_)
  all_goals try simp only [s1, s2, s3, s4, s5, s6, s7, s8, s9, s10, s11, s12] at hc
  all_goals first
    | (
     refine CW_skip ?_)
    | (
     refine CW_exit ?_)
  all_goals first
    | with_reducible refine tR ?_
    | with_reducible refine tE ?_
    | (
     with_reducible refine tN ?_
     refine CW_seq ?_
     refine CW_block ?_
     refine cR ?_
     first | refine oQ (Is0 rfl rfl rfl rfl rfl rfl) rfl rfl ?_ | refine oQ (Is1 rfl rfl rfl rfl rfl rfl) rfl rfl ?_
     refine oQ (Ld rfl rfl rfl rfl) rfl rfl ?_
     refine oA rfl rfl ?_
     refine oN ?_
     refine cR ?_
     refine oM rfl rfl ?_
     refine oQ (Q_bin rfl rfl rfl) rfl rfl ?_
     refine oN ?_
     first | refine cT rfl ?_ | refine cF rfl ?_ | refine CW_cond rfl (fun hc => ?_) (fun hc => ?_)
     all_goals try simp only [s1, s2, s3, s4, s5, s6, s7, s8, s9, s10, s11, s12] at hc
     all_goals first
       | (
        refine CW_skip ?_)
       | (
        refine cR ?_
        refine oM rfl rfl ?_
        refine oQ (Q_bin rfl rfl rfl) rfl rfl ?_
        refine oM rfl rfl ?_
        all_goals first | refine oT rfl rfl ?_ | refine o1 rfl rfl rfl ?_ | refine o0 rfl rfl rfl ?_ | refine ogP1 rfl rfl rfl (fun hg => ?_) (fun hg => ?_) | refine ogP0 rfl rfl rfl (fun hg => ?_) (fun hg => ?_)
        all_goals try simp only [s1, s2, s3, s4, s5, s6, s7, s8, s9, s10, s11, s12] at hg
        all_goals first | (refine oM rfl rfl ?_) | skip
        all_goals first | refine oT rfl rfl ?_ | refine o1 rfl rfl rfl ?_ | refine o0 rfl rfl rfl ?_ | refine ogP1 rfl rfl rfl (fun hg => ?_) (fun hg => ?_) | refine ogP0 rfl rfl rfl (fun hg => ?_) (fun hg => ?_)
        all_goals try simp only [s1, s2, s3, s4, s5, s6, s7, s8, s9, s10, s11, s12] at hg
        all_goals first | (refine oM rfl rfl ?_) | skip
        all_goals first | refine oT rfl rfl ?_ | refine o1 rfl rfl rfl ?_ | refine o0 rfl rfl rfl ?_ | refine ogP1 rfl rfl rfl (fun hg => ?_) (fun hg => ?_) | refine ogP0 rfl rfl rfl (fun hg => ?_) (fun hg => ?_)
        all_goals try simp only [s1, s2, s3, s4, s5, s6, s7, s8, s9, s10, s11, s12] at hg
        all_goals first | (refine oQ (Q_call (areNumbers_con p t L n k hn hp hL) [] rfl rfl (Fits.mk' (vHc rfl vHn) rfl rfl (by simp)) rfl rfl) rfl rfl ?_) | skip
        all_goals first | refine oQ (Q_pick_t rfl (by with_reducible rfl) rfl rfl) rfl rfl ?_ | refine oQ (Q_pick_f rfl (by with_reducible rfl) rfl rfl) rfl rfl ?_
        all_goals first | (refine oA rfl rfl ?_)
        all_goals refine oN ?_
        all_goals (
         refine CW_ret ?_))
     all_goals first | with_reducible refine bN ?_ | with_reducible refine bE ?_ | with_reducible refine bR ?_ | refine bX rfl ?_
     all_goals first
       | with_reducible refine tR ?_
       | with_reducible refine tE ?_
       | (
        with_reducible refine tN ?_
        refine CW_region ?_
        first | refine oQ (Q_binu rfl rfl rfl (by omega)) rfl rfl ?_ | refine oQ (Q_bin rfl rfl rfl) rfl rfl ?_
        refine oM rfl rfl ?_
        refine OW_nil ?_))
  all_goals first
    | with_reducible refine tR ?_
    | with_reducible refine tE ?_
    | (
     with_reducible refine tN ?_
     refine ⟨i + 1, ?_, ?_, View.mk' [] rfl rfl rfl ?_ ?_⟩
     · exact ⟨by omega, by rw [fnz_take (by omega), if_pos hi2]; simp_all⟩
     · omega
     all_goals (repeat' first | exact vFn | refine vFc rfl ?_ | exact vHn | refine vHc rfl ?_ | refine vFc (congrArg (fun z => some (V.int z)) ?_) ?_ | refine vHc (congrArg (fun z => some (Blk.ints _ z)) ?_) ?_ | refine vFc (congrArg (fun z => some (V.bool z)) ?_) ?_ | refine vFs rfl rfl ?_ ?_))
  all_goals first | with_reducible refine bN ?_ | with_reducible refine bE ?_ | with_reducible refine bR ?_ | refine bX rfl ?_
  all_goals first
    | with_reducible refine tR ?_
    | with_reducible refine tE ?_
    | (
     with_reducible refine tN ?_
     refine cR ?_
     refine oA rfl rfl ?_
     refine oN ?_
     refine CW_ret ?_)
  all_goals (
   refine exitQ (.inr rfl) 1 (.cons (.tmp rfl rfl) .nil) ?_ rfl (vHc rfl vHn) rfl rfl
   simp only [resV, V.bool.injEq]
   first | (have e : i = n := (by omega); subst e; simp [normB, hi2]; done) | (have hlt : i < n := (by omega); rw [normB, fnz_at (by omega) hlt hi2 (by assumption)]; simp_all [ren]; done) | (have hlt : i < n := (by omega); rw [normB, fnz_at (by omega) hlt hi2 (by assumption)]; cases h1 : modB p (L.take n) <;> simp_all [ren]; done))
theorem l01Normal_con (p : Int) (t : TypeId) (L : List Int) (n k : Nat) (hn : n ≤ L.length) (hp : 0 ≤ p ∧ p ≤ 1000) (hL : n ≤ 1000000000) : ConQ Try.prog [] 44 [.int p, .slice 0 0 n k] [(0, .ints t L)] (.bool (normB p (L.take n))) := by
  refine conW tab_ok [(0, .int p), (1, .slice 0 0 n k)] 1 [0] [0] Try.func44 rfl rfl rfl rfl rfl rfl rfl rfl rfl ?_
  refine cR ?_
  refine oA rfl rfl ?_
  refine oN ?_
  refine cR ?_
  refine oA rfl rfl ?_
  refine oN ?_
  refine CW_seq ?_
  refine cR ?_
  refine oA rfl rfl ?_
  refine oN ?_
  refine CW_block ?_
  refine CW_loop (ι := Nat) (fun i => i ≤ n ∧ modB p (L.take i) = true) (fun i => ⟨[(0, .int p), (1, .slice 0 0 n k), (5, .int (fnz (L.take i))), (6, .int i)], [(0, .ints t L)], 1⟩) (fun i => n - i) 0 ?_ ?_ ?_
  · exact ⟨Nat.zero_le _, rfl⟩
  · refine View.mk' [] rfl rfl rfl ?_ ?_
    repeat' first | exact vFn | refine vFc rfl ?_ | exact vHn | refine vHc rfl ?_ | refine vFc (congrArg (fun z => some (V.int z)) ?_) ?_ | refine vHc (congrArg (fun z => some (Blk.ints _ z)) ?_) ?_ | refine vFc (congrArg (fun z => some (V.bool z)) ?_) ?_ | refine vFs rfl rfl ?_ ?_
  intro i hi
  obtain ⟨hi1, hi2⟩ := hi
  refine CW_seq ?_
  refine cR ?_
  iterate 2 refine oM rfl rfl ?_
  first | refine oQ (Q_len rfl rfl rfl rfl) rfl rfl ?_ | refine oQ (Q_len0 rfl rfl rfl rfl) rfl rfl ?_
  refine oQ (Q_bin rfl rfl rfl) rfl rfl ?_
  refine oN ?_
  first | refine cT rfl ?_ | refine cF rfl ?_ | refine CW_cond rfl (fun hc => ?_) (fun hc => ?_)
  all_goals try simp only [s1, s2, s3, s4, s5, s6, s7, s8, s9, s10, s11, s12] at hc
  all_goals first
    | (
     refine CW_skip ?_)
    | (
     refine CW_exit ?_)
  all_goals first
    | with_reducible refine tR ?_
    | with_reducible refine tE ?_
    | (
     with_reducible refine tN ?_
     refine CW_seq ?_
     refine CW_block ?_
     refine CW_seq ?_
     refine cR ?_
     iterate 2 refine oM rfl rfl ?_
     first | refine oQ (Is0 rfl rfl rfl rfl rfl rfl) rfl rfl ?_ | refine oQ (Is1 rfl rfl rfl rfl rfl rfl) rfl rfl ?_
     refine oQ (Ld rfl rfl rfl rfl) rfl rfl ?_
     refine oM rfl rfl ?_
     first | refine oQ (Q_binu rfl rfl rfl (by omega)) rfl rfl ?_ | refine oQ (Q_bin rfl rfl rfl) rfl rfl ?_
     refine oQ (Q_call0 (l01In_con _ _ _) rfl rfl rfl) rfl rfl ?_
     refine oQ (Q_not rfl) rfl rfl ?_
     refine oN ?_
     first | refine cT rfl ?_ | refine cF rfl ?_ | refine CW_cond rfl (fun hc => ?_) (fun hc => ?_)
     all_goals try simp only [s1, s2, s3, s4, s5, s6, s7, s8, s9, s10, s11, s12] at hc
     all_goals first
       | (
        refine CW_skip ?_)
       | (
        refine cR ?_
        refine oA rfl rfl ?_
        refine oN ?_
        refine CW_ret ?_)
     all_goals first
       | with_reducible refine tR ?_
       | with_reducible refine tE ?_
       | (
        with_reducible refine tN ?_
        refine cR ?_
        refine oM rfl rfl ?_
        refine oQ (Q_bin rfl rfl rfl) rfl rfl ?_
        refine oN ?_
        first | refine cT rfl ?_ | refine cF rfl ?_ | refine CW_cond rfl (fun hc => ?_) (fun hc => ?_)
        all_goals try simp only [s1, s2, s3, s4, s5, s6, s7, s8, s9, s10, s11, s12] at hc
        all_goals first
          | (
           refine CW_skip ?_)
          | (
           refine CW_region ?_
           iterate 2 refine oM rfl rfl ?_
           first | refine oQ (Is0 rfl rfl rfl rfl rfl rfl) rfl rfl ?_ | refine oQ (Is1 rfl rfl rfl rfl rfl rfl) rfl rfl ?_
           refine oQ (Ld rfl rfl rfl rfl) rfl rfl ?_
           refine oA rfl rfl ?_
           refine OW_nil ?_))
     all_goals first | with_reducible refine bN ?_ | with_reducible refine bE ?_ | with_reducible refine bR ?_ | refine bX rfl ?_
     all_goals first
       | with_reducible refine tR ?_
       | with_reducible refine tE ?_
       | (
        with_reducible refine tN ?_
        refine CW_region ?_
        refine oM rfl rfl ?_
        first | refine oQ (Q_binu rfl rfl rfl (by omega)) rfl rfl ?_ | refine oQ (Q_bin rfl rfl rfl) rfl rfl ?_
        refine oA rfl rfl ?_
        refine OW_nil ?_))
  all_goals first
    | with_reducible refine tR ?_
    | with_reducible refine tE ?_
    | (
     with_reducible refine tN ?_
     refine ⟨i + 1, ?_, ?_, View.mk' [] rfl rfl rfl ?_ ?_⟩
     · exact ⟨by omega, modB_snoc (by omega) hi2 (by simp_all) (by simp_all)⟩
     · omega
     all_goals (repeat' first | exact vFn | refine vFc rfl ?_ | exact vHn | refine vHc rfl ?_ | refine vFc (congrArg (fun z => some (V.int z)) ?_) ?_ | refine vHc (congrArg (fun z => some (Blk.ints _ z)) ?_) ?_ | refine vFc (congrArg (fun z => some (V.bool z)) ?_) ?_ | refine vFs rfl rfl ?_ ?_)
     all_goals (rw [fnz_take (by omega)]; simp_all))
  all_goals first | with_reducible refine bN ?_ | with_reducible refine bE ?_ | with_reducible refine bR ?_ | refine bX rfl ?_
  all_goals first
    | with_reducible refine tR ?_
    | with_reducible refine tE ?_
    | (
     with_reducible refine tN ?_
     refine cR ?_
     refine oM rfl rfl ?_
     refine oQ (Q_bin rfl rfl rfl) rfl rfl ?_
     refine oA rfl rfl ?_
     refine oN ?_
     refine CW_ret ?_)
  all_goals (
   refine exitQ (.inr rfl) 1 (.cons (.tmp rfl rfl) .nil) ?_ rfl (vHc rfl vHn) rfl rfl
   simp only [resV, V.bool.injEq]
   first | (rw [normB, modB_fail (by omega) (by omega) hc]; rfl) | (have e : i = n := (by omega); subst e; rw [normB, hi2]; rfl))
end Go.Proofs.Ytchikadcicecoaa
namespace Go.Proofs.Ytchikadcicecoaa
/-- the inverse of a number modulo p; 0 if it has none -/
def invN (p n : Int) : Nat := ((List.range p.toNat).find? fun (k : Nat) => n * (k : Int) % p == 1).getD 0
def invP (p n : Int) : Int := invN p n
theorem inv_zero (p : Int) : invP p 0 = 0 := by
  have : (List.range p.toNat).find? (fun (k : Nat) => (0 : Int) * (k : Int) % p == 1) = none := by
    rw [List.find?_eq_none]
    intro x _
    simp
  unfold invP invN
  rw [this]
  rfl
theorem small_cases {p n : Int} (hp : primeB p = true) (h0 : 0 < n) (h1 : n < p) : (p = 3 ∨ p = 5 ∨ p = 7 ∨ p = 11 ∨ p = 13) ∧ (n = 1 ∨ n = 2 ∨ n = 3 ∨ n = 4 ∨ n = 5 ∨ n = 6 ∨ n = 7 ∨ n = 8 ∨ n = 9 ∨ n = 10 ∨ n = 11 ∨ n = 12) := by
  have := prime_cases hp
  exact ⟨this, by omega⟩
theorem inv_un {p n : Int} (hp : primeB p = true) (h0 : 0 < n) (h1 : n < p) {k k' : Int} (a : 0 ≤ k) (b : k < p) (a' : 0 ≤ k') (b' : k' < p) (e : n * k % p = 1) (e' : n * k' % p = 1) : k = k' := by
  obtain ⟨hp, hn⟩ := small_cases hp h0 h1
  rcases hp with rfl | rfl | rfl | rfl | rfl <;> rcases hn with rfl | rfl | rfl | rfl | rfl | rfl | rfl | rfl | rfl | rfl | rfl | rfl <;> omega
theorem inv_ex {p n : Int} (hp : primeB p = true) (h0 : 0 < n) (h1 : n < p) : ∃ k : Nat, k < p.toNat ∧ n * (k : Int) % p = 1 := by
  obtain ⟨hp, hn⟩ := small_cases hp h0 h1
  rcases hp with rfl | rfl | rfl | rfl | rfl <;> rcases hn with rfl | rfl | rfl | rfl | rfl | rfl | rfl | rfl | rfl | rfl | rfl | rfl <;>
    first | (exfalso; omega) | exact ⟨1, by decide, by decide⟩ | exact ⟨2, by decide, by decide⟩ | exact ⟨3, by decide, by decide⟩ | exact ⟨4, by decide, by decide⟩ | exact ⟨5, by decide, by decide⟩ | exact ⟨6, by decide, by decide⟩ | exact ⟨7, by decide, by decide⟩ | exact ⟨8, by decide, by decide⟩ | exact ⟨9, by decide, by decide⟩ | exact ⟨10, by decide, by decide⟩ | exact ⟨11, by decide, by decide⟩ | exact ⟨12, by decide, by decide⟩
theorem inv_spec {p n : Int} (hp : primeB p = true) (h0 : 0 < n) (h1 : n < p) : 1 ≤ invP p n ∧ invP p n < p ∧ n * invP p n % p = 1 := by
  obtain ⟨k, hk1, hk2⟩ := inv_ex hp h0 h1
  have hb := prime_bd hp
  cases hf : (List.range p.toNat).find? (fun (k : Nat) => n * (k : Int) % p == 1) with
  | none =>
    rw [List.find?_eq_none] at hf
    have := hf k (by simpa using hk1)
    simp [hk2] at this
  | some j =>
    have h2 := List.find?_some hf
    have h3 := List.mem_of_find?_eq_some hf
    simp at h2 h3
    have e : invP p n = (j : Int) := by simp [invP, invN, hf]
    rw [e]
    refine ⟨?_, by omega, h2⟩
    have : (j : Int) ≠ 0 := fun h => by rw [h] at h2; simp at h2
    omega
theorem inv_is {p n k : Int} (hp : primeB p = true) (h0 : 0 < n) (h1 : n < p) (a : 0 ≤ k) (b : k < p) (e : n * k % p = 1) : invP p n = k := by
  have := inv_spec hp h0 h1
  exact inv_un hp h0 h1 (by omega) this.2.1 a b this.2.2 e
/-- the factor that makes a list normal: the inverse of its first number that is not 0 -/
def facP (p : Int) (l : List Int) : Int := invP p (fnz (l.map (· % p)))
def normL (p : Int) (l : List Int) : List Int := l.map fun n => n % p * facP p l % p
theorem normL_length (p : Int) (l : List Int) : (normL p l).length = l.length := by simp [normL]
theorem fnz_mem (l : List Int) : fnz l = 0 ∨ fnz l ∈ l := by
  induction l with
  | nil => simp [fnz]
  | cons a r ih =>
    simp only [fnz]
    split
    · rcases ih with h | h
      · exact .inl h
      · exact .inr (List.mem_cons_of_mem _ h)
    · exact .inr (by simp)
theorem fnz_bd {p : Int} (hp : 0 < p) (l : List Int) : 0 ≤ fnz (l.map (· % p)) ∧ fnz (l.map (· % p)) < p := by
  rcases fnz_mem (l.map (· % p)) with h | h
  · omega
  · obtain ⟨x, _, hx⟩ := List.mem_map.1 h
    have h1 := Int.emod_nonneg x (show p ≠ 0 by omega)
    have h2 := Int.emod_lt_of_pos x hp
    omega
theorem fac_bd {p : Int} (hp : primeB p = true) (l : List Int) : 0 ≤ facP p l ∧ facP p l < p := by
  have hb := prime_bd hp
  have hf := fnz_bd (p := p) (by omega) l
  by_cases h : fnz (l.map (· % p)) = 0
  · rw [facP, h, inv_zero]; omega
  · have := inv_spec hp (n := fnz (l.map (· % p))) (by omega) (by omega)
    simp only [facP]; omega
theorem fac_zero {p : Int} (hp : primeB p = true) (l : List Int) : facP p l = 0 ↔ fnz (l.map (· % p)) = 0 := by
  have hb := prime_bd hp
  have hf := fnz_bd (p := p) (by omega) l
  constructor
  · intro h
    by_cases h' : 0 < fnz (l.map (· % p))
    · have := inv_spec hp h' hf.2
      simp only [facP] at h; omega
    · omega
  · intro h; rw [facP, h, inv_zero]
theorem fac_snoc {p : Int} (hp : primeB p = true) (l : List Int) (x : Int) : facP p (l ++ [x]) = if facP p l = 0 then (if x % p = 0 then 0 else invP p (x % p)) else facP p l := by
  have h0 := fac_zero hp l
  have e : facP p (l ++ [x]) = invP p (if fnz (l.map (· % p)) = 0 then (if x % p = 0 then 0 else x % p) else fnz (l.map (· % p))) := by
    simp only [facP, List.map_append, List.map_cons, List.map_nil, fnz_append, fnz]
  rw [e]
  by_cases h : fnz (l.map (· % p)) = 0
  · rw [if_pos h, if_pos (h0.2 h)]
    split
    · exact inv_zero p
    · rfl
  · rw [if_neg h, if_neg fun e => h (h0.1 e)]
    rfl
theorem norm_snoc {p : Int} (hp : primeB p = true) (l : List Int) (x : Int) : normL p (l ++ [x]) = normL p l ++ [x % p * facP p (l ++ [x]) % p] := by
  simp only [normL, List.map_append, List.map_cons, List.map_nil]
  congr 1
  by_cases h : facP p l = 0
  · have hz := (fac_zero hp l).1 h
    have key : ∀ (m : List Int), fnz (m.map (· % p)) = 0 → ∀ n ∈ m, n % p = 0 := by
      intro m
      induction m with
      | nil => simp
      | cons a r ih =>
        intro h n hn
        simp only [List.map_cons, fnz] at h
        split at h
        · rename_i h'
          rcases List.mem_cons.1 hn with rfl | hn
          · exact h'
          · exact ih h n hn
        · rename_i h'; exact absurd h h'
    apply List.map_congr_left
    intro n hn
    simp [key l hz n hn]
  · rw [fac_snoc hp, if_neg h]
end Go.Proofs.Ytchikadcicecoaa
namespace Go.Proofs.Ytchikadcicecoaa
section
variable {c : Cx} {Q : Post} {F : Fr} {H : Hp} {n : Nat} {ops : Array Oper} {rest : List Oper} {d : Nat} {ty : TypeId} {pos : String} {af : Array Edge}
/-- append to a row of the call's own: the told part A, what is put behind it -/
theorem oApp {t t2 : TypeId} {ats : Array TypeId} {x y : Operand} {i i2 ie : TI} {e e2 sz b b' m k q q' by_ t' : Nat} {A sp xl : List Int}
    (hat : ats = #[t, t2]) (ht : lkT c.T t = some i) (hd : i.d = .slice e) (ht2 : lkT c.T t2 = some i2) (hd2 : i2.d = .slice e2) (he : lkT c.T e = some ie) (hz : ZI ie sz) (hby : ie.bytes = by_) (hb0 : Nat.blt 0 by_ = true)
    (hx : ev c F x = some (.slice b 0 m k)) (hy : ev c F y = some (.slice b' 0 q q')) (hb : lkB H b = some (.ints e (A ++ sp))) (hb' : lkB H b' = some (.ints t' xl)) (hA : A.length = m * sz) (hxl : xl.length = q * sz) (hroom : k * sz ≤ m * sz + sp.length) (hnk : m ≤ k)
    (hlim : (2 * (m + q) + 192) * by_ ≤ 281474976710656) (h63 : m + q ≤ 1000000000000) (hN : Nat.blt d c.N = true) (hn : Nat.blt n 1000 = true)
    (h : ∀ (k' : Nat) (sp' : List Int), m + q ≤ k' → k' * sz ≤ (m + q) * sz + sp'.length → OW c ops Q rest ⟨(d, .slice n 0 (m + q) k') :: F, (n, .ints e ((A ++ xl) ++ sp')) :: (b, .dead) :: H, n + 1⟩) :
    OW c ops Q (⟨some d, .call ⟨.builtin .append, #[x, y], ats⟩, ty, pos, af, none⟩ :: rest) ⟨F, H, n⟩ := by
  have hv : IsSl H sz (.slice b' 0 q q') q xl := by
    have := IsSl.mk (sz := sz) (k := q') hb' (show 0 + q * sz ≤ xl.length by omega)
    rwa [List.drop_zero, ← hxl, List.take_length] at this
  refine oAppOwn hat ht hd ht2 hd2 he hz hby hb0 hx hy hb hv (by rw [List.length_append, hA]; exact hroom) hnk hlim h63 hN hn fun k' spare h1 h2 => ?_
  have e1 : (A ++ sp).take (m * sz) = A := by rw [← hA]; simp
  rw [e1]
  exact h k' spare h1 h2
theorem putI_all {l : List Int} {sz : Nat} (h : l.length = sz) : putI (List.replicate sz 0) 0 l = l := by
  have key : ∀ (m z pre : List Int), z.length = m.length → putI (pre ++ z) pre.length m = pre ++ m := by
    intro m
    induction m with
    | nil => intro z pre h; simp [putI, List.eq_nil_of_length_eq_zero h]
    | cons x m ih =>
      intro z pre h
      match z, h with
      | y :: z, h =>
        have := ih z (pre ++ [x]) (by simpa using h)
        simp only [List.length_append, List.length_cons, List.length_nil, Nat.zero_add, List.append_assoc, List.cons_append, List.nil_append] at this
        simp only [putI]
        refine Eq.trans ?_ this
        congr 1
        simp
  have := key l (List.replicate sz 0) [] (by simp [h])
  simpa using this
/-- a slice of one array -/
theorem oBsl1 {t : TypeId} {ps : List (Nat × Operand)} {l : List Int} {i ie : TI} {e sz : Nat} (hl : l.length = sz) (ht : lkT c.T t = some i) (hd : i.d = .slice e) (he : lkT c.T e = some ie) (hs : ie.size = sz) (hz : ie.z = some (.arr (List.replicate sz 0))) (h0 : Nat.blt 0 sz = true)
    (hp : evp c F ps = some [(0, .arr l)]) (hlim : Nat.ble sz 16777216 = true) (hN : Nat.blt d c.N = true) (hn : Nat.blt n 1000 = true) (h : OW c ops Q rest ⟨(d, .slice n 0 1 1) :: F, (n, .ints e l) :: H, n + 1⟩) : OW c ops Q (⟨some d, .buildSlice t 1 ps.toArray, ty, pos, af, none⟩ :: rest) ⟨F, H, n⟩ := by
  have e1 : fillI sz (List.replicate (1 * sz) 0) [(0, V.arr l)] = some l := by simp only [fillI, Nat.one_mul, Nat.zero_mul, putI_all hl]
  exact oBsl ht hd he hs (.inr ⟨hz, rfl, by simpa [Nat.blt_eq] using h0⟩) hp e1 (by simp [okParts, hl]) (by simpa using hlim) hN hn h
/-- one number of a written out list -/
theorem Q_ldc {s : S} {dst : Option Tmp} {g : Option (Nat × Bool)} {x : Operand} {t t' : TypeId} {i : TI} {b o : Nat} {l : List Int} {m : Int} (ht : lkT c.T t = some i) (hd : i.d = .int .i64) (hx : ev c s.F x = some (.ptr b o)) (hb : lkB s.H b = some (.ints t' l)) (h : l[o]? = some m) :
    QOp c ⟨dst, .load t x, ty, pos, af, g⟩ s (.int m) := by
  have hl : o < l.length := by
    rcases Nat.lt_or_ge o l.length with h' | h'
    · exact h'
    · rw [List.getElem?_eq_none h'] at h; cases h
  have := Q_ld (c := c) (s := s) (dst := dst) (ty := ty) (pos := pos) (af := af) (g := g) ht hd hx hb hl
  rwa [show l.getD o 0 = m by simp [List.getD, h]] at this
/-- the end of a function whose heap has turned -/
theorem exitH {s : S} {rs : List ResultVar} {R : V → Hp → Prop} {r0 : V} {H0 : Hp} {e : Exit} {vs : List V} (he : e = .normal ∨ e = .ret) (l : List (Nat × Nat)) (n' : Nat) (hvs : RVs c s rs vs) (hr : resV vs = ren (ap l) r0) (hn : nb r0 = true)
    (hD : (c.D.all fun d => Nat.beq (ap l d) d) = true) (hH : vH (ap l) s.H H0) (hwf : wfB c.D ⟨[(0, r0)], H0, n'⟩ = true) (hinj : injB (ap l) (ids H0) = true) (hR : R r0 H0) : exitP c rs R e s :=
  ⟨he, vs, r0, H0, n', hvs, View.mk' l hD hwf hinj ⟨by rw [← hr]; rfl, trivial⟩ hH, hn, hR⟩
/-- a call by a contract, the outcome written out -/
theorem oCall {f : Nat} {xs : List Operand} {ats : Array TypeId} {vs args0 : List V} {gl' : List (Nat × Nat)} {H0 : Hp} {R : V → Hp → Prop}
    (con : Con c.P gl' f args0 H0 R) (σ : List (Nat × Nat)) (M : Nat) (hx : evs c F xs = some vs) (hargs : vs = rens (ap σ) args0) (hfit : Fits c ⟨F, H, n⟩ (ap σ) gl' H0) (hM : Nat.ble (n + M) 1000 = true) (hN : Nat.blt d c.N = true)
    (h : ∀ r H1, R r H1 → ∃ v' Hn, scM H0 M r H1 = true ∧ ren (σ' H0 (ap σ) n) r = v' ∧ (H1.map fun x => (σ' H0 (ap σ) n x.1, x.2.ren (σ' H0 (ap σ) n))) = Hn ∧ OW c ops Q rest ⟨(d, v') :: F, Hn ++ H, n + M⟩) :
    OW c ops Q (⟨some d, .call ⟨.value (.func f), xs.toArray, ats⟩, ty, pos, af, none⟩ :: rest) ⟨F, H, n⟩ := by
  refine OW_call con σ M hx hargs hfit hM hN fun r H1 hR => ?_
  obtain ⟨v', Hn, h1, rfl, rfl, h2⟩ := h r H1 hR
  exact ⟨h1, h2⟩
end
theorem mul_bds {a b A B : Int} (h0 : -A ≤ a) (h1 : a ≤ A) (h2 : -B ≤ b) (h3 : b ≤ B) : -(A * B) ≤ a * b ∧ a * b ≤ A * B := by
  have hA : 0 ≤ A := by omega
  have hB : 0 ≤ B := by omega
  have e : (a * b).natAbs ≤ (A * B).natAbs := by
    rw [Int.natAbs_mul, Int.natAbs_mul]
    exact Nat.mul_le_mul (by omega) (by omega)
  have : 0 ≤ A * B := Int.mul_nonneg hA hB
  omega
section
variable {c : Cx} {Q : Post} {F : Fr} {H : Hp} {n : Nat} {ops : Array Oper} {rest : List Oper} {d : Nat} {ty : TypeId} {pos : String} {af : Array Edge} {K : S → Prop} {t t' : TypeId} {x y : Operand} {m k : Int}
/-- a product that stays in range, under a name of its own -/
theorem oMul (A B : Int) (hx : ev c F x = some (.int m)) (hy : ev c F y = some (.int k)) (ha : -A ≤ m ∧ m ≤ A) (hb : -B ≤ k ∧ k ≤ B) (hAB : A * B ≤ 9223372036854775807) (hN : Nat.blt d c.N = true)
    (h : ∀ z, z = m * k → -(A * B) ≤ z → z ≤ A * B → OW c ops Q rest ⟨(d, .int z) :: F, H, n⟩) : OW c ops Q (⟨some d, .binOp .mul t x y t', ty, pos, af, none⟩ :: rest) ⟨F, H, n⟩ := by
  have hm := mul_bds ha.1 ha.2 hb.1 hb.2
  exact oQ (Q_binu hx hy rfl (by omega)) hN rfl (h _ rfl hm.1 hm.2)
theorem mulN_bds {a b A B : Int} (h0 : 0 ≤ a) (h1 : a ≤ A) (h2 : 0 ≤ b) (h3 : b ≤ B) : 0 ≤ a * b ∧ a * b ≤ A * B :=
  ⟨Int.mul_nonneg h0 h2, Int.mul_le_mul h1 h3 h2 (Int.le_trans h0 h1)⟩
theorem oMulN (A B : Int) (hx : ev c F x = some (.int m)) (hy : ev c F y = some (.int k)) (ha : 0 ≤ m ∧ m ≤ A) (hb : 0 ≤ k ∧ k ≤ B) (hAB : A * B ≤ 9223372036854775807) (hN : Nat.blt d c.N = true)
    (h : ∀ z, z = m * k → 0 ≤ z → z ≤ A * B → OW c ops Q rest ⟨(d, .int z) :: F, H, n⟩) : OW c ops Q (⟨some d, .binOp .mul t x y t', ty, pos, af, none⟩ :: rest) ⟨F, H, n⟩ := by
  have hm := mulN_bds ha.1 ha.2 hb.1 hb.2
  exact oQ (Q_binu hx hy rfl (by omega)) hN rfl (h _ rfl hm.1 hm.2)
theorem Q_nmul {dst : Option Tmp} {s : S} {g : Option (Nat × Bool)} {a b : Nat} (hx : ev c s.F x = some (.int (a : Int))) (hy : ev c s.F y = some (.int (b : Int))) (h : a * b ≤ 4611686018427387904) : QOp c ⟨dst, .binOp .mul t x y t', ty, pos, af, g⟩ s (.int ((a * b : Nat) : Int)) :=
  Q_binu hx hy (congrArg some (Int.natCast_mul a b).symm) (by omega)
theorem Q_nrem {dst : Option Tmp} {s : S} {g : Option (Nat × Bool)} {a b : Nat} (hx : ev c s.F x = some (.int (a : Int))) (hy : ev c s.F y = some (.int (b : Int))) (h : b ≠ 0) : QOp c ⟨dst, .binOp .rem t x y t', ty, pos, af, g⟩ s (.int ((a % b : Nat) : Int)) := by
  have := Q_rem (c := c) (s := s) (dst := dst) (ty := ty) (pos := pos) (af := af) (g := g) (t := t) (t' := t') hx hy (by omega)
  rwa [Int.tmod_eq_emod_of_nonneg (by omega), ← Int.natCast_emod] at this
theorem Q_nquo {dst : Option Tmp} {s : S} {g : Option (Nat × Bool)} {a b : Nat} (hx : ev c s.F x = some (.int (a : Int))) (hy : ev c s.F y = some (.int (b : Int))) (h : b ≠ 0) (ha : a ≤ 4611686018427387904) : QOp c ⟨dst, .binOp .quo t x y t', ty, pos, af, g⟩ s (.int ((a / b : Nat) : Int)) := by
  have := Q_quo (c := c) (s := s) (dst := dst) (ty := ty) (pos := pos) (af := af) (g := g) (t := t) (t' := t') hx hy (by omega)
  have key : ∀ q : Nat, q ≤ a → wr (q : Int) = (q : Int) := fun q hq => wr_in (by omega)
  rwa [Int.tdiv_eq_ediv_of_nonneg (by omega), ← Int.natCast_ediv, key _ (Nat.div_le_self a b)] at this
end
/-- the numbers of a product stay small -/
theorem mul_bd {a b A B : Int} (h0 : 0 ≤ a) (h1 : a ≤ A) (h2 : 0 ≤ b) (h3 : b ≤ B) : 0 ≤ a * b ∧ a * b ≤ A * B :=
  ⟨Int.mul_nonneg h0 h2, Int.mul_le_mul h1 h3 h2 (Int.le_trans h0 h1)⟩
theorem mul_rng {a b p : Int} (h0 : 0 ≤ a) (h1 : a < p) (h2 : 0 ≤ b) (h3 : b < p) (hp : p ≤ 1000000) : -9223372036854775808 ≤ a * b ∧ a * b ≤ 9223372036854775807 := by
  have := mul_bd h0 (show a ≤ 1000000 by omega) h2 (show b ≤ 1000000 by omega)
  omega
end Go.Proofs.Ytchikadcicecoaa
namespace Go.Proofs.Ytchikadcicecoaa
attribute [local irreducible] CW OW QW QOp Con thenP inBlockP
set_option maxRecDepth 10000
set_option linter.unusedSimpArgs false
set_option linter.unusedVariables false
theorem mid_get {A L : List Int} {i : Nat} (hA : A.length = i) (h : i < L.length) : (A ++ L.drop i)[i]? = some (L.getD i 0) := by
  rw [List.getElem?_append_right (by omega), List.getElem?_drop]
  have : i + (i - A.length) = i := by omega
  rw [this]
  simp [List.getD, h]
theorem mid_set {A L : List Int} {i : Nat} {x : Int} (hA : A.length = i) (h : i < L.length) : (A ++ L.drop i).set i x = (A ++ [x]) ++ L.drop (i + 1) := by
  have : i - A.length = 0 := by omega
  rw [List.set_append_right _ _ (by omega), this, List.drop_eq_getElem_cons h, List.set_cons_zero, List.append_assoc]
  rfl
theorem mod_bd {p : Int} (hp : primeB p = true) (x : Int) : 0 ≤ x % p ∧ x % p < p := by
  have := prime_bd hp
  exact ⟨Int.emod_nonneg x (by omega), Int.emod_lt_of_pos x (by omega)⟩
theorem invz_bd {p : Int} (hp : primeB p = true) {n : Int} (h0 : 0 ≤ n) (h1 : n < p) : 0 ≤ invP p n ∧ invP p n < p := by
  have hb := prime_bd hp
  by_cases h : n = 0
  · subst h; rw [inv_zero]; omega
  · have := inv_spec hp (n := n) (by omega) h1; omega
theorem mod_mod_self (p x : Int) : x % p % p = x % p := Int.emod_emod_of_dvd x (Int.dvd_refl p)
theorem inverse_con (n p : Int) (hp : primeB p = true) (h0 : 0 < n) (h1 : n < p) : ConQ Try.prog [] 47 [.int n, .int p] [] (.int (invP p n)) := by
  have hb := prime_bd hp
  obtain ⟨v1, v2, v3⟩ := inv_spec hp h0 h1
  refine conW tab_ok [(0, .int n), (1, .int p)] 0 [] [] Try.func47 rfl rfl rfl rfl rfl rfl rfl rfl rfl ?_
  refine cR ?_
  refine oA rfl rfl ?_
  refine oN ?_
  refine cR ?_
  refine oA rfl rfl ?_
  refine oN ?_
  refine CW_seq ?_
  refine CW_block ?_
  refine CW_loop (ι := Nat) (fun i => 1 ≤ i ∧ (i : Int) ≤ invP p n) (fun i => ⟨[(0, .int n), (1, .int p), (5, .int i)], [], 0⟩) (fun i => (invP p n).toNat - i) 1 ?_ ?_ ?_
  · exact ⟨Nat.le_refl _, by omega⟩
  · refine View.mk' [] rfl rfl rfl ?_ ?_
    repeat' first | exact vFn | refine vFc rfl ?_ | exact vHn | refine vHc rfl ?_ | refine vFc (congrArg (fun z => some (V.int z)) ?_) ?_ | refine vHc (congrArg (fun z => some (Blk.ints _ z)) ?_) ?_ | refine vFc (congrArg (fun z => some (V.bool z)) ?_) ?_ | refine vFs rfl rfl ?_ ?_
  intro i hi
  obtain ⟨hi1, hi2⟩ := hi
  refine CW_seq ?_
  refine cR ?_
  iterate 2 refine oM rfl rfl ?_
  refine oQ (Q_binu rfl rfl rfl (mul_rng (p := p) (by omega) (by omega) (by omega) (by omega) (by omega))) rfl rfl ?_
  refine oM rfl rfl ?_
  refine oQ (Q_call0 (mod_con _ _ (by omega) (by omega)) rfl rfl rfl) rfl rfl ?_
  refine oQ (Q_bin rfl rfl rfl) rfl rfl ?_
  refine oN ?_
  first | refine cT rfl ?_ | refine cF rfl ?_ | refine CW_cond rfl (fun hc => ?_) (fun hc => ?_)
  all_goals try simp only [s1, s2, s3, s4, s5, s6, s7, s8, s9, s10, s11, s12] at hc
  all_goals first
    | (
     refine CW_skip ?_)
    | (
     refine CW_exit ?_)
  all_goals first
    | with_reducible refine tR ?_
    | with_reducible refine tE ?_
    | (
     with_reducible refine tN ?_
     refine CW_block ?_
     refine CW_region ?_
     refine oM rfl rfl ?_
     first | refine oQ (Q_binu rfl rfl rfl (by omega)) rfl rfl ?_ | refine oQ (Q_bin rfl rfl rfl) rfl rfl ?_
     refine oA rfl rfl ?_
     refine OW_nil ?_
     all_goals first | with_reducible refine bN ?_ | with_reducible refine bE ?_ | with_reducible refine bR ?_ | refine bX rfl ?_)
  all_goals first
    | with_reducible refine tR ?_
    | with_reducible refine tE ?_
    | (
     with_reducible refine tN ?_
     refine ⟨i + 1, ?_, ?_, View.mk' [] rfl rfl rfl ?_ ?_⟩
     · have hne : (i : Int) ≠ invP p n := fun e => by rw [e] at hc; exact hc v3
       exact ⟨by omega, by omega⟩
     · (have hne : (i : Int) ≠ invP p n := (fun e => by rw [e] at hc; exact hc v3)); omega
     all_goals (repeat' first | exact vFn | refine vFc rfl ?_ | exact vHn | refine vHc rfl ?_ | refine vFc (congrArg (fun z => some (V.int z)) ?_) ?_ | refine vHc (congrArg (fun z => some (Blk.ints _ z)) ?_) ?_ | refine vFc (congrArg (fun z => some (V.bool z)) ?_) ?_ | refine vFs rfl rfl ?_ ?_))
  all_goals first | with_reducible refine bN ?_ | with_reducible refine bE ?_ | with_reducible refine bR ?_ | refine bX rfl ?_
  all_goals with_reducible refine tN ?_
  all_goals (
   refine cR ?_
   refine oM rfl rfl ?_
   refine oA rfl rfl ?_
   refine oN ?_
   refine CW_ret ?_)
  all_goals (
   refine exitQ (.inr rfl) 0 (.cons (.tmp rfl rfl) .nil) ?_ rfl vHn rfl rfl
   exact congrArg V.int (inv_is hp h0 h1 (by omega) (by omega) hc).symm)
theorem l01Inverse_con (n p : Int) (hp : primeB p = true) : ConQ Try.prog [] 41 [.int p, .int n] [] (.int (invP p (n % p))) := by
  have hb := prime_bd hp
  have hm := mod_bd hp n
  have hst : n % p = 0 ∨ ((1 : Nat) : Int) ≤ invP p (n % p) := by
    by_cases h0 : n % p = 0
    · exact .inl h0
    · have := inv_spec hp (n := n % p) (by omega) hm.2
      exact .inr (by omega)
  refine conW tab_ok [(0, .int p), (1, .int n)] 0 [] [] Try.func41 rfl rfl rfl rfl rfl rfl rfl rfl rfl ?_
  refine cR ?_
  refine oA rfl rfl ?_
  refine oN ?_
  refine CW_seq ?_
  refine cR ?_
  refine oA rfl rfl ?_
  refine oN ?_
  refine CW_block ?_
  refine CW_loop (ι := Nat) (fun i => 1 ≤ i ∧ (i : Int) ≤ p ∧ (n % p = 0 ∨ (i : Int) ≤ invP p (n % p))) (fun i => ⟨[(0, .int p), (1, .int n), (5, .int i)], [], 0⟩) (fun i => p.toNat - i) 1 ?_ ?_ ?_
  · exact ⟨Nat.le_refl _, by omega, hst⟩
  · refine View.mk' [] rfl rfl rfl ?_ ?_
    repeat' first | exact vFn | refine vFc rfl ?_ | exact vHn | refine vHc rfl ?_ | refine vFc (congrArg (fun z => some (V.int z)) ?_) ?_ | refine vHc (congrArg (fun z => some (Blk.ints _ z)) ?_) ?_ | refine vFc (congrArg (fun z => some (V.bool z)) ?_) ?_ | refine vFs rfl rfl ?_ ?_
  intro i hi
  obtain ⟨hi1, hi2, hi3⟩ := hi
  have hmr : (i : Int) < p → -9223372036854775808 ≤ (i : Int) * (n % p) ∧ (i : Int) * (n % p) ≤ 9223372036854775807 := fun h => mul_rng (by omega) h hm.1 hm.2 (by omega)
  have hm0 : 0 ≤ (i : Int) * (n % p) := Int.mul_nonneg (by omega) hm.1
  refine CW_seq ?_
  refine cR ?_
  iterate 2 refine oM rfl rfl ?_
  refine oQ (Q_bin rfl rfl rfl) rfl rfl ?_
  refine oN ?_
  first | refine cT rfl ?_ | refine cF rfl ?_ | refine CW_cond rfl (fun hc => ?_) (fun hc => ?_)
  all_goals try simp only [s1, s2, s3, s4, s5, s6, s7, s8, s9, s10, s11, s12] at hc
  all_goals first
    | (
     refine CW_skip ?_)
    | (
     refine CW_exit ?_)
  all_goals first
    | with_reducible refine tR ?_
    | with_reducible refine tE ?_
    | (
     with_reducible refine tN ?_
     refine CW_seq ?_
     refine CW_block ?_
     refine cR ?_
     iterate 3 refine oM rfl rfl ?_
     refine oQ (Q_call0 (l01Mod_con _ _ (by omega) (by omega)) rfl rfl rfl) rfl rfl ?_
     first | refine oQ (Q_binu rfl rfl rfl (by omega)) rfl rfl ?_ | refine oQ (Q_bin rfl rfl rfl) rfl rfl ?_
     refine oM rfl rfl ?_
     refine oQ (Q_rem rfl rfl (by omega)) rfl rfl ?_
     refine oQ (Q_bin rfl rfl rfl) rfl rfl ?_
     refine oN ?_
     first | refine cT rfl ?_ | refine cF rfl ?_ | refine CW_cond rfl (fun hc => ?_) (fun hc => ?_)
     all_goals try simp only [s1, s2, s3, s4, s5, s6, s7, s8, s9, s10, s11, s12] at hc
     all_goals first
       | (
        refine CW_skip ?_)
       | (
        refine cR ?_
        refine oM rfl rfl ?_
        refine oA rfl rfl ?_
        refine oN ?_
        refine CW_ret ?_)
     all_goals first | with_reducible refine bN ?_ | with_reducible refine bE ?_ | with_reducible refine bR ?_ | refine bX rfl ?_
     all_goals first
       | with_reducible refine tR ?_
       | with_reducible refine tE ?_
       | (
        with_reducible refine tN ?_
        refine CW_region ?_
        refine oM rfl rfl ?_
        first | refine oQ (Q_binu rfl rfl rfl (by omega)) rfl rfl ?_ | refine oQ (Q_bin rfl rfl rfl) rfl rfl ?_
        refine oA rfl rfl ?_
        refine OW_nil ?_))
  all_goals first
    | with_reducible refine tR ?_
    | with_reducible refine tE ?_
    | (
     with_reducible refine tN ?_
     refine ⟨i + 1, ?_, ?_, View.mk' [] rfl rfl rfl ?_ ?_⟩
     · refine ⟨by omega, by omega, ?_⟩
       rcases hi3 with h0 | h0
       · exact .inl h0
       · refine .inr ?_
         have hpos : 0 < n % p := by
           rcases Int.lt_trichotomy 0 (n % p) with h | h | h
           · exact h
           · rw [← h, inv_zero] at h0; omega
           · omega
         have v := inv_spec hp hpos hm.2
         have hne : (i : Int) ≠ invP p (n % p) := fun e => by apply hc; rw [Int.tmod_eq_emod_of_nonneg hm0, e, Int.mul_comm]; exact v.2.2
         omega
     · omega
     all_goals (repeat' first | exact vFn | refine vFc rfl ?_ | exact vHn | refine vHc rfl ?_ | refine vFc (congrArg (fun z => some (V.int z)) ?_) ?_ | refine vHc (congrArg (fun z => some (Blk.ints _ z)) ?_) ?_ | refine vFc (congrArg (fun z => some (V.bool z)) ?_) ?_ | refine vFs rfl rfl ?_ ?_))
  all_goals first | with_reducible refine bN ?_ | with_reducible refine bE ?_ | with_reducible refine bR ?_ | refine bX rfl ?_
  all_goals first
    | with_reducible refine tR ?_
    | with_reducible refine tE ?_
    | (
     with_reducible refine tN ?_
     refine cR ?_
     refine oA rfl rfl ?_
     refine oN ?_
     refine CW_ret ?_)
  all_goals (
   refine exitQ (.inr rfl) 0 (.cons (.tmp rfl rfl) .nil) ?_ rfl vHn rfl rfl
   refine congrArg V.int ?_
   by_cases h0 : n % p = 0
   · first
       | (rw [h0, inv_zero]; done)
       | (exfalso; rw [h0] at hc; simp at hc)
   · have v := inv_spec hp (n := n % p) (by omega) hm.2
     first
       | (exfalso; omega)
       | (rw [Int.tmod_eq_emod_of_nonneg hm0, Int.mul_comm] at hc
          exact (inv_is hp (n := n % p) (by omega) hm.2 (by omega) (by omega) hc).symm))
theorem norm_mid {p : Int} {L : List Int} {i : Nat} {x : Int} (hp : primeB p = true) (h : i < L.length) (hx : x = L.getD i 0 % p * facP p (L.take (i + 1)) % p) :
    (normL p (L.take i) ++ L.drop i).set i x = normL p (L.take (i + 1)) ++ L.drop (i + 1) := by
  rw [mid_set (by rw [normL_length]; simp; omega) h, take_snoc h, norm_snoc hp, ← take_snoc h, hx]
theorem fac_nil (p : Int) : facP p [] = 0 := by simp [facP, fnz, inv_zero]
theorem fac_step {p : Int} {L : List Int} {i : Nat} (hp : primeB p = true) (h : i < L.length) : facP p (L.take (i + 1)) = if facP p (L.take i) = 0 then (if L.getD i 0 % p = 0 then 0 else invP p (L.getD i 0 % p)) else facP p (L.take i) := by
  rw [take_snoc h, fac_snoc hp]
theorem normal_con (p : Int) (t : TypeId) (L : List Int) (n k : Nat) (hn : n ≤ L.length) (hp : primeB p = true) (hL : n ≤ 1000000000) : Con Try.prog [] 48 [.int p, .slice 0 0 n k] [(0, .ints t L)]
    (fun r H' => r = .bool (facP p (L.take n) != 0) ∧ H' = [(0, .ints t (normL p (L.take n) ++ L.drop n))]) := by
  have hb := prime_bd hp
  refine conW tab_ok [(0, .int p), (1, .slice 0 0 n k)] 1 [0] [0] Try.func48 rfl rfl rfl rfl rfl rfl rfl rfl rfl ?_
  refine cR ?_
  refine oA rfl rfl ?_
  refine oN ?_
  refine cR ?_
  refine oA rfl rfl ?_
  refine oN ?_
  refine CW_seq ?_
  refine cR ?_
  refine oM rfl rfl ?_
  first | refine oQ (Q_len rfl rfl rfl rfl) rfl rfl ?_ | refine oQ (Q_len0 rfl rfl rfl rfl) rfl rfl ?_
  refine oM rfl rfl ?_
  refine oN ?_
  refine CW_block ?_
  refine CW_loop (ι := Nat) (fun i => i ≤ n) (fun i => ⟨[(0, .int p), (1, .slice 0 0 n k), (5, .int (facP p (L.take i))), (8, .slice 0 0 n k), (9, .int n), (10, .int i)], [(0, .ints t (normL p (L.take i) ++ L.drop i))], 1⟩) (fun i => n - i) 0 ?_ ?_ ?_
  · first | trivial | omega | (simp; done) | (simp; omega)
  · refine View.mk' [] rfl rfl rfl ?_ ?_
    repeat' first | exact vFn | refine vFc rfl ?_ | exact vHn | refine vHc rfl ?_ | refine vFc (congrArg (fun z => some (V.int z)) ?_) ?_ | refine vHc (congrArg (fun z => some (Blk.ints _ z)) ?_) ?_ | refine vFc (congrArg (fun z => some (V.bool z)) ?_) ?_ | refine vFs rfl rfl ?_ ?_
    exact (fac_nil p).symm
  intro i hi
  have hfb := fac_bd hp (L.take i)
  have hxb := mod_bd hp (L.getD i 0)
  have hib := invz_bd hp hxb.1 hxb.2
  have hlen : (normL p (L.take i)).length = min i L.length := by rw [normL_length]; simp
  refine cR ?_
  refine oQ (Q_bin rfl rfl rfl) rfl rfl ?_
  refine oN ?_
  refine CW_seq ?_
  first | refine cT rfl ?_ | refine cF rfl ?_ | refine CW_cond rfl (fun hc => ?_) (fun hc => ?_)
  all_goals try simp only [s1, s2, s3, s4, s5, s6, s7, s8, s9, s10, s11, s12] at hc
  all_goals first
    | (
     refine CW_skip ?_)
    | (
     refine CW_exit ?_)
  all_goals first
    | with_reducible refine tR ?_
    | with_reducible refine tE ?_
    | (
     with_reducible refine tN ?_
     refine CW_seq ?_
     refine CW_block ?_
     refine cR ?_
     refine oM rfl rfl ?_
     first | refine oQ (Is0 rfl rfl rfl rfl rfl rfl) rfl rfl ?_ | refine oQ (Is1 rfl rfl rfl rfl rfl rfl) rfl rfl ?_
     refine oQ (Q_ldc rfl rfl rfl rfl (mid_get (by omega) (by omega))) rfl rfl ?_
     iterate 2 refine oA rfl rfl ?_
     refine oN ?_
     refine cR ?_
     iterate 2 refine oM rfl rfl ?_
     refine oQ (Q_call0 (mod_con _ _ (by omega) (by omega)) rfl rfl rfl) rfl rfl ?_
     refine oA rfl rfl ?_
     refine oN ?_
     refine CW_seq ?_
     refine cR ?_
     refine oM rfl rfl ?_
     refine oQ (Q_bin rfl rfl rfl) rfl rfl ?_
     refine oM rfl rfl ?_
     all_goals first | refine oT rfl rfl ?_ | refine o1 rfl rfl rfl ?_ | refine o0 rfl rfl rfl ?_ | refine ogP1 rfl rfl rfl (fun hg => ?_) (fun hg => ?_) | refine ogP0 rfl rfl rfl (fun hg => ?_) (fun hg => ?_)
     all_goals try simp only [s1, s2, s3, s4, s5, s6, s7, s8, s9, s10, s11, s12] at hg
     all_goals first | (refine oM rfl rfl ?_) | skip
     all_goals first | refine oT rfl rfl ?_ | refine o1 rfl rfl rfl ?_ | refine o0 rfl rfl rfl ?_ | refine ogP1 rfl rfl rfl (fun hg => ?_) (fun hg => ?_) | refine ogP0 rfl rfl rfl (fun hg => ?_) (fun hg => ?_)
     all_goals try simp only [s1, s2, s3, s4, s5, s6, s7, s8, s9, s10, s11, s12] at hg
     all_goals first | (refine oQ (Q_bin rfl rfl rfl) rfl rfl ?_) | skip
     all_goals first | refine oQ (Q_pick_t rfl (by with_reducible rfl) rfl rfl) rfl rfl ?_ | refine oQ (Q_pick_f rfl (by with_reducible rfl) rfl rfl) rfl rfl ?_
     all_goals refine oN ?_
     all_goals (
      first | refine cT rfl ?_ | refine cF rfl ?_ | refine CW_cond rfl (fun hc => ?_) (fun hc => ?_)
      all_goals try simp only [s1, s2, s3, s4, s5, s6, s7, s8, s9, s10, s11, s12] at hc
      all_goals first
        | (
         refine CW_skip ?_)
        | (
         refine CW_region ?_
         iterate 2 refine oM rfl rfl ?_
         (have hc' := hc); refine oQ (Q_call0 (inverse_con _ _ hp (by omega) (by omega)) rfl rfl rfl) rfl rfl ?_
         refine oA rfl rfl ?_
         refine OW_nil ?_))
     all_goals with_reducible refine tN ?_
     all_goals (
      refine CW_region ?_
      iterate 4 refine oM rfl rfl ?_
      refine oQ (Q_binu rfl rfl rfl (mul_rng (p := p) (by omega) (by omega) (by omega) (by omega) (by omega))) rfl rfl ?_
      refine oM rfl rfl ?_
      refine oQ (Q_call0 (mod_con _ _ (by omega) (by omega)) rfl rfl rfl) rfl rfl ?_
      first | refine oQ (Is0 rfl rfl rfl rfl rfl rfl) rfl rfl ?_ | refine oQ (Is1 rfl rfl rfl rfl rfl rfl) rfl rfl ?_
      refine oS rfl rfl rfl rfl rfl ?_
      refine OW_nil ?_)
     all_goals first | with_reducible refine bN ?_ | with_reducible refine bE ?_ | with_reducible refine bR ?_ | refine bX rfl ?_
     all_goals with_reducible refine tN ?_
     all_goals (
      refine CW_region ?_
      first | refine oQ (Q_binu rfl rfl rfl (by omega)) rfl rfl ?_ | refine oQ (Q_bin rfl rfl rfl) rfl rfl ?_
      refine oM rfl rfl ?_
      refine OW_nil ?_))
  all_goals first
    | with_reducible refine tR ?_
    | with_reducible refine tE ?_
    | (
     with_reducible refine tN ?_
     refine ⟨i + 1, ?_, ?_, View.mk' [] rfl rfl rfl ?_ ?_⟩
     · omega
     · omega
     all_goals (repeat' first | exact vFn | refine vFc rfl ?_ | exact vHn | refine vHc rfl ?_ | refine vFc (congrArg (fun z => some (V.int z)) ?_) ?_ | refine vHc (congrArg (fun z => some (Blk.ints _ z)) ?_) ?_ | refine vFc (congrArg (fun z => some (V.bool z)) ?_) ?_ | refine vFs rfl rfl ?_ ?_)
     all_goals (have hfs := fac_step hp (L := L) (i := i) (by omega))
     all_goals first | (refine norm_mid hp (by omega) ?_; congr 2; simp_all; done) | (simp_all; done))
  all_goals first | with_reducible refine bN ?_ | with_reducible refine bE ?_ | with_reducible refine bR ?_ | refine bX rfl ?_
  all_goals with_reducible refine tN ?_
  all_goals (
   refine cR ?_
   refine oM rfl rfl ?_
   refine oQ (Q_bin rfl rfl rfl) rfl rfl ?_
   refine oA rfl rfl ?_
   refine oN ?_
   refine CW_ret ?_)
  all_goals (
   have e : i = n := by omega
   subst e
   exact exitH (.inr rfl) [] 1 (.cons (.tmp rfl rfl) .nil) rfl rfl rfl (vHc rfl vHn) rfl rfl ⟨rfl, rfl⟩)
end Go.Proofs.Ytchikadcicecoaa
namespace Go.Proofs.Ytchikadcicecoaa
attribute [local irreducible] CW OW QW QOp Con thenP inBlockP
set_option maxRecDepth 10000
set_option linter.unusedSimpArgs false
set_option linter.unusedVariables false
theorem mod_list {p : Int} {l : List Int} (h : modB p l = true) : ∀ x ∈ l, 0 ≤ x ∧ x < p := by
  intro x hx
  have := List.all_eq_true.1 h x hx
  simp at this
  omega
theorem norm_list {p : Int} {l : List Int} (h : normB p l = true) : ∀ x ∈ l, 0 ≤ x ∧ x < p := by
  simp only [normB, Bool.and_eq_true] at h
  exact mod_list h.1
theorem all_snoc {f : Int → Bool} {l : List Int} {i : Nat} (hi : i < l.length) (h : (l.take i).all f = true) (h1 : f (l.getD i 0) = true) : (l.take (i + 1)).all f = true := by
  rw [take_snoc hi, List.all_append, h]
  simpa using h1
theorem all_fail {f : Int → Bool} {l : List Int} {i n : Nat} (hi : i < l.length) (hn : i < n) (h : f (l.getD i 0) = false) : (l.take n).all f = false := by
  rw [List.all_eq_false]
  refine ⟨l.getD i 0, ?_, by rw [h]; simp⟩
  rw [List.mem_take_iff_getElem]
  exact ⟨i, by omega, by simp [List.getD, hi]⟩
/-- element number i of a list of arrays -/
abbrev elemAt (sz : Nat) (M : List Int) (i : Nat) : List Int := (M.drop (i * sz)).take sz
theorem elemAt_length {sz : Nat} {M : List Int} {i k : Nat} (h : k * sz ≤ M.length) (hi : i < k) : (elemAt sz M i).length = sz := by
  have : (i + 1) * sz ≤ k * sz := Nat.mul_le_mul_right sz hi
  rw [Nat.add_mul] at this
  simp; omega
def anyF (g : List Int → Bool) (sz : Nat) (M : List Int) (k : Nat) : Bool := (List.range k).any fun i => g (elemAt sz M i)
end Go.Proofs.Ytchikadcicecoaa
namespace Go.Proofs.Ytchikadcicecoaa
attribute [local irreducible] CW OW QW QOp Con thenP inBlockP
set_option maxRecDepth 10000
set_option linter.unusedSimpArgs false
set_option linter.unusedVariables false
/-- four numbers are a Moebius map modulo a prime -/
def moebB (p : Int) (m : List Int) : Bool := normB p m && ((m.getD 0 0 * m.getD 3 0 - m.getD 1 0 * m.getD 2 0) % p != 0)
theorem isMoebius_con (p a b c d : Int) (hp : primeB p = true) : ConQ Try.prog [] 35 [.int p, .arr [a, b, c, d]] [] (.bool (moebB p [a, b, c, d])) := by
  have hpb := prime_bd hp
  refine conW tab_ok [(0, .int p), (1, .arr [a, b, c, d])] 0 [] [] Try.func35 rfl rfl rfl rfl rfl rfl rfl rfl rfl ?_
  refine cR ?_
  refine oBox rfl rfl rfl rfl rfl rfl ?_
  refine oA rfl rfl ?_
  refine oN ?_
  refine cR ?_
  refine oM rfl rfl ?_
  refine oQ (Q_slaF rfl rfl rfl rfl) rfl rfl ?_
  refine oQ (Q_call (isNormal_con p 23 [a, b, c, d] 4 4 (Nat.le_refl _) (by omega) (by decide)) [] rfl rfl (Fits.mk' (vHc rfl vHn) rfl rfl (by simp)) rfl rfl) rfl rfl ?_
  refine oM rfl rfl ?_
  all_goals first | refine oT rfl rfl ?_ | refine o1 rfl rfl rfl ?_ | refine o0 rfl rfl rfl ?_ | refine ogP1 rfl rfl rfl (fun hg => ?_) (fun hg => ?_) | refine ogP0 rfl rfl rfl (fun hg => ?_) (fun hg => ?_)
  all_goals try simp only [s1, s2, s3, s4, s5, s6, s7, s8, s9, s10, s11, s12] at hg
  all_goals first | ((have hN := norm_list (l := [a, b, c, d]) hg); (have ha := hN a (by simp)); (have hb := hN b (by simp)); (have hc := hN c (by simp)); (have hd := hN d (by simp)); refine oQ (Q_ixa0 rfl rfl rfl rfl rfl rfl (by first | omega | (dsimp only; omega) | (simp; omega) | (simp; done))) rfl rfl ?_) | skip
  all_goals first | refine oT rfl rfl ?_ | refine o1 rfl rfl rfl ?_ | refine o0 rfl rfl rfl ?_ | refine ogP1 rfl rfl rfl (fun hg => ?_) (fun hg => ?_) | refine ogP0 rfl rfl rfl (fun hg => ?_) (fun hg => ?_)
  all_goals try simp only [s1, s2, s3, s4, s5, s6, s7, s8, s9, s10, s11, s12] at hg
  all_goals first | refine oQ (Q_ldc rfl rfl rfl rfl rfl) rfl rfl ?_ | refine oQ (Ld rfl rfl rfl rfl) rfl rfl ?_ | skip
  all_goals first | refine oT rfl rfl ?_ | refine o1 rfl rfl rfl ?_ | refine o0 rfl rfl rfl ?_ | refine ogP1 rfl rfl rfl (fun hg => ?_) (fun hg => ?_) | refine ogP0 rfl rfl rfl (fun hg => ?_) (fun hg => ?_)
  all_goals try simp only [s1, s2, s3, s4, s5, s6, s7, s8, s9, s10, s11, s12] at hg
  all_goals first | refine oQ (Ia0 rfl rfl rfl rfl rfl rfl) rfl rfl ?_ | refine oQ (Ia1 rfl rfl rfl rfl rfl rfl) rfl rfl ?_ | skip
  all_goals first | refine oT rfl rfl ?_ | refine o1 rfl rfl rfl ?_ | refine o0 rfl rfl rfl ?_ | refine ogP1 rfl rfl rfl (fun hg => ?_) (fun hg => ?_) | refine ogP0 rfl rfl rfl (fun hg => ?_) (fun hg => ?_)
  all_goals try simp only [s1, s2, s3, s4, s5, s6, s7, s8, s9, s10, s11, s12] at hg
  all_goals first | refine oQ (Q_ldc rfl rfl rfl rfl rfl) rfl rfl ?_ | refine oQ (Ld rfl rfl rfl rfl) rfl rfl ?_ | skip
  all_goals first | refine oT rfl rfl ?_ | refine o1 rfl rfl rfl ?_ | refine o0 rfl rfl rfl ?_ | refine ogP1 rfl rfl rfl (fun hg => ?_) (fun hg => ?_) | refine ogP0 rfl rfl rfl (fun hg => ?_) (fun hg => ?_)
  all_goals try simp only [s1, s2, s3, s4, s5, s6, s7, s8, s9, s10, s11, s12] at hg
  all_goals first | (refine oMul 12 12 rfl rfl (by omega) (by omega) (by decide) rfl (fun z13 hz13 hl13 hu13 => ?_)) | skip
  all_goals first | refine oT rfl rfl ?_ | refine o1 rfl rfl rfl ?_ | refine o0 rfl rfl rfl ?_ | refine ogP1 rfl rfl rfl (fun hg => ?_) (fun hg => ?_) | refine ogP0 rfl rfl rfl (fun hg => ?_) (fun hg => ?_)
  all_goals try simp only [s1, s2, s3, s4, s5, s6, s7, s8, s9, s10, s11, s12] at hg
  all_goals first | refine oQ (Ia0 rfl rfl rfl rfl rfl rfl) rfl rfl ?_ | refine oQ (Ia1 rfl rfl rfl rfl rfl rfl) rfl rfl ?_ | skip
  all_goals first | refine oT rfl rfl ?_ | refine o1 rfl rfl rfl ?_ | refine o0 rfl rfl rfl ?_ | refine ogP1 rfl rfl rfl (fun hg => ?_) (fun hg => ?_) | refine ogP0 rfl rfl rfl (fun hg => ?_) (fun hg => ?_)
  all_goals try simp only [s1, s2, s3, s4, s5, s6, s7, s8, s9, s10, s11, s12] at hg
  all_goals first | refine oQ (Q_ldc rfl rfl rfl rfl rfl) rfl rfl ?_ | refine oQ (Ld rfl rfl rfl rfl) rfl rfl ?_ | skip
  all_goals first | refine oT rfl rfl ?_ | refine o1 rfl rfl rfl ?_ | refine o0 rfl rfl rfl ?_ | refine ogP1 rfl rfl rfl (fun hg => ?_) (fun hg => ?_) | refine ogP0 rfl rfl rfl (fun hg => ?_) (fun hg => ?_)
  all_goals try simp only [s1, s2, s3, s4, s5, s6, s7, s8, s9, s10, s11, s12] at hg
  all_goals first | refine oQ (Ia0 rfl rfl rfl rfl rfl rfl) rfl rfl ?_ | refine oQ (Ia1 rfl rfl rfl rfl rfl rfl) rfl rfl ?_ | skip
  all_goals first | refine oT rfl rfl ?_ | refine o1 rfl rfl rfl ?_ | refine o0 rfl rfl rfl ?_ | refine ogP1 rfl rfl rfl (fun hg => ?_) (fun hg => ?_) | refine ogP0 rfl rfl rfl (fun hg => ?_) (fun hg => ?_)
  all_goals try simp only [s1, s2, s3, s4, s5, s6, s7, s8, s9, s10, s11, s12] at hg
  all_goals first | refine oQ (Q_ldc rfl rfl rfl rfl rfl) rfl rfl ?_ | refine oQ (Ld rfl rfl rfl rfl) rfl rfl ?_ | skip
  all_goals first | refine oT rfl rfl ?_ | refine o1 rfl rfl rfl ?_ | refine o0 rfl rfl rfl ?_ | refine ogP1 rfl rfl rfl (fun hg => ?_) (fun hg => ?_) | refine ogP0 rfl rfl rfl (fun hg => ?_) (fun hg => ?_)
  all_goals try simp only [s1, s2, s3, s4, s5, s6, s7, s8, s9, s10, s11, s12] at hg
  all_goals first | (refine oMul 12 12 rfl rfl (by omega) (by omega) (by decide) rfl (fun z18 hz18 hl18 hu18 => ?_)) | skip
  all_goals first | refine oT rfl rfl ?_ | refine o1 rfl rfl rfl ?_ | refine o0 rfl rfl rfl ?_ | refine ogP1 rfl rfl rfl (fun hg => ?_) (fun hg => ?_) | refine ogP0 rfl rfl rfl (fun hg => ?_) (fun hg => ?_)
  all_goals try simp only [s1, s2, s3, s4, s5, s6, s7, s8, s9, s10, s11, s12] at hg
  all_goals first | refine oQ (Q_binu rfl rfl rfl (by omega)) rfl rfl ?_ | refine oQ (Q_bin rfl rfl rfl) rfl rfl ?_ | skip
  all_goals first | refine oT rfl rfl ?_ | refine o1 rfl rfl rfl ?_ | refine o0 rfl rfl rfl ?_ | refine ogP1 rfl rfl rfl (fun hg => ?_) (fun hg => ?_) | refine ogP0 rfl rfl rfl (fun hg => ?_) (fun hg => ?_)
  all_goals try simp only [s1, s2, s3, s4, s5, s6, s7, s8, s9, s10, s11, s12] at hg
  all_goals first | (refine oM rfl rfl ?_) | skip
  all_goals first | refine oT rfl rfl ?_ | refine o1 rfl rfl rfl ?_ | refine o0 rfl rfl rfl ?_ | refine ogP1 rfl rfl rfl (fun hg => ?_) (fun hg => ?_) | refine ogP0 rfl rfl rfl (fun hg => ?_) (fun hg => ?_)
  all_goals try simp only [s1, s2, s3, s4, s5, s6, s7, s8, s9, s10, s11, s12] at hg
  all_goals first | (refine oQ (Q_call0 (mod_con _ _ (by omega) (by omega)) rfl rfl rfl) rfl rfl ?_) | skip
  all_goals first | refine oT rfl rfl ?_ | refine o1 rfl rfl rfl ?_ | refine o0 rfl rfl rfl ?_ | refine ogP1 rfl rfl rfl (fun hg => ?_) (fun hg => ?_) | refine ogP0 rfl rfl rfl (fun hg => ?_) (fun hg => ?_)
  all_goals try simp only [s1, s2, s3, s4, s5, s6, s7, s8, s9, s10, s11, s12] at hg
  all_goals first | (refine oQ (Q_bin rfl rfl rfl) rfl rfl ?_) | skip
  all_goals first | refine oQ (Q_pick_t rfl (by with_reducible rfl) rfl rfl) rfl rfl ?_ | refine oQ (Q_pick_f rfl (by with_reducible rfl) rfl rfl) rfl rfl ?_
  all_goals first | (refine oA rfl rfl ?_)
  all_goals refine oN ?_
  all_goals (
   refine CW_ret ?_)
  all_goals (
   refine exitQ (.inr rfl) 0 (.cons (.tmp rfl rfl) .nil) ?_ rfl vHn rfl rfl
   first
     | (subst hz13 hz18; (have hg' : normB p [a, b, c, d] = true := hg); simp [resV, moebB, hg']; done)
     | ((have hg' : normB p [a, b, c, d] = false := hg); simp [resV, moebB, hg']))
theorem l05Is_con (p a b c d : Int) : ConQ Try.prog [] 31 [.int p, .arr [a, b, c, d]] [] (.bool (primeB p && moebB p [a, b, c, d])) := by
  refine conW tab_ok [(0, .int p), (1, .arr [a, b, c, d])] 0 [] [] Try.func31 rfl rfl rfl rfl rfl rfl rfl rfl rfl ?_
  refine cR ?_
  refine oBox rfl rfl rfl rfl rfl rfl ?_
  refine oA rfl rfl ?_
  refine oN ?_
  refine cR ?_
  refine oM rfl rfl ?_
  refine oQ (Q_call0 (l01Prime_con _) rfl rfl rfl) rfl rfl ?_
  refine oM rfl rfl ?_
  all_goals first | refine oT rfl rfl ?_ | refine o1 rfl rfl rfl ?_ | refine o0 rfl rfl rfl ?_ | refine ogP1 rfl rfl rfl (fun hg => ?_) (fun hg => ?_) | refine ogP0 rfl rfl rfl (fun hg => ?_) (fun hg => ?_)
  all_goals try simp only [s1, s2, s3, s4, s5, s6, s7, s8, s9, s10, s11, s12] at hg
  all_goals first | (refine oM rfl rfl ?_) | skip
  all_goals first | refine oT rfl rfl ?_ | refine o1 rfl rfl rfl ?_ | refine o0 rfl rfl rfl ?_ | refine ogP1 rfl rfl rfl (fun hg => ?_) (fun hg => ?_) | refine ogP0 rfl rfl rfl (fun hg => ?_) (fun hg => ?_)
  all_goals try simp only [s1, s2, s3, s4, s5, s6, s7, s8, s9, s10, s11, s12] at hg
  all_goals first | refine oQ (Ia0 rfl rfl rfl rfl rfl rfl) rfl rfl ?_ | refine oQ (Ia1 rfl rfl rfl rfl rfl rfl) rfl rfl ?_ | skip
  all_goals first | refine oT rfl rfl ?_ | refine o1 rfl rfl rfl ?_ | refine o0 rfl rfl rfl ?_ | refine ogP1 rfl rfl rfl (fun hg => ?_) (fun hg => ?_) | refine ogP0 rfl rfl rfl (fun hg => ?_) (fun hg => ?_)
  all_goals try simp only [s1, s2, s3, s4, s5, s6, s7, s8, s9, s10, s11, s12] at hg
  all_goals first | refine oQ (Q_ldc rfl rfl rfl rfl rfl) rfl rfl ?_ | refine oQ (Ld rfl rfl rfl rfl) rfl rfl ?_ | skip
  all_goals first | refine oT rfl rfl ?_ | refine o1 rfl rfl rfl ?_ | refine o0 rfl rfl rfl ?_ | refine ogP1 rfl rfl rfl (fun hg => ?_) (fun hg => ?_) | refine ogP0 rfl rfl rfl (fun hg => ?_) (fun hg => ?_)
  all_goals try simp only [s1, s2, s3, s4, s5, s6, s7, s8, s9, s10, s11, s12] at hg
  all_goals first | refine oQ (Ia0 rfl rfl rfl rfl rfl rfl) rfl rfl ?_ | refine oQ (Ia1 rfl rfl rfl rfl rfl rfl) rfl rfl ?_ | skip
  all_goals first | refine oT rfl rfl ?_ | refine o1 rfl rfl rfl ?_ | refine o0 rfl rfl rfl ?_ | refine ogP1 rfl rfl rfl (fun hg => ?_) (fun hg => ?_) | refine ogP0 rfl rfl rfl (fun hg => ?_) (fun hg => ?_)
  all_goals try simp only [s1, s2, s3, s4, s5, s6, s7, s8, s9, s10, s11, s12] at hg
  all_goals first | refine oQ (Q_ldc rfl rfl rfl rfl rfl) rfl rfl ?_ | refine oQ (Ld rfl rfl rfl rfl) rfl rfl ?_ | skip
  all_goals first | refine oT rfl rfl ?_ | refine o1 rfl rfl rfl ?_ | refine o0 rfl rfl rfl ?_ | refine ogP1 rfl rfl rfl (fun hg => ?_) (fun hg => ?_) | refine ogP0 rfl rfl rfl (fun hg => ?_) (fun hg => ?_)
  all_goals try simp only [s1, s2, s3, s4, s5, s6, s7, s8, s9, s10, s11, s12] at hg
  all_goals first | refine oQ (Ia0 rfl rfl rfl rfl rfl rfl) rfl rfl ?_ | refine oQ (Ia1 rfl rfl rfl rfl rfl rfl) rfl rfl ?_ | skip
  all_goals first | refine oT rfl rfl ?_ | refine o1 rfl rfl rfl ?_ | refine o0 rfl rfl rfl ?_ | refine ogP1 rfl rfl rfl (fun hg => ?_) (fun hg => ?_) | refine ogP0 rfl rfl rfl (fun hg => ?_) (fun hg => ?_)
  all_goals try simp only [s1, s2, s3, s4, s5, s6, s7, s8, s9, s10, s11, s12] at hg
  all_goals first | refine oQ (Q_ldc rfl rfl rfl rfl rfl) rfl rfl ?_ | refine oQ (Ld rfl rfl rfl rfl) rfl rfl ?_ | skip
  all_goals first | refine oT rfl rfl ?_ | refine o1 rfl rfl rfl ?_ | refine o0 rfl rfl rfl ?_ | refine ogP1 rfl rfl rfl (fun hg => ?_) (fun hg => ?_) | refine ogP0 rfl rfl rfl (fun hg => ?_) (fun hg => ?_)
  all_goals try simp only [s1, s2, s3, s4, s5, s6, s7, s8, s9, s10, s11, s12] at hg
  all_goals first | refine oQ (Ia0 rfl rfl rfl rfl rfl rfl) rfl rfl ?_ | refine oQ (Ia1 rfl rfl rfl rfl rfl rfl) rfl rfl ?_ | skip
  all_goals first | refine oT rfl rfl ?_ | refine o1 rfl rfl rfl ?_ | refine o0 rfl rfl rfl ?_ | refine ogP1 rfl rfl rfl (fun hg => ?_) (fun hg => ?_) | refine ogP0 rfl rfl rfl (fun hg => ?_) (fun hg => ?_)
  all_goals try simp only [s1, s2, s3, s4, s5, s6, s7, s8, s9, s10, s11, s12] at hg
  all_goals first | refine oQ (Q_ldc rfl rfl rfl rfl rfl) rfl rfl ?_ | refine oQ (Ld rfl rfl rfl rfl) rfl rfl ?_ | skip
  all_goals first | refine oT rfl rfl ?_ | refine o1 rfl rfl rfl ?_ | refine o0 rfl rfl rfl ?_ | refine ogP1 rfl rfl rfl (fun hg => ?_) (fun hg => ?_) | refine ogP0 rfl rfl rfl (fun hg => ?_) (fun hg => ?_)
  all_goals try simp only [s1, s2, s3, s4, s5, s6, s7, s8, s9, s10, s11, s12] at hg
  all_goals first | (refine oBsl (zl := []) rfl rfl rfl rfl (.inl ⟨rfl, rfl⟩) rfl rfl rfl rfl rfl rfl ?_) | skip
  all_goals first | refine oT rfl rfl ?_ | refine o1 rfl rfl rfl ?_ | refine o0 rfl rfl rfl ?_ | refine ogP1 rfl rfl rfl (fun hg => ?_) (fun hg => ?_) | refine ogP0 rfl rfl rfl (fun hg => ?_) (fun hg => ?_)
  all_goals try simp only [s1, s2, s3, s4, s5, s6, s7, s8, s9, s10, s11, s12] at hg
  all_goals first | ((have hb := prime_bd hg); refine oQ (Q_call (l01Normal_con p 2 [a, b, c, d] 4 4 (Nat.le_refl _) (by omega) (by decide)) [(0, 1)] rfl rfl (Fits.mk' (vHc rfl vHn) rfl rfl (by simp)) rfl rfl) rfl rfl ?_) | skip
  all_goals first | refine oQ (Q_pick_t rfl (by with_reducible rfl) rfl rfl) rfl rfl ?_ | refine oQ (Q_pick_f rfl (by with_reducible rfl) rfl rfl) rfl rfl ?_
  all_goals first | (refine oM rfl rfl ?_)
  all_goals first | refine oT rfl rfl ?_ | refine o1 rfl rfl rfl ?_ | refine o0 rfl rfl rfl ?_ | refine ogP1 rfl rfl rfl (fun hg => ?_) (fun hg => ?_) | refine ogP0 rfl rfl rfl (fun hg => ?_) (fun hg => ?_)
  all_goals try simp only [s1, s2, s3, s4, s5, s6, s7, s8, s9, s10, s11, s12] at hg
  all_goals first | ((have hN := norm_list (l := [a, b, c, d]) hg); (have ha := hN a (by simp)); (have hb' := hN b (by simp)); (have hc := hN c (by simp)); (have hd := hN d (by simp)); refine oQ (Q_move rfl rfl) rfl rfl ?_) | skip
  all_goals first | refine oT rfl rfl ?_ | refine o1 rfl rfl rfl ?_ | refine o0 rfl rfl rfl ?_ | refine ogP1 rfl rfl rfl (fun hg => ?_) (fun hg => ?_) | refine ogP0 rfl rfl rfl (fun hg => ?_) (fun hg => ?_)
  all_goals try simp only [s1, s2, s3, s4, s5, s6, s7, s8, s9, s10, s11, s12] at hg
  all_goals first | refine oQ (Ia0 rfl rfl rfl rfl rfl rfl) rfl rfl ?_ | refine oQ (Ia1 rfl rfl rfl rfl rfl rfl) rfl rfl ?_ | skip
  all_goals first | refine oT rfl rfl ?_ | refine o1 rfl rfl rfl ?_ | refine o0 rfl rfl rfl ?_ | refine ogP1 rfl rfl rfl (fun hg => ?_) (fun hg => ?_) | refine ogP0 rfl rfl rfl (fun hg => ?_) (fun hg => ?_)
  all_goals try simp only [s1, s2, s3, s4, s5, s6, s7, s8, s9, s10, s11, s12] at hg
  all_goals first | refine oQ (Q_ldc rfl rfl rfl rfl rfl) rfl rfl ?_ | refine oQ (Ld rfl rfl rfl rfl) rfl rfl ?_ | skip
  all_goals first | refine oT rfl rfl ?_ | refine o1 rfl rfl rfl ?_ | refine o0 rfl rfl rfl ?_ | refine ogP1 rfl rfl rfl (fun hg => ?_) (fun hg => ?_) | refine ogP0 rfl rfl rfl (fun hg => ?_) (fun hg => ?_)
  all_goals try simp only [s1, s2, s3, s4, s5, s6, s7, s8, s9, s10, s11, s12] at hg
  all_goals first | refine oQ (Ia0 rfl rfl rfl rfl rfl rfl) rfl rfl ?_ | refine oQ (Ia1 rfl rfl rfl rfl rfl rfl) rfl rfl ?_ | skip
  all_goals first | refine oT rfl rfl ?_ | refine o1 rfl rfl rfl ?_ | refine o0 rfl rfl rfl ?_ | refine ogP1 rfl rfl rfl (fun hg => ?_) (fun hg => ?_) | refine ogP0 rfl rfl rfl (fun hg => ?_) (fun hg => ?_)
  all_goals try simp only [s1, s2, s3, s4, s5, s6, s7, s8, s9, s10, s11, s12] at hg
  all_goals first | refine oQ (Q_ldc rfl rfl rfl rfl rfl) rfl rfl ?_ | refine oQ (Ld rfl rfl rfl rfl) rfl rfl ?_ | skip
  all_goals first | refine oT rfl rfl ?_ | refine o1 rfl rfl rfl ?_ | refine o0 rfl rfl rfl ?_ | refine ogP1 rfl rfl rfl (fun hg => ?_) (fun hg => ?_) | refine ogP0 rfl rfl rfl (fun hg => ?_) (fun hg => ?_)
  all_goals try simp only [s1, s2, s3, s4, s5, s6, s7, s8, s9, s10, s11, s12] at hg
  all_goals first | (refine oMul 12 12 rfl rfl (by omega) (by omega) (by decide) rfl (fun z26 hz26 hl26 hu26 => ?_)) | skip
  all_goals first | refine oT rfl rfl ?_ | refine o1 rfl rfl rfl ?_ | refine o0 rfl rfl rfl ?_ | refine ogP1 rfl rfl rfl (fun hg => ?_) (fun hg => ?_) | refine ogP0 rfl rfl rfl (fun hg => ?_) (fun hg => ?_)
  all_goals try simp only [s1, s2, s3, s4, s5, s6, s7, s8, s9, s10, s11, s12] at hg
  all_goals first | refine oQ (Ia0 rfl rfl rfl rfl rfl rfl) rfl rfl ?_ | refine oQ (Ia1 rfl rfl rfl rfl rfl rfl) rfl rfl ?_ | skip
  all_goals first | refine oT rfl rfl ?_ | refine o1 rfl rfl rfl ?_ | refine o0 rfl rfl rfl ?_ | refine ogP1 rfl rfl rfl (fun hg => ?_) (fun hg => ?_) | refine ogP0 rfl rfl rfl (fun hg => ?_) (fun hg => ?_)
  all_goals try simp only [s1, s2, s3, s4, s5, s6, s7, s8, s9, s10, s11, s12] at hg
  all_goals first | refine oQ (Q_ldc rfl rfl rfl rfl rfl) rfl rfl ?_ | refine oQ (Ld rfl rfl rfl rfl) rfl rfl ?_ | skip
  all_goals first | refine oT rfl rfl ?_ | refine o1 rfl rfl rfl ?_ | refine o0 rfl rfl rfl ?_ | refine ogP1 rfl rfl rfl (fun hg => ?_) (fun hg => ?_) | refine ogP0 rfl rfl rfl (fun hg => ?_) (fun hg => ?_)
  all_goals try simp only [s1, s2, s3, s4, s5, s6, s7, s8, s9, s10, s11, s12] at hg
  all_goals first | refine oQ (Ia0 rfl rfl rfl rfl rfl rfl) rfl rfl ?_ | refine oQ (Ia1 rfl rfl rfl rfl rfl rfl) rfl rfl ?_ | skip
  all_goals first | refine oT rfl rfl ?_ | refine o1 rfl rfl rfl ?_ | refine o0 rfl rfl rfl ?_ | refine ogP1 rfl rfl rfl (fun hg => ?_) (fun hg => ?_) | refine ogP0 rfl rfl rfl (fun hg => ?_) (fun hg => ?_)
  all_goals try simp only [s1, s2, s3, s4, s5, s6, s7, s8, s9, s10, s11, s12] at hg
  all_goals first | refine oQ (Q_ldc rfl rfl rfl rfl rfl) rfl rfl ?_ | refine oQ (Ld rfl rfl rfl rfl) rfl rfl ?_ | skip
  all_goals first | refine oT rfl rfl ?_ | refine o1 rfl rfl rfl ?_ | refine o0 rfl rfl rfl ?_ | refine ogP1 rfl rfl rfl (fun hg => ?_) (fun hg => ?_) | refine ogP0 rfl rfl rfl (fun hg => ?_) (fun hg => ?_)
  all_goals try simp only [s1, s2, s3, s4, s5, s6, s7, s8, s9, s10, s11, s12] at hg
  all_goals first | (refine oMul 12 12 rfl rfl (by omega) (by omega) (by decide) rfl (fun z31 hz31 hl31 hu31 => ?_)) | skip
  all_goals first | refine oT rfl rfl ?_ | refine o1 rfl rfl rfl ?_ | refine o0 rfl rfl rfl ?_ | refine ogP1 rfl rfl rfl (fun hg => ?_) (fun hg => ?_) | refine ogP0 rfl rfl rfl (fun hg => ?_) (fun hg => ?_)
  all_goals try simp only [s1, s2, s3, s4, s5, s6, s7, s8, s9, s10, s11, s12] at hg
  all_goals first | refine oQ (Q_binu rfl rfl rfl (by omega)) rfl rfl ?_ | refine oQ (Q_bin rfl rfl rfl) rfl rfl ?_ | skip
  all_goals first | refine oT rfl rfl ?_ | refine o1 rfl rfl rfl ?_ | refine o0 rfl rfl rfl ?_ | refine ogP1 rfl rfl rfl (fun hg => ?_) (fun hg => ?_) | refine ogP0 rfl rfl rfl (fun hg => ?_) (fun hg => ?_)
  all_goals try simp only [s1, s2, s3, s4, s5, s6, s7, s8, s9, s10, s11, s12] at hg
  all_goals first | (refine oQ (Q_call0 (l01Mod_con _ _ (by omega) (by omega)) rfl rfl rfl) rfl rfl ?_) | skip
  all_goals first | refine oT rfl rfl ?_ | refine o1 rfl rfl rfl ?_ | refine o0 rfl rfl rfl ?_ | refine ogP1 rfl rfl rfl (fun hg => ?_) (fun hg => ?_) | refine ogP0 rfl rfl rfl (fun hg => ?_) (fun hg => ?_)
  all_goals try simp only [s1, s2, s3, s4, s5, s6, s7, s8, s9, s10, s11, s12] at hg
  all_goals first | (refine oQ (Q_bin rfl rfl rfl) rfl rfl ?_) | skip
  all_goals first | refine oQ (Q_pick_t rfl (by with_reducible rfl) rfl rfl) rfl rfl ?_ | refine oQ (Q_pick_f rfl (by with_reducible rfl) rfl rfl) rfl rfl ?_
  all_goals first | (refine oA rfl rfl ?_)
  all_goals refine oN ?_
  all_goals (
   refine CW_ret ?_)
  all_goals (
   refine exitQ (.inr rfl) 0 (.cons (.tmp rfl rfl) .nil) ?_ rfl vHn rfl rfl
   first
     | (subst hz26 hz31; (have hg' : normB p [a, b, c, d] = true := hg); simp_all [resV, moebB]; done)
     | ((have hg' : normB p [a, b, c, d] = false := hg); simp_all [resV, moebB]; done)
     | simp_all [resV, moebB])
/-- the place of a pair of numbers, not both 0 -/
def placeP (p x y : Int) : Int := if y % p = 0 then p else x % p * invP p (y % p) % p
theorem l05Place_con (p x y : Int) (hp : primeB p = true) : ConQ Try.prog [] 33 [.int p, .int x, .int y] [] (.int (placeP p x y)) := by
  have hpb := prime_bd hp
  have hx := mod_bd hp x
  have hi := invz_bd hp (mod_bd hp y).1 (mod_bd hp y).2
  refine conW tab_ok [(0, .int p), (1, .int x), (2, .int y)] 0 [] [] Try.func33 rfl rfl rfl rfl rfl rfl rfl rfl rfl ?_
  refine cR ?_
  refine oA rfl rfl ?_
  refine oN ?_
  refine CW_seq ?_
  refine cR ?_
  iterate 2 refine oM rfl rfl ?_
  refine oQ (Q_rem rfl rfl (by omega)) rfl rfl ?_
  refine oQ (Q_bin rfl rfl rfl) rfl rfl ?_
  refine oN ?_
  first | refine cT rfl ?_ | refine cF rfl ?_ | refine CW_cond rfl (fun hc => ?_) (fun hc => ?_)
  all_goals try simp only [s1, s2, s3, s4, s5, s6, s7, s8, s9, s10, s11, s12] at hc
  all_goals first
    | (
     refine CW_skip ?_)
    | (
     refine cR ?_
     refine oM rfl rfl ?_
     refine oA rfl rfl ?_
     refine oN ?_
     refine CW_ret ?_)
  all_goals first
    | with_reducible refine tR ?_
    | with_reducible refine tE ?_
    | (
     with_reducible refine tN ?_
     refine cR ?_
     iterate 2 refine oM rfl rfl ?_
     refine oQ (Q_call0 (l01Mod_con _ _ (by omega) (by omega)) rfl rfl rfl) rfl rfl ?_
     iterate 2 refine oM rfl rfl ?_
     refine oQ (Q_call0 (l01Inverse_con _ _ hp) rfl rfl rfl) rfl rfl ?_
     refine oQ (Q_binu rfl rfl rfl (mul_rng (p := p) (by omega) (by omega) (by omega) (by omega) (by omega))) rfl rfl ?_
     refine oM rfl rfl ?_
     refine oQ (Q_rem rfl rfl (by omega)) rfl rfl ?_
     refine oA rfl rfl ?_
     refine oN ?_
     refine CW_ret ?_)
  all_goals (
   refine exitQ (.inr rfl) 0 (.cons (.tmp rfl rfl) .nil) ?_ rfl vHn rfl rfl
   have hd : y.tmod p = 0 ↔ y % p = 0 := by rw [← Int.dvd_iff_tmod_eq_zero, ← Int.dvd_iff_emod_eq_zero]
   rw [hd] at hc
   simp only [resV, placeP]
   first
     | rw [if_pos hc]
     | (rw [if_neg hc, Int.tmod_eq_emod_of_nonneg (Int.mul_nonneg (by omega) (by omega))]))
theorem place_con (p x y : Int) (hp : primeB p = true) (hx : -1000000 ≤ x ∧ x ≤ 1000000) : ConQ Try.prog [] 37 [.int p, .int x, .int y] [] (.int (placeP p x y)) := by
  have hpb := prime_bd hp
  have hy := mod_bd hp y
  have hi := invz_bd hp (mod_bd hp y).1 (mod_bd hp y).2
  have hm := mul_bds (a := x) (b := invP p (y % p)) (A := 1000000) (B := 13) hx.1 hx.2 (by omega) (by omega)
  refine conW tab_ok [(0, .int p), (1, .int x), (2, .int y)] 0 [] [] Try.func37 rfl rfl rfl rfl rfl rfl rfl rfl rfl ?_
  refine cR ?_
  refine oA rfl rfl ?_
  refine oN ?_
  refine CW_seq ?_
  refine cR ?_
  iterate 2 refine oM rfl rfl ?_
  refine oQ (Q_call0 (mod_con _ _ (by omega) (by omega)) rfl rfl rfl) rfl rfl ?_
  refine oA rfl rfl ?_
  refine oN ?_
  refine cR ?_
  refine oM rfl rfl ?_
  refine oQ (Q_bin rfl rfl rfl) rfl rfl ?_
  refine oN ?_
  first | refine cT rfl ?_ | refine cF rfl ?_ | refine CW_cond rfl (fun hc => ?_) (fun hc => ?_)
  all_goals try simp only [s1, s2, s3, s4, s5, s6, s7, s8, s9, s10, s11, s12] at hc
  all_goals first
    | (
     refine CW_skip ?_)
    | (
     refine cR ?_
     refine oM rfl rfl ?_
     refine oA rfl rfl ?_
     refine oN ?_
     refine CW_ret ?_)
  all_goals first
    | with_reducible refine tR ?_
    | with_reducible refine tE ?_
    | (
     with_reducible refine tN ?_
     refine cR ?_
     iterate 3 refine oM rfl rfl ?_
     refine oQ (Q_call0 (inverse_con _ _ hp (by omega) (by omega)) rfl rfl rfl) rfl rfl ?_
     first | refine oQ (Q_binu rfl rfl rfl (by omega)) rfl rfl ?_ | refine oQ (Q_bin rfl rfl rfl) rfl rfl ?_
     refine oM rfl rfl ?_
     refine oQ (Q_call0 (mod_con _ _ (by omega) (by omega)) rfl rfl rfl) rfl rfl ?_
     refine oA rfl rfl ?_
     refine oN ?_
     refine CW_ret ?_)
  all_goals (
   refine exitQ (.inr rfl) 0 (.cons (.tmp rfl rfl) .nil) ?_ rfl vHn rfl rfl
   simp only [resV, placeP]
   first
     | rw [if_pos hc]
     | (rw [if_neg hc]; exact congrArg V.int ((Int.mul_emod x _ p).trans ((Int.mul_emod (x % p) _ p).trans (by rw [mod_mod_self])).symm)))
/-- the place to which a Moebius map leads a place -/
def atP (p a b c d x : Int) : Int := if x = p then placeP p a c else placeP p (a * x + b) (c * x + d)
theorem l05At_con (p a b c d x : Int) (hp : primeB p = true) (ha : 0 ≤ a ∧ a < p) (hb : 0 ≤ b ∧ b < p) (hc : 0 ≤ c ∧ c < p) (hd : 0 ≤ d ∧ d < p) (hx : 0 ≤ x ∧ x ≤ p) : ConQ Try.prog [] 14 [.int p, .arr [a, b, c, d], .int x] [] (.int (atP p a b c d x)) := by
  have hpb := prime_bd hp
  refine conW tab_ok [(0, .int p), (1, .arr [a, b, c, d]), (2, .int x)] 0 [] [] Try.func14 rfl rfl rfl rfl rfl rfl rfl rfl rfl ?_
  refine cR ?_
  refine oBox rfl rfl rfl rfl rfl rfl ?_
  refine oA rfl rfl ?_
  refine oN ?_
  refine CW_seq ?_
  refine cR ?_
  iterate 2 refine oM rfl rfl ?_
  refine oQ (Q_bin rfl rfl rfl) rfl rfl ?_
  refine oN ?_
  first | refine cT rfl ?_ | refine cF rfl ?_ | refine CW_cond rfl (fun hc => ?_) (fun hc => ?_)
  all_goals try simp only [s1, s2, s3, s4, s5, s6, s7, s8, s9, s10, s11, s12] at hc
  all_goals first
    | (
     refine CW_skip ?_)
    | (
     refine cR ?_
     refine oM rfl rfl ?_
     first | refine oQ (Ia0 rfl rfl rfl rfl rfl rfl) rfl rfl ?_ | refine oQ (Ia1 rfl rfl rfl rfl rfl rfl) rfl rfl ?_
     first | refine oQ (Q_ldc rfl rfl rfl rfl rfl) rfl rfl ?_ | refine oQ (Ld rfl rfl rfl rfl) rfl rfl ?_
     first | refine oQ (Ia0 rfl rfl rfl rfl rfl rfl) rfl rfl ?_ | refine oQ (Ia1 rfl rfl rfl rfl rfl rfl) rfl rfl ?_
     first | refine oQ (Q_ldc rfl rfl rfl rfl rfl) rfl rfl ?_ | refine oQ (Ld rfl rfl rfl rfl) rfl rfl ?_
     refine oQ (Q_call0 (l05Place_con _ _ _ hp) rfl rfl rfl) rfl rfl ?_
     refine oA rfl rfl ?_
     refine oN ?_
     refine CW_ret ?_)
  all_goals first
    | with_reducible refine tR ?_
    | with_reducible refine tE ?_
    | (
     with_reducible refine tN ?_
     refine cR ?_
     refine oM rfl rfl ?_
     first | refine oQ (Ia0 rfl rfl rfl rfl rfl rfl) rfl rfl ?_ | refine oQ (Ia1 rfl rfl rfl rfl rfl rfl) rfl rfl ?_
     first | refine oQ (Q_ldc rfl rfl rfl rfl rfl) rfl rfl ?_ | refine oQ (Ld rfl rfl rfl rfl) rfl rfl ?_
     refine oM rfl rfl ?_
     refine oMul 12 13 rfl rfl (by omega) (by omega) (by decide) rfl (fun z20 hz20 hl20 hu20 => ?_)
     first | refine oQ (Ia0 rfl rfl rfl rfl rfl rfl) rfl rfl ?_ | refine oQ (Ia1 rfl rfl rfl rfl rfl rfl) rfl rfl ?_
     first | refine oQ (Q_ldc rfl rfl rfl rfl rfl) rfl rfl ?_ | refine oQ (Ld rfl rfl rfl rfl) rfl rfl ?_
     first | refine oQ (Q_binu rfl rfl rfl (by omega)) rfl rfl ?_ | refine oQ (Q_bin rfl rfl rfl) rfl rfl ?_
     first | refine oQ (Ia0 rfl rfl rfl rfl rfl rfl) rfl rfl ?_ | refine oQ (Ia1 rfl rfl rfl rfl rfl rfl) rfl rfl ?_
     first | refine oQ (Q_ldc rfl rfl rfl rfl rfl) rfl rfl ?_ | refine oQ (Ld rfl rfl rfl rfl) rfl rfl ?_
     refine oM rfl rfl ?_
     refine oMul 12 13 rfl rfl (by omega) (by omega) (by decide) rfl (fun z27 hz27 hl27 hu27 => ?_)
     first | refine oQ (Ia0 rfl rfl rfl rfl rfl rfl) rfl rfl ?_ | refine oQ (Ia1 rfl rfl rfl rfl rfl rfl) rfl rfl ?_
     first | refine oQ (Q_ldc rfl rfl rfl rfl rfl) rfl rfl ?_ | refine oQ (Ld rfl rfl rfl rfl) rfl rfl ?_
     first | refine oQ (Q_binu rfl rfl rfl (by omega)) rfl rfl ?_ | refine oQ (Q_bin rfl rfl rfl) rfl rfl ?_
     refine oQ (Q_call0 (l05Place_con _ _ _ hp) rfl rfl rfl) rfl rfl ?_
     refine oA rfl rfl ?_
     refine oN ?_
     refine CW_ret ?_)
  all_goals (
   refine exitQ (.inr rfl) 0 (.cons (.tmp rfl rfl) .nil) ?_ rfl vHn rfl rfl
   simp only [resV, atP]
   first
     | rw [if_pos hc]
     | (subst hz20 hz27; rw [if_neg (by assumption)]))
theorem pair_inf (p : Int) : ConQ Try.prog [] 36 [.int p, .int p] [] (.arr [1, 0]) := by
  refine conW tab_ok [(0, .int p), (1, .int p)] 0 [] [] Try.func36 rfl rfl rfl rfl rfl rfl rfl rfl rfl ?_
  refine cR ?_
  refine oAlloc rfl rfl rfl rfl rfl rfl rfl ?_
  refine oN ?_
  refine CW_seq ?_
  refine cR ?_
  iterate 2 refine oM rfl rfl ?_
  refine oQ (Q_bin rfl rfl rfl) rfl rfl ?_
  refine oN ?_
  first | refine cT rfl ?_ | refine cF rfl ?_ | refine CW_cond rfl (fun hc => ?_) (fun hc => ?_)
  all_goals try simp only [s1, s2, s3, s4, s5, s6, s7, s8, s9, s10, s11, s12] at hc
  all_goals try (exfalso; exact absurd rfl hc; done)
  all_goals first
    | (
     refine CW_skip ?_)
    | (
     refine cR ?_
     refine oQ (Q_build rfl rfl rfl rfl rfl rfl rfl rfl) rfl rfl ?_
     first | refine oSw rfl rfl rfl rfl ?_ | refine oSa rfl rfl rfl rfl ?_
     refine oN ?_
     refine CW_ret ?_)
  all_goals first
    | with_reducible refine tR ?_
    | with_reducible refine tE ?_
    | (
     with_reducible refine tN ?_
     refine cR ?_
     refine oM rfl rfl ?_
     refine oQ (Q_build rfl rfl rfl rfl rfl rfl rfl rfl) rfl rfl ?_
     first | refine oSw rfl rfl rfl rfl ?_ | refine oSa rfl rfl rfl rfl ?_
     refine oN ?_
     refine CW_ret ?_)
  all_goals (
   first
     | (exfalso; exact absurd trivial hc)
     | (exfalso; exact absurd rfl hc)
     | exact exitQ (.inr rfl) 0 (.cons (.arr rfl rfl rfl rfl rfl) .nil) rfl rfl vHn rfl rfl)
theorem pair_fin (p x : Int) (hx : x ≠ p) : ConQ Try.prog [] 36 [.int p, .int x] [] (.arr [x, 1]) := by
  refine conW tab_ok [(0, .int p), (1, .int x)] 0 [] [] Try.func36 rfl rfl rfl rfl rfl rfl rfl rfl rfl ?_
  refine cR ?_
  refine oAlloc rfl rfl rfl rfl rfl rfl rfl ?_
  refine oN ?_
  refine CW_seq ?_
  refine cR ?_
  iterate 2 refine oM rfl rfl ?_
  refine oQ (Q_bin rfl rfl rfl) rfl rfl ?_
  refine oN ?_
  first | refine cT rfl ?_ | refine cF rfl ?_ | refine CW_cond rfl (fun hc => ?_) (fun hc => ?_)
  all_goals try simp only [s1, s2, s3, s4, s5, s6, s7, s8, s9, s10, s11, s12] at hc
  all_goals try (exfalso; exact absurd hc hx; done)
  all_goals first
    | (
     refine CW_skip ?_)
    | (
     refine cR ?_
     refine oQ (Q_build rfl rfl rfl rfl rfl rfl rfl rfl) rfl rfl ?_
     first | refine oSw rfl rfl rfl rfl ?_ | refine oSa rfl rfl rfl rfl ?_
     refine oN ?_
     refine CW_ret ?_)
  all_goals first
    | with_reducible refine tR ?_
    | with_reducible refine tE ?_
    | (
     with_reducible refine tN ?_
     refine cR ?_
     refine oM rfl rfl ?_
     refine oQ (Q_build rfl rfl rfl rfl rfl rfl rfl rfl) rfl rfl ?_
     first | refine oSw rfl rfl rfl rfl ?_ | refine oSa rfl rfl rfl rfl ?_
     refine oN ?_
     refine CW_ret ?_)
  all_goals (
   exact exitQ (.inr rfl) 0 (.cons (.arr rfl rfl rfl rfl rfl) .nil) rfl rfl vHn rfl rfl)
theorem at_con (p a b c d x : Int) (hp : primeB p = true) (ha : 0 ≤ a ∧ a < p) (hb : 0 ≤ b ∧ b < p) (hc : 0 ≤ c ∧ c < p) (hd : 0 ≤ d ∧ d < p) (hx : 0 ≤ x ∧ x ≤ p) : ConQ Try.prog [] 19 [.arr [a, b, c, d], .int p, .int x] [] (.int (atP p a b c d x)) := by
  have hpb := prime_bd hp
  by_cases hxp : x = p
  · subst hxp
    refine conW tab_ok [(0, .arr [a, b, c, d]), (1, .int x), (2, .int x)] 0 [] [] Try.func19 rfl rfl rfl rfl rfl rfl rfl rfl rfl ?_
    refine cR ?_
    refine oBox rfl rfl rfl rfl rfl rfl ?_
    refine oA rfl rfl ?_
    refine oN ?_
    refine cR ?_
    iterate 2 refine oM rfl rfl ?_
    refine oQ (Q_call0 (pair_inf _) rfl rfl rfl) rfl rfl ?_
    refine oAlloc rfl rfl rfl rfl rfl rfl rfl ?_
    first | refine oSw rfl rfl rfl rfl ?_ | refine oSa rfl rfl rfl rfl ?_
    refine oN ?_
    refine cR ?_
    refine oM rfl rfl ?_
    first | refine oQ (Ia0 rfl rfl rfl rfl rfl rfl) rfl rfl ?_ | refine oQ (Ia1 rfl rfl rfl rfl rfl rfl) rfl rfl ?_
    first | refine oQ (Q_ldc rfl rfl rfl rfl rfl) rfl rfl ?_ | refine oQ (Ld rfl rfl rfl rfl) rfl rfl ?_
    first | refine oQ (Ia0 rfl rfl rfl rfl rfl rfl) rfl rfl ?_ | refine oQ (Ia1 rfl rfl rfl rfl rfl rfl) rfl rfl ?_
    first | refine oQ (Q_ldc rfl rfl rfl rfl rfl) rfl rfl ?_ | refine oQ (Ld rfl rfl rfl rfl) rfl rfl ?_
    refine oMul 12 1 rfl rfl (by omega) (by omega) (by decide) rfl (fun z16 hz16 hl16 hu16 => ?_)
    first | refine oQ (Ia0 rfl rfl rfl rfl rfl rfl) rfl rfl ?_ | refine oQ (Ia1 rfl rfl rfl rfl rfl rfl) rfl rfl ?_
    first | refine oQ (Q_ldc rfl rfl rfl rfl rfl) rfl rfl ?_ | refine oQ (Ld rfl rfl rfl rfl) rfl rfl ?_
    first | refine oQ (Ia0 rfl rfl rfl rfl rfl rfl) rfl rfl ?_ | refine oQ (Ia1 rfl rfl rfl rfl rfl rfl) rfl rfl ?_
    first | refine oQ (Q_ldc rfl rfl rfl rfl rfl) rfl rfl ?_ | refine oQ (Ld rfl rfl rfl rfl) rfl rfl ?_
    refine oMul 12 1 rfl rfl (by omega) (by omega) (by decide) rfl (fun z21 hz21 hl21 hu21 => ?_)
    first | refine oQ (Q_binu rfl rfl rfl (by omega)) rfl rfl ?_ | refine oQ (Q_bin rfl rfl rfl) rfl rfl ?_
    first | refine oQ (Ia0 rfl rfl rfl rfl rfl rfl) rfl rfl ?_ | refine oQ (Ia1 rfl rfl rfl rfl rfl rfl) rfl rfl ?_
    first | refine oQ (Q_ldc rfl rfl rfl rfl rfl) rfl rfl ?_ | refine oQ (Ld rfl rfl rfl rfl) rfl rfl ?_
    first | refine oQ (Ia0 rfl rfl rfl rfl rfl rfl) rfl rfl ?_ | refine oQ (Ia1 rfl rfl rfl rfl rfl rfl) rfl rfl ?_
    first | refine oQ (Q_ldc rfl rfl rfl rfl rfl) rfl rfl ?_ | refine oQ (Ld rfl rfl rfl rfl) rfl rfl ?_
    refine oMul 12 1 rfl rfl (by omega) (by omega) (by decide) rfl (fun z27 hz27 hl27 hu27 => ?_)
    first | refine oQ (Ia0 rfl rfl rfl rfl rfl rfl) rfl rfl ?_ | refine oQ (Ia1 rfl rfl rfl rfl rfl rfl) rfl rfl ?_
    first | refine oQ (Q_ldc rfl rfl rfl rfl rfl) rfl rfl ?_ | refine oQ (Ld rfl rfl rfl rfl) rfl rfl ?_
    first | refine oQ (Ia0 rfl rfl rfl rfl rfl rfl) rfl rfl ?_ | refine oQ (Ia1 rfl rfl rfl rfl rfl rfl) rfl rfl ?_
    first | refine oQ (Q_ldc rfl rfl rfl rfl rfl) rfl rfl ?_ | refine oQ (Ld rfl rfl rfl rfl) rfl rfl ?_
    refine oMul 12 1 rfl rfl (by omega) (by omega) (by decide) rfl (fun z32 hz32 hl32 hu32 => ?_)
    first | refine oQ (Q_binu rfl rfl rfl (by omega)) rfl rfl ?_ | refine oQ (Q_bin rfl rfl rfl) rfl rfl ?_
    refine oQ (Q_call0 (place_con _ _ _ hp (by omega)) rfl rfl rfl) rfl rfl ?_
    refine oA rfl rfl ?_
    refine oN ?_
    refine CW_ret ?_
    all_goals (
     refine exitQ (.inr rfl) 0 (.cons (.tmp rfl rfl) .nil) ?_ rfl vHn rfl rfl
     subst hz16 hz21 hz27 hz32
     simp only [resV, atP, if_true, Int.mul_one, Int.mul_zero, Int.add_zero])
  · refine conW tab_ok [(0, .arr [a, b, c, d]), (1, .int p), (2, .int x)] 0 [] [] Try.func19 rfl rfl rfl rfl rfl rfl rfl rfl rfl ?_
    refine cR ?_
    refine oBox rfl rfl rfl rfl rfl rfl ?_
    refine oA rfl rfl ?_
    refine oN ?_
    refine cR ?_
    iterate 2 refine oM rfl rfl ?_
    refine oQ (Q_call0 (pair_fin _ _ hxp) rfl rfl rfl) rfl rfl ?_
    refine oAlloc rfl rfl rfl rfl rfl rfl rfl ?_
    first | refine oSw rfl rfl rfl rfl ?_ | refine oSa rfl rfl rfl rfl ?_
    refine oN ?_
    refine cR ?_
    refine oM rfl rfl ?_
    first | refine oQ (Ia0 rfl rfl rfl rfl rfl rfl) rfl rfl ?_ | refine oQ (Ia1 rfl rfl rfl rfl rfl rfl) rfl rfl ?_
    first | refine oQ (Q_ldc rfl rfl rfl rfl rfl) rfl rfl ?_ | refine oQ (Ld rfl rfl rfl rfl) rfl rfl ?_
    first | refine oQ (Ia0 rfl rfl rfl rfl rfl rfl) rfl rfl ?_ | refine oQ (Ia1 rfl rfl rfl rfl rfl rfl) rfl rfl ?_
    first | refine oQ (Q_ldc rfl rfl rfl rfl rfl) rfl rfl ?_ | refine oQ (Ld rfl rfl rfl rfl) rfl rfl ?_
    refine oMul 12 13 rfl rfl (by omega) (by omega) (by decide) rfl (fun z16 hz16 hl16 hu16 => ?_)
    first | refine oQ (Ia0 rfl rfl rfl rfl rfl rfl) rfl rfl ?_ | refine oQ (Ia1 rfl rfl rfl rfl rfl rfl) rfl rfl ?_
    first | refine oQ (Q_ldc rfl rfl rfl rfl rfl) rfl rfl ?_ | refine oQ (Ld rfl rfl rfl rfl) rfl rfl ?_
    first | refine oQ (Ia0 rfl rfl rfl rfl rfl rfl) rfl rfl ?_ | refine oQ (Ia1 rfl rfl rfl rfl rfl rfl) rfl rfl ?_
    first | refine oQ (Q_ldc rfl rfl rfl rfl rfl) rfl rfl ?_ | refine oQ (Ld rfl rfl rfl rfl) rfl rfl ?_
    refine oMul 12 1 rfl rfl (by omega) (by omega) (by decide) rfl (fun z21 hz21 hl21 hu21 => ?_)
    first | refine oQ (Q_binu rfl rfl rfl (by omega)) rfl rfl ?_ | refine oQ (Q_bin rfl rfl rfl) rfl rfl ?_
    first | refine oQ (Ia0 rfl rfl rfl rfl rfl rfl) rfl rfl ?_ | refine oQ (Ia1 rfl rfl rfl rfl rfl rfl) rfl rfl ?_
    first | refine oQ (Q_ldc rfl rfl rfl rfl rfl) rfl rfl ?_ | refine oQ (Ld rfl rfl rfl rfl) rfl rfl ?_
    first | refine oQ (Ia0 rfl rfl rfl rfl rfl rfl) rfl rfl ?_ | refine oQ (Ia1 rfl rfl rfl rfl rfl rfl) rfl rfl ?_
    first | refine oQ (Q_ldc rfl rfl rfl rfl rfl) rfl rfl ?_ | refine oQ (Ld rfl rfl rfl rfl) rfl rfl ?_
    refine oMul 12 13 rfl rfl (by omega) (by omega) (by decide) rfl (fun z27 hz27 hl27 hu27 => ?_)
    first | refine oQ (Ia0 rfl rfl rfl rfl rfl rfl) rfl rfl ?_ | refine oQ (Ia1 rfl rfl rfl rfl rfl rfl) rfl rfl ?_
    first | refine oQ (Q_ldc rfl rfl rfl rfl rfl) rfl rfl ?_ | refine oQ (Ld rfl rfl rfl rfl) rfl rfl ?_
    first | refine oQ (Ia0 rfl rfl rfl rfl rfl rfl) rfl rfl ?_ | refine oQ (Ia1 rfl rfl rfl rfl rfl rfl) rfl rfl ?_
    first | refine oQ (Q_ldc rfl rfl rfl rfl rfl) rfl rfl ?_ | refine oQ (Ld rfl rfl rfl rfl) rfl rfl ?_
    refine oMul 12 1 rfl rfl (by omega) (by omega) (by decide) rfl (fun z32 hz32 hl32 hu32 => ?_)
    first | refine oQ (Q_binu rfl rfl rfl (by omega)) rfl rfl ?_ | refine oQ (Q_bin rfl rfl rfl) rfl rfl ?_
    refine oQ (Q_call0 (place_con _ _ _ hp (by omega)) rfl rfl rfl) rfl rfl ?_
    refine oA rfl rfl ?_
    refine oN ?_
    refine CW_ret ?_
    all_goals (
     refine exitQ (.inr rfl) 0 (.cons (.tmp rfl rfl) .nil) ?_ rfl vHn rfl rfl
     subst hz16 hz21 hz27 hz32
     simp only [resV, atP, if_neg hxp, Int.mul_one])
end Go.Proofs.Ytchikadcicecoaa
namespace Go.Proofs.Ytchikadcicecoaa
attribute [local irreducible] CW OW QW QOp Con thenP inBlockP
set_option maxRecDepth 10000
set_option linter.unusedSimpArgs false
set_option linter.unusedVariables false
def placesB (p : Int) (l : List Int) : Bool := l.all fun n => decide (0 ≤ n) && decide (n ≤ p)
/-- the code of a prime, of things of which some are bad, and of places -/
def codeP (p : Int) (bad : Bool) (l : List Int) : Int := if primeB p = true then (if bad = true then 1 else if placesB p l = true then 0 else 2) else 2
theorem codeP_np {p : Int} {b : Bool} {l : List Int} (h : primeB p = false) : codeP p b l = 2 := by simp [codeP, h]
theorem codeP_bad {p : Int} {b : Bool} {l : List Int} (h : primeB p = true) (hb : b = true) : codeP p b l = 1 := by simp [codeP, h, hb]
theorem codeP_place {p : Int} {b : Bool} {l : List Int} (h : primeB p = true) (hb : b = false) (hl : placesB p l = false) : codeP p b l = 2 := by simp [codeP, h, hb, hl]
theorem codeP_ok {p : Int} {b : Bool} {l : List Int} (h : primeB p = true) (hb : b = false) (hl : placesB p l = true) : codeP p b l = 0 := by simp [codeP, h, hb, hl]
theorem arePlaces_con (p : Int) (t : TypeId) (L : List Int) (n k : Nat) (hn : n ≤ L.length) (hL : n ≤ 1000000000) : ConQ Try.prog [] 16 [.int p, .slice 0 0 n k] [(0, .ints t L)] (.bool (placesB p (L.take n))) := by
  refine conW tab_ok [(0, .int p), (1, .slice 0 0 n k)] 1 [0] [0] Try.func16 rfl rfl rfl rfl rfl rfl rfl rfl rfl ?_
  refine cR ?_
  refine oA rfl rfl ?_
  refine oN ?_
  refine CW_seq ?_
  refine cR ?_
  refine oM rfl rfl ?_
  first | refine oQ (Q_len rfl rfl rfl rfl) rfl rfl ?_ | refine oQ (Q_len0 rfl rfl rfl rfl) rfl rfl ?_
  refine oM rfl rfl ?_
  refine oN ?_
  refine CW_block ?_
  refine CW_loop (ι := Nat) (fun i => i ≤ n ∧ placesB p (L.take i) = true) (fun i => ⟨[(0, .int p), (7, .slice 0 0 n k), (8, .int n), (9, .int i)], [(0, .ints t L)], 1⟩) (fun i => n - i) 0 ?_ ?_ ?_
  · exact ⟨Nat.zero_le _, rfl⟩
  · refine View.mk' [] rfl rfl rfl ?_ ?_
    repeat' first | exact vFn | refine vFc rfl ?_ | exact vHn | refine vHc rfl ?_ | refine vFc (congrArg (fun z => some (V.int z)) ?_) ?_ | refine vHc (congrArg (fun z => some (Blk.ints _ z)) ?_) ?_ | refine vFc (congrArg (fun z => some (V.bool z)) ?_) ?_ | refine vFs rfl rfl ?_ ?_
  intro i hi
  obtain ⟨hi1, hi2⟩ := hi
  refine cR ?_
  refine oQ (Q_bin rfl rfl rfl) rfl rfl ?_
  refine oN ?_
  refine CW_seq ?_
  first | refine cT rfl ?_ | refine cF rfl ?_ | refine CW_cond rfl (fun hc => ?_) (fun hc => ?_)
  all_goals try simp only [s1, s2, s3, s4, s5, s6, s7, s8, s9, s10, s11, s12] at hc
  all_goals first
    | (
     refine CW_skip ?_)
    | (
     refine CW_exit ?_)
  all_goals first
    | with_reducible refine tR ?_
    | with_reducible refine tE ?_
    | (
     with_reducible refine tN ?_
     refine CW_seq ?_
     refine CW_block ?_
     refine cR ?_
     first | refine oQ (Is0 rfl rfl rfl rfl rfl rfl) rfl rfl ?_ | refine oQ (Is1 rfl rfl rfl rfl rfl rfl) rfl rfl ?_
     refine oQ (Ld rfl rfl rfl rfl) rfl rfl ?_
     refine oA rfl rfl ?_
     refine oN ?_
     refine cR ?_
     iterate 2 refine oM rfl rfl ?_
     refine oQ (Q_call0 (within_con _ _ _) rfl rfl rfl) rfl rfl ?_
     refine oQ (Q_not rfl) rfl rfl ?_
     refine oN ?_
     first | refine cT rfl ?_ | refine cF rfl ?_ | refine CW_cond rfl (fun hc => ?_) (fun hc => ?_)
     all_goals try simp only [s1, s2, s3, s4, s5, s6, s7, s8, s9, s10, s11, s12] at hc
     all_goals first
       | (
        refine CW_skip ?_)
       | (
        refine cR ?_
        refine oA rfl rfl ?_
        refine oN ?_
        refine CW_ret ?_)
     all_goals first | with_reducible refine bN ?_ | with_reducible refine bE ?_ | with_reducible refine bR ?_ | refine bX rfl ?_
     all_goals first
       | with_reducible refine tR ?_
       | with_reducible refine tE ?_
       | (
        with_reducible refine tN ?_
        refine CW_region ?_
        first | refine oQ (Q_binu rfl rfl rfl (by omega)) rfl rfl ?_ | refine oQ (Q_bin rfl rfl rfl) rfl rfl ?_
        refine oM rfl rfl ?_
        refine OW_nil ?_))
  all_goals first
    | with_reducible refine tR ?_
    | with_reducible refine tE ?_
    | (
     with_reducible refine tN ?_
     refine ⟨i + 1, ?_, ?_, View.mk' [] rfl rfl rfl ?_ ?_⟩
     · exact ⟨by omega, all_snoc (by omega) hi2 hc⟩
     · omega
     all_goals (repeat' first | exact vFn | refine vFc rfl ?_ | exact vHn | refine vHc rfl ?_ | refine vFc (congrArg (fun z => some (V.int z)) ?_) ?_ | refine vHc (congrArg (fun z => some (Blk.ints _ z)) ?_) ?_ | refine vFc (congrArg (fun z => some (V.bool z)) ?_) ?_ | refine vFs rfl rfl ?_ ?_))
  all_goals first | with_reducible refine bN ?_ | with_reducible refine bE ?_ | with_reducible refine bR ?_ | refine bX rfl ?_
  all_goals first
    | with_reducible refine tR ?_
    | with_reducible refine tE ?_
    | (
     with_reducible refine tN ?_
     refine cR ?_
     refine oA rfl rfl ?_
     refine oN ?_
     refine CW_ret ?_)
  all_goals (
   refine exitQ (.inr rfl) 1 (.cons (.tmp rfl rfl) .nil) ?_ rfl (vHc rfl vHn) rfl rfl
   simp only [resV, V.bool.injEq]
   first | (rfl; done) | exact (all_fail (by omega) (by omega) hc).symm | (have e : i = n := (by omega); subst e; exact hi2.symm))
abbrev badM (p : Int) (M : List Int) (k : Nat) : Bool := anyF (fun m => !moebB p m) 4 M k
theorem badM_false {p : Int} {M : List Int} {k : Nat} (h : ∀ j, j < k → moebB p (elemAt 4 M j) = true) : badM p M k = false := by
  unfold badM anyF
  rw [List.any_eq_false]
  intro j hj
  simp [h j (by simpa using hj)]
theorem badM_true {p : Int} {M : List Int} {k i : Nat} (hi : i < k) (h : moebB p (elemAt 4 M i) = false) : badM p M k = true := by
  unfold badM anyF
  rw [List.any_eq_true]
  exact ⟨i, by simpa using hi, by simp [h]⟩
theorem l05Is_con4 (p : Int) (m : List Int) (hm : m.length = 4) : ConQ Try.prog [] 31 [.int p, .arr m] [] (.bool (primeB p && moebB p m)) := by
  match m, hm with
  | [a, b, c, d], _ => exact l05Is_con p a b c d
theorem l05Code_row (p : Int) (tM : TypeId) (M : List Int) (k ck : Nat) (hM : k * 4 ≤ M.length) (hk : k ≤ 1000000000) (t2 : TypeId) (L : List Int) (n cn : Nat) (hn : n ≤ L.length) (hn9 : n ≤ 1000000000) : ConQ Try.prog [] 12 [.int p, .slice 0 0 k ck, .slice 1 0 n cn] [(0, .ints tM M), (1, .ints t2 L)] (.int (codeP p (badM p M k) (L.take n))) := by
  refine conW tab_ok [(0, .int p), (1, .slice 0 0 k ck), (2, .slice 1 0 n cn)] 2 [0, 1] [0, 1] Try.func12 rfl rfl rfl rfl rfl rfl rfl rfl rfl ?_
  refine cR ?_
  refine oA rfl rfl ?_
  refine oN ?_
  refine CW_seq ?_
  refine cR ?_
  refine oM rfl rfl ?_
  refine oQ (Q_call0 (l01Prime_con _) rfl rfl rfl) rfl rfl ?_
  refine oQ (Q_not rfl) rfl rfl ?_
  refine oN ?_
  first | refine cT rfl ?_ | refine cF rfl ?_ | refine CW_cond rfl (fun hc => ?_) (fun hc => ?_)
  all_goals try simp only [s1, s2, s3, s4, s5, s6, s7, s8, s9, s10, s11, s12] at hc
  all_goals first
    | (
     refine CW_skip ?_)
    | (
     refine cR ?_
     refine oA rfl rfl ?_
     refine oN ?_
     refine CW_ret ?_)
  all_goals first
    | with_reducible refine tR ?_
    | with_reducible refine tE ?_
    | (
     with_reducible refine tN ?_
     refine CW_seq ?_
     refine cR ?_
     refine oA rfl rfl ?_
     refine oN ?_
     refine CW_block ?_
     (have hp : primeB p = true := hc)
     refine CW_loop (ι := Nat) (fun i => i ≤ k ∧ ∀ j, j < i → moebB p (elemAt 4 M j) = true) (fun i => ⟨[(0, .int p), (1, .slice 0 0 k ck), (2, .slice 1 0 n cn), (7, .int i)], [(0, .ints tM M), (1, .ints t2 L)], 2⟩) (fun i => k - i) 0 ?_ ?_ ?_
     · exact ⟨Nat.zero_le _, fun j h => absurd h (Nat.not_lt_zero _)⟩
     · refine View.mk' [] rfl rfl rfl ?_ ?_
       repeat' first | exact vFn | refine vFc rfl ?_ | exact vHn | refine vHc rfl ?_ | refine vFc (congrArg (fun z => some (V.int z)) ?_) ?_ | refine vHc (congrArg (fun z => some (Blk.ints _ z)) ?_) ?_ | refine vFc (congrArg (fun z => some (V.bool z)) ?_) ?_ | refine vFs rfl rfl ?_ ?_
     rintro i ⟨hi, hi2⟩
     refine CW_seq ?_
     refine cR ?_
     iterate 2 refine oM rfl rfl ?_
     first | refine oQ (Q_len rfl rfl rfl rfl) rfl rfl ?_ | refine oQ (Q_len0 rfl rfl rfl rfl) rfl rfl ?_
     refine oQ (Q_bin rfl rfl rfl) rfl rfl ?_
     refine oN ?_
     first | refine cT rfl ?_ | refine cF rfl ?_ | refine CW_cond rfl (fun hc => ?_) (fun hc => ?_)
     all_goals try simp only [s1, s2, s3, s4, s5, s6, s7, s8, s9, s10, s11, s12] at hc
     all_goals first
       | (
        refine CW_skip ?_)
       | (
        refine CW_exit ?_)
     all_goals first
       | with_reducible refine tR ?_
       | with_reducible refine tE ?_
       | (
        with_reducible refine tN ?_
        refine CW_seq ?_
        refine CW_block ?_
        refine cR ?_
        iterate 3 refine oM rfl rfl ?_
        first | refine oQ (Q_ixs0z 4 rfl rfl rfl rfl rfl rfl (by first | omega | (dsimp only; omega) | (simp; omega) | (simp; done))) rfl rfl ?_ | refine oQ (Q_ixsz 4 rfl rfl rfl rfl rfl rfl (by first | omega | (dsimp only; omega) | (simp; omega) | (simp; done))) rfl rfl ?_
        first | refine oQ (Lw rfl rfl rfl rfl) rfl rfl ?_ | refine oQ (La rfl rfl rfl rfl rfl) rfl rfl ?_
        refine oQ (Q_call0 (l05Is_con4 p _ (elemAt_length hM (by omega))) rfl rfl rfl) rfl rfl ?_
        refine oQ (Q_not rfl) rfl rfl ?_
        refine oN ?_
        first | refine cT rfl ?_ | refine cF rfl ?_ | refine CW_cond rfl (fun hc => ?_) (fun hc => ?_)
        all_goals try simp only [s1, s2, s3, s4, s5, s6, s7, s8, s9, s10, s11, s12] at hc
        all_goals first
          | (
           refine CW_skip ?_)
          | (
           refine cR ?_
           refine oA rfl rfl ?_
           refine oN ?_
           refine CW_ret ?_)
        all_goals first | with_reducible refine bN ?_ | with_reducible refine bE ?_ | with_reducible refine bR ?_ | refine bX rfl ?_
        all_goals first
          | with_reducible refine tR ?_
          | with_reducible refine tE ?_
          | (
           with_reducible refine tN ?_
           refine CW_region ?_
           refine oM rfl rfl ?_
           first | refine oQ (Q_binu rfl rfl rfl (by omega)) rfl rfl ?_ | refine oQ (Q_bin rfl rfl rfl) rfl rfl ?_
           refine oA rfl rfl ?_
           refine OW_nil ?_))
     all_goals first
       | with_reducible refine tR ?_
       | with_reducible refine tE ?_
       | (
        with_reducible refine tN ?_
        refine ⟨i + 1, ?_, ?_, View.mk' [] rfl rfl rfl ?_ ?_⟩
        · refine ⟨by omega, fun j hj => ?_⟩
          by_cases e : j = i
          · subst e; simp only [Bool.and_eq_true] at hc; exact hc.2
          · exact hi2 j (by omega)
        · omega
        all_goals (repeat' first | exact vFn | refine vFc rfl ?_ | exact vHn | refine vHc rfl ?_ | refine vFc (congrArg (fun z => some (V.int z)) ?_) ?_ | refine vHc (congrArg (fun z => some (Blk.ints _ z)) ?_) ?_ | refine vFc (congrArg (fun z => some (V.bool z)) ?_) ?_ | refine vFs rfl rfl ?_ ?_))
     all_goals first | with_reducible refine bN ?_ | with_reducible refine bE ?_ | with_reducible refine bR ?_ | refine bX rfl ?_
     all_goals first
       | with_reducible refine tR ?_
       | with_reducible refine tE ?_
       | (
        with_reducible refine tN ?_
        refine CW_seq ?_
        refine cR ?_
        refine oA rfl rfl ?_
        refine oN ?_
        refine CW_block ?_
        (have hbad : badM p M k = false := badM_false (fun j hj => hi2 j (by omega)))
        refine CW_loop (ι := Nat) (fun i => i ≤ n ∧ placesB p (L.take i) = true) (fun i => ⟨[(0, .int p), (2, .slice 1 0 n cn), (8, .int i)], [(0, .ints tM M), (1, .ints t2 L)], 2⟩) (fun i => n - i) 0 ?_ ?_ ?_
        · exact ⟨Nat.zero_le _, rfl⟩
        · refine View.mk' [] rfl rfl rfl ?_ ?_
          repeat' first | exact vFn | refine vFc rfl ?_ | exact vHn | refine vHc rfl ?_ | refine vFc (congrArg (fun z => some (V.int z)) ?_) ?_ | refine vHc (congrArg (fun z => some (Blk.ints _ z)) ?_) ?_ | refine vFc (congrArg (fun z => some (V.bool z)) ?_) ?_ | refine vFs rfl rfl ?_ ?_
        intro u hu
        obtain ⟨hu1, hu2⟩ := hu
        refine CW_seq ?_
        refine cR ?_
        iterate 2 refine oM rfl rfl ?_
        first | refine oQ (Q_len rfl rfl rfl rfl) rfl rfl ?_ | refine oQ (Q_len0 rfl rfl rfl rfl) rfl rfl ?_
        refine oQ (Q_bin rfl rfl rfl) rfl rfl ?_
        refine oN ?_
        first | refine cT rfl ?_ | refine cF rfl ?_ | refine CW_cond rfl (fun hc => ?_) (fun hc => ?_)
        all_goals try simp only [s1, s2, s3, s4, s5, s6, s7, s8, s9, s10, s11, s12] at hc
        all_goals first
          | (
           refine CW_skip ?_)
          | (
           refine CW_exit ?_)
        all_goals first
          | with_reducible refine tR ?_
          | with_reducible refine tE ?_
          | (
           with_reducible refine tN ?_
           refine CW_seq ?_
           refine CW_block ?_
           refine cR ?_
           iterate 2 refine oM rfl rfl ?_
           first | refine oQ (Is0 rfl rfl rfl rfl rfl rfl) rfl rfl ?_ | refine oQ (Is1 rfl rfl rfl rfl rfl rfl) rfl rfl ?_
           refine oQ (Ld rfl rfl rfl rfl) rfl rfl ?_
           refine oM rfl rfl ?_
           refine oQ (Q_call0 (l01In_con _ _ _) rfl rfl rfl) rfl rfl ?_
           refine oQ (Q_not rfl) rfl rfl ?_
           refine oN ?_
           first | refine cT rfl ?_ | refine cF rfl ?_ | refine CW_cond rfl (fun hc => ?_) (fun hc => ?_)
           all_goals try simp only [s1, s2, s3, s4, s5, s6, s7, s8, s9, s10, s11, s12] at hc
           all_goals first
             | (
              refine CW_skip ?_)
             | (
              refine cR ?_
              refine oA rfl rfl ?_
              refine oN ?_
              refine CW_ret ?_)
           all_goals first | with_reducible refine bN ?_ | with_reducible refine bE ?_ | with_reducible refine bR ?_ | refine bX rfl ?_
           all_goals first
             | with_reducible refine tR ?_
             | with_reducible refine tE ?_
             | (
              with_reducible refine tN ?_
              refine CW_region ?_
              refine oM rfl rfl ?_
              first | refine oQ (Q_binu rfl rfl rfl (by omega)) rfl rfl ?_ | refine oQ (Q_bin rfl rfl rfl) rfl rfl ?_
              refine oA rfl rfl ?_
              refine OW_nil ?_))
        all_goals first
          | with_reducible refine tR ?_
          | with_reducible refine tE ?_
          | (
           with_reducible refine tN ?_
           refine ⟨u + 1, ?_, ?_, View.mk' [] rfl rfl rfl ?_ ?_⟩
           · exact ⟨by omega, all_snoc (by omega) hu2 hc⟩
           · omega
           all_goals (repeat' first | exact vFn | refine vFc rfl ?_ | exact vHn | refine vHc rfl ?_ | refine vFc (congrArg (fun z => some (V.int z)) ?_) ?_ | refine vHc (congrArg (fun z => some (Blk.ints _ z)) ?_) ?_ | refine vFc (congrArg (fun z => some (V.bool z)) ?_) ?_ | refine vFs rfl rfl ?_ ?_))
        all_goals first | with_reducible refine bN ?_ | with_reducible refine bE ?_ | with_reducible refine bR ?_ | refine bX rfl ?_
        all_goals first
          | with_reducible refine tR ?_
          | with_reducible refine tE ?_
          | (
           with_reducible refine tN ?_
           refine cR ?_
           refine oA rfl rfl ?_
           refine oN ?_
           refine CW_ret ?_)))
  all_goals (
   refine exitQ (.inr rfl) 2 (.cons (.tmp rfl rfl) .nil) ?_ rfl (vHc rfl (vHc rfl vHn)) rfl rfl
   first
     | exact congrArg V.int (codeP_np hc).symm
     | exact congrArg V.int (codeP_bad hp (badM_true (i := i) (by omega) (by simpa [hp] using hc))).symm
     | exact congrArg V.int (codeP_place hp hbad (all_fail (i := u) (n := n) (by omega) (by omega) hc)).symm
     | (have e : u = n := (by omega); subst e; exact congrArg V.int (codeP_ok hp hbad hu2).symm))
end Go.Proofs.Ytchikadcicecoaa
namespace Go.Proofs.Ytchikadcicecoaa
set_option linter.unusedVariables false
set_option linter.unusedSimpArgs false
abbrev N4 := Nat × Nat × Nat × Nat
def toM (m : N4) : List Int := [(m.1 : Int), (m.2.1 : Int), (m.2.2.1 : Int), (m.2.2.2 : Int)]
@[simp] theorem toM_len (m : N4) : (toM m).length = 4 := rfl
def ivN (n y : Nat) : Nat := ((List.range n).find? fun k => Nat.beq (y * k % n) 1).getD 0
def plN (n x y : Nat) : Nat := bif Nat.beq (y % n) 0 then n else x % n * ivN n (y % n) % n
def atN (n : Nat) (m : N4) (x : Nat) : Nat := bif Nat.beq x n then plN n m.1 m.2.2.1 else plN n (m.1 * x + m.2.1) (m.2.2.1 * x + m.2.2.2)
def fzN (n a b c d : Nat) : Nat := bif Nat.beq (a % n) 0 then (bif Nat.beq (b % n) 0 then (bif Nat.beq (c % n) 0 then d % n else c % n) else b % n) else a % n
def nmN (n a b c d : Nat) : N4 := (a % n * ivN n (fzN n a b c d) % n, b % n * ivN n (fzN n a b c d) % n, c % n * ivN n (fzN n a b c d) % n, d % n * ivN n (fzN n a b c d) % n)
def thN (n : Nat) (x y : N4) : N4 := nmN n (x.1 * y.1 + x.2.1 * y.2.2.1) (x.1 * y.2.1 + x.2.1 * y.2.2.2) (x.2.2.1 * y.1 + x.2.2.2 * y.2.2.1) (x.2.2.1 * y.2.1 + x.2.2.2 * y.2.2.2)
def eqM (x y : N4) : Bool := Nat.beq x.1 y.1 && (Nat.beq x.2.1 y.2.1 && (Nat.beq x.2.2.1 y.2.2.1 && Nat.beq x.2.2.2 y.2.2.2))
theorem eqM_iff {x y : N4} : eqM x y = true ↔ x = y := by
  obtain ⟨a, b, c, d⟩ := x
  obtain ⟨a', b', c', d'⟩ := y
  simp [eqM, Nat.beq_eq_true_eq]
/-! ### all maps, in the reference's order -/
def r3 (n b c d : Nat) : List N4 := ((List.range d).filter fun x => !(Nat.beq x (b * c % n))).map fun x => (1, b, c, x)
def r2 (n b c : Nat) : List N4 := (List.range c).flatMap fun y => r3 n b y n
def r1 (n b : Nat) : List N4 := (List.range b).flatMap fun y => r2 n y n
def u2 (c d : Nat) : List N4 := (List.range d).map fun x => (0, 1, c, x)
def u1 (n c : Nat) : List N4 := (List.range c).flatMap fun y => u2 (y + 1) n
def MN (n : Nat) : List N4 := r1 n n ++ u1 n (n - 1)
/-! ### powers -/
def itN (n : Nat) (m x : N4) : Nat → N4
  | 0 => x
  | k + 1 => thN n (itN n m x k) m
def pwN (n : Nat) (m : N4) (k : Nat) : N4 := itN n m m k
/-- how many steps until the unit, if at most k -/
def orN (n : Nat) (m : N4) : Nat → N4 → Nat
  | 0, _ => 0
  | k + 1, x => bif eqM x (1, 0, 0, 1) then 0 else orN n m k (thN n x m) + 1
def trB (n : Nat) (m : N4) : Bool := Nat.beq ((m.1 + m.2.2.2) % n) 0
/-- the order -/
def ordN (n : Nat) (m : N4) : Nat := orN n m 15 m + 1
def okOrd (n : Nat) : Bool := (MN n).all fun m => Nat.blt (ordN n m) 16 && (Nat.beq (ordN n m) 2 == trB n m)
theorem okOrd_3 : okOrd 3 = true := by decide +kernel
theorem okOrd_5 : okOrd 5 = true := by decide +kernel
theorem okOrd_7 : okOrd 7 = true := by decide +kernel
theorem okOrd_11 : okOrd 11 = true := by decide +kernel
theorem okOrd_13 : okOrd 13 = true := by decide +kernel
def invs (n : Nat) : List N4 := (MN n).filter (trB n)
def imgs (n : Nat) (m : N4) : List Nat := (List.range (n + 1)).map (atN n m)
def backB (n : Nat) : Bool := (invs n).all fun m => (List.range (n + 1)).all fun x => Nat.beq (atN n m (atN n m x)) x && Nat.ble (atN n m x) n
theorem backB_3 : backB 3 = true := by decide +kernel
theorem backB_5 : backB 5 = true := by decide +kernel
theorem backB_7 : backB 7 = true := by decide +kernel
theorem backB_11 : backB 11 = true := by decide +kernel
theorem backB_13 : backB 13 = true := by decide +kernel
/-- the places where two maps agree -/
def agr : Nat → List Nat → List Nat → List (Nat × Nat)
  | _, [], _ => []
  | _, _ :: _, [] => []
  | i, x :: r, y :: s => bif Nat.beq x y then (i, x) :: agr (i + 1) r s else agr (i + 1) r s
def onlyB (L : List (Nat × Nat)) : Bool := L.all fun x => L.all fun y => Nat.beq y.1 x.1 || Nat.beq y.1 x.2
def unB (n : Nat) : Bool :=
  let T := (invs n).map fun m => (m, imgs n m)
  T.all fun x => T.all fun y => eqM x.1 y.1 || onlyB (agr 0 x.2 y.2)
theorem unB_3 : unB 3 = true := by decide +kernel
theorem unB_5 : unB 5 = true := by decide +kernel
theorem unB_7 : unB 7 = true := by decide +kernel
theorem unB_11 : unB 11 = true := by decide +kernel
theorem unB_13 : unB 13 = true := by decide +kernel
end Go.Proofs.Ytchikadcicecoaa
namespace Go.Proofs.Ytchikadcicecoaa
set_option linter.unusedVariables false
set_option linter.unusedSimpArgs false
theorem r3_yes {n b c d : Nat} (h : d ≠ b * c % n) : r3 n b c (d + 1) = r3 n b c d ++ [(1, b, c, d)] := by
  have : (!(Nat.beq d (b * c % n))) = true := by
    cases hb : Nat.beq d (b * c % n)
    · rfl
    · exact absurd (Nat.eq_of_beq_eq_true hb) h
  simp [r3, List.range_succ, List.filter_append, this]
theorem r3_no {n b c d : Nat} (h : d = b * c % n) : r3 n b c (d + 1) = r3 n b c d := by
  have : (!(Nat.beq d (b * c % n))) = false := by rw [← h]; simp
  simp [r3, List.range_succ, List.filter_append, this]
theorem r2_snoc (n b c : Nat) : r2 n b (c + 1) = r2 n b c ++ r3 n b c n := by simp [r2, List.range_succ]
theorem r1_snoc (n b : Nat) : r1 n (b + 1) = r1 n b ++ r2 n b n := by simp [r1, List.range_succ]
theorem u2_snoc (c d : Nat) : u2 c (d + 1) = u2 c d ++ [(0, 1, c, d)] := by simp [u2, List.range_succ]
theorem u1_snoc (n c : Nat) : u1 n (c + 1) = u1 n c ++ u2 (c + 1) n := by simp [u1, List.range_succ]
theorem mem_MN {n : Nat} {m : N4} : m ∈ MN n ↔ (∃ b c d, b < n ∧ c < n ∧ d < n ∧ d ≠ b * c % n ∧ m = (1, b, c, d)) ∨ (∃ c d, 1 ≤ c ∧ c < n ∧ d < n ∧ m = (0, 1, c, d)) := by
  simp only [MN, r1, r2, r3, u1, u2, List.mem_append, List.mem_flatMap, List.mem_range, List.mem_map, List.mem_filter, Bool.not_eq_true']
  constructor
  · rintro (⟨b, hb, c, hc, d, ⟨hd, hne⟩, rfl⟩ | ⟨c, hc, d, hd, rfl⟩)
    · exact .inl ⟨b, c, d, hb, hc, hd, fun e => by rw [← e] at hne; simp at hne, rfl⟩
    · exact .inr ⟨c + 1, d, by omega, by omega, hd, rfl⟩
  · rintro (⟨b, c, d, hb, hc, hd, hne, rfl⟩ | ⟨c, d, h1, hc, hd, rfl⟩)
    · refine .inl ⟨b, hb, c, hc, d, ⟨hd, ?_⟩, rfl⟩
      cases hq : Nat.beq d (b * c % n)
      · rfl
      · exact absurd (Nat.eq_of_beq_eq_true hq) hne
    · exact .inr ⟨c - 1, by omega, d, hd, by rw [Nat.sub_add_cancel h1]⟩
theorem MN_lt {n : Nat} (hn : 2 ≤ n) {m : N4} (h : m ∈ MN n) : m.1 < n ∧ m.2.1 < n ∧ m.2.2.1 < n ∧ m.2.2.2 < n := by
  rcases mem_MN.1 h with ⟨b, c, d, hb, hc, hd, _, rfl⟩ | ⟨c, d, h1, hc, hd, rfl⟩
  · exact ⟨by show 1 < n; omega, hb, hc, hd⟩
  · exact ⟨by show 0 < n; omega, by show 1 < n; omega, hc, hd⟩
/-! ### numbers and integers -/
theorem beqN {x y : Nat} : Nat.beq x y = true ↔ x = y := ⟨Nat.eq_of_beq_eq_true, fun h => by subst h; simp⟩
theorem inv_cast (n y : Nat) : invP (n : Int) (y : Int) = (ivN n y : Int) := by
  unfold invP invN ivN
  rw [Int.toNat_natCast]
  have e : (fun k : Nat => ((y : Int) * (k : Int) % (n : Int) == 1)) = fun k => Nat.beq (y * k % n) 1 := by
    funext k
    rw [← Int.natCast_mul, ← Int.natCast_emod, Bool.eq_iff_iff, beqN, beq_iff_eq]
    omega
  rw [e]
theorem place_cast (n x y : Nat) : placeP (n : Int) (x : Int) (y : Int) = (plN n x y : Int) := by
  unfold placeP plN
  rw [← Int.natCast_emod, ← Int.natCast_emod, inv_cast, ← Int.natCast_mul, ← Int.natCast_emod]
  by_cases h : y % n = 0
  · rw [h]; simp
  · have : Nat.beq (y % n) 0 = false := by
      cases hb : Nat.beq (y % n) 0
      · rfl
      · exact absurd (Nat.eq_of_beq_eq_true hb) h
    rw [this, if_neg (by omega)]; rfl
theorem at_cast (n : Nat) (m : N4) (x : Nat) : atP (n : Int) (m.1 : Int) (m.2.1 : Int) (m.2.2.1 : Int) (m.2.2.2 : Int) (x : Int) = (atN n m x : Int) := by
  unfold atP atN
  by_cases h : x = n
  · subst h; rw [if_pos rfl, place_cast]; simp
  · have : Nat.beq x n = false := by
      cases hb : Nat.beq x n
      · rfl
      · exact absurd (Nat.eq_of_beq_eq_true hb) h
    rw [if_neg (by omega), this, ← Int.natCast_mul, ← Int.natCast_mul, ← Int.natCast_add, ← Int.natCast_add, place_cast]; rfl
theorem fnz_cast (n a b c d : Nat) : fnz ([(a : Int), b, c, d].map (· % (n : Int))) = (fzN n a b c d : Int) := by
  have key : ∀ x y : Nat, ∀ Y : Int, Y = (y : Int) → (if (x : Int) % (n : Int) = 0 then Y else (x : Int) % (n : Int)) = ((bif Nat.beq (x % n) 0 then y else x % n : Nat) : Int) := fun x y Y hY => by
    rw [← Int.natCast_emod]
    by_cases h : x % n = 0
    · rw [h, hY]; simp
    · have : Nat.beq (x % n) 0 = false := by
        cases hb : Nat.beq (x % n) 0
        · rfl
        · exact absurd (Nat.eq_of_beq_eq_true hb) h
      rw [this, if_neg (by omega)]; rfl
  simp only [List.map_cons, List.map_nil, fnz]
  refine key a _ _ (key b _ _ (key c _ _ ?_))
  rw [← Int.natCast_emod]
  split
  · rename_i h; omega
  · rfl
theorem norm_cast4 (n a b c d : Nat) : normL (n : Int) [(a : Int), b, c, d] = toM (nmN n a b c d) := by
  have hf : facP (n : Int) [(a : Int), b, c, d] = (ivN n (fzN n a b c d) : Int) := by
    unfold facP
    rw [fnz_cast, inv_cast]
  unfold normL
  rw [hf]
  simp only [List.map_cons, List.map_nil, toM, nmN, Int.natCast_emod, Int.natCast_mul]
def thL4 (x y : List Int) : List Int := [x.getD 0 0 * y.getD 0 0 + x.getD 1 0 * y.getD 2 0, x.getD 0 0 * y.getD 1 0 + x.getD 1 0 * y.getD 3 0, x.getD 2 0 * y.getD 0 0 + x.getD 3 0 * y.getD 2 0, x.getD 2 0 * y.getD 1 0 + x.getD 3 0 * y.getD 3 0]
theorem th_cast (n : Nat) (x y : N4) : normL (n : Int) (thL4 (toM x) (toM y)) = toM (thN n x y) := by
  rw [thN, ← norm_cast4]
  simp only [thL4, toM, List.getD_cons_zero, List.getD_cons_succ, Int.natCast_add, Int.natCast_mul]
theorem moeb_mem {n : Nat} (hp : primeB (n : Int) = true) {m : N4} (h1 : m.1 < n) (h2 : m.2.1 < n) (h3 : m.2.2.1 < n) (h4 : m.2.2.2 < n) : moebB (n : Int) (toM m) = true ↔ m ∈ MN n := by
  have hb := prime_bd hp
  obtain ⟨a, b, c, d⟩ := m
  dsimp only at h1 h2 h3 h4
  have hmod : modB (n : Int) (toM (a, b, c, d)) = true := by
    simp only [modB, toM, List.all_cons, List.all_nil, Bool.and_true, Bool.and_eq_true, decide_eq_true_eq]
    omega
  have hdet0 : ((a : Int) * d - b * c) % (n : Int) = 0 ↔ a * d % n = b * c % n := by
    rw [← Int.emod_eq_emod_iff_emod_sub_eq_zero]
    rw [← Int.natCast_mul, ← Int.natCast_mul, ← Int.natCast_emod, ← Int.natCast_emod]
    omega
  have hdet : ((a : Int) * d - b * c) % (n : Int) ≠ 0 ↔ a * d % n ≠ b * c % n := not_congr hdet0
  simp only [toM] at hmod
  rw [mem_MN]
  simp only [moebB, normB, hmod, Bool.true_and, Bool.and_eq_true, beq_iff_eq, bne_iff_ne, toM, List.getD_cons_zero, List.getD_cons_succ, hdet]
  simp only [fnz]
  constructor
  · rintro ⟨hf, hd⟩
    by_cases ha : (a : Int) = 0
    · rw [if_pos ha] at hf
      have ha0 : a = 0 := by omega
      subst ha0
      by_cases hb0 : (b : Int) = 0
      · exfalso
        have : b = 0 := by omega
        subst this
        simp at hd
      · rw [if_neg hb0] at hf
        have hb1 : b = 1 := by omega
        subst hb1
        refine .inr ⟨c, d, ?_, h3, h4, rfl⟩
        rcases Nat.eq_zero_or_pos c with e | e
        · subst e; simp at hd
        · exact e
    · rw [if_neg ha] at hf
      have ha1 : a = 1 := by omega
      subst ha1
      refine .inl ⟨b, c, d, h2, h3, h4, ?_, rfl⟩
      rw [Nat.one_mul, Nat.mod_eq_of_lt h4] at hd
      exact hd
  · rintro (⟨b', c', d', _, _, _, hne, e⟩ | ⟨c', d', hc1, hc2, _, e⟩)
    · simp only [Prod.mk.injEq] at e
      obtain ⟨rfl, rfl, rfl, rfl⟩ := e
      exact ⟨by simp, by rw [Nat.one_mul, Nat.mod_eq_of_lt h4]; exact hne⟩
    · simp only [Prod.mk.injEq] at e
      obtain ⟨rfl, rfl, rfl, rfl⟩ := e
      refine ⟨by simp, ?_⟩
      rw [Nat.zero_mul, Nat.one_mul, Nat.zero_mod, Nat.mod_eq_of_lt hc2]
      omega
theorem agr_mem : ∀ {L M : List Nat} {i j : Nat}, j < L.length → j < M.length → L.getD j 0 = M.getD j 0 → (i + j, L.getD j 0) ∈ agr i L M
  | [], _, _, _, h, _, _ => by simp at h
  | _ :: _, [], _, _, _, h, _ => by simp at h
  | x :: r, y :: s, i, 0, _, _, e => by
    simp only [List.getD_cons_zero] at e
    subst e
    simp [agr]
  | x :: r, y :: s, i, j + 1, h1, h2, e => by
    simp only [List.getD_cons_succ] at e ⊢
    have ih := agr_mem (i := i + 1) (by simpa using h1) (by simpa using h2) e
    rw [show i + (j + 1) = i + 1 + j by omega]
    unfold agr
    cases Nat.beq x y
    · exact ih
    · exact List.mem_cons_of_mem _ ih
theorem imgs_get {n x : Nat} (m : N4) (h : x ≤ n) : (imgs n m).getD x 0 = atN n m x ∧ x < (imgs n m).length := by
  refine ⟨?_, by simp [imgs]; omega⟩
  simp [imgs, List.getD, show x < n + 1 by omega]
theorem prime_all {P : Nat → Prop} (h3 : P 3) (h5 : P 5) (h7 : P 7) (h11 : P 11) (h13 : P 13) {n : Nat} (hp : primeB (n : Int) = true) : P n := by
  have := prime_cases hp
  have h : n = 3 ∨ n = 5 ∨ n = 7 ∨ n = 11 ∨ n = 13 := by omega
  rcases h with rfl | rfl | rfl | rfl | rfl <;> assumption
theorem ord_spec {n : Nat} (hp : primeB (n : Int) = true) {m : N4} (hm : m ∈ MN n) : ordN n m < 16 ∧ (ordN n m = 2 ↔ trB n m = true) := by
  have h := List.all_eq_true.1 (prime_all (P := fun n => okOrd n = true) okOrd_3 okOrd_5 okOrd_7 okOrd_11 okOrd_13 hp) m hm
  simp only [Bool.and_eq_true, Nat.blt_eq, beq_iff_eq] at h
  refine ⟨h.1, ?_⟩
  rw [← h.2, beqN]
theorem mem_invs {n : Nat} {m : N4} : m ∈ invs n ↔ m ∈ MN n ∧ trB n m = true := List.mem_filter
theorem inv_back {n : Nat} (hp : primeB (n : Int) = true) {m : N4} (hm : m ∈ invs n) {x : Nat} (hx : x ≤ n) : atN n m (atN n m x) = x ∧ atN n m x ≤ n := by
  have h := List.all_eq_true.1 (List.all_eq_true.1 (prime_all (P := fun n => backB n = true) backB_3 backB_5 backB_7 backB_11 backB_13 hp) m hm) x (by simp; omega)
  simp only [Bool.and_eq_true, beqN, Nat.ble_eq] at h
  exact h
theorem inv_uniq {n : Nat} (hp : primeB (n : Int) = true) {x y : N4} (hx : x ∈ invs n) (hy : y ∈ invs n) {a c : Nat} (ha : a ≤ n) (hc : c ≤ n) (h1 : atN n x a = atN n y a) (h2 : atN n x c = atN n y c) (hne : c ≠ a) (hne2 : c ≠ atN n x a) : x = y := by
  have h := prime_all (P := fun n => unB n = true) unB_3 unB_5 unB_7 unB_11 unB_13 hp
  have h := List.all_eq_true.1 (List.all_eq_true.1 h (x, imgs n x) (List.mem_map.2 ⟨x, hx, rfl⟩)) (y, imgs n y) (List.mem_map.2 ⟨y, hy, rfl⟩)
  simp only [Bool.or_eq_true] at h
  rcases h with h | h
  · exact eqM_iff.1 h
  · exfalso
    obtain ⟨xa, la⟩ := imgs_get x ha
    obtain ⟨xc, lc⟩ := imgs_get x hc
    obtain ⟨ya, la'⟩ := imgs_get y ha
    obtain ⟨yc, lc'⟩ := imgs_get y hc
    have m1 := agr_mem (i := 0) la la' (by rw [xa, ya, h1])
    have m2 := agr_mem (i := 0) lc lc' (by rw [xc, yc, h2])
    have h4 := List.all_eq_true.1 (List.all_eq_true.1 h _ m1) _ m2
    simp only [Nat.zero_add, xa, xc, Bool.or_eq_true, beqN] at h4
    omega
/-! ### the first power that is the unit -/
theorem it_shift (n : Nat) (m x : N4) : ∀ j, itN n m x (j + 1) = itN n m (thN n x m) j
  | 0 => rfl
  | j + 1 => by
    have ih := it_shift n m x j
    rw [itN, ih]; rfl
theorem orN_spec (n : Nat) (m : N4) : ∀ k x, orN n m k x < k → itN n m x (orN n m k x) = (1, 0, 0, 1) ∧ ∀ j, j < orN n m k x → itN n m x j ≠ (1, 0, 0, 1)
  | 0, x, h => by simp [orN] at h
  | k + 1, x, h => by
    unfold orN at h ⊢
    cases he : eqM x (1, 0, 0, 1)
    · rw [he] at h
      simp only [cond_false] at h ⊢
      obtain ⟨h3, h4⟩ := orN_spec n m k (thN n x m) (by omega)
      refine ⟨by rw [it_shift]; exact h3, fun j hj => ?_⟩
      cases j with
      | zero => exact fun e => by rw [show itN n m x 0 = x from rfl] at e; rw [eqM_iff.2 e] at he; cases he
      | succ j => rw [it_shift]; exact h4 j (by omega)
    · simp only [cond_true]
      exact ⟨eqM_iff.1 he, fun j hj => absurd hj (Nat.not_lt_zero _)⟩
theorem pw_ord {n : Nat} (hp : primeB (n : Int) = true) {m : N4} (hm : m ∈ MN n) : pwN n m (ordN n m - 1) = (1, 0, 0, 1) ∧ ∀ j, j < ordN n m - 1 → pwN n m j ≠ (1, 0, 0, 1) := by
  have h := (ord_spec hp hm).1
  unfold ordN at h ⊢
  rw [Nat.add_sub_cancel]
  exact orN_spec n m 15 m (by omega)
theorem toM_inj {x y : N4} (h : toM x = toM y) : x = y := by
  obtain ⟨a, b, c, d⟩ := x
  obtain ⟨a', b', c', d'⟩ := y
  simp only [toM, List.cons.injEq, and_true] at h
  simp only [Prod.mk.injEq]
  omega
end Go.Proofs.Ytchikadcicecoaa
namespace Go.Proofs.Ytchikadcicecoaa
set_option linter.unusedVariables false
/-! ### operations that look at no memory -/
def PX (c : Cx) (o : Oper) (s : S) (v : V) : Prop := ∀ ρ0, GR c.gl c.D ρ0 → ∀ ρ a, FR c ρ s.F a → (∀ b ∈ c.D, ρ b = ρ0 b) → ∀ w, (execOp a.eval o).run c.P w = .ok (.value (rv ρ v)) w
section
variable {c : Cx} {s : S} {dst : Option Tmp} {ty : TypeId} {pos : String} {af : Array Edge} {g : Option (Nat × Bool)}
theorem PX_move {x : Operand} {v : V} (h : ev c s.F x = some v) (hv : nb v = true) : PX c ⟨dst, .move x, ty, pos, af, g⟩ s v := by
  intro ρ0 hg ρ a hf hfix w
  simp [execOp, ev_rv hg hfix hf h (ne_bot hv)]
end
/-! ### more of a heap -/
structure Ext (c : Cx) (ρ : Nat → Nat) (H : Hp) (ρ' : Nat → Nat) (H' : Hp) : Prop where
  lk : ∀ b k, lkB H b = some k → k ≠ .dead → lkB H' b = some k ∧ ρ' b = ρ b ∧ ∀ b' ∈ k.ids, ρ' b' = ρ b'
  d : ∀ b ∈ c.D, ρ' b = ρ b
section
variable {c : Cx} {s : S} {ρ0 ρ ρ' ρ2 : Nat → Nat} {H H' H2 : Hp} {w0 w : World}
theorem Ext.refl : Ext c ρ H ρ H := ⟨fun _ _ h _ => ⟨h, rfl, fun _ _ => rfl⟩, fun _ _ => rfl⟩
theorem Ext.trans (h1 : Ext c ρ H ρ' H') (h2 : Ext c ρ' H' ρ2 H2) : Ext c ρ H ρ2 H2 := by
  refine ⟨fun b k hk hd => ?_, fun b hb => (h2.d b hb).trans (h1.d b hb)⟩
  obtain ⟨a1, a2, a3⟩ := h1.lk b k hk hd
  obtain ⟨b1, b2, b3⟩ := h2.lk b k a1 hd
  exact ⟨b1, b2.trans a2, fun b' hb' => (b3 b' hb').trans (a3 b' hb')⟩
theorem CC.sub (h : Ext c ρ H ρ' H') (hw : CC c ρ0 w0 ρ' H' w) : CC c ρ0 w0 ρ H w := by
  refine ⟨⟨fun b k hk hd => ?_, fun b b' k k' h1 h2 d1 d2 hw12 he => ?_⟩, fun b hb => ?_, fun b k hk hd hwk => ?_, hw.inv.os, hw.inv.tape, hw.inv.out, hw.inv.drw, hw.inv.size, hw.inv.old⟩
  · obtain ⟨a1, a2, a3⟩ := h.lk b k hk hd
    obtain ⟨o, ho, hb⟩ := hw.hr.1 b k a1 hd
    exact ⟨o, by rw [← a2]; exact ho, BR_congr a3 hb⟩
  · obtain ⟨a1, a2, _⟩ := h.lk b k h1 d1
    obtain ⟨b1, b2, _⟩ := h.lk b' k' h2 d2
    exact hw.hr.2 b b' k k' a1 b1 d1 d2 hw12 (by rw [a2, b2]; exact he)
  · rw [← h.d b hb]; exact hw.inv.fix b hb
  · obtain ⟨a1, a2, _⟩ := h.lk b k hk hd
    rw [← a2]; exact hw.inv.own b k a1 hd hwk
/-- what makes no call -/
def NE (o : Oper) : Prop := ∀ ev P w f args w', (execOp ev o).run P w ≠ .ok (.enter f args) w'
theorem ne_v {P : Program} {m : Sem Value} {w w' : World} {f : FuncId} {args : Array Value} : (do pure (Next.value (← m)) : Sem Next).run P w ≠ .ok (.enter f args) w' := by
  simp only [Sem.run_bind]
  cases m.run P w <;> simp [Result.andThen]
/-- an operation that reads: the same in all greater heaps -/
def QX (c : Cx) (o : Oper) (s : S) (v : V) : Prop :=
  ∀ ρ0 w0, GR c.gl c.D ρ0 → ∀ ρ a, FR c ρ s.F a → (∀ b ∈ c.D, ρ b = ρ0 b) → ∀ ρ' H', Ext c ρ s.H ρ' H' → ∀ w, CC c ρ0 w0 ρ' H' w → o.quietAt c.P a (CC c ρ0 w0 ρ' H') w (rv ρ v)
theorem QX_of {o : Oper} {v : V} (h : QOp c o s v) (hne : NE o) : QX c o s v := by
  intro ρ0 w0 hg ρ a hf hfix ρ' H' hx w hw
  have h1 := h ρ0 w0 hg ρ a hf hfix w (hw.sub hx)
  have h2 := hne a.eval c.P w
  unfold Oper.quietAt at h1 ⊢
  generalize (execOp a.eval o).run c.P w = r at *
  cases r with
  | ok n w' =>
    cases n <;> simp only [Oper.quietUpon] at h1 ⊢
    case value u => exact h1
    case skip => exact h1
    case enter f args => exact absurd rfl (h2 f args w')
  | halt x w' => simp only [Oper.quietUpon] at h1
end
section
variable {P : Program} {ops : Array Oper} {Q : Exit → Act → World → Prop} {tl : Nat → Bool} {T T' : World → Prop}
/-- what an operation waits for -/
def depsOf (ops : Array Oper) (j : Nat) : List Nat := ((ops[j]?).map fun o => (o.after.toList.filter fun e => Region.binds .any e).map (·.on)).getD []
def dedup : List Nat → List Nat
  | [] => []
  | x :: r => match (dedup r).elem x with
    | true => dedup r
    | false => x :: dedup r
theorem mem_dedup {x : Nat} : ∀ {l : List Nat}, x ∈ dedup l → x ∈ l
  | [], h => h
  | y :: r, h => by
    simp only [dedup] at h
    split at h
    · exact List.mem_cons_of_mem _ (mem_dedup h)
    · rcases List.mem_cons.1 h with h | h
      · exact h ▸ List.mem_cons_self
      · exact List.mem_cons_of_mem _ (mem_dedup h)
def ancs (ops : Array Oper) : Nat → List Nat → List Nat
  | 0, l => l
  | n + 1, l => ancs ops n (dedup (l ++ l.flatMap (depsOf ops)))
/-- what has come was free to come -/
def DC (ops : Array Oper) (listed : Array Bool) : Prop := ∀ k, listed.getD k false = true → ∀ i ∈ depsOf ops k, listed.getD i false = true
theorem ancs_listed {listed : Array Bool} (hd : DC ops listed) : ∀ (n : Nat) (l : List Nat), (∀ x ∈ l, listed.getD x false = true) → ∀ x ∈ ancs ops n l, listed.getD x false = true
  | 0, _, h => h
  | n + 1, l, h => ancs_listed hd n _ fun x hx => by
    rcases List.mem_append.1 (mem_dedup hx) with h1 | h1
    · exact h x h1
    · obtain ⟨y, hy, hxy⟩ := List.mem_flatMap.1 h1
      exact hd y (h y hy) x hxy
theorem ready_deps {listed : Array Bool} {j : Nat} (hj : j ∈ Region.ready .any ops listed) : ∀ i ∈ depsOf ops j, listed.getD i false = true := by
  obtain ⟨_, o, ho, hall⟩ := mem_ready.1 hj
  intro i hi
  simp only [depsOf, ho, Option.map_some, Option.getD_some, List.mem_map, List.mem_filter] at hi
  obtain ⟨e, ⟨he, hb⟩, rfl⟩ := hi
  exact hall e (by simpa using he) hb
theorem DC.set {listed : Array Bool} {j : Nat} (hd : DC ops listed) (hj : j ∈ Region.ready .any ops listed) : DC ops (listed.setIfInBounds j true) := by
  intro k hk i hi
  refine getD_set_true ?_
  by_cases e : j = k
  · subst e; exact ready_deps hj i hi
  · exact hd k (by rwa [getD_set_ne false e] at hk) i hi
theorem DC.start (m : Nat) : DC ops (Array.replicate m false) := by
  intro k hk
  exfalso
  rcases Nat.lt_or_ge k m with h | h
  · simp [h] at hk
  · rw [Array.getD_eq_getD_getElem?, Array.getElem?_eq_none (by simpa using h)] at hk
    cases hk
/-- what looks at no memory -/
def pureOp (ops : Array Oper) (i : Nat) : Bool := match (ops[i]?).map (fun o : Oper => (o.guard.isNone, o.op)) with
  | some (_, Op.extract _ _) => true
  | some (true, Op.move _) => true
  | some (true, Op.slice _ _ lo hi _) => lo.isSome || hi.isSome
  | some (true, Op.binOp .add _ _ _ _) => true
  | _ => false
/-- the tail's operations wait for all others that may look at memory -/
def tailB (ops : Array Oper) (tl : Nat → Bool) : Bool := (List.range ops.size).all fun j => match tl j with
  | false => true
  | true => let A := ancs ops 14 (depsOf ops j); (List.range ops.size).all fun i => tl i || pureOp ops i || A.elem i
theorem tail_waits {listed : Array Bool} {i j : Nat} (h : tailB ops tl = true) (hdc : DC ops listed) (hj : j ∈ Region.ready .any ops listed) (ht : tl j = true) (hi : i < ops.size) (hti : tl i = false) (hpu : pureOp ops i = false) : listed.getD i false = true := by
  have hjs : j < ops.size := by obtain ⟨_, o, ho, _⟩ := mem_ready.1 hj; exact (Array.getElem?_eq_some_iff.1 ho).1
  simp only [tailB, List.all_eq_true, List.mem_range] at h
  have h1 := h j hjs
  rw [ht] at h1
  simp only [List.all_eq_true, List.mem_range, Bool.or_eq_true] at h1
  rcases h1 i hi with (h2 | h2) | h2
  · rw [hti] at h2; cases h2
  · rw [hpu] at h2; cases h2
  · exact ancs_listed hdc 14 _ (ready_deps hj) i (by simpa using h2)
theorem wpOp_quiet {i : Nat} {o : Oper} {v : Value} {a : Act} {w : World} {K : Act → World → Prop} (hi : ops[i]? = some o) (hy : YieldsIn P ops T o v a) (hT : T w) (h : ∀ w', T w' → K (a.put o.dst v) w') : wpOp P ops Q i K a w := by
  unfold wpOp
  simp only [hi]
  rcases hy with ⟨hw, hq⟩ | ⟨hw, rfl⟩
  · simp only [hw, if_true]
    refine .inl ?_
    have h1 := hq w hT
    unfold Oper.quietAt at h1
    unfold Oper.wp
    generalize (execOp a.eval o).run P w = r at *
    cases r with
    | ok n w' =>
      cases n <;> simp only [Oper.quietUpon] at h1 <;> simp only [Oper.upon]
      case value u => obtain ⟨rfl, rfl⟩ := h1; exact h _ hT
      case skip => obtain ⟨rfl, e⟩ := h1; rw [← e]; exact h _ hT
      case enter f args => obtain ⟨rfl, hc⟩ := h1; exact hc.mono fun e w'' ⟨he, hw''⟩ => by subst he; exact h _ hw''
    | halt x w' => simp only [Oper.quietUpon] at h1
  · simp only [hw, Bool.false_eq_true, if_false]; exact h _ hT
/-- operation i has its value before j comes: j does as it does behind it -/
theorem wpOp_swap {Y : Act → Prop} {j : Nat} {oi oj : Oper} {v : Value} (hj : ops[j]? = some oj) (hap : oi.apart ops oj = true) (hsi : ∀ cs b, oi.op ≠ .select cs b) (hsj : ∀ cs b, oj.op ≠ .select cs b)
    (hQ : ∀ ch a w, ¬ Q (.panic ch) a w) {K : Act → World → Prop} {a : Act} {w : World} (hy : ∀ a a', Y a → execOp a'.eval oi = execOp a.eval oi → Region.wanted oi (yielded ops a'.tmps) = Region.wanted oi (yielded ops a.tmps) → Y a') (hya : Y a) (h : wpOp P ops Q j K (a.put oi.dst v) w) :
    wpOp P ops Q j (fun a' w' => Y a' ∧ K (a'.put oi.dst v) w') a w := by
  obtain ⟨h1, h2, h3⟩ := Oper.apart_spec hap
  have keep : ∀ u, Y (a.put oj.dst u) := fun u => hy a _ hya (execOp_put oi hsi a oj.dst u h3) (wanted_put oi a oj.dst u h3)
  unfold wpOp at h ⊢
  simp only [hj] at h ⊢
  rw [wanted_put oj a oi.dst v h1] at h
  split
  · rename_i hw
    rw [if_pos hw] at h
    have he := execOp_put oj hsj a oi.dst v h1
    rcases h with h | ⟨h4, h5⟩
    · left
      unfold Oper.wp at h ⊢
      rw [he] at h
      generalize (execOp a.eval oj).run P w = r at *
      cases r with
      | ok n w' =>
        cases n <;> simp only [Oper.upon] at h ⊢
        case value u => exact ⟨keep u, by rw [← Act.put_comm a v u h2]; exact h⟩
        case skip => exact ⟨keep _, by rw [← Act.put_comm a v undef h2]; exact h⟩
        case defer d =>
          refine ⟨hy { a with defers := d :: a.defers } _ (hy a _ hya rfl rfl) (execOp_put oi hsi _ oj.dst _ h3) (wanted_put oi _ oj.dst _ h3), ?_⟩
          rw [← Act.put_comm _ v undef h2, ← Act.put_defers]
          exact h
        case enter f args =>
          refine h.mono fun e w'' he => ?_
          cases e with
          | returned u => exact ⟨keep u, by rw [← Act.put_comm a v u h2]; exact he⟩
          | panicked ch => exact absurd he (hQ _ _ _)
          | outgrown => exact he
        case row row args => exact h.mono fun u w'' he => ⟨keep u, by rw [← Act.put_comm a v u h2]; exact he⟩
      | halt x w' =>
        cases x <;> simp only [Oper.upon] at h ⊢
        case panic u => exact absurd h (hQ _ _ _)
    · right
      refine ⟨?_, h5⟩
      unfold Oper.asks at h4 ⊢
      rwa [he] at h4
  · rename_i hw
    rw [if_neg hw] at h
    exact ⟨keep _, by rw [← Act.put_comm a v undef h2]; exact h⟩
end
section
variable {c : Cx} {ρ0 : Nat → Nat} {w0 : World} {ops : Array Oper} {Q : Exit → Act → World → Prop} {tl : Nat → Bool}
/-- whichever order comes -/
def anyU (c : Cx) (ρ0 : Nat → Nat) (w0 : World) (ops : Array Oper) (Q : Exit → Act → World → Prop) (tl : Nat → Bool) : Nat → Array Bool → Act → (Nat → Nat) → Hp → Prop
  | 0, listed, a, ρ, H => Region.ready .any ops listed = [] ∧ ∀ w, CC c ρ0 w0 ρ H w → Q .normal a w
  | m + 1, listed, a, ρ, H => (Region.ready .any ops listed = [] → ∀ w, CC c ρ0 w0 ρ H w → Q .normal a w) ∧
    ∀ i ∈ Region.ready .any ops listed, ∀ w, CC c ρ0 w0 ρ H w → wpOp c.P ops Q i (fun a' w' => (tl i = true ∧ wpAny c.P .any ops Q m (listed.setIfInBounds i true) a' w') ∨
      (tl i = false ∧ ∃ ρ' H', Ext c ρ H ρ' H' ∧ CC c ρ0 w0 ρ' H' w' ∧ anyU c ρ0 w0 ops Q tl m (listed.setIfInBounds i true) a' ρ' H')) a w
theorem anyU_sound : ∀ (m : Nat) (listed : Array Bool) (a : Act) (ρ : Nat → Nat) (H : Hp) (w : World), CC c ρ0 w0 ρ H w → anyU c ρ0 w0 ops Q tl m listed a ρ H → wpAny c.P .any ops Q m listed a w
  | 0, _, _, _, _, w, hw, h => ⟨h.1, h.2 w hw⟩
  | m + 1, _, _, _, _, w, hw, h => ⟨fun h0 => h.1 h0 w hw, fun i hi => wpOp_mono (fun a' w' h' => by
    rcases h' with ⟨_, h'⟩ | ⟨_, ρ', H', _, hw', h'⟩
    · exact h'
    · exact anyU_sound m _ a' ρ' H' w' hw' h') (h.2 i hi w hw)⟩
/-- operation o yields v in all greater heaps -/
def YX (c : Cx) (ρ0 : Nat → Nat) (w0 : World) (ops : Array Oper) (o : Oper) (v : Value) (ρ : Nat → Nat) (H : Hp) (a : Act) : Prop :=
  (Region.wanted o (yielded ops a.tmps) = true ∧ ∀ ρ' H', Ext c ρ H ρ' H' → ∀ w, CC c ρ0 w0 ρ' H' w → o.quietAt c.P a (CC c ρ0 w0 ρ' H') w v) ∨
  (Region.wanted o (yielded ops a.tmps) = false ∧ v = undef)
theorem YX.same {o : Oper} {v : Value} {ρ : Nat → Nat} {H : Hp} (a a' : Act) (h : YX c ρ0 w0 ops o v ρ H a) (he : execOp a'.eval o = execOp a.eval o) (hw : Region.wanted o (yielded ops a'.tmps) = Region.wanted o (yielded ops a.tmps)) : YX c ρ0 w0 ops o v ρ H a' := by
  unfold YX Oper.quietAt at *
  rw [he, hw]
  exact h
theorem YX.ext {o : Oper} {v : Value} {ρ ρ' : Nat → Nat} {H H' : Hp} {a : Act} (h : YX c ρ0 w0 ops o v ρ H a) (hx : Ext c ρ H ρ' H') : YX c ρ0 w0 ops o v ρ' H' a :=
  h.imp (fun ⟨h1, h2⟩ => ⟨h1, fun ρ2 H2 hx2 => h2 ρ2 H2 (hx.trans hx2)⟩) id
theorem YX.yields {o : Oper} {v : Value} {ρ : Nat → Nat} {H : Hp} {a : Act} (h : YX c ρ0 w0 ops o v ρ H a) : YieldsIn c.P ops (CC c ρ0 w0 ρ H) o v a :=
  h.imp (fun ⟨h1, h2⟩ => ⟨h1, h2 ρ H .refl⟩) id
theorem unl {listed : Array Bool} {i : Nat} (h0 : listed.getD i true = false) (h1 : listed.getD i false = true) : False := by
  rcases Nat.lt_or_ge i listed.size with h' | h'
  · simp [h'] at h0 h1; rw [h0] at h1; cases h1
  · simp [Array.getElem?_eq_none h'] at h1
theorem anyU_take {i : Nat} {oi : Oper} {v : Value} (hi : ops[i]? = some oi) (hs : Region.noSelect ops = true) (hti : tl i = false) (hpu : pureOp ops i = false) (htl : tailB ops tl = true) (hQ : ∀ ch a w, ¬ Q (.panic ch) a w) : ∀ (m : Nat) (listed : Array Bool) (a : Act) (ρ : Nat → Nat) (H : Hp), DC ops listed →
    (∀ j oj, ops[j]? = some oj → j ≠ i → listed.getD j true = false → (∀ e ∈ oj.after, Region.binds .any e = true → e.on ≠ i) → oi.apart ops oj = true) → i ∈ Region.ready .any ops listed → YX c ρ0 w0 ops oi v ρ H a →
    anyU c ρ0 w0 ops Q tl m (listed.setIfInBounds i true) (a.put oi.dst v) ρ H → anyU c ρ0 w0 ops Q tl (m + 1) listed a ρ H := by
  have his : i < ops.size := (Array.getElem?_eq_some_iff.1 hi).1
  have nsel := Region.noSelect_spec hs
  intro m
  induction m with
  | zero =>
    intro listed a ρ H hdc _ hr hy h
    refine ⟨fun h => by rw [h] at hr; (cases hr), fun j hj w hw => ?_⟩
    by_cases hji : j = i
    · subst hji; exact wpOp_quiet hi hy.yields hw fun w' hw' => .inr ⟨hti, ρ, H, .refl, hw', h⟩
    · have := ready_mono hj hji
      rw [h.1] at this
      cases this
  | succ m ih =>
    intro listed a ρ H hdc hfree hr hy h
    refine ⟨fun h => by rw [h] at hr; (cases hr), fun j hj w hw => ?_⟩
    by_cases hji : j = i
    · subst hji; exact wpOp_quiet hi hy.yields hw fun w' hw' => .inr ⟨hti, ρ, H, .refl, hw', h⟩
    · have hjt : tl j = false := by
        cases ht : tl j
        · rfl
        · exact (unl (mem_ready.1 hr).1 (tail_waits htl hdc hj ht his hti hpu)).elim
      obtain ⟨hjun, oj, hoj, hall⟩ := mem_ready.1 hj
      have hnot : ∀ e ∈ oj.after, Region.binds .any e = true → e.on ≠ i := fun e he hb heq => by
        have h1 := hall e he hb
        rw [heq] at h1
        exact unl (mem_ready.1 hr).1 h1
      have hfree' : ∀ k ok, ops[k]? = some ok → k ≠ i → (listed.setIfInBounds j true).getD k true = false → (∀ e ∈ ok.after, Region.binds .any e = true → e.on ≠ i) → oi.apart ops ok = true := fun k ok hk hki hun hno => by
        refine hfree k ok hk hki ?_ hno
        by_cases hjk : j = k
        · subst hjk; exact hjun
        · rw [getD_set_ne true hjk] at hun; exact hun
      have h1 := h.2 j (ready_mono hj hji) w hw
      have h2 := wpOp_swap (Y := YX c ρ0 w0 ops oi v ρ H) hoj (hfree j oj hoj hji hjun hnot) (fun cs b => nsel i oi cs b hi) (fun cs b => nsel j oj cs b hoj) hQ YX.same hy h1
      refine wpOp_mono (fun a' w' ⟨hy', hk⟩ => .inr ⟨hjt, ?_⟩) h2
      rcases hk with ⟨hjt', _⟩ | ⟨_, ρ', H', hx, hw', hk⟩
      · rw [hjt] at hjt'; cases hjt'
      · refine ⟨ρ', H', hx, hw', ih (listed.setIfInBounds j true) a' ρ' H' (hdc.set hj) hfree' (ready_mono hr (Ne.symm hji)) (hy'.ext hx) ?_⟩
        rw [Array.setIfInBounds_comm _ _ hji]
        exact hk
theorem wpOp_yields {i : Nat} {o : Oper} {v : Value} {a : Act} {w : World} {K : Act → World → Prop} (hi : ops[i]? = some o) (hy : Yields c.P ops o v a) (h : K (a.put o.dst v) w) : wpOp c.P ops Q i K a w := by
  unfold wpOp
  simp only [hi]
  rcases hy with ⟨hw, hq⟩ | ⟨hw, rfl⟩
  · simp only [hw, if_true]
    exact .inl (by simp only [Oper.wp, hq w, Oper.upon]; exact h)
  · simp only [hw, Bool.false_eq_true, if_false]; exact h
theorem anyU_takeP {i : Nat} {oi : Oper} {v : Value} (hi : ops[i]? = some oi) (hs : Region.noSelect ops = true) (hti : tl i = false) (hQ : ∀ ch a w, ¬ Q (.panic ch) a w) : ∀ (m : Nat) (listed : Array Bool) (a : Act) (ρ : Nat → Nat) (H : Hp),
    (∀ j oj, ops[j]? = some oj → j ≠ i → listed.getD j true = false → (∀ e ∈ oj.after, Region.binds .any e = true → e.on ≠ i) → oi.apart ops oj = true) → i ∈ Region.ready .any ops listed → Yields c.P ops oi v a →
    anyU c ρ0 w0 ops Q tl m (listed.setIfInBounds i true) (a.put oi.dst v) ρ H → anyU c ρ0 w0 ops Q tl (m + 1) listed a ρ H := by
  have nsel := Region.noSelect_spec hs
  intro m
  induction m with
  | zero =>
    intro listed a ρ H _ hr hy h
    refine ⟨fun h => by rw [h] at hr; (cases hr), fun j hj w hw => ?_⟩
    by_cases hji : j = i
    · subst hji; exact wpOp_yields hi hy (.inr ⟨hti, ρ, H, .refl, hw, h⟩)
    · have := ready_mono hj hji
      rw [h.1] at this
      cases this
  | succ m ih =>
    intro listed a ρ H hfree hr hy h
    refine ⟨fun h => by rw [h] at hr; (cases hr), fun j hj w hw => ?_⟩
    by_cases hji : j = i
    · subst hji; exact wpOp_yields hi hy (.inr ⟨hti, ρ, H, .refl, hw, h⟩)
    · obtain ⟨hjun, oj, hoj, hall⟩ := mem_ready.1 hj
      have hnot : ∀ e ∈ oj.after, Region.binds .any e = true → e.on ≠ i := fun e he hb heq => by
        have h1 := hall e he hb
        rw [heq] at h1
        exact unl (mem_ready.1 hr).1 h1
      have hfree' : ∀ k ok, ops[k]? = some ok → k ≠ i → (listed.setIfInBounds j true).getD k true = false → (∀ e ∈ ok.after, Region.binds .any e = true → e.on ≠ i) → oi.apart ops ok = true := fun k ok hk hki hun hno => by
        refine hfree k ok hk hki ?_ hno
        by_cases hjk : j = k
        · subst hjk; exact hjun
        · rw [getD_set_ne true hjk] at hun; exact hun
      have h1 := h.2 j (ready_mono hj hji) w hw
      have h2 := wpOp_swap (Y := fun a => Yields c.P ops oi v a) hoj (hfree j oj hoj hji hjun hnot) (fun cs b => nsel i oi cs b hi) (fun cs b => nsel j oj cs b hoj) hQ
        (fun a a' h he hw => by unfold Yields at *; rw [he, hw]; exact h) hy h1
      refine wpOp_mono (fun a' w' ⟨hy', hk⟩ => ?_) h2
      rcases hk with ⟨hjt, hk⟩ | ⟨hjt, ρ', H', hx, hw', hk⟩
      · refine .inl ⟨hjt, wpAny_first hi nsel (fun ch a w h => absurd h (hQ _ _ _)) m _ _ _ hfree' (ready_mono hr (Ne.symm hji)) hy' ?_⟩
        rw [Array.setIfInBounds_comm _ _ hji]
        exact hk
      · refine .inr ⟨hjt, ρ', H', hx, hw', ih (listed.setIfInBounds j true) a' ρ' H' hfree' (ready_mono hr (Ne.symm hji)) hy' ?_⟩
        rw [Array.setIfInBounds_comm _ _ hji]
        exact hk
end
/-! ### on states -/
def np (Q : Exit → Act → World → Prop) : Exit → Act → World → Prop := fun e a w => (∀ ch, e ≠ .panic ch) ∧ Q e a w
def npP (Q : Post) : Post := fun e s => (∀ ch, e ≠ .panic ch) ∧ Q e s
theorem npN {Q : Post} {s : S} (h : Q .normal s) : npP Q .normal s := ⟨fun _ h => (by cases h), h⟩
def AW (c : Cx) (ops : Array Oper) (tl : Nat → Bool) (Q : Post) (m : Nat) (listed : Array Bool) (s : S) : Prop :=
  ∀ ρ0 w0, GR c.gl c.D ρ0 → ∀ ρ a, FR c ρ s.F a → WF c s → (∀ b ∈ c.D, ρ b = ρ0 b) → DC ops listed → anyU c ρ0 w0 ops (np (Lift c ρ0 w0 Q)) tl m listed a ρ s.H
section
variable {c : Cx} {s : S} {Q : Post} {ops : Array Oper} {tl : Nat → Bool} {m : Nat} {listed : Array Bool}
theorem CW_any {id : Nat} {l : List Oper} (tl : Nat → Bool) (m : Nat) (hsz : l.toArray.size = m) (hm : c.P.follows .mixedOrders = true) (hst : (Region.noSelect l.toArray && tailB l.toArray tl) = true)
    (h : (Region.noSelect l.toArray && tailB l.toArray tl) = true → AW c l.toArray tl Q m (Array.replicate m false) s) : CW c (.region id l.toArray true) Q s := by
  subst hsz
  have h := h hst
  intro ρ0 w0 hg ρ a w hs
  refine Code.wp_mono (fun e a w h => h.2) (wp_region_any (Q := np (Lift c ρ0 w0 Q)) hm ?_)
  exact anyU_sound (c := c) (tl := tl) _ _ _ _ _ _ hs.cc.drew (h ρ0 w0 hg ρ a hs.fr hs.wf hs.cc.inv.fix (DC.start _))
theorem AW_take {i : Nat} {o : Oper} {v : V} (hi : ops[i]? = some o) (hs : Region.noSelect ops = true) (htl : (!tl i && !pureOp ops i && tailB ops tl) = true) (hf : (Region.free .any ops listed i && (Region.ready .any ops listed).contains i) = true) (hg : o.guard = none) (hq : QX c o s v) (hN : okDst c.N o.dst = true)
    (hsc : sc s.n v.ids = true) (h : AW c ops tl Q m (listed.setIfInBounds i true) (s.put o.dst v)) : AW c ops tl Q (m + 1) listed s := by
  intro ρ0 w0 hgr ρ a hfr hwf hfix hdc
  simp only [Bool.and_eq_true, Bool.not_eq_true'] at htl hf
  refine anyU_take hi hs htl.1.1 htl.1.2 htl.2 (fun ch a w h => h.1 ch rfl) m listed a ρ s.H hdc (Region.free_spec hi hf.1) (by simpa using hf.2) (.inl ⟨by simp [Region.wanted, hg], fun ρ' H' hx w hw => hq ρ0 w0 hgr ρ a hfr hfix ρ' H' hx w hw⟩) ?_
  have := h ρ0 w0 hgr ρ _ (hfr.put' o.dst v _ (okDst_lt hN) (.inr rfl)) (hwf.put o.dst v hsc) hfix (hdc.set (by simpa using hf.2))
  rwa [put_H] at this
/-- an operation that makes blocks, and leaves the old ones -/
def GOp (c : Cx) (o : Oper) (s : S) (K : S → Prop) : Prop :=
  ∀ ρ0 w0, GR c.gl c.D ρ0 → ∀ ρ a, FR c ρ s.F a → WF c s → (∀ b ∈ c.D, ρ b = ρ0 b) → ∀ w, CC c ρ0 w0 ρ s.H w → ∀ Q, o.wp c.P a w (fun a' w' => ∃ s' ρ', K s' ∧ FR c ρ' s'.F a' ∧ WF c s' ∧ CC c ρ0 w0 ρ' s'.H w' ∧ Ext c ρ s.H ρ' s'.H) Q
theorem GOp_new {o : Oper} {k : Blk} {v : V} (hN : okDst c.N o.dst = true) (hn : Nat.blt s.n 1000 = true) (hk : sc s.n k.ids = true) (hv : sc (s.n + 1) v.ids = true) (run : NewRun c s o k v) :
    GOp c o s (fun s' => s' = S.put { F := s.F, H := (s.n, k) :: s.H, n := s.n + 1 } o.dst v) := by
  intro ρ0 w0 hgr ρ a hf hwf hfix w hw Q
  have h1000 : s.n < 1000 := by simpa [Nat.blt_eq] using hn
  obtain ⟨ob, w', hb, hwh, hsm, hr⟩ := run ρ0 ρ a w0 w hgr hfix hf hw hwf
  have hst := (St.push ⟨hw, hf, hwf⟩ h1000 hk hb hwh hsm).put o.dst v _ (okDst_lt hN) (.inr rfl) hv
  unfold Oper.wp
  rw [hr]
  simp only [Oper.upon]
  refine ⟨_, _, rfl, hst.fr, hst.wf, hst.cc, fun b k' hk' hd => ?_, fun b hb => ?_⟩
  · have hne : ∀ b', (b' < s.n ∨ 1000 ≤ b') → b' ≠ s.n := fun b' h => by omega
    have hbn : b ≠ s.n := fun e => by have := (hwf.fresh s.n (Nat.le_refl _) h1000).1; rw [← e, hk'] at this; cases this
    refine ⟨?_, by simp [up, hbn], fun b' hb' => by simp [up, hne b' (hwf.hs b k' hk' b' hb')]⟩
    rw [put_H, lkB_cons, if_neg (Ne.symm hbn)]; exact hk'
  · have : b ≠ s.n := fun e => (hwf.fresh s.n (Nat.le_refl _) h1000).2 (e ▸ hb)
    simp [up, this]
/-- whichever comes of those that may -/
def GStep (c : Cx) (ops : Array Oper) (tl : Nat → Bool) (Q : Post) (m : Nat) (listed : Array Bool) (s : S) (i : Nat) : Prop :=
  ∃ o K, ops[i]? = some o ∧ o.guard = none ∧ tl i = false ∧ GOp c o s K ∧ ∀ s', K s' → AW c ops tl Q m (listed.setIfInBounds i true) s'
theorem AW_any {rs : List Nat} (hr : Region.ready .any ops listed = rs) (hne : rs ≠ []) (h : ∀ i ∈ rs, GStep c ops tl Q m listed s i) : AW c ops tl Q (m + 1) listed s := by
  intro ρ0 w0 hgr ρ a hf hwf hfix hdc
  refine ⟨fun h0 => absurd (hr ▸ h0) hne, fun i hi w hw => ?_⟩
  obtain ⟨o, K, ho, hg, ht, hG, hk⟩ := h i (hr ▸ hi)
  unfold wpOp
  simp only [ho]
  rw [if_pos (by simp [Region.wanted, hg])]
  refine .inl (Oper.wp_mono (fun a' w' h' => ?_) (hG ρ0 w0 hgr ρ a hf hwf hfix w hw _))
  obtain ⟨s', ρ', hK, hf', hwf', hw', hx⟩ := h'
  exact .inr ⟨ht, ρ', s'.H, hx, hw', hk s' hK ρ0 w0 hgr ρ' a' hf' hwf' hw'.inv.fix (hdc.set hi)⟩
theorem AW_one {i : Nat} (hr : Region.ready .any ops listed = [i]) (h : GStep c ops tl Q m listed s i) : AW c ops tl Q (m + 1) listed s := AW_any hr (by simp) (by simpa using h)
/-- the tail, in its order -/
def chainB (ops : Array Oper) (tl : Nat → Bool) : List Nat → Array Bool → Bool
  | [], listed => (Region.ready .any ops listed).isEmpty
  | i :: r, listed => (Region.ready .any ops listed == [i]) && tl i && chainB ops tl r (listed.setIfInBounds i true)
theorem tail_any {P : Program} {Q : Exit → Act → World → Prop} : ∀ (is : List Nat) (l : List Oper) (listed : Array Bool) (a : Act) (w : World), is.map (ops[·]?) = l.map some → chainB ops tl is listed = true → wpList P ops Q l a w → wpAny P .any ops Q is.length listed a w
  | [], [], listed, a, w, _, hc, h => ⟨by simpa [chainB] using hc, h⟩
  | [], _ :: _, _, _, _, hm, _, _ => by simp at hm
  | _ :: _, [], _, _, _, hm, _, _ => by simp at hm
  | i :: is, o :: l, listed, a, w, hm, hc, h => by
    simp only [List.map_cons, List.cons.injEq] at hm
    simp only [chainB, Bool.and_eq_true, beq_iff_eq] at hc
    refine ⟨fun h0 => by rw [hc.1.1] at h0; (cases h0), fun j hj => ?_⟩
    rw [hc.1.1] at hj
    obtain rfl : j = i := by simpa using hj
    unfold wpOp
    simp only [hm.1]
    unfold wpList at h
    split
    · rename_i hw
      rw [if_pos hw] at h
      exact h.imp (Oper.wp_mono fun a' w' h' => tail_any is l _ a' w' hm.2 hc.2 h') id
    · rename_i hw
      rw [if_neg hw] at h
      exact tail_any is l _ _ _ hm.2 hc.2 h
theorem wpList_mono {P : Program} {Q Q' : Exit → Act → World → Prop} (hq : ∀ e a w, Q e a w → Q' e a w) (hl : LetsOut Q → LetsOut Q') : ∀ (l : List Oper) (a : Act) (w : World), wpList P ops Q l a w → wpList P ops Q' l a w
  | [], a, w, h => hq _ _ _ h
  | o :: l, a, w, h => by
    unfold wpList at h ⊢
    split
    · rename_i hw
      rw [if_pos hw] at h
      refine h.imp (fun h => ?_) fun h => ⟨h.1, hl h.2⟩
      unfold Oper.wp at h ⊢
      generalize (execOp a.eval o).run P w = r at *
      cases r with
      | ok n w' =>
        cases n <;> simp only [Oper.upon] at h ⊢ <;> first | exact wpList_mono hq hl l _ _ h | skip
        case enter f args =>
          refine h.mono fun e w'' he => ?_
          cases e with
          | returned u => exact wpList_mono hq hl l _ _ he
          | panicked ch => exact hq _ _ _ he
          | outgrown => exact hl he
        case row row args => exact h.mono fun u w'' he => wpList_mono hq hl l _ _ he
      | halt x w' => cases x <;> simp only [Oper.upon] at h ⊢ <;> exact hq _ _ _ h
    · rename_i hw
      rw [if_neg hw] at h
      exact wpList_mono hq hl l _ _ h
theorem AW_tail {is : List Nat} {l : List Oper} (hm : is.map (ops[·]?) = l.map some) (hc : chainB ops tl is listed = true) (hn : is.length = m) (h : OW c ops (npP Q) l s) : AW c ops tl Q m listed s := by
  subst hn
  intro ρ0 w0 hgr ρ a hf hwf hfix hdc
  have key : ∀ w, CC c ρ0 w0 ρ s.H w → wpList c.P ops (np (Lift c ρ0 w0 Q)) l a w := fun w hw =>
    wpList_mono (Q := Lift c ρ0 w0 (npP Q)) (fun e a w h => by obtain ⟨s', ρ', hq, hs'⟩ := h; exact ⟨hq.1, s', ρ', hq.2, hs'⟩) (fun h => by obtain ⟨a, w, s', ρ', hq, hs'⟩ := h; exact ⟨a, w, hq.1, s', ρ', hq.2, hs'⟩) l a w (h ρ0 w0 hgr ρ a w ⟨hw, hf, hwf⟩)
  cases is with
  | nil =>
    cases l with
    | nil => exact ⟨by simpa [chainB] using hc, fun w hw => key w hw⟩
    | cons o l => simp at hm
  | cons i is =>
    cases l with
    | nil => simp at hm
    | cons o l =>
      simp only [List.map_cons, List.cons.injEq] at hm
      simp only [chainB, Bool.and_eq_true, beq_iff_eq] at hc
      refine ⟨fun h0 => by rw [hc.1.1] at h0; (cases h0), fun j hj w hw => ?_⟩
      rw [hc.1.1] at hj
      obtain rfl : j = i := by simpa using hj
      have hk := key w hw
      unfold wpOp
      simp only [hm.1]
      unfold wpList at hk
      split
      · rename_i hwt
        rw [if_pos hwt] at hk
        exact hk.imp (Oper.wp_mono fun a' w' h' => .inl ⟨hc.1.2, tail_any is l _ a' w' hm.2 hc.2 h'⟩) id
      · rename_i hwt
        rw [if_neg hwt] at hk
        exact .inl ⟨hc.1.2, tail_any is l _ _ _ hm.2 hc.2 hk⟩
theorem AW_last (is : List Nat) (hm : (is.all fun i => (ops[i]?).isSome) = true) (hc : chainB ops tl is listed = true) (hn : is.length = m) (h : OW c ops (npP Q) (is.filterMap (ops[·]?)) s) : AW c ops tl Q m listed s := by
  refine AW_tail ?_ hc hn h
  clear hc hn h
  induction is with
  | nil => rfl
  | cons i is ih =>
    simp only [List.all_cons, Bool.and_eq_true] at hm
    obtain ⟨o, ho⟩ := Option.isSome_iff_exists.1 hm.1
    simp only [List.map_cons, List.filterMap_cons, ho, ih hm.2]
theorem NE_bin {dst : Option Tmp} {op : BinOp} {t t' : TypeId} {x y : Operand} {ty : TypeId} {pos : String} {af : Array Edge} {g : Option (Nat × Bool)} : NE ⟨dst, .binOp op t x y t', ty, pos, af, g⟩ := fun ev P w f args w' h => ne_v h
theorem NE_build {dst : Option Tmp} {t : TypeId} {ps : Array (Nat × Operand)} {ty : TypeId} {pos : String} {af : Array Edge} {g : Option (Nat × Bool)} : NE ⟨dst, .build t ps, ty, pos, af, g⟩ := fun ev P w f args w' h => ne_v h
end
section
variable {c : Cx} {Q : Post} {F : Fr} {H : Hp} {n : Nat} {ops : Array Oper} {tl : Nat → Bool} {m : Nat} {listed : Array Bool} {d : Nat} {op : Op} {ty : TypeId} {pos : String} {af : Array Edge} {v : V}
theorem aQ (i : Nat) (hst : (Region.noSelect ops && tailB ops tl) = true) (hi : ops[i]? = some ⟨some d, op, ty, pos, af, none⟩) (ht : (tl i || pureOp ops i) = false) (hf : (Region.free .any ops listed i && (Region.ready .any ops listed).contains i) = true) (hq : QX c ⟨some d, op, ty, pos, af, none⟩ ⟨F, H, n⟩ v) (hN : Nat.blt d c.N = true)
    (hsc : sc n v.ids = true) (h : AW c ops tl Q m (listed.setIfInBounds i true) ⟨(d, v) :: F, H, n⟩) : AW c ops tl Q (m + 1) listed ⟨F, H, n⟩ := by
  simp only [Bool.and_eq_true] at hst
  simp only [Bool.or_eq_false_iff] at ht
  exact AW_take hi hst.1 (by simp [ht, hst.2]) hf rfl hq hN hsc h
/-- a part of an answer -/
theorem aP (i : Nat) {op : Op} (hst : (Region.noSelect ops && tailB ops tl) = true) (hi : ops[i]? = some ⟨some d, op, ty, pos, af, none⟩) (ht : tl i = false) (hf : (Region.free .any ops listed i && (Region.ready .any ops listed).contains i) = true)
    (hq : PX c ⟨some d, op, ty, pos, af, none⟩ ⟨F, H, n⟩ v) (hN : Nat.blt d c.N = true) (hsc : sc n v.ids = true) (h : AW c ops tl Q m (listed.setIfInBounds i true) ⟨(d, v) :: F, H, n⟩) : AW c ops tl Q (m + 1) listed ⟨F, H, n⟩ := by
  intro ρ0 w0 hgr ρ a hfr hwf hfix hdc
  simp only [Bool.and_eq_true] at hst hf
  refine anyU_takeP hi hst.1 ht (fun ch a w h => h.1 ch rfl) m listed a ρ H (Region.free_spec hi hf.1) (by simpa using hf.2) (v := rv ρ v) (.inl ⟨by simp [Region.wanted], fun w => hq ρ0 hgr ρ a hfr hfix w⟩) ?_
  exact h ρ0 w0 hgr ρ _ (hfr.put' (some d) v _ (okDst_lt (d := some d) hN) (.inr rfl)) (hwf.put (some d) v hsc) hfix (hdc.set (by simpa using hf.2))
theorem gAlloc {i0 : Nat} {t : TypeId} {i : TI} {k0 : Blk} (hi : ops[i0]? = some ⟨some d, .alloc t, ty, pos, af, none⟩) (htl : tl i0 = false) (ht : lkT c.T t = some i) (hz : i.z = some v) (ho : one v = true) (hk : mkBlk t v = k0) (hN : Nat.blt d c.N = true) (hn : Nat.blt n 1000 = true) (hsc : sc n k0.ids = true)
    (h : AW c ops tl Q m (listed.setIfInBounds i0 true) ⟨(d, .ptr n 0) :: F, (n, k0) :: H, n + 1⟩) : GStep c ops tl Q m listed ⟨F, H, n⟩ i0 := by
  subst hk
  exact ⟨_, _, hi, rfl, htl, GOp_new (k := mkBlk t v) (v := .ptr n 0) hN hn hsc (by simp [sc, V.ids, Nat.blt_eq]) (nr_alloc ht hz ho), fun s' e => by subst e; exact h⟩
end
end Go.Proofs.Ytchikadcicecoaa
namespace Go.Proofs.Ytchikadcicecoaa
set_option linter.unusedVariables false
/-- a heap in which some blocks may not be looked at -/
def msk (D : List Nat) (H : Hp) : Hp := (D.map fun b => (b, Blk.dead)) ++ H
theorem msk_in {H : Hp} {b : Nat} : ∀ {D : List Nat}, b ∈ D → lkB (msk D H) b = some .dead
  | d :: D, h => by
    show lkB ((d, Blk.dead) :: msk D H) b = _
    rw [lkB_cons]
    split
    · rfl
    · rename_i e
      exact msk_in ((List.mem_cons.1 h).resolve_left fun x => e x.symm)
theorem msk_out {H : Hp} {b : Nat} : ∀ {D : List Nat}, b ∉ D → lkB (msk D H) b = lkB H b
  | [], _ => rfl
  | d :: D, h => by
    show lkB ((d, Blk.dead) :: msk D H) b = _
    rw [lkB_cons, if_neg (fun e => h (by subst e; exact List.mem_cons_self)), msk_out (fun x => h (List.mem_cons_of_mem _ x))]
theorem msk_live {D : List Nat} {H : Hp} {b : Nat} {k : Blk} (h : lkB (msk D H) b = some k) (hd : k ≠ .dead) : b ∉ D ∧ lkB H b = some k := by
  by_cases hb : b ∈ D
  · rw [msk_in hb] at h; injection h with h; exact absurd h.symm hd
  · exact ⟨hb, by rw [← msk_out hb]; exact h⟩
section
variable {c : Cx} {ρ0 ρ ρ' ρ2 : Nat → Nat} {H H' H2 : Hp} {w0 w : World} {D : List Nat}
theorem Ext.msk (h : Ext c ρ (msk D H) ρ' H') : Ext c ρ (msk D H) ρ' (msk D H') := ⟨fun b k hb hd => by
  obtain ⟨h1, h2, h3⟩ := h.lk b k hb hd
  exact ⟨by rw [msk_out (msk_live hb hd).1]; exact h1, h2, h3⟩, h.d⟩
end
section
variable {c : Cx} {ρ0 : Nat → Nat} {w0 : World} {ops : Array Oper} {Q : Exit → Act → World → Prop} {D : List Nat}
/-- whichever order comes; the blocks of D are looked at by none but stores -/
def anyX (c : Cx) (ρ0 : Nat → Nat) (w0 : World) (ops : Array Oper) (Q : Exit → Act → World → Prop) (D : List Nat) : Nat → Array Bool → Act → (Nat → Nat) → Hp → Prop
  | 0, listed, a, ρ, H => Region.ready .any ops listed = [] ∧ ∀ w, CC c ρ0 w0 ρ H w → Q .normal a w
  | m + 1, listed, a, ρ, H => (Region.ready .any ops listed = [] → ∀ w, CC c ρ0 w0 ρ H w → Q .normal a w) ∧
    ∀ i ∈ Region.ready .any ops listed, ∀ w, CC c ρ0 w0 ρ H w → wpOp c.P ops Q i (fun a' w' => ∃ ρ' H', Ext c ρ (msk D H) ρ' H' ∧ CC c ρ0 w0 ρ' H' w' ∧ anyX c ρ0 w0 ops Q D m (listed.setIfInBounds i true) a' ρ' H') a w
end
def AX (c : Cx) (ops : Array Oper) (D : List Nat) (Q : Post) (m : Nat) (listed : Array Bool) (s : S) : Prop :=
  ∀ ρ0 w0, GR c.gl c.D ρ0 → ∀ ρ a, FR c ρ s.F a → WF c s → (∀ b ∈ c.D, ρ b = ρ0 b) → anyX c ρ0 w0 ops (np (Lift c ρ0 w0 Q)) D m listed a ρ s.H
section
variable {c : Cx} {s : S} {Q : Post} {ops : Array Oper} {D : List Nat} {m : Nat} {listed : Array Bool}
end
section
variable {c : Cx} {Q : Post} {F : Fr} {H : Hp} {n : Nat} {ops : Array Oper} {D : List Nat} {m : Nat} {listed : Array Bool} {d : Nat} {op : Op} {ty : TypeId} {pos : String} {af : Array Edge} {v : V}
theorem oQe {rest : List Oper} {v' : V} (hq : QOp c ⟨some d, op, ty, pos, af, none⟩ ⟨F, H, n⟩ v') (e : v' = v) (hN : Nat.blt d c.N = true) (hsc : sc n v.ids = true) (h : OW c ops Q rest ⟨(d, v) :: F, H, n⟩) : OW c ops Q (⟨some d, op, ty, pos, af, none⟩ :: rest) ⟨F, H, n⟩ := by
  subst e; exact oQ hq hN hsc h
end
end Go.Proofs.Ytchikadcicecoaa
