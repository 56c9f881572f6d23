/- What the last text of MoebiusOf needs, part 5: contracts of functions and plain mathematics. No conditions beyond those each theorem states. -/
import Derived.Test.YtchikadcicecoaaProg
import Derived.Deep.Quiet
import Derived.Test.YtchikadcicecoaaBMoebiusOfD
namespace Go.Proofs.Ytchikadcicecoaa
theorem TI.of {P : Program} {t : Nat} {x : TI} (h1 : P.underlying t = some x.d) (h2 : (P.info? t).map (fun i => (i.size, i.bytes, i.zero)) = some (x.size, x.bytes, x.z.map (rv fun b => b))) (h3 : ∀ v, x.z = some v → v.ids = []) (h4 : x.g = true → P.eqGuardType P.depth t = false) : x.ok P t := by
  cases hi : P.info? t with
  | none => simp [hi] at h2
  | some i =>
    simp only [hi, Option.map_some, Option.some.injEq, Prod.mk.injEq] at h2
    exact ⟨h1, ⟨i, hi, h2.1, h2.2.1, fun v hv => ⟨by rw [h2.2.2, hv]; rfl, h3 v hv⟩⟩, h4⟩
theorem TI.of0 {P : Program} {t : Nat} {x : TI} (h1 : P.underlying t = some x.d) (h2 : (P.info? t).map (fun i => (i.size, i.bytes)) = some (x.size, x.bytes)) (h3 : x.z = none) (h4 : x.g = true → P.eqGuardType P.depth t = false) : x.ok P t := by
  cases hi : P.info? t with
  | none => simp [hi] at h2
  | some i =>
    simp only [hi, Option.map_some, Option.some.injEq, Prod.mk.injEq] at h2
    exact ⟨h1, ⟨i, hi, h2.1, h2.2, fun v hv => by rw [h3] at hv; cases hv⟩, h4⟩
def tab : TT := [(1, ⟨.func #[] #[] false, 1, 8, none, false⟩),
  (2, ⟨.int .i64, 1, 8, some (.int 0), false⟩),
  (3, ⟨.int .i64, 1, 8, some (.int 0), false⟩),
  (4, ⟨.bool, 1, 1, some (.bool false), false⟩),
  (22, ⟨.array 4 2, 4, 32, some (.arr [0, 0, 0, 0]), true⟩),
  (23, ⟨.array 4 2, 4, 32, some (.arr [0, 0, 0, 0]), true⟩),
  (25, ⟨.func #[2, 2, 2, 2, 2] #[23, 2] false, 1, 8, none, false⟩),
  (26, ⟨.func #[23, 23] #[4] false, 1, 8, none, false⟩),
  (27, ⟨.func #[2, 2, 2, 2, 2] #[4] false, 1, 8, none, false⟩),
  (28, ⟨.slice 2, 1, 24, some (.nilsl), false⟩),
  (29, ⟨.func #[2, 28, 28] #[23, 2] false, 1, 8, none, false⟩),
  (30, ⟨.func #[28, 4] #[28] false, 1, 8, none, false⟩),
  (31, ⟨.func #[28, 28] #[4] false, 1, 8, none, false⟩),
  (32, ⟨.func #[2, 28, 28] #[4] false, 1, 8, none, false⟩),
  (33, ⟨.func #[2, 34, 28] #[2] true, 1, 8, none, false⟩),
  (34, ⟨.slice 23, 1, 24, some (.nilsl), false⟩),
  (35, ⟨.func #[2] #[34] false, 1, 8, none, false⟩),
  (36, ⟨.func #[2, 23, 2] #[2] false, 1, 8, none, false⟩),
  (37, ⟨.func #[2] #[4] false, 1, 8, none, false⟩),
  (38, ⟨.func #[2, 28] #[4] true, 1, 8, none, false⟩),
  (40, ⟨.func #[2, 43] #[23, 4] false, 1, 8, none, false⟩),
  (41, ⟨.func #[2, 2] #[2] false, 1, 8, none, false⟩),
  (42, ⟨.func #[2] #[2] false, 1, 8, none, false⟩),
  (43, ⟨.func #[23] #[4] false, 1, 8, none, false⟩),
  (44, ⟨.func #[28] #[28] false, 1, 8, none, false⟩),
  (45, ⟨.func #[28] #[4] true, 1, 8, none, false⟩),
  (46, ⟨.func #[2, 23, 23] #[23] false, 1, 8, none, false⟩),
  (47, ⟨.func #[2, 2, 2, 2] #[23] false, 1, 8, none, false⟩),
  (48, ⟨.func #[2, 23] #[23] false, 1, 8, none, false⟩),
  (49, ⟨.func #[3] #[3] false, 1, 8, none, false⟩),
  (50, ⟨.func #[2, 23] #[4] false, 1, 8, none, false⟩),
  (51, ⟨.func #[2, 2, 2] #[4] false, 1, 8, none, false⟩),
  (52, ⟨.func #[2, 2, 2] #[2] false, 1, 8, none, false⟩),
  (53, ⟨.array 2 2, 2, 16, some (.arr [0, 0]), true⟩),
  (54, ⟨.func #[2, 2] #[53] false, 1, 8, none, false⟩),
  (55, ⟨.func #[2, 2, 2, 2, 2] #[23] false, 1, 8, none, false⟩),
  (57, ⟨.func #[2, 2] #[2, 2] false, 1, 8, none, false⟩),
  (58, ⟨.func #[28, 2] #[4] false, 1, 8, none, false⟩),
  (59, ⟨.func #[2, 28] #[4] false, 1, 8, none, false⟩),
  (61, ⟨.func #[2, 28] #[28, 4] false, 1, 8, none, false⟩),
  (62, ⟨.func #[28, 2] #[3] false, 1, 8, none, false⟩),
  (63, ⟨.func #[] #[9] false, 1, 8, none, false⟩),
  (66, ⟨.array 0 16, 0, 0, none, false⟩),
  (69, ⟨.func #[] #[3] false, 1, 8, none, false⟩),
  (73, ⟨.func #[79, 79] #[4] false, 1, 8, none, false⟩)]
theorem tab_ok : TOK Try.prog tab :=
  TOK.cons (TI.of0 (by kernel_rfl) (by kernel_rfl) rfl (fun h => by cases h)) <|
  TOK.cons (TI.of (by kernel_rfl) (by kernel_rfl) (fun v hv => by injection hv with hv; subst hv; rfl) (fun h => by cases h)) <|
  TOK.cons (TI.of (by kernel_rfl) (by kernel_rfl) (fun v hv => by injection hv with hv; subst hv; rfl) (fun h => by cases h)) <|
  TOK.cons (TI.of (by kernel_rfl) (by kernel_rfl) (fun v hv => by injection hv with hv; subst hv; rfl) (fun h => by cases h)) <|
  TOK.cons (TI.of (by kernel_rfl) (by kernel_rfl) (fun v hv => by injection hv with hv; subst hv; rfl) (fun _ => by kernel_rfl)) <|
  TOK.cons (TI.of (by kernel_rfl) (by kernel_rfl) (fun v hv => by injection hv with hv; subst hv; rfl) (fun _ => by kernel_rfl)) <|
  TOK.cons (TI.of0 (by kernel_rfl) (by kernel_rfl) rfl (fun h => by cases h)) <|
  TOK.cons (TI.of0 (by kernel_rfl) (by kernel_rfl) rfl (fun h => by cases h)) <|
  TOK.cons (TI.of0 (by kernel_rfl) (by kernel_rfl) rfl (fun h => by cases h)) <|
  TOK.cons (TI.of (by kernel_rfl) (by kernel_rfl) (fun v hv => by injection hv with hv; subst hv; rfl) (fun h => by cases h)) <|
  TOK.cons (TI.of0 (by kernel_rfl) (by kernel_rfl) rfl (fun h => by cases h)) <|
  TOK.cons (TI.of0 (by kernel_rfl) (by kernel_rfl) rfl (fun h => by cases h)) <|
  TOK.cons (TI.of0 (by kernel_rfl) (by kernel_rfl) rfl (fun h => by cases h)) <|
  TOK.cons (TI.of0 (by kernel_rfl) (by kernel_rfl) rfl (fun h => by cases h)) <|
  TOK.cons (TI.of0 (by kernel_rfl) (by kernel_rfl) rfl (fun h => by cases h)) <|
  TOK.cons (TI.of (by kernel_rfl) (by kernel_rfl) (fun v hv => by injection hv with hv; subst hv; rfl) (fun h => by cases h)) <|
  TOK.cons (TI.of0 (by kernel_rfl) (by kernel_rfl) rfl (fun h => by cases h)) <|
  TOK.cons (TI.of0 (by kernel_rfl) (by kernel_rfl) rfl (fun h => by cases h)) <|
  TOK.cons (TI.of0 (by kernel_rfl) (by kernel_rfl) rfl (fun h => by cases h)) <|
  TOK.cons (TI.of0 (by kernel_rfl) (by kernel_rfl) rfl (fun h => by cases h)) <|
  TOK.cons (TI.of0 (by kernel_rfl) (by kernel_rfl) rfl (fun h => by cases h)) <|
  TOK.cons (TI.of0 (by kernel_rfl) (by kernel_rfl) rfl (fun h => by cases h)) <|
  TOK.cons (TI.of0 (by kernel_rfl) (by kernel_rfl) rfl (fun h => by cases h)) <|
  TOK.cons (TI.of0 (by kernel_rfl) (by kernel_rfl) rfl (fun h => by cases h)) <|
  TOK.cons (TI.of0 (by kernel_rfl) (by kernel_rfl) rfl (fun h => by cases h)) <|
  TOK.cons (TI.of0 (by kernel_rfl) (by kernel_rfl) rfl (fun h => by cases h)) <|
  TOK.cons (TI.of0 (by kernel_rfl) (by kernel_rfl) rfl (fun h => by cases h)) <|
  TOK.cons (TI.of0 (by kernel_rfl) (by kernel_rfl) rfl (fun h => by cases h)) <|
  TOK.cons (TI.of0 (by kernel_rfl) (by kernel_rfl) rfl (fun h => by cases h)) <|
  TOK.cons (TI.of0 (by kernel_rfl) (by kernel_rfl) rfl (fun h => by cases h)) <|
  TOK.cons (TI.of0 (by kernel_rfl) (by kernel_rfl) rfl (fun h => by cases h)) <|
  TOK.cons (TI.of0 (by kernel_rfl) (by kernel_rfl) rfl (fun h => by cases h)) <|
  TOK.cons (TI.of0 (by kernel_rfl) (by kernel_rfl) rfl (fun h => by cases h)) <|
  TOK.cons (TI.of (by kernel_rfl) (by kernel_rfl) (fun v hv => by injection hv with hv; subst hv; rfl) (fun _ => by kernel_rfl)) <|
  TOK.cons (TI.of0 (by kernel_rfl) (by kernel_rfl) rfl (fun h => by cases h)) <|
  TOK.cons (TI.of0 (by kernel_rfl) (by kernel_rfl) rfl (fun h => by cases h)) <|
  TOK.cons (TI.of0 (by kernel_rfl) (by kernel_rfl) rfl (fun h => by cases h)) <|
  TOK.cons (TI.of0 (by kernel_rfl) (by kernel_rfl) rfl (fun h => by cases h)) <|
  TOK.cons (TI.of0 (by kernel_rfl) (by kernel_rfl) rfl (fun h => by cases h)) <|
  TOK.cons (TI.of0 (by kernel_rfl) (by kernel_rfl) rfl (fun h => by cases h)) <|
  TOK.cons (TI.of0 (by kernel_rfl) (by kernel_rfl) rfl (fun h => by cases h)) <|
  TOK.cons (TI.of0 (by kernel_rfl) (by kernel_rfl) rfl (fun h => by cases h)) <|
  TOK.cons (TI.of0 (by kernel_rfl) (by kernel_rfl) rfl (fun h => by cases h)) <|
  TOK.cons (TI.of0 (by kernel_rfl) (by kernel_rfl) rfl (fun h => by cases h)) <|
  TOK.cons (TI.of0 (by kernel_rfl) (by kernel_rfl) rfl (fun h => by cases h)) <|
  TOK.nil
theorem lateOk : Try.prog.follows .mixedOrders = true := by kernel_rfl
noncomputable abbrev cx (gl : List (Nat × Nat)) (N : Nat) (D W : List Nat) : Cx := ⟨Try.prog, tab, tab_ok, gl, N, D, W⟩
end Go.Proofs.Ytchikadcicecoaa
namespace Go.Proofs.Ytchikadcicecoaa
/-- the five primes -/
def primeB (p : Int) : Bool := p == 3 || p == 5 || p == 7 || p == 11 || p == 13
theorem prime_cases {p : Int} (h : primeB p = true) : p = 3 ∨ p = 5 ∨ p = 7 ∨ p = 11 ∨ p = 13 := by
  simp [primeB] at h; omega
theorem prime_bd {p : Int} (h : primeB p = true) : 3 ≤ p ∧ p ≤ 13 := by
  have := prime_cases h; omega
theorem tmod_bd {n p : Int} (hp : 0 < p) : -p < n.tmod p ∧ n.tmod p < p := by
  rw [Int.tmod_eq_emod]
  have h1 := Int.emod_nonneg n (show p ≠ 0 by omega)
  have h2 := Int.emod_lt_of_pos n hp
  split
  · omega
  · have : (p.natAbs : Int) = p := Int.natAbs_of_nonneg (by omega)
    have h3 : n % p ≠ 0 := fun h => by rename_i h'; exact h' (.inr (Int.dvd_of_emod_eq_zero h))
    omega
theorem tmod_tmod {n p : Int} (hp : 0 < p) : (n.tmod p + p).tmod p = n % p := by
  have hb := tmod_bd (n := n) hp
  rw [Int.tmod_eq_emod_of_nonneg (by omega)]
  rw [Int.add_emod_right]
  rw [Int.tmod_eq_emod]
  have e : (p.natAbs : Int) = p := Int.natAbs_of_nonneg (by omega)
  split
  · simp
  · rw [e, Int.sub_emod, Int.emod_self, Int.sub_zero, Int.emod_emod_of_dvd _ (Int.dvd_refl p), Int.emod_emod_of_dvd _ (Int.dvd_refl p)]
/-- all numbers of a list are numbers modulo p -/
def modB (p : Int) (l : List Int) : Bool := l.all fun n => decide (0 ≤ n) && decide (n ≤ p - 1)
/-- the first number that is not 0 -/
def fnz : List Int → Int
  | [] => 0
  | a :: r => if a = 0 then fnz r else a
theorem fnz_append (l m : List Int) : fnz (l ++ m) = if fnz l = 0 then fnz m else fnz l := by
  induction l with
  | nil => simp [fnz]
  | cons a r ih =>
    simp only [List.cons_append, fnz]
    split
    · exact ih
    · rfl
/-- a normal list -/
def normB (p : Int) (l : List Int) : Bool := modB p l && (fnz l == 1)
theorem take_snoc {l : List Int} {i : Nat} (h : i < l.length) : l.take (i + 1) = l.take i ++ [l.getD i 0] := by
  rw [List.take_succ_eq_append_getElem h]; simp [List.getD, h]
theorem modB_snoc {p : Int} {l : List Int} {i : Nat} (hi : i < l.length) (h : modB p (l.take i) = true) (h1 : 0 ≤ l.getD i 0) (h2 : l.getD i 0 ≤ p - 1) : modB p (l.take (i + 1)) = true := by
  rw [take_snoc hi]
  simp only [modB, List.all_append, Bool.and_eq_true] at h ⊢
  exact ⟨h, by simp only [List.all_cons, List.all_nil, Bool.and_true, Bool.and_eq_true, decide_eq_true_eq]; exact ⟨h1, h2⟩⟩
theorem modB_fail {p : Int} {l : List Int} {i n : Nat} (hi : i < l.length) (hn : i < n) (h : (decide (0 ≤ l.getD i 0) && decide (l.getD i 0 ≤ p - 1)) = false) : modB p (l.take n) = false := by
  rw [modB, List.all_eq_false]
  refine ⟨l.getD i 0, ?_, by rw [h]; simp⟩
  rw [List.mem_take_iff_getElem]
  exact ⟨i, by omega, by simp [List.getD, hi]⟩
theorem fnz_take {l : List Int} {i : Nat} (h : i < l.length) : fnz (l.take (i + 1)) = if fnz (l.take i) = 0 then l.getD i 0 else fnz (l.take i) := by
  rw [take_snoc h, fnz_append]
  simp only [fnz]
  split
  · split <;> simp_all
  · rfl
theorem fnz_keep {l : List Int} {i n : Nat} (h : i ≤ n) (h0 : fnz (l.take i) ≠ 0) : fnz (l.take n) = fnz (l.take i) := by
  have : l.take n = l.take i ++ (l.take n).drop i := by
    have := (List.take_append_drop i (l.take n)).symm
    rwa [List.take_take, Nat.min_eq_left h] at this
  rw [this, fnz_append, if_neg h0]
theorem fnz_at {l : List Int} {i n : Nat} (h : i < l.length) (hn : i < n) (h0 : fnz (l.take i) = 0) (h1 : l.getD i 0 ≠ 0) : fnz (l.take n) = l.getD i 0 := by
  have e : fnz (l.take (i + 1)) = l.getD i 0 := by rw [fnz_take h, if_pos h0]
  rw [fnz_keep (i := i + 1) (by omega) (by rw [e]; exact h1), e]
end Go.Proofs.Ytchikadcicecoaa
namespace Go.Proofs.Ytchikadcicecoaa
attribute [local irreducible] CW OW QW QOp Con thenP inBlockP
set_option maxRecDepth 10000
set_option linter.unusedSimpArgs false
set_option linter.unusedVariables false
theorem isPrime_con (p : Int) : ConQ Try.prog [] 15 [.int p] [] (.bool (primeB p)) := by
  refine conW tab_ok [(0, .int p)] 0 [] [] Try.func15 rfl rfl rfl rfl rfl rfl rfl rfl rfl ?_
  refine cR ?_
  refine oA rfl rfl ?_
  refine oN ?_
  refine cR ?_
  refine oM rfl rfl ?_
  refine oQ (Q_bin rfl rfl rfl) rfl rfl ?_
  refine oM rfl rfl ?_
  all_goals first | refine oT rfl rfl ?_ | refine o1 rfl rfl rfl ?_ | refine o0 rfl rfl rfl ?_ | refine ogP1 rfl rfl rfl (fun hg => ?_) (fun hg => ?_) | refine ogP0 rfl rfl rfl (fun hg => ?_) (fun hg => ?_)
  all_goals try simp only [s1, s2, s3, s4, s5, s6, s7, s8, s9, s10, s11, s12] at hg
  all_goals first | (refine oM rfl rfl ?_) | skip
  all_goals first | refine oT rfl rfl ?_ | refine o1 rfl rfl rfl ?_ | refine o0 rfl rfl rfl ?_ | refine ogP1 rfl rfl rfl (fun hg => ?_) (fun hg => ?_) | refine ogP0 rfl rfl rfl (fun hg => ?_) (fun hg => ?_)
  all_goals try simp only [s1, s2, s3, s4, s5, s6, s7, s8, s9, s10, s11, s12] at hg
  all_goals first | (refine oQ (Q_bin rfl rfl rfl) rfl rfl ?_) | skip
  all_goals first | refine oQ (Q_pick_t rfl (by with_reducible rfl) rfl rfl) rfl rfl ?_ | refine oQ (Q_pick_f rfl (by with_reducible rfl) rfl rfl) rfl rfl ?_
  all_goals first | (refine oM rfl rfl ?_)
  all_goals first | refine oT rfl rfl ?_ | refine o1 rfl rfl rfl ?_ | refine o0 rfl rfl rfl ?_ | refine ogP1 rfl rfl rfl (fun hg => ?_) (fun hg => ?_) | refine ogP0 rfl rfl rfl (fun hg => ?_) (fun hg => ?_)
  all_goals try simp only [s1, s2, s3, s4, s5, s6, s7, s8, s9, s10, s11, s12] at hg
  all_goals first | (refine oM rfl rfl ?_) | skip
  all_goals first | refine oT rfl rfl ?_ | refine o1 rfl rfl rfl ?_ | refine o0 rfl rfl rfl ?_ | refine ogP1 rfl rfl rfl (fun hg => ?_) (fun hg => ?_) | refine ogP0 rfl rfl rfl (fun hg => ?_) (fun hg => ?_)
  all_goals try simp only [s1, s2, s3, s4, s5, s6, s7, s8, s9, s10, s11, s12] at hg
  all_goals first | (refine oQ (Q_bin rfl rfl rfl) rfl rfl ?_) | skip
  all_goals first | refine oQ (Q_pick_t rfl (by with_reducible rfl) rfl rfl) rfl rfl ?_ | refine oQ (Q_pick_f rfl (by with_reducible rfl) rfl rfl) rfl rfl ?_
  all_goals first | (refine oM rfl rfl ?_)
  all_goals first | refine oT rfl rfl ?_ | refine o1 rfl rfl rfl ?_ | refine o0 rfl rfl rfl ?_ | refine ogP1 rfl rfl rfl (fun hg => ?_) (fun hg => ?_) | refine ogP0 rfl rfl rfl (fun hg => ?_) (fun hg => ?_)
  all_goals try simp only [s1, s2, s3, s4, s5, s6, s7, s8, s9, s10, s11, s12] at hg
  all_goals first | (refine oM rfl rfl ?_) | skip
  all_goals first | refine oT rfl rfl ?_ | refine o1 rfl rfl rfl ?_ | refine o0 rfl rfl rfl ?_ | refine ogP1 rfl rfl rfl (fun hg => ?_) (fun hg => ?_) | refine ogP0 rfl rfl rfl (fun hg => ?_) (fun hg => ?_)
  all_goals try simp only [s1, s2, s3, s4, s5, s6, s7, s8, s9, s10, s11, s12] at hg
  all_goals first | (refine oQ (Q_bin rfl rfl rfl) rfl rfl ?_) | skip
  all_goals first | refine oQ (Q_pick_t rfl (by with_reducible rfl) rfl rfl) rfl rfl ?_ | refine oQ (Q_pick_f rfl (by with_reducible rfl) rfl rfl) rfl rfl ?_
  all_goals first | (refine oM rfl rfl ?_)
  all_goals first | refine oT rfl rfl ?_ | refine o1 rfl rfl rfl ?_ | refine o0 rfl rfl rfl ?_ | refine ogP1 rfl rfl rfl (fun hg => ?_) (fun hg => ?_) | refine ogP0 rfl rfl rfl (fun hg => ?_) (fun hg => ?_)
  all_goals try simp only [s1, s2, s3, s4, s5, s6, s7, s8, s9, s10, s11, s12] at hg
  all_goals first | (refine oM rfl rfl ?_) | skip
  all_goals first | refine oT rfl rfl ?_ | refine o1 rfl rfl rfl ?_ | refine o0 rfl rfl rfl ?_ | refine ogP1 rfl rfl rfl (fun hg => ?_) (fun hg => ?_) | refine ogP0 rfl rfl rfl (fun hg => ?_) (fun hg => ?_)
  all_goals try simp only [s1, s2, s3, s4, s5, s6, s7, s8, s9, s10, s11, s12] at hg
  all_goals first | (refine oQ (Q_bin rfl rfl rfl) rfl rfl ?_) | skip
  all_goals first | refine oQ (Q_pick_t rfl (by with_reducible rfl) rfl rfl) rfl rfl ?_ | refine oQ (Q_pick_f rfl (by with_reducible rfl) rfl rfl) rfl rfl ?_
  all_goals first | (refine oA rfl rfl ?_)
  all_goals refine oN ?_
  all_goals (
   refine CW_ret ?_)
  all_goals (
   refine exitQ (.inr rfl) 0 (.cons (.tmp rfl rfl) .nil) ?_ rfl vHn rfl rfl
   simp_all [resV, primeB])
theorem l01Prime_con (p : Int) : ConQ Try.prog [] 21 [.int p] [] (.bool (primeB p)) := by
  refine conW tab_ok [(0, .int p)] 0 [] [] Try.func21 rfl rfl rfl rfl rfl rfl rfl rfl rfl ?_
  refine cR ?_
  refine oA rfl rfl ?_
  refine oN ?_
  refine cR ?_
  refine oM rfl rfl ?_
  refine oQ (Q_bin rfl rfl rfl) rfl rfl ?_
  refine oM rfl rfl ?_
  all_goals first | refine oT rfl rfl ?_ | refine o1 rfl rfl rfl ?_ | refine o0 rfl rfl rfl ?_ | refine ogP1 rfl rfl rfl (fun hg => ?_) (fun hg => ?_) | refine ogP0 rfl rfl rfl (fun hg => ?_) (fun hg => ?_)
  all_goals try simp only [s1, s2, s3, s4, s5, s6, s7, s8, s9, s10, s11, s12] at hg
  all_goals first | (refine oM rfl rfl ?_) | skip
  all_goals first | refine oT rfl rfl ?_ | refine o1 rfl rfl rfl ?_ | refine o0 rfl rfl rfl ?_ | refine ogP1 rfl rfl rfl (fun hg => ?_) (fun hg => ?_) | refine ogP0 rfl rfl rfl (fun hg => ?_) (fun hg => ?_)
  all_goals try simp only [s1, s2, s3, s4, s5, s6, s7, s8, s9, s10, s11, s12] at hg
  all_goals first | (refine oQ (Q_bin rfl rfl rfl) rfl rfl ?_) | skip
  all_goals first | refine oQ (Q_pick_t rfl (by with_reducible rfl) rfl rfl) rfl rfl ?_ | refine oQ (Q_pick_f rfl (by with_reducible rfl) rfl rfl) rfl rfl ?_
  all_goals first | (refine oM rfl rfl ?_)
  all_goals first | refine oT rfl rfl ?_ | refine o1 rfl rfl rfl ?_ | refine o0 rfl rfl rfl ?_ | refine ogP1 rfl rfl rfl (fun hg => ?_) (fun hg => ?_) | refine ogP0 rfl rfl rfl (fun hg => ?_) (fun hg => ?_)
  all_goals try simp only [s1, s2, s3, s4, s5, s6, s7, s8, s9, s10, s11, s12] at hg
  all_goals first | (refine oM rfl rfl ?_) | skip
  all_goals first | refine oT rfl rfl ?_ | refine o1 rfl rfl rfl ?_ | refine o0 rfl rfl rfl ?_ | refine ogP1 rfl rfl rfl (fun hg => ?_) (fun hg => ?_) | refine ogP0 rfl rfl rfl (fun hg => ?_) (fun hg => ?_)
  all_goals try simp only [s1, s2, s3, s4, s5, s6, s7, s8, s9, s10, s11, s12] at hg
  all_goals first | (refine oQ (Q_bin rfl rfl rfl) rfl rfl ?_) | skip
  all_goals first | refine oQ (Q_pick_t rfl (by with_reducible rfl) rfl rfl) rfl rfl ?_ | refine oQ (Q_pick_f rfl (by with_reducible rfl) rfl rfl) rfl rfl ?_
  all_goals first | (refine oM rfl rfl ?_)
  all_goals first | refine oT rfl rfl ?_ | refine o1 rfl rfl rfl ?_ | refine o0 rfl rfl rfl ?_ | refine ogP1 rfl rfl rfl (fun hg => ?_) (fun hg => ?_) | refine ogP0 rfl rfl rfl (fun hg => ?_) (fun hg => ?_)
  all_goals try simp only [s1, s2, s3, s4, s5, s6, s7, s8, s9, s10, s11, s12] at hg
  all_goals first | (refine oM rfl rfl ?_) | skip
  all_goals first | refine oT rfl rfl ?_ | refine o1 rfl rfl rfl ?_ | refine o0 rfl rfl rfl ?_ | refine ogP1 rfl rfl rfl (fun hg => ?_) (fun hg => ?_) | refine ogP0 rfl rfl rfl (fun hg => ?_) (fun hg => ?_)
  all_goals try simp only [s1, s2, s3, s4, s5, s6, s7, s8, s9, s10, s11, s12] at hg
  all_goals first | (refine oQ (Q_bin rfl rfl rfl) rfl rfl ?_) | skip
  all_goals first | refine oQ (Q_pick_t rfl (by with_reducible rfl) rfl rfl) rfl rfl ?_ | refine oQ (Q_pick_f rfl (by with_reducible rfl) rfl rfl) rfl rfl ?_
  all_goals first | (refine oM rfl rfl ?_)
  all_goals first | refine oT rfl rfl ?_ | refine o1 rfl rfl rfl ?_ | refine o0 rfl rfl rfl ?_ | refine ogP1 rfl rfl rfl (fun hg => ?_) (fun hg => ?_) | refine ogP0 rfl rfl rfl (fun hg => ?_) (fun hg => ?_)
  all_goals try simp only [s1, s2, s3, s4, s5, s6, s7, s8, s9, s10, s11, s12] at hg
  all_goals first | (refine oM rfl rfl ?_) | skip
  all_goals first | refine oT rfl rfl ?_ | refine o1 rfl rfl rfl ?_ | refine o0 rfl rfl rfl ?_ | refine ogP1 rfl rfl rfl (fun hg => ?_) (fun hg => ?_) | refine ogP0 rfl rfl rfl (fun hg => ?_) (fun hg => ?_)
  all_goals try simp only [s1, s2, s3, s4, s5, s6, s7, s8, s9, s10, s11, s12] at hg
  all_goals first | (refine oQ (Q_bin rfl rfl rfl) rfl rfl ?_) | skip
  all_goals first | refine oQ (Q_pick_t rfl (by with_reducible rfl) rfl rfl) rfl rfl ?_ | refine oQ (Q_pick_f rfl (by with_reducible rfl) rfl rfl) rfl rfl ?_
  all_goals first | (refine oA rfl rfl ?_)
  all_goals refine oN ?_
  all_goals (
   refine CW_ret ?_)
  all_goals (
   refine exitQ (.inr rfl) 0 (.cons (.tmp rfl rfl) .nil) ?_ rfl vHn rfl rfl
   simp_all [resV, primeB])
theorem within_con (n l h : Int) : ConQ Try.prog [] 34 [.int n, .int l, .int h] [] (.bool (decide (l ≤ n) && decide (n ≤ h))) := by
  refine conW tab_ok [(0, .int n), (1, .int l), (2, .int h)] 0 [] [] Try.func34 rfl rfl rfl rfl rfl rfl rfl rfl rfl ?_
  refine cR ?_
  refine oA rfl rfl ?_
  refine oN ?_
  refine cR ?_
  iterate 2 refine oM rfl rfl ?_
  refine oQ (Q_bin rfl rfl rfl) rfl rfl ?_
  refine oM rfl rfl ?_
  all_goals first | refine oT rfl rfl ?_ | refine o1 rfl rfl rfl ?_ | refine o0 rfl rfl rfl ?_ | refine ogP1 rfl rfl rfl (fun hg => ?_) (fun hg => ?_) | refine ogP0 rfl rfl rfl (fun hg => ?_) (fun hg => ?_)
  all_goals try simp only [s1, s2, s3, s4, s5, s6, s7, s8, s9, s10, s11, s12] at hg
  all_goals first | (refine oM rfl rfl ?_) | skip
  all_goals first | refine oT rfl rfl ?_ | refine o1 rfl rfl rfl ?_ | refine o0 rfl rfl rfl ?_ | refine ogP1 rfl rfl rfl (fun hg => ?_) (fun hg => ?_) | refine ogP0 rfl rfl rfl (fun hg => ?_) (fun hg => ?_)
  all_goals try simp only [s1, s2, s3, s4, s5, s6, s7, s8, s9, s10, s11, s12] at hg
  all_goals first | (refine oM rfl rfl ?_) | skip
  all_goals first | refine oT rfl rfl ?_ | refine o1 rfl rfl rfl ?_ | refine o0 rfl rfl rfl ?_ | refine ogP1 rfl rfl rfl (fun hg => ?_) (fun hg => ?_) | refine ogP0 rfl rfl rfl (fun hg => ?_) (fun hg => ?_)
  all_goals try simp only [s1, s2, s3, s4, s5, s6, s7, s8, s9, s10, s11, s12] at hg
  all_goals first | (refine oQ (Q_bin rfl rfl rfl) rfl rfl ?_) | skip
  all_goals first | refine oQ (Q_pick_t rfl (by with_reducible rfl) rfl rfl) rfl rfl ?_ | refine oQ (Q_pick_f rfl (by with_reducible rfl) rfl rfl) rfl rfl ?_
  all_goals first | (refine oA rfl rfl ?_)
  all_goals refine oN ?_
  all_goals (
   refine CW_ret ?_)
  all_goals (
   refine exitQ (.inr rfl) 0 (.cons (.tmp rfl rfl) .nil) ?_ rfl vHn rfl rfl
   (simp_all [resV]) <;> (intros; omega))
theorem l01In_con (n l h : Int) : ConQ Try.prog [] 32 [.int n, .int l, .int h] [] (.bool (decide (l ≤ n) && decide (n ≤ h))) := by
  refine conW tab_ok [(0, .int n), (1, .int l), (2, .int h)] 0 [] [] Try.func32 rfl rfl rfl rfl rfl rfl rfl rfl rfl ?_
  refine cR ?_
  refine oA rfl rfl ?_
  refine oN ?_
  refine cR ?_
  iterate 2 refine oM rfl rfl ?_
  refine oQ (Q_bin rfl rfl rfl) rfl rfl ?_
  refine oM rfl rfl ?_
  all_goals first | refine oT rfl rfl ?_ | refine o1 rfl rfl rfl ?_ | refine o0 rfl rfl rfl ?_ | refine ogP1 rfl rfl rfl (fun hg => ?_) (fun hg => ?_) | refine ogP0 rfl rfl rfl (fun hg => ?_) (fun hg => ?_)
  all_goals try simp only [s1, s2, s3, s4, s5, s6, s7, s8, s9, s10, s11, s12] at hg
  all_goals first | (refine oM rfl rfl ?_) | skip
  all_goals first | refine oT rfl rfl ?_ | refine o1 rfl rfl rfl ?_ | refine o0 rfl rfl rfl ?_ | refine ogP1 rfl rfl rfl (fun hg => ?_) (fun hg => ?_) | refine ogP0 rfl rfl rfl (fun hg => ?_) (fun hg => ?_)
  all_goals try simp only [s1, s2, s3, s4, s5, s6, s7, s8, s9, s10, s11, s12] at hg
  all_goals first | (refine oM rfl rfl ?_) | skip
  all_goals first | refine oT rfl rfl ?_ | refine o1 rfl rfl rfl ?_ | refine o0 rfl rfl rfl ?_ | refine ogP1 rfl rfl rfl (fun hg => ?_) (fun hg => ?_) | refine ogP0 rfl rfl rfl (fun hg => ?_) (fun hg => ?_)
  all_goals try simp only [s1, s2, s3, s4, s5, s6, s7, s8, s9, s10, s11, s12] at hg
  all_goals first | (refine oQ (Q_bin rfl rfl rfl) rfl rfl ?_) | skip
  all_goals first | refine oQ (Q_pick_t rfl (by with_reducible rfl) rfl rfl) rfl rfl ?_ | refine oQ (Q_pick_f rfl (by with_reducible rfl) rfl rfl) rfl rfl ?_
  all_goals first | (refine oA rfl rfl ?_)
  all_goals refine oN ?_
  all_goals (
   refine CW_ret ?_)
  all_goals (
   refine exitQ (.inr rfl) 0 (.cons (.tmp rfl rfl) .nil) ?_ rfl vHn rfl rfl
   (simp_all [resV]) <;> (intros; omega))
theorem mod_con (n p : Int) (hp : 0 < p) (hp' : p ≤ 1000000) : ConQ Try.prog [] 46 [.int n, .int p] [] (.int (n % p)) := by
  have hb := tmod_bd (n := n) hp
  refine conW tab_ok [(0, .int n), (1, .int p)] 0 [] [] Try.func46 rfl rfl rfl rfl rfl rfl rfl rfl rfl ?_
  refine cR ?_
  refine oA rfl rfl ?_
  refine oN ?_
  refine cR ?_
  iterate 2 refine oM rfl rfl ?_
  refine oQ (Q_rem rfl rfl (by omega)) rfl rfl ?_
  refine oM rfl rfl ?_
  first | refine oQ (Q_binu rfl rfl rfl (by omega)) rfl rfl ?_ | refine oQ (Q_bin rfl rfl rfl) rfl rfl ?_
  refine oM rfl rfl ?_
  refine oQ (Q_rem rfl rfl (by omega)) rfl rfl ?_
  refine oA rfl rfl ?_
  refine oN ?_
  refine CW_ret ?_
  all_goals (
   refine exitQ (.inr rfl) 0 (.cons (.tmp rfl rfl) .nil) ?_ rfl vHn rfl rfl
   simp [resV, tmod_tmod hp])
theorem l01Mod_con (n p : Int) (hp : 0 < p) (hp' : p ≤ 1000000) : ConQ Try.prog [] 42 [.int p, .int n] [] (.int (n % p)) := by
  have hb := tmod_bd (n := n) hp
  refine conW tab_ok [(0, .int p), (1, .int n)] 0 [] [] Try.func42 rfl rfl rfl rfl rfl rfl rfl rfl rfl ?_
  refine cR ?_
  refine oA rfl rfl ?_
  refine oN ?_
  refine cR ?_
  iterate 2 refine oM rfl rfl ?_
  refine oQ (Q_rem rfl rfl (by omega)) rfl rfl ?_
  refine oM rfl rfl ?_
  first | refine oQ (Q_binu rfl rfl rfl (by omega)) rfl rfl ?_ | refine oQ (Q_bin rfl rfl rfl) rfl rfl ?_
  refine oM rfl rfl ?_
  refine oQ (Q_rem rfl rfl (by omega)) rfl rfl ?_
  refine oA rfl rfl ?_
  refine oN ?_
  refine CW_ret ?_
  all_goals (
   refine exitQ (.inr rfl) 0 (.cons (.tmp rfl rfl) .nil) ?_ rfl vHn rfl rfl
   simp [resV, tmod_tmod hp])
theorem areNumbers_con (p : Int) (t : TypeId) (L : List Int) (n k : Nat) (hn : n ≤ L.length) (hp : 0 ≤ p ∧ p ≤ 1000) (hL : n ≤ 1000000000) : ConQ Try.prog [] 51 [.int p, .slice 0 0 n k] [(0, .ints t L)] (.bool (modB p (L.take n))) := by
  refine conW tab_ok [(0, .int p), (1, .slice 0 0 n k)] 1 [0] [0] Try.func51 rfl rfl rfl rfl rfl rfl rfl rfl rfl ?_
  refine cR ?_
  refine oA rfl rfl ?_
  refine oN ?_
  refine CW_seq ?_
  refine cR ?_
  refine oM rfl rfl ?_
  first | refine oQ (Q_len rfl rfl rfl rfl) rfl rfl ?_ | refine oQ (Q_len0 rfl rfl rfl rfl) rfl rfl ?_
  refine oM rfl rfl ?_
  refine oN ?_
  refine CW_block ?_
  refine CW_loop (ι := Nat) (fun i => i ≤ n ∧ modB p (L.take i) = true) (fun i => ⟨[(0, .int p), (7, .slice 0 0 n k), (8, .int n), (9, .int i)], [(0, .ints t L)], 1⟩) (fun i => n - i) 0 ?_ ?_ ?_
  · exact ⟨Nat.zero_le _, rfl⟩
  · refine View.mk' [] rfl rfl rfl ?_ ?_
    repeat' first | exact vFn | refine vFc rfl ?_ | exact vHn | refine vHc rfl ?_ | refine vFc (congrArg (fun z => some (V.int z)) ?_) ?_ | refine vHc (congrArg (fun z => some (Blk.ints _ z)) ?_) ?_ | refine vFc (congrArg (fun z => some (V.bool z)) ?_) ?_ | refine vFs rfl rfl ?_ ?_
  intro i hi
  obtain ⟨hi1, hi2⟩ := hi
  refine cR ?_
  refine oQ (Q_bin rfl rfl rfl) rfl rfl ?_
  refine oN ?_
  refine CW_seq ?_
  first | refine cT rfl ?_ | refine cF rfl ?_ | refine CW_cond rfl (fun hc => ?_) (fun hc => ?_)
  all_goals try simp only [s1, s2, s3, s4, s5, s6, s7, s8, s9, s10, s11, s12] at hc
  all_goals first
    | (
     refine CW_skip ?_)
    | (
     refine CW_exit ?_)
  all_goals first
    | with_reducible refine tR ?_
    | with_reducible refine tE ?_
    | (
     with_reducible refine tN ?_
     refine CW_seq ?_
     refine CW_block ?_
     refine cR ?_
     first | refine oQ (Is0 rfl rfl rfl rfl rfl rfl) rfl rfl ?_ | refine oQ (Is1 rfl rfl rfl rfl rfl rfl) rfl rfl ?_
     refine oQ (Ld rfl rfl rfl rfl) rfl rfl ?_
     refine oA rfl rfl ?_
     refine oN ?_
     refine cR ?_
     iterate 2 refine oM rfl rfl ?_
     first | refine oQ (Q_binu rfl rfl rfl (by omega)) rfl rfl ?_ | refine oQ (Q_bin rfl rfl rfl) rfl rfl ?_
     refine oQ (Q_call0 (within_con _ _ _) rfl rfl rfl) rfl rfl ?_
     refine oQ (Q_not rfl) rfl rfl ?_
     refine oN ?_
     first | refine cT rfl ?_ | refine cF rfl ?_ | refine CW_cond rfl (fun hc => ?_) (fun hc => ?_)
     all_goals try simp only [s1, s2, s3, s4, s5, s6, s7, s8, s9, s10, s11, s12] at hc
     all_goals first
       | (
        refine CW_skip ?_)
       | (
        refine cR ?_
        refine oA rfl rfl ?_
        refine oN ?_
        refine CW_ret ?_)
     all_goals first | with_reducible refine bN ?_ | with_reducible refine bE ?_ | with_reducible refine bR ?_ | refine bX rfl ?_
     all_goals first
       | with_reducible refine tR ?_
       | with_reducible refine tE ?_
       | (
        with_reducible refine tN ?_
        refine CW_region ?_
        first | refine oQ (Q_binu rfl rfl rfl (by omega)) rfl rfl ?_ | refine oQ (Q_bin rfl rfl rfl) rfl rfl ?_
        refine oM rfl rfl ?_
        refine OW_nil ?_))
  all_goals first
    | with_reducible refine tR ?_
    | with_reducible refine tE ?_
    | (
     with_reducible refine tN ?_
     refine ⟨i + 1, ?_, ?_, View.mk' [] rfl rfl rfl ?_ ?_⟩
     · exact ⟨by omega, modB_snoc (by omega) hi2 (by simp_all) (by simp_all)⟩
     · omega
     all_goals (repeat' first | exact vFn | refine vFc rfl ?_ | exact vHn | refine vHc rfl ?_ | refine vFc (congrArg (fun z => some (V.int z)) ?_) ?_ | refine vHc (congrArg (fun z => some (Blk.ints _ z)) ?_) ?_ | refine vFc (congrArg (fun z => some (V.bool z)) ?_) ?_ | refine vFs rfl rfl ?_ ?_))
  all_goals first | with_reducible refine bN ?_ | with_reducible refine bE ?_ | with_reducible refine bR ?_ | refine bX rfl ?_
  all_goals first
    | with_reducible refine tR ?_
    | with_reducible refine tE ?_
    | (
     with_reducible refine tN ?_
     refine cR ?_
     refine oA rfl rfl ?_
     refine oN ?_
     refine CW_ret ?_)
  all_goals (
   refine exitQ (.inr rfl) 1 (.cons (.tmp rfl rfl) .nil) ?_ rfl (vHc rfl vHn) rfl rfl
   simp only [resV, V.bool.injEq]
   first | exact (modB_fail (by omega) (by omega) hc).symm | (have e : i = n := (by omega); subst e; exact hi2.symm))
theorem isNormal_con (p : Int) (t : TypeId) (L : List Int) (n k : Nat) (hn : n ≤ L.length) (hp : 0 ≤ p ∧ p ≤ 1000) (hL : n ≤ 1000000000) : ConQ Try.prog [] 45 [.int p, .slice 0 0 n k] [(0, .ints t L)] (.bool (normB p (L.take n))) := by
  refine conW tab_ok [(0, .int p), (1, .slice 0 0 n k)] 1 [0] [0] Try.func45 rfl rfl rfl rfl rfl rfl rfl rfl rfl ?_
  refine cR ?_
  refine oA rfl rfl ?_
  refine oN ?_
  refine CW_seq ?_
  refine cR ?_
  refine oM rfl rfl ?_
  first | refine oQ (Q_len rfl rfl rfl rfl) rfl rfl ?_ | refine oQ (Q_len0 rfl rfl rfl rfl) rfl rfl ?_
  refine oM rfl rfl ?_
  refine oN ?_
  refine CW_block ?_
  refine CW_loop (ι := Nat) (fun i => i ≤ n ∧ fnz (L.take i) = 0) (fun i => ⟨[(0, .int p), (1, .slice 0 0 n k), (7, .slice 0 0 n k), (8, .int n), (9, .int i)], [(0, .ints t L)], 1⟩) (fun i => n - i) 0 ?_ ?_ ?_
  · exact ⟨Nat.zero_le _, rfl⟩
  · refine View.mk' [] rfl rfl rfl ?_ ?_
    repeat' first | exact vFn | refine vFc rfl ?_ | exact vHn | refine vHc rfl ?_ | refine vFc (congrArg (fun z => some (V.int z)) ?_) ?_ | refine vHc (congrArg (fun z => some (Blk.ints _ z)) ?_) ?_ | refine vFc (congrArg (fun z => some (V.bool z)) ?_) ?_ | refine vFs rfl rfl ?_ ?_
  intro i hi
  obtain ⟨hi1, hi2⟩ := hi
  refine cR ?_
  refine oQ (Q_bin rfl rfl rfl) rfl rfl ?_
  refine oN ?_
  refine CW_seq ?_
  first | refine cT rfl ?_ | refine cF rfl ?_ | refine CW_cond rfl (fun hc => ?_) (fun hc => ?_)
  all_goals try simp only [s1, s2, s3, s4, s5, s6, s7, s8, s9, s10, s11, s12] at hc
  all_goals first
    | (
     refine CW_skip ?_)
    | (
     refine CW_exit ?_)
  all_goals first
    | with_reducible refine tR ?_
    | with_reducible refine tE ?_
    | (
     with_reducible refine tN ?_
     refine CW_seq ?_
     refine CW_block ?_
     refine cR ?_
     first | refine oQ (Is0 rfl rfl rfl rfl rfl rfl) rfl rfl ?_ | refine oQ (Is1 rfl rfl rfl rfl rfl rfl) rfl rfl ?_
     refine oQ (Ld rfl rfl rfl rfl) rfl rfl ?_
     refine oA rfl rfl ?_
     refine oN ?_
     refine cR ?_
     refine oM rfl rfl ?_
     refine oQ (Q_bin rfl rfl rfl) rfl rfl ?_
     refine oN ?_
     first | refine cT rfl ?_ | refine cF rfl ?_ | refine CW_cond rfl (fun hc => ?_) (fun hc => ?_)
     all_goals try simp only [s1, s2, s3, s4, s5, s6, s7, s8, s9, s10, s11, s12] at hc
     all_goals first
       | (
        refine CW_skip ?_)
       | (
        refine cR ?_
        refine oM rfl rfl ?_
        refine oQ (Q_bin rfl rfl rfl) rfl rfl ?_
        refine oM rfl rfl ?_
        all_goals first | refine oT rfl rfl ?_ | refine o1 rfl rfl rfl ?_ | refine o0 rfl rfl rfl ?_ | refine ogP1 rfl rfl rfl (fun hg => ?_) (fun hg => ?_) | refine ogP0 rfl rfl rfl (fun hg => ?_) (fun hg => ?_)
        all_goals try simp only [s1, s2, s3, s4, s5, s6, s7, s8, s9, s10, s11, s12] at hg
        all_goals first | (refine oM rfl rfl ?_) | skip
        all_goals first | refine oT rfl rfl ?_ | refine o1 rfl rfl rfl ?_ | refine o0 rfl rfl rfl ?_ | refine ogP1 rfl rfl rfl (fun hg => ?_) (fun hg => ?_) | refine ogP0 rfl rfl rfl (fun hg => ?_) (fun hg => ?_)
        all_goals try simp only [s1, s2, s3, s4, s5, s6, s7, s8, s9, s10, s11, s12] at hg
        all_goals first | (refine oM rfl rfl ?_) | skip
        all_goals first | refine oT rfl rfl ?_ | refine o1 rfl rfl rfl ?_ | refine o0 rfl rfl rfl ?_ | refine ogP1 rfl rfl rfl (fun hg => ?_) (fun hg => ?_) | refine ogP0 rfl rfl rfl (fun hg => ?_) (fun hg => ?_)
        all_goals try simp only [s1, s2, s3, s4, s5, s6, s7, s8, s9, s10, s11, s12] at hg
        all_goals first | (refine oQ (Q_call (areNumbers_con p t L n k hn hp hL) [] rfl rfl (Fits.mk' (vHc rfl vHn) rfl rfl (by simp)) rfl rfl) rfl rfl ?_) | skip
        all_goals first | refine oQ (Q_pick_t rfl (by with_reducible rfl) rfl rfl) rfl rfl ?_ | refine oQ (Q_pick_f rfl (by with_reducible rfl) rfl rfl) rfl rfl ?_
        all_goals first | (refine oA rfl rfl ?_)
        all_goals refine oN ?_
        all_goals (
         refine CW_ret ?_))
     all_goals first | with_reducible refine bN ?_ | with_reducible refine bE ?_ | with_reducible refine bR ?_ | refine bX rfl ?_
     all_goals first
       | with_reducible refine tR ?_
       | with_reducible refine tE ?_
       | (
        with_reducible refine tN ?_
        refine CW_region ?_
        first | refine oQ (Q_binu rfl rfl rfl (by omega)) rfl rfl ?_ | refine oQ (Q_bin rfl rfl rfl) rfl rfl ?_
        refine oM rfl rfl ?_
        refine OW_nil ?_))
  all_goals first
    | with_reducible refine tR ?_
    | with_reducible refine tE ?_
    | (
     with_reducible refine tN ?_
     refine ⟨i + 1, ?_, ?_, View.mk' [] rfl rfl rfl ?_ ?_⟩
     · exact ⟨by omega, by rw [fnz_take (by omega), if_pos hi2]; simp_all⟩
     · omega
     all_goals (repeat' first | exact vFn | refine vFc rfl ?_ | exact vHn | refine vHc rfl ?_ | refine vFc (congrArg (fun z => some (V.int z)) ?_) ?_ | refine vHc (congrArg (fun z => some (Blk.ints _ z)) ?_) ?_ | refine vFc (congrArg (fun z => some (V.bool z)) ?_) ?_ | refine vFs rfl rfl ?_ ?_))
  all_goals first | with_reducible refine bN ?_ | with_reducible refine bE ?_ | with_reducible refine bR ?_ | refine bX rfl ?_
  all_goals first
    | with_reducible refine tR ?_
    | with_reducible refine tE ?_
    | (
     with_reducible refine tN ?_
     refine cR ?_
     refine oA rfl rfl ?_
     refine oN ?_
     refine CW_ret ?_)
  all_goals (
   refine exitQ (.inr rfl) 1 (.cons (.tmp rfl rfl) .nil) ?_ rfl (vHc rfl vHn) rfl rfl
   simp only [resV, V.bool.injEq]
   first | (have e : i = n := (by omega); subst e; simp [normB, hi2]; done) | (have hlt : i < n := (by omega); rw [normB, fnz_at (by omega) hlt hi2 (by assumption)]; simp_all [ren]; done) | (have hlt : i < n := (by omega); rw [normB, fnz_at (by omega) hlt hi2 (by assumption)]; cases h1 : modB p (L.take n) <;> simp_all [ren]; done))
theorem l01Normal_con (p : Int) (t : TypeId) (L : List Int) (n k : Nat) (hn : n ≤ L.length) (hp : 0 ≤ p ∧ p ≤ 1000) (hL : n ≤ 1000000000) : ConQ Try.prog [] 44 [.int p, .slice 0 0 n k] [(0, .ints t L)] (.bool (normB p (L.take n))) := by
  refine conW tab_ok [(0, .int p), (1, .slice 0 0 n k)] 1 [0] [0] Try.func44 rfl rfl rfl rfl rfl rfl rfl rfl rfl ?_
  refine cR ?_
  refine oA rfl rfl ?_
  refine oN ?_
  refine cR ?_
  refine oA rfl rfl ?_
  refine oN ?_
  refine CW_seq ?_
  refine cR ?_
  refine oA rfl rfl ?_
  refine oN ?_
  refine CW_block ?_
  refine CW_loop (ι := Nat) (fun i => i ≤ n ∧ modB p (L.take i) = true) (fun i => ⟨[(0, .int p), (1, .slice 0 0 n k), (5, .int (fnz (L.take i))), (6, .int i)], [(0, .ints t L)], 1⟩) (fun i => n - i) 0 ?_ ?_ ?_
  · exact ⟨Nat.zero_le _, rfl⟩
  · refine View.mk' [] rfl rfl rfl ?_ ?_
    repeat' first | exact vFn | refine vFc rfl ?_ | exact vHn | refine vHc rfl ?_ | refine vFc (congrArg (fun z => some (V.int z)) ?_) ?_ | refine vHc (congrArg (fun z => some (Blk.ints _ z)) ?_) ?_ | refine vFc (congrArg (fun z => some (V.bool z)) ?_) ?_ | refine vFs rfl rfl ?_ ?_
  intro i hi
  obtain ⟨hi1, hi2⟩ := hi
  refine CW_seq ?_
  refine cR ?_
  iterate 2 refine oM rfl rfl ?_
  first | refine oQ (Q_len rfl rfl rfl rfl) rfl rfl ?_ | refine oQ (Q_len0 rfl rfl rfl rfl) rfl rfl ?_
  refine oQ (Q_bin rfl rfl rfl) rfl rfl ?_
  refine oN ?_
  first | refine cT rfl ?_ | refine cF rfl ?_ | refine CW_cond rfl (fun hc => ?_) (fun hc => ?_)
  all_goals try simp only [s1, s2, s3, s4, s5, s6, s7, s8, s9, s10, s11, s12] at hc
  all_goals first
    | (
     refine CW_skip ?_)
    | (
     refine CW_exit ?_)
  all_goals first
    | with_reducible refine tR ?_
    | with_reducible refine tE ?_
    | (
     with_reducible refine tN ?_
     refine CW_seq ?_
     refine CW_block ?_
     refine CW_seq ?_
     refine cR ?_
     iterate 2 refine oM rfl rfl ?_
     first | refine oQ (Is0 rfl rfl rfl rfl rfl rfl) rfl rfl ?_ | refine oQ (Is1 rfl rfl rfl rfl rfl rfl) rfl rfl ?_
     refine oQ (Ld rfl rfl rfl rfl) rfl rfl ?_
     refine oM rfl rfl ?_
     first | refine oQ (Q_binu rfl rfl rfl (by omega)) rfl rfl ?_ | refine oQ (Q_bin rfl rfl rfl) rfl rfl ?_
     refine oQ (Q_call0 (l01In_con _ _ _) rfl rfl rfl) rfl rfl ?_
     refine oQ (Q_not rfl) rfl rfl ?_
     refine oN ?_
     first | refine cT rfl ?_ | refine cF rfl ?_ | refine CW_cond rfl (fun hc => ?_) (fun hc => ?_)
     all_goals try simp only [s1, s2, s3, s4, s5, s6, s7, s8, s9, s10, s11, s12] at hc
     all_goals first
       | (
        refine CW_skip ?_)
       | (
        refine cR ?_
        refine oA rfl rfl ?_
        refine oN ?_
        refine CW_ret ?_)
     all_goals first
       | with_reducible refine tR ?_
       | with_reducible refine tE ?_
       | (
        with_reducible refine tN ?_
        refine cR ?_
        refine oM rfl rfl ?_
        refine oQ (Q_bin rfl rfl rfl) rfl rfl ?_
        refine oN ?_
        first | refine cT rfl ?_ | refine cF rfl ?_ | refine CW_cond rfl (fun hc => ?_) (fun hc => ?_)
        all_goals try simp only [s1, s2, s3, s4, s5, s6, s7, s8, s9, s10, s11, s12] at hc
        all_goals first
          | (
           refine CW_skip ?_)
          | (
           refine CW_region ?_
           iterate 2 refine oM rfl rfl ?_
           first | refine oQ (Is0 rfl rfl rfl rfl rfl rfl) rfl rfl ?_ | refine oQ (Is1 rfl rfl rfl rfl rfl rfl) rfl rfl ?_
           refine oQ (Ld rfl rfl rfl rfl) rfl rfl ?_
           refine oA rfl rfl ?_
           refine OW_nil ?_))
     all_goals first | with_reducible refine bN ?_ | with_reducible refine bE ?_ | with_reducible refine bR ?_ | refine bX rfl ?_
     all_goals first
       | with_reducible refine tR ?_
       | with_reducible refine tE ?_
       | (
        with_reducible refine tN ?_
        refine CW_region ?_
        refine oM rfl rfl ?_
        first | refine oQ (Q_binu rfl rfl rfl (by omega)) rfl rfl ?_ | refine oQ (Q_bin rfl rfl rfl) rfl rfl ?_
        refine oA rfl rfl ?_
        refine OW_nil ?_))
  all_goals first
    | with_reducible refine tR ?_
    | with_reducible refine tE ?_
    | (
     with_reducible refine tN ?_
     refine ⟨i + 1, ?_, ?_, View.mk' [] rfl rfl rfl ?_ ?_⟩
     · exact ⟨by omega, modB_snoc (by omega) hi2 (by simp_all) (by simp_all)⟩
     · omega
     all_goals (repeat' first | exact vFn | refine vFc rfl ?_ | exact vHn | refine vHc rfl ?_ | refine vFc (congrArg (fun z => some (V.int z)) ?_) ?_ | refine vHc (congrArg (fun z => some (Blk.ints _ z)) ?_) ?_ | refine vFc (congrArg (fun z => some (V.bool z)) ?_) ?_ | refine vFs rfl rfl ?_ ?_)
     all_goals (rw [fnz_take (by omega)]; simp_all))
  all_goals first | with_reducible refine bN ?_ | with_reducible refine bE ?_ | with_reducible refine bR ?_ | refine bX rfl ?_
  all_goals first
    | with_reducible refine tR ?_
    | with_reducible refine tE ?_
    | (
     with_reducible refine tN ?_
     refine cR ?_
     refine oM rfl rfl ?_
     refine oQ (Q_bin rfl rfl rfl) rfl rfl ?_
     refine oA rfl rfl ?_
     refine oN ?_
     refine CW_ret ?_)
  all_goals (
   refine exitQ (.inr rfl) 1 (.cons (.tmp rfl rfl) .nil) ?_ rfl (vHc rfl vHn) rfl rfl
   simp only [resV, V.bool.injEq]
   first | (rw [normB, modB_fail (by omega) (by omega) hc]; rfl) | (have e : i = n := (by omega); subst e; rw [normB, hi2]; rfl))
end Go.Proofs.Ytchikadcicecoaa
namespace Go.Proofs.Ytchikadcicecoaa
/-- the inverse of a number modulo p; 0 if it has none -/
def invN (p n : Int) : Nat := ((List.range p.toNat).find? fun (k : Nat) => n * (k : Int) % p == 1).getD 0
def invP (p n : Int) : Int := invN p n
theorem inv_zero (p : Int) : invP p 0 = 0 := by
  have : (List.range p.toNat).find? (fun (k : Nat) => (0 : Int) * (k : Int) % p == 1) = none := by
    rw [List.find?_eq_none]
    intro x _
    simp
  unfold invP invN
  rw [this]
  rfl
theorem small_cases {p n : Int} (hp : primeB p = true) (h0 : 0 < n) (h1 : n < p) : (p = 3 ∨ p = 5 ∨ p = 7 ∨ p = 11 ∨ p = 13) ∧ (n = 1 ∨ n = 2 ∨ n = 3 ∨ n = 4 ∨ n = 5 ∨ n = 6 ∨ n = 7 ∨ n = 8 ∨ n = 9 ∨ n = 10 ∨ n = 11 ∨ n = 12) := by
  have := prime_cases hp
  exact ⟨this, by omega⟩
theorem inv_un {p n : Int} (hp : primeB p = true) (h0 : 0 < n) (h1 : n < p) {k k' : Int} (a : 0 ≤ k) (b : k < p) (a' : 0 ≤ k') (b' : k' < p) (e : n * k % p = 1) (e' : n * k' % p = 1) : k = k' := by
  obtain ⟨hp, hn⟩ := small_cases hp h0 h1
  rcases hp with rfl | rfl | rfl | rfl | rfl <;> rcases hn with rfl | rfl | rfl | rfl | rfl | rfl | rfl | rfl | rfl | rfl | rfl | rfl <;> omega
theorem inv_ex {p n : Int} (hp : primeB p = true) (h0 : 0 < n) (h1 : n < p) : ∃ k : Nat, k < p.toNat ∧ n * (k : Int) % p = 1 := by
  obtain ⟨hp, hn⟩ := small_cases hp h0 h1
  rcases hp with rfl | rfl | rfl | rfl | rfl <;> rcases hn with rfl | rfl | rfl | rfl | rfl | rfl | rfl | rfl | rfl | rfl | rfl | rfl <;>
    first | (exfalso; omega) | exact ⟨1, by decide, by decide⟩ | exact ⟨2, by decide, by decide⟩ | exact ⟨3, by decide, by decide⟩ | exact ⟨4, by decide, by decide⟩ | exact ⟨5, by decide, by decide⟩ | exact ⟨6, by decide, by decide⟩ | exact ⟨7, by decide, by decide⟩ | exact ⟨8, by decide, by decide⟩ | exact ⟨9, by decide, by decide⟩ | exact ⟨10, by decide, by decide⟩ | exact ⟨11, by decide, by decide⟩ | exact ⟨12, by decide, by decide⟩
theorem inv_spec {p n : Int} (hp : primeB p = true) (h0 : 0 < n) (h1 : n < p) : 1 ≤ invP p n ∧ invP p n < p ∧ n * invP p n % p = 1 := by
  obtain ⟨k, hk1, hk2⟩ := inv_ex hp h0 h1
  have hb := prime_bd hp
  cases hf : (List.range p.toNat).find? (fun (k : Nat) => n * (k : Int) % p == 1) with
  | none =>
    rw [List.find?_eq_none] at hf
    have := hf k (by simpa using hk1)
    simp [hk2] at this
  | some j =>
    have h2 := List.find?_some hf
    have h3 := List.mem_of_find?_eq_some hf
    simp at h2 h3
    have e : invP p n = (j : Int) := by simp [invP, invN, hf]
    rw [e]
    refine ⟨?_, by omega, h2⟩
    have : (j : Int) ≠ 0 := fun h => by rw [h] at h2; simp at h2
    omega
theorem inv_is {p n k : Int} (hp : primeB p = true) (h0 : 0 < n) (h1 : n < p) (a : 0 ≤ k) (b : k < p) (e : n * k % p = 1) : invP p n = k := by
  have := inv_spec hp h0 h1
  exact inv_un hp h0 h1 (by omega) this.2.1 a b this.2.2 e
/-- the factor that makes a list normal: the inverse of its first number that is not 0 -/
def facP (p : Int) (l : List Int) : Int := invP p (fnz (l.map (· % p)))
def normL (p : Int) (l : List Int) : List Int := l.map fun n => n % p * facP p l % p
theorem normL_length (p : Int) (l : List Int) : (normL p l).length = l.length := by simp [normL]
theorem fnz_mem (l : List Int) : fnz l = 0 ∨ fnz l ∈ l := by
  induction l with
  | nil => simp [fnz]
  | cons a r ih =>
    simp only [fnz]
    split
    · rcases ih with h | h
      · exact .inl h
      · exact .inr (List.mem_cons_of_mem _ h)
    · exact .inr (by simp)
theorem fnz_bd {p : Int} (hp : 0 < p) (l : List Int) : 0 ≤ fnz (l.map (· % p)) ∧ fnz (l.map (· % p)) < p := by
  rcases fnz_mem (l.map (· % p)) with h | h
  · omega
  · obtain ⟨x, _, hx⟩ := List.mem_map.1 h
    have h1 := Int.emod_nonneg x (show p ≠ 0 by omega)
    have h2 := Int.emod_lt_of_pos x hp
    omega
theorem fac_bd {p : Int} (hp : primeB p = true) (l : List Int) : 0 ≤ facP p l ∧ facP p l < p := by
  have hb := prime_bd hp
  have hf := fnz_bd (p := p) (by omega) l
  by_cases h : fnz (l.map (· % p)) = 0
  · rw [facP, h, inv_zero]; omega
  · have := inv_spec hp (n := fnz (l.map (· % p))) (by omega) (by omega)
    simp only [facP]; omega
theorem fac_zero {p : Int} (hp : primeB p = true) (l : List Int) : facP p l = 0 ↔ fnz (l.map (· % p)) = 0 := by
  have hb := prime_bd hp
  have hf := fnz_bd (p := p) (by omega) l
  constructor
  · intro h
    by_cases h' : 0 < fnz (l.map (· % p))
    · have := inv_spec hp h' hf.2
      simp only [facP] at h; omega
    · omega
  · intro h; rw [facP, h, inv_zero]
theorem fac_snoc {p : Int} (hp : primeB p = true) (l : List Int) (x : Int) : facP p (l ++ [x]) = if facP p l = 0 then (if x % p = 0 then 0 else invP p (x % p)) else facP p l := by
  have h0 := fac_zero hp l
  have e : facP p (l ++ [x]) = invP p (if fnz (l.map (· % p)) = 0 then (if x % p = 0 then 0 else x % p) else fnz (l.map (· % p))) := by
    simp only [facP, List.map_append, List.map_cons, List.map_nil, fnz_append, fnz]
  rw [e]
  by_cases h : fnz (l.map (· % p)) = 0
  · rw [if_pos h, if_pos (h0.2 h)]
    split
    · exact inv_zero p
    · rfl
  · rw [if_neg h, if_neg fun e => h (h0.1 e)]
    rfl
theorem norm_snoc {p : Int} (hp : primeB p = true) (l : List Int) (x : Int) : normL p (l ++ [x]) = normL p l ++ [x % p * facP p (l ++ [x]) % p] := by
  simp only [normL, List.map_append, List.map_cons, List.map_nil]
  congr 1
  by_cases h : facP p l = 0
  · have hz := (fac_zero hp l).1 h
    have key : ∀ (m : List Int), fnz (m.map (· % p)) = 0 → ∀ n ∈ m, n % p = 0 := by
      intro m
      induction m with
      | nil => simp
      | cons a r ih =>
        intro h n hn
        simp only [List.map_cons, fnz] at h
        split at h
        · rename_i h'
          rcases List.mem_cons.1 hn with rfl | hn
          · exact h'
          · exact ih h n hn
        · rename_i h'; exact absurd h h'
    apply List.map_congr_left
    intro n hn
    simp [key l hz n hn]
  · rw [fac_snoc hp, if_neg h]
end Go.Proofs.Ytchikadcicecoaa
namespace Go.Proofs.Ytchikadcicecoaa
section
variable {c : Cx} {Q : Post} {F : Fr} {H : Hp} {n : Nat} {ops : Array Oper} {rest : List Oper} {d : Nat} {ty : TypeId} {pos : String} {af : Array Edge}
/-- append to a row of the call's own: the told part A, what is put behind it -/
theorem oApp {t t2 : TypeId} {ats : Array TypeId} {x y : Operand} {i i2 ie : TI} {e e2 sz b b' m k q q' by_ t' : Nat} {A sp xl : List Int}
    (hat : ats = #[t, t2]) (ht : lkT c.T t = some i) (hd : i.d = .slice e) (ht2 : lkT c.T t2 = some i2) (hd2 : i2.d = .slice e2) (he : lkT c.T e = some ie) (hz : ZI ie sz) (hby : ie.bytes = by_) (hb0 : Nat.blt 0 by_ = true)
    (hx : ev c F x = some (.slice b 0 m k)) (hy : ev c F y = some (.slice b' 0 q q')) (hb : lkB H b = some (.ints e (A ++ sp))) (hb' : lkB H b' = some (.ints t' xl)) (hA : A.length = m * sz) (hxl : xl.length = q * sz) (hroom : k * sz ≤ m * sz + sp.length) (hnk : m ≤ k)
    (hlim : (2 * (m + q) + 192) * by_ ≤ 281474976710656) (h63 : m + q ≤ 1000000000000) (hN : Nat.blt d c.N = true) (hn : Nat.blt n 1000 = true)
    (h : ∀ (k' : Nat) (sp' : List Int), m + q ≤ k' → k' * sz ≤ (m + q) * sz + sp'.length → OW c ops Q rest ⟨(d, .slice n 0 (m + q) k') :: F, (n, .ints e ((A ++ xl) ++ sp')) :: (b, .dead) :: H, n + 1⟩) :
    OW c ops Q (⟨some d, .call ⟨.builtin .append, #[x, y], ats⟩, ty, pos, af, none⟩ :: rest) ⟨F, H, n⟩ := by
  have hv : IsSl H sz (.slice b' 0 q q') q xl := by
    have := IsSl.mk (sz := sz) (k := q') hb' (show 0 + q * sz ≤ xl.length by omega)
    rwa [List.drop_zero, ← hxl, List.take_length] at this
  refine oAppOwn hat ht hd ht2 hd2 he hz hby hb0 hx hy hb hv (by rw [List.length_append, hA]; exact hroom) hnk hlim h63 hN hn fun k' spare h1 h2 => ?_
  have e1 : (A ++ sp).take (m * sz) = A := by rw [← hA]; simp
  rw [e1]
  exact h k' spare h1 h2
/-- one number of a written out list -/
theorem Q_ldc {s : S} {dst : Option Tmp} {g : Option (Nat × Bool)} {x : Operand} {t t' : TypeId} {i : TI} {b o : Nat} {l : List Int} {m : Int} (ht : lkT c.T t = some i) (hd : i.d = .int .i64) (hx : ev c s.F x = some (.ptr b o)) (hb : lkB s.H b = some (.ints t' l)) (h : l[o]? = some m) :
    QOp c ⟨dst, .load t x, ty, pos, af, g⟩ s (.int m) := by
  have hl : o < l.length := by
    rcases Nat.lt_or_ge o l.length with h' | h'
    · exact h'
    · rw [List.getElem?_eq_none h'] at h; cases h
  have := Q_ld (c := c) (s := s) (dst := dst) (ty := ty) (pos := pos) (af := af) (g := g) ht hd hx hb hl
  rwa [show l.getD o 0 = m by simp [List.getD, h]] at this
/-- the end of a function whose heap has turned -/
theorem exitH {s : S} {rs : List ResultVar} {R : V → Hp → Prop} {r0 : V} {H0 : Hp} {e : Exit} {vs : List V} (he : e = .normal ∨ e = .ret) (l : List (Nat × Nat)) (n' : Nat) (hvs : RVs c s rs vs) (hr : resV vs = ren (ap l) r0) (hn : nb r0 = true)
    (hD : (c.D.all fun d => Nat.beq (ap l d) d) = true) (hH : vH (ap l) s.H H0) (hwf : wfB c.D ⟨[(0, r0)], H0, n'⟩ = true) (hinj : injB (ap l) (ids H0) = true) (hR : R r0 H0) : exitP c rs R e s :=
  ⟨he, vs, r0, H0, n', hvs, View.mk' l hD hwf hinj ⟨by rw [← hr]; rfl, trivial⟩ hH, hn, hR⟩
/-- a call by a contract, the outcome written out -/
theorem oCall {f : Nat} {xs : List Operand} {ats : Array TypeId} {vs args0 : List V} {gl' : List (Nat × Nat)} {H0 : Hp} {R : V → Hp → Prop}
    (con : Con c.P gl' f args0 H0 R) (σ : List (Nat × Nat)) (M : Nat) (hx : evs c F xs = some vs) (hargs : vs = rens (ap σ) args0) (hfit : Fits c ⟨F, H, n⟩ (ap σ) gl' H0) (hM : Nat.ble (n + M) 1000 = true) (hN : Nat.blt d c.N = true)
    (h : ∀ r H1, R r H1 → ∃ v' Hn, scM H0 M r H1 = true ∧ ren (σ' H0 (ap σ) n) r = v' ∧ (H1.map fun x => (σ' H0 (ap σ) n x.1, x.2.ren (σ' H0 (ap σ) n))) = Hn ∧ OW c ops Q rest ⟨(d, v') :: F, Hn ++ H, n + M⟩) :
    OW c ops Q (⟨some d, .call ⟨.value (.func f), xs.toArray, ats⟩, ty, pos, af, none⟩ :: rest) ⟨F, H, n⟩ := by
  refine OW_call con σ M hx hargs hfit hM hN fun r H1 hR => ?_
  obtain ⟨v', Hn, h1, rfl, rfl, h2⟩ := h r H1 hR
  exact ⟨h1, h2⟩
end
theorem mul_bds {a b A B : Int} (h0 : -A ≤ a) (h1 : a ≤ A) (h2 : -B ≤ b) (h3 : b ≤ B) : -(A * B) ≤ a * b ∧ a * b ≤ A * B := by
  have hA : 0 ≤ A := by omega
  have hB : 0 ≤ B := by omega
  have e : (a * b).natAbs ≤ (A * B).natAbs := by
    rw [Int.natAbs_mul, Int.natAbs_mul]
    exact Nat.mul_le_mul (by omega) (by omega)
  have : 0 ≤ A * B := Int.mul_nonneg hA hB
  omega
section
variable {c : Cx} {Q : Post} {F : Fr} {H : Hp} {n : Nat} {ops : Array Oper} {rest : List Oper} {d : Nat} {ty : TypeId} {pos : String} {af : Array Edge} {K : S → Prop} {t t' : TypeId} {x y : Operand} {m k : Int}
/-- a product that stays in range, under a name of its own -/
theorem oMul (A B : Int) (hx : ev c F x = some (.int m)) (hy : ev c F y = some (.int k)) (ha : -A ≤ m ∧ m ≤ A) (hb : -B ≤ k ∧ k ≤ B) (hAB : A * B ≤ 9223372036854775807) (hN : Nat.blt d c.N = true)
    (h : ∀ z, z = m * k → -(A * B) ≤ z → z ≤ A * B → OW c ops Q rest ⟨(d, .int z) :: F, H, n⟩) : OW c ops Q (⟨some d, .binOp .mul t x y t', ty, pos, af, none⟩ :: rest) ⟨F, H, n⟩ := by
  have hm := mul_bds ha.1 ha.2 hb.1 hb.2
  exact oQ (Q_binu hx hy rfl (by omega)) hN rfl (h _ rfl hm.1 hm.2)
theorem oRem (hx : ev c F x = some (.int m)) (hy : ev c F y = some (.int k)) (hk : 0 < k) (hN : Nat.blt d c.N = true)
    (h : ∀ z, z = m.tmod k → -k < z → z < k → OW c ops Q rest ⟨(d, .int z) :: F, H, n⟩) : OW c ops Q (⟨some d, .binOp .rem t x y t', ty, pos, af, none⟩ :: rest) ⟨F, H, n⟩ := by
  have h1 := Int.tmod_lt_of_pos m hk
  have h2 := Int.lt_tmod_of_pos m hk
  exact oQ (Q_rem hx hy (by omega)) hN rfl (h _ rfl h2 h1)
theorem mulN_bds {a b A B : Int} (h0 : 0 ≤ a) (h1 : a ≤ A) (h2 : 0 ≤ b) (h3 : b ≤ B) : 0 ≤ a * b ∧ a * b ≤ A * B :=
  ⟨Int.mul_nonneg h0 h2, Int.mul_le_mul h1 h3 h2 (Int.le_trans h0 h1)⟩
theorem oMulN (A B : Int) (hx : ev c F x = some (.int m)) (hy : ev c F y = some (.int k)) (ha : 0 ≤ m ∧ m ≤ A) (hb : 0 ≤ k ∧ k ≤ B) (hAB : A * B ≤ 9223372036854775807) (hN : Nat.blt d c.N = true)
    (h : ∀ z, z = m * k → 0 ≤ z → z ≤ A * B → OW c ops Q rest ⟨(d, .int z) :: F, H, n⟩) : OW c ops Q (⟨some d, .binOp .mul t x y t', ty, pos, af, none⟩ :: rest) ⟨F, H, n⟩ := by
  have hm := mulN_bds ha.1 ha.2 hb.1 hb.2
  exact oQ (Q_binu hx hy rfl (by omega)) hN rfl (h _ rfl hm.1 hm.2)
theorem Q_nmul {dst : Option Tmp} {s : S} {g : Option (Nat × Bool)} {a b : Nat} (hx : ev c s.F x = some (.int (a : Int))) (hy : ev c s.F y = some (.int (b : Int))) (h : a * b ≤ 4611686018427387904) : QOp c ⟨dst, .binOp .mul t x y t', ty, pos, af, g⟩ s (.int ((a * b : Nat) : Int)) :=
  Q_binu hx hy (congrArg some (Int.natCast_mul a b).symm) (by omega)
theorem Q_nrem {dst : Option Tmp} {s : S} {g : Option (Nat × Bool)} {a b : Nat} (hx : ev c s.F x = some (.int (a : Int))) (hy : ev c s.F y = some (.int (b : Int))) (h : b ≠ 0) : QOp c ⟨dst, .binOp .rem t x y t', ty, pos, af, g⟩ s (.int ((a % b : Nat) : Int)) := by
  have := Q_rem (c := c) (s := s) (dst := dst) (ty := ty) (pos := pos) (af := af) (g := g) (t := t) (t' := t') hx hy (by omega)
  rwa [Int.tmod_eq_emod_of_nonneg (by omega), ← Int.natCast_emod] at this
theorem Q_nquo {dst : Option Tmp} {s : S} {g : Option (Nat × Bool)} {a b : Nat} (hx : ev c s.F x = some (.int (a : Int))) (hy : ev c s.F y = some (.int (b : Int))) (h : b ≠ 0) (ha : a ≤ 4611686018427387904) : QOp c ⟨dst, .binOp .quo t x y t', ty, pos, af, g⟩ s (.int ((a / b : Nat) : Int)) := by
  have := Q_quo (c := c) (s := s) (dst := dst) (ty := ty) (pos := pos) (af := af) (g := g) (t := t) (t' := t') hx hy (by omega)
  have key : ∀ q : Nat, q ≤ a → wr (q : Int) = (q : Int) := fun q hq => wr_in (by omega)
  rwa [Int.tdiv_eq_ediv_of_nonneg (by omega), ← Int.natCast_ediv, key _ (Nat.div_le_self a b)] at this
end
/-- the numbers of a product stay small -/
theorem mul_bd {a b A B : Int} (h0 : 0 ≤ a) (h1 : a ≤ A) (h2 : 0 ≤ b) (h3 : b ≤ B) : 0 ≤ a * b ∧ a * b ≤ A * B :=
  ⟨Int.mul_nonneg h0 h2, Int.mul_le_mul h1 h3 h2 (Int.le_trans h0 h1)⟩
theorem mul_rng {a b p : Int} (h0 : 0 ≤ a) (h1 : a < p) (h2 : 0 ≤ b) (h3 : b < p) (hp : p ≤ 1000000) : -9223372036854775808 ≤ a * b ∧ a * b ≤ 9223372036854775807 := by
  have := mul_bd h0 (show a ≤ 1000000 by omega) h2 (show b ≤ 1000000 by omega)
  omega
end Go.Proofs.Ytchikadcicecoaa
namespace Go.Proofs.Ytchikadcicecoaa
attribute [local irreducible] CW OW QW QOp Con thenP inBlockP
set_option maxRecDepth 10000
set_option linter.unusedSimpArgs false
set_option linter.unusedVariables false
theorem mod_bd {p : Int} (hp : primeB p = true) (x : Int) : 0 ≤ x % p ∧ x % p < p := by
  have := prime_bd hp
  exact ⟨Int.emod_nonneg x (by omega), Int.emod_lt_of_pos x (by omega)⟩
theorem invz_bd {p : Int} (hp : primeB p = true) {n : Int} (h0 : 0 ≤ n) (h1 : n < p) : 0 ≤ invP p n ∧ invP p n < p := by
  have hb := prime_bd hp
  by_cases h : n = 0
  · subst h; rw [inv_zero]; omega
  · have := inv_spec hp (n := n) (by omega) h1; omega
theorem mod_mod_self (p x : Int) : x % p % p = x % p := Int.emod_emod_of_dvd x (Int.dvd_refl p)
theorem inverse_con (n p : Int) (hp : primeB p = true) (h0 : 0 < n) (h1 : n < p) : ConQ Try.prog [] 47 [.int n, .int p] [] (.int (invP p n)) := by
  have hb := prime_bd hp
  obtain ⟨v1, v2, v3⟩ := inv_spec hp h0 h1
  refine conW tab_ok [(0, .int n), (1, .int p)] 0 [] [] Try.func47 rfl rfl rfl rfl rfl rfl rfl rfl rfl ?_
  refine cR ?_
  refine oA rfl rfl ?_
  refine oN ?_
  refine cR ?_
  refine oA rfl rfl ?_
  refine oN ?_
  refine CW_seq ?_
  refine CW_block ?_
  refine CW_loop (ι := Nat) (fun i => 1 ≤ i ∧ (i : Int) ≤ invP p n) (fun i => ⟨[(0, .int n), (1, .int p), (5, .int i)], [], 0⟩) (fun i => (invP p n).toNat - i) 1 ?_ ?_ ?_
  · exact ⟨Nat.le_refl _, by omega⟩
  · refine View.mk' [] rfl rfl rfl ?_ ?_
    repeat' first | exact vFn | refine vFc rfl ?_ | exact vHn | refine vHc rfl ?_ | refine vFc (congrArg (fun z => some (V.int z)) ?_) ?_ | refine vHc (congrArg (fun z => some (Blk.ints _ z)) ?_) ?_ | refine vFc (congrArg (fun z => some (V.bool z)) ?_) ?_ | refine vFs rfl rfl ?_ ?_
  intro i hi
  obtain ⟨hi1, hi2⟩ := hi
  refine CW_seq ?_
  refine cR ?_
  iterate 2 refine oM rfl rfl ?_
  refine oQ (Q_binu rfl rfl rfl (mul_rng (p := p) (by omega) (by omega) (by omega) (by omega) (by omega))) rfl rfl ?_
  refine oM rfl rfl ?_
  refine oQ (Q_call0 (mod_con _ _ (by omega) (by omega)) rfl rfl rfl) rfl rfl ?_
  refine oQ (Q_bin rfl rfl rfl) rfl rfl ?_
  refine oN ?_
  first | refine cT rfl ?_ | refine cF rfl ?_ | refine CW_cond rfl (fun hc => ?_) (fun hc => ?_)
  all_goals try simp only [s1, s2, s3, s4, s5, s6, s7, s8, s9, s10, s11, s12] at hc
  all_goals first
    | (
     refine CW_skip ?_)
    | (
     refine CW_exit ?_)
  all_goals first
    | with_reducible refine tR ?_
    | with_reducible refine tE ?_
    | (
     with_reducible refine tN ?_
     refine CW_block ?_
     refine CW_region ?_
     refine oM rfl rfl ?_
     first | refine oQ (Q_binu rfl rfl rfl (by omega)) rfl rfl ?_ | refine oQ (Q_bin rfl rfl rfl) rfl rfl ?_
     refine oA rfl rfl ?_
     refine OW_nil ?_
     all_goals first | with_reducible refine bN ?_ | with_reducible refine bE ?_ | with_reducible refine bR ?_ | refine bX rfl ?_)
  all_goals first
    | with_reducible refine tR ?_
    | with_reducible refine tE ?_
    | (
     with_reducible refine tN ?_
     refine ⟨i + 1, ?_, ?_, View.mk' [] rfl rfl rfl ?_ ?_⟩
     · have hne : (i : Int) ≠ invP p n := fun e => by rw [e] at hc; exact hc v3
       exact ⟨by omega, by omega⟩
     · (have hne : (i : Int) ≠ invP p n := (fun e => by rw [e] at hc; exact hc v3)); omega
     all_goals (repeat' first | exact vFn | refine vFc rfl ?_ | exact vHn | refine vHc rfl ?_ | refine vFc (congrArg (fun z => some (V.int z)) ?_) ?_ | refine vHc (congrArg (fun z => some (Blk.ints _ z)) ?_) ?_ | refine vFc (congrArg (fun z => some (V.bool z)) ?_) ?_ | refine vFs rfl rfl ?_ ?_))
  all_goals first | with_reducible refine bN ?_ | with_reducible refine bE ?_ | with_reducible refine bR ?_ | refine bX rfl ?_
  all_goals with_reducible refine tN ?_
  all_goals (
   refine cR ?_
   refine oM rfl rfl ?_
   refine oA rfl rfl ?_
   refine oN ?_
   refine CW_ret ?_)
  all_goals (
   refine exitQ (.inr rfl) 0 (.cons (.tmp rfl rfl) .nil) ?_ rfl vHn rfl rfl
   exact congrArg V.int (inv_is hp h0 h1 (by omega) (by omega) hc).symm)
theorem l01Inverse_con (n p : Int) (hp : primeB p = true) : ConQ Try.prog [] 41 [.int p, .int n] [] (.int (invP p (n % p))) := by
  have hb := prime_bd hp
  have hm := mod_bd hp n
  have hst : n % p = 0 ∨ ((1 : Nat) : Int) ≤ invP p (n % p) := by
    by_cases h0 : n % p = 0
    · exact .inl h0
    · have := inv_spec hp (n := n % p) (by omega) hm.2
      exact .inr (by omega)
  refine conW tab_ok [(0, .int p), (1, .int n)] 0 [] [] Try.func41 rfl rfl rfl rfl rfl rfl rfl rfl rfl ?_
  refine cR ?_
  refine oA rfl rfl ?_
  refine oN ?_
  refine CW_seq ?_
  refine cR ?_
  refine oA rfl rfl ?_
  refine oN ?_
  refine CW_block ?_
  refine CW_loop (ι := Nat) (fun i => 1 ≤ i ∧ (i : Int) ≤ p ∧ (n % p = 0 ∨ (i : Int) ≤ invP p (n % p))) (fun i => ⟨[(0, .int p), (1, .int n), (5, .int i)], [], 0⟩) (fun i => p.toNat - i) 1 ?_ ?_ ?_
  · exact ⟨Nat.le_refl _, by omega, hst⟩
  · refine View.mk' [] rfl rfl rfl ?_ ?_
    repeat' first | exact vFn | refine vFc rfl ?_ | exact vHn | refine vHc rfl ?_ | refine vFc (congrArg (fun z => some (V.int z)) ?_) ?_ | refine vHc (congrArg (fun z => some (Blk.ints _ z)) ?_) ?_ | refine vFc (congrArg (fun z => some (V.bool z)) ?_) ?_ | refine vFs rfl rfl ?_ ?_
  intro i hi
  obtain ⟨hi1, hi2, hi3⟩ := hi
  have hmr : (i : Int) < p → -9223372036854775808 ≤ (i : Int) * (n % p) ∧ (i : Int) * (n % p) ≤ 9223372036854775807 := fun h => mul_rng (by omega) h hm.1 hm.2 (by omega)
  have hm0 : 0 ≤ (i : Int) * (n % p) := Int.mul_nonneg (by omega) hm.1
  refine CW_seq ?_
  refine cR ?_
  iterate 2 refine oM rfl rfl ?_
  refine oQ (Q_bin rfl rfl rfl) rfl rfl ?_
  refine oN ?_
  first | refine cT rfl ?_ | refine cF rfl ?_ | refine CW_cond rfl (fun hc => ?_) (fun hc => ?_)
  all_goals try simp only [s1, s2, s3, s4, s5, s6, s7, s8, s9, s10, s11, s12] at hc
  all_goals first
    | (
     refine CW_skip ?_)
    | (
     refine CW_exit ?_)
  all_goals first
    | with_reducible refine tR ?_
    | with_reducible refine tE ?_
    | (
     with_reducible refine tN ?_
     refine CW_seq ?_
     refine CW_block ?_
     refine cR ?_
     iterate 3 refine oM rfl rfl ?_
     refine oQ (Q_call0 (l01Mod_con _ _ (by omega) (by omega)) rfl rfl rfl) rfl rfl ?_
     first | refine oQ (Q_binu rfl rfl rfl (by omega)) rfl rfl ?_ | refine oQ (Q_bin rfl rfl rfl) rfl rfl ?_
     refine oM rfl rfl ?_
     refine oQ (Q_rem rfl rfl (by omega)) rfl rfl ?_
     refine oQ (Q_bin rfl rfl rfl) rfl rfl ?_
     refine oN ?_
     first | refine cT rfl ?_ | refine cF rfl ?_ | refine CW_cond rfl (fun hc => ?_) (fun hc => ?_)
     all_goals try simp only [s1, s2, s3, s4, s5, s6, s7, s8, s9, s10, s11, s12] at hc
     all_goals first
       | (
        refine CW_skip ?_)
       | (
        refine cR ?_
        refine oM rfl rfl ?_
        refine oA rfl rfl ?_
        refine oN ?_
        refine CW_ret ?_)
     all_goals first | with_reducible refine bN ?_ | with_reducible refine bE ?_ | with_reducible refine bR ?_ | refine bX rfl ?_
     all_goals first
       | with_reducible refine tR ?_
       | with_reducible refine tE ?_
       | (
        with_reducible refine tN ?_
        refine CW_region ?_
        refine oM rfl rfl ?_
        first | refine oQ (Q_binu rfl rfl rfl (by omega)) rfl rfl ?_ | refine oQ (Q_bin rfl rfl rfl) rfl rfl ?_
        refine oA rfl rfl ?_
        refine OW_nil ?_))
  all_goals first
    | with_reducible refine tR ?_
    | with_reducible refine tE ?_
    | (
     with_reducible refine tN ?_
     refine ⟨i + 1, ?_, ?_, View.mk' [] rfl rfl rfl ?_ ?_⟩
     · refine ⟨by omega, by omega, ?_⟩
       rcases hi3 with h0 | h0
       · exact .inl h0
       · refine .inr ?_
         have hpos : 0 < n % p := by
           rcases Int.lt_trichotomy 0 (n % p) with h | h | h
           · exact h
           · rw [← h, inv_zero] at h0; omega
           · omega
         have v := inv_spec hp hpos hm.2
         have hne : (i : Int) ≠ invP p (n % p) := fun e => by apply hc; rw [Int.tmod_eq_emod_of_nonneg hm0, e, Int.mul_comm]; exact v.2.2
         omega
     · omega
     all_goals (repeat' first | exact vFn | refine vFc rfl ?_ | exact vHn | refine vHc rfl ?_ | refine vFc (congrArg (fun z => some (V.int z)) ?_) ?_ | refine vHc (congrArg (fun z => some (Blk.ints _ z)) ?_) ?_ | refine vFc (congrArg (fun z => some (V.bool z)) ?_) ?_ | refine vFs rfl rfl ?_ ?_))
  all_goals first | with_reducible refine bN ?_ | with_reducible refine bE ?_ | with_reducible refine bR ?_ | refine bX rfl ?_
  all_goals first
    | with_reducible refine tR ?_
    | with_reducible refine tE ?_
    | (
     with_reducible refine tN ?_
     refine cR ?_
     refine oA rfl rfl ?_
     refine oN ?_
     refine CW_ret ?_)
  all_goals (
   refine exitQ (.inr rfl) 0 (.cons (.tmp rfl rfl) .nil) ?_ rfl vHn rfl rfl
   refine congrArg V.int ?_
   by_cases h0 : n % p = 0
   · first
       | (rw [h0, inv_zero]; done)
       | (exfalso; rw [h0] at hc; simp at hc)
   · have v := inv_spec hp (n := n % p) (by omega) hm.2
     first
       | (exfalso; omega)
       | (rw [Int.tmod_eq_emod_of_nonneg hm0, Int.mul_comm] at hc
          exact (inv_is hp (n := n % p) (by omega) hm.2 (by omega) (by omega) hc).symm))
theorem fac_nil (p : Int) : facP p [] = 0 := by simp [facP, fnz, inv_zero]
theorem fac_step {p : Int} {L : List Int} {i : Nat} (hp : primeB p = true) (h : i < L.length) : facP p (L.take (i + 1)) = if facP p (L.take i) = 0 then (if L.getD i 0 % p = 0 then 0 else invP p (L.getD i 0 % p)) else facP p (L.take i) := by
  rw [take_snoc h, fac_snoc hp]
theorem l01Norm_con (p : Int) (t : TypeId) (L : List Int) (n k : Nat) (hn : n ≤ L.length) (hp : primeB p = true) (hL : n ≤ 1000000000) : Con Try.prog [] 49 [.int p, .slice 0 0 n k] [(0, .ints t L)]
    (fun r H' => ∃ k' sp, n ≤ k' ∧ k' ≤ n + sp.length ∧ r = .tuple [.slice 1 0 n k', .bool (facP p (L.take n) != 0)] ∧ H' = [(0, .ints t L), (1, .ints 2 (normL p (L.take n) ++ sp))]) := by
  have hb := prime_bd hp
  refine conW tab_ok [(0, .int p), (1, .slice 0 0 n k)] 1 [0] [0] Try.func49 rfl rfl rfl rfl rfl rfl rfl rfl rfl ?_
  refine cR ?_
  iterate 2 refine oA rfl rfl ?_
  refine oN ?_
  refine cR ?_
  refine oBsl (zl := []) rfl rfl rfl rfl (.inl ⟨rfl, rfl⟩) rfl rfl rfl rfl rfl rfl ?_
  iterate 2 refine oA rfl rfl ?_
  refine oN ?_
  refine CW_seq ?_
  refine cR ?_
  refine oA rfl rfl ?_
  refine oN ?_
  refine CW_block ?_
  refine CW_loop (ι := Nat × Nat × List Int) (fun x => x.1 ≤ n ∧ x.1 ≤ x.2.1 ∧ x.2.1 ≤ x.1 + x.2.2.length) (fun x => ⟨[(0, .int p), (1, .slice 0 0 n k), (6, .int (facP p (L.take x.1))), (7, .slice 1 0 x.1 x.2.1), (8, .int x.1)], [(0, .ints t L), (1, .ints 2 (normL p (L.take x.1) ++ x.2.2))], 2⟩) (fun x => n - x.1) (0, 0, []) ?_ ?_ ?_
  · exact ⟨Nat.zero_le _, Nat.le_refl _, Nat.le_refl _⟩
  · refine View.mk' [] rfl rfl rfl ?_ ?_
    repeat' first | exact vFn | refine vFc rfl ?_ | exact vHn | refine vHc rfl ?_ | refine vFc (congrArg (fun z => some (V.int z)) ?_) ?_ | refine vHc (congrArg (fun z => some (Blk.ints _ z)) ?_) ?_ | refine vFc (congrArg (fun z => some (V.bool z)) ?_) ?_ | refine vFs rfl rfl ?_ ?_
    exact (fac_nil p).symm
  rintro ⟨i, k', sp⟩ ⟨hi, hi2, hi3⟩
  dsimp only at hi hi2 hi3 ⊢
  have hfb := fac_bd hp (L.take i)
  have hxb := mod_bd hp (L.getD i 0)
  have hib := invz_bd hp hxb.1 hxb.2
  have hlen : (normL p (L.take i)).length = i * 1 := by rw [normL_length]; simp; omega
  refine CW_seq ?_
  refine cR ?_
  iterate 2 refine oM rfl rfl ?_
  first | refine oQ (Q_len rfl rfl rfl rfl) rfl rfl ?_ | refine oQ (Q_len0 rfl rfl rfl rfl) rfl rfl ?_
  refine oQ (Q_bin rfl rfl rfl) rfl rfl ?_
  refine oN ?_
  first | refine cT rfl ?_ | refine cF rfl ?_ | refine CW_cond rfl (fun hc => ?_) (fun hc => ?_)
  all_goals try simp only [s1, s2, s3, s4, s5, s6, s7, s8, s9, s10, s11, s12] at hc
  all_goals first
    | (
     refine CW_skip ?_)
    | (
     refine CW_exit ?_)
  all_goals first
    | with_reducible refine tR ?_
    | with_reducible refine tE ?_
    | (
     with_reducible refine tN ?_
     refine CW_seq ?_
     refine CW_block ?_
     refine cR ?_
     iterate 3 refine oM rfl rfl ?_
     first | refine oQ (Is0 rfl rfl rfl rfl rfl rfl) rfl rfl ?_ | refine oQ (Is1 rfl rfl rfl rfl rfl rfl) rfl rfl ?_
     refine oQ (Ld rfl rfl rfl rfl) rfl rfl ?_
     refine oQ (Q_call0 (l01Mod_con _ _ (by omega) (by omega)) rfl rfl rfl) rfl rfl ?_
     refine oA rfl rfl ?_
     refine oN ?_
     refine CW_seq ?_
     refine cR ?_
     refine oM rfl rfl ?_
     refine oQ (Q_bin rfl rfl rfl) rfl rfl ?_
     refine oM rfl rfl ?_
     all_goals first | refine oT rfl rfl ?_ | refine o1 rfl rfl rfl ?_ | refine o0 rfl rfl rfl ?_ | refine ogP1 rfl rfl rfl (fun hg => ?_) (fun hg => ?_) | refine ogP0 rfl rfl rfl (fun hg => ?_) (fun hg => ?_)
     all_goals try simp only [s1, s2, s3, s4, s5, s6, s7, s8, s9, s10, s11, s12] at hg
     all_goals first | (refine oM rfl rfl ?_) | skip
     all_goals first | refine oT rfl rfl ?_ | refine o1 rfl rfl rfl ?_ | refine o0 rfl rfl rfl ?_ | refine ogP1 rfl rfl rfl (fun hg => ?_) (fun hg => ?_) | refine ogP0 rfl rfl rfl (fun hg => ?_) (fun hg => ?_)
     all_goals try simp only [s1, s2, s3, s4, s5, s6, s7, s8, s9, s10, s11, s12] at hg
     all_goals first | (refine oQ (Q_bin rfl rfl rfl) rfl rfl ?_) | skip
     all_goals first | refine oQ (Q_pick_t rfl (by with_reducible rfl) rfl rfl) rfl rfl ?_ | refine oQ (Q_pick_f rfl (by with_reducible rfl) rfl rfl) rfl rfl ?_
     all_goals refine oN ?_
     all_goals (
      first | refine cT rfl ?_ | refine cF rfl ?_ | refine CW_cond rfl (fun hc => ?_) (fun hc => ?_)
      all_goals try simp only [s1, s2, s3, s4, s5, s6, s7, s8, s9, s10, s11, s12] at hc
      all_goals first
        | (
         refine CW_skip ?_)
        | (
         refine CW_region ?_
         iterate 2 refine oM rfl rfl ?_
         (have e9 := mod_mod_self p (L.getD i 0))
         refine oQ (Q_call0 (l01Inverse_con _ _ hp) rfl rfl rfl) rfl rfl ?_
         rw [e9]
         refine oA rfl rfl ?_
         refine OW_nil ?_))
     all_goals with_reducible refine tN ?_
     all_goals (
      refine CW_region ?_
      iterate 3 refine oM rfl rfl ?_
      refine oQ (Q_binu rfl rfl rfl (mul_rng (p := p) (by omega) (by omega) (by omega) (by omega) (by omega))) rfl rfl ?_
      refine oM rfl rfl ?_
      refine oQ (Q_rem rfl rfl (by omega)) rfl rfl ?_
      refine oBsl (zl := []) rfl rfl rfl rfl (.inl ⟨rfl, rfl⟩) rfl rfl rfl rfl rfl rfl ?_
      refine oApp (sz := 1) (by_ := 8) rfl rfl rfl rfl rfl rfl ⟨by decide, rfl, .inl ⟨rfl, rfl⟩⟩ rfl rfl rfl rfl rfl rfl hlen rfl (by omega) hi2 (by omega) (by omega) rfl rfl (fun k2 sp2 h1 h2 => ?_)
      refine oA rfl rfl ?_
      refine OW_nil ?_)
     all_goals first | with_reducible refine bN ?_ | with_reducible refine bE ?_ | with_reducible refine bR ?_ | refine bX rfl ?_
     all_goals with_reducible refine tN ?_
     all_goals (
      refine CW_region ?_
      refine oM rfl rfl ?_
      first | refine oQ (Q_binu rfl rfl rfl (by omega)) rfl rfl ?_ | refine oQ (Q_bin rfl rfl rfl) rfl rfl ?_
      refine oA rfl rfl ?_
      refine OW_nil ?_))
  all_goals first
    | with_reducible refine tR ?_
    | with_reducible refine tE ?_
    | (
     with_reducible refine tN ?_
     refine ⟨(i + 1, k2, sp2), ?_, ?_, View.mk' [(1, 3)] rfl rfl rfl ?_ ?_⟩
     · exact ⟨by omega, by simpa using h1, by simpa using h2⟩
     · omega
     all_goals (repeat' first | exact vFn | refine vFc rfl ?_ | exact vHn | refine vHc rfl ?_ | refine vFc (congrArg (fun z => some (V.int z)) ?_) ?_ | refine vHc (congrArg (fun z => some (Blk.ints _ z)) ?_) ?_ | refine vFc (congrArg (fun z => some (V.bool z)) ?_) ?_ | refine vFs rfl rfl ?_ ?_)
     all_goals (have hfs := fac_step hp (L := L) (i := i) (by omega))
     all_goals first | (refine congrArg (fun z => z ++ sp2) ?_; rw [take_snoc (show i < L.length by omega), norm_snoc hp, ← take_snoc (show i < L.length by omega), Int.tmod_eq_emod_of_nonneg (Int.mul_nonneg (by omega) (by omega))]; congr 4; simp_all; done) | (simp_all; done))
  all_goals first | with_reducible refine bN ?_ | with_reducible refine bE ?_ | with_reducible refine bR ?_ | refine bX rfl ?_
  all_goals with_reducible refine tN ?_
  all_goals (
   refine cR ?_
   iterate 2 refine oM rfl rfl ?_
   refine oQ (Q_bin rfl rfl rfl) rfl rfl ?_
   iterate 2 refine oA rfl rfl ?_
   refine oN ?_
   refine CW_ret ?_)
  all_goals (
   have e : i = n := by omega
   subst e
   exact exitH (.inr rfl) [] 2 (.cons (.tmp rfl rfl) (.cons (.tmp rfl rfl) .nil)) rfl rfl rfl (vHc rfl (vHc rfl vHn)) rfl rfl ⟨k', sp, hi2, hi3, rfl, rfl⟩)
end Go.Proofs.Ytchikadcicecoaa
namespace Go.Proofs.Ytchikadcicecoaa
attribute [local irreducible] CW OW QW QOp Con thenP inBlockP
set_option maxRecDepth 10000
set_option linter.unusedSimpArgs false
set_option linter.unusedVariables false
theorem mod_list {p : Int} {l : List Int} (h : modB p l = true) : ∀ x ∈ l, 0 ≤ x ∧ x < p := by
  intro x hx
  have := List.all_eq_true.1 h x hx
  simp at this
  omega
theorem norm_list {p : Int} {l : List Int} (h : normB p l = true) : ∀ x ∈ l, 0 ≤ x ∧ x < p := by
  simp only [normB, Bool.and_eq_true] at h
  exact mod_list h.1
theorem all_snoc {f : Int → Bool} {l : List Int} {i : Nat} (hi : i < l.length) (h : (l.take i).all f = true) (h1 : f (l.getD i 0) = true) : (l.take (i + 1)).all f = true := by
  rw [take_snoc hi, List.all_append, h]
  simpa using h1
theorem all_fail {f : Int → Bool} {l : List Int} {i n : Nat} (hi : i < l.length) (hn : i < n) (h : f (l.getD i 0) = false) : (l.take n).all f = false := by
  rw [List.all_eq_false]
  refine ⟨l.getD i 0, ?_, by rw [h]; simp⟩
  rw [List.mem_take_iff_getElem]
  exact ⟨i, by omega, by simp [List.getD, hi]⟩
/-- element number i of a list of arrays -/
abbrev elemAt (sz : Nat) (M : List Int) (i : Nat) : List Int := (M.drop (i * sz)).take sz
theorem elemAt_length {sz : Nat} {M : List Int} {i k : Nat} (h : k * sz ≤ M.length) (hi : i < k) : (elemAt sz M i).length = sz := by
  have : (i + 1) * sz ≤ k * sz := Nat.mul_le_mul_right sz hi
  rw [Nat.add_mul] at this
  simp; omega
def anyF (g : List Int → Bool) (sz : Nat) (M : List Int) (k : Nat) : Bool := (List.range k).any fun i => g (elemAt sz M i)
end Go.Proofs.Ytchikadcicecoaa
namespace Go.Proofs.Ytchikadcicecoaa
attribute [local irreducible] CW OW QW QOp Con thenP inBlockP
set_option maxRecDepth 10000
set_option linter.unusedSimpArgs false
set_option linter.unusedVariables false
/-- four numbers are a Moebius map modulo a prime -/
def moebB (p : Int) (m : List Int) : Bool := normB p m && ((m.getD 0 0 * m.getD 3 0 - m.getD 1 0 * m.getD 2 0) % p != 0)
theorem isMoebius_con (p a b c d : Int) (hp : primeB p = true) : ConQ Try.prog [] 35 [.int p, .arr [a, b, c, d]] [] (.bool (moebB p [a, b, c, d])) := by
  have hpb := prime_bd hp
  refine conW tab_ok [(0, .int p), (1, .arr [a, b, c, d])] 0 [] [] Try.func35 rfl rfl rfl rfl rfl rfl rfl rfl rfl ?_
  refine cR ?_
  refine oBox rfl rfl rfl rfl rfl rfl ?_
  refine oA rfl rfl ?_
  refine oN ?_
  refine cR ?_
  refine oM rfl rfl ?_
  refine oQ (Q_slaF rfl rfl rfl rfl) rfl rfl ?_
  refine oQ (Q_call (isNormal_con p 23 [a, b, c, d] 4 4 (Nat.le_refl _) (by omega) (by decide)) [] rfl rfl (Fits.mk' (vHc rfl vHn) rfl rfl (by simp)) rfl rfl) rfl rfl ?_
  refine oM rfl rfl ?_
  all_goals first | refine oT rfl rfl ?_ | refine o1 rfl rfl rfl ?_ | refine o0 rfl rfl rfl ?_ | refine ogP1 rfl rfl rfl (fun hg => ?_) (fun hg => ?_) | refine ogP0 rfl rfl rfl (fun hg => ?_) (fun hg => ?_)
  all_goals try simp only [s1, s2, s3, s4, s5, s6, s7, s8, s9, s10, s11, s12] at hg
  all_goals first | ((have hN := norm_list (l := [a, b, c, d]) hg); (have ha := hN a (by simp)); (have hb := hN b (by simp)); (have hc := hN c (by simp)); (have hd := hN d (by simp)); refine oQ (Q_ixa0 rfl rfl rfl rfl rfl rfl (by first | omega | (dsimp only; omega) | (simp; omega) | (simp; done))) rfl rfl ?_) | skip
  all_goals first | refine oT rfl rfl ?_ | refine o1 rfl rfl rfl ?_ | refine o0 rfl rfl rfl ?_ | refine ogP1 rfl rfl rfl (fun hg => ?_) (fun hg => ?_) | refine ogP0 rfl rfl rfl (fun hg => ?_) (fun hg => ?_)
  all_goals try simp only [s1, s2, s3, s4, s5, s6, s7, s8, s9, s10, s11, s12] at hg
  all_goals first | refine oQ (Q_ldc rfl rfl rfl rfl rfl) rfl rfl ?_ | refine oQ (Ld rfl rfl rfl rfl) rfl rfl ?_ | skip
  all_goals first | refine oT rfl rfl ?_ | refine o1 rfl rfl rfl ?_ | refine o0 rfl rfl rfl ?_ | refine ogP1 rfl rfl rfl (fun hg => ?_) (fun hg => ?_) | refine ogP0 rfl rfl rfl (fun hg => ?_) (fun hg => ?_)
  all_goals try simp only [s1, s2, s3, s4, s5, s6, s7, s8, s9, s10, s11, s12] at hg
  all_goals first | refine oQ (Ia0 rfl rfl rfl rfl rfl rfl) rfl rfl ?_ | refine oQ (Ia1 rfl rfl rfl rfl rfl rfl) rfl rfl ?_ | skip
  all_goals first | refine oT rfl rfl ?_ | refine o1 rfl rfl rfl ?_ | refine o0 rfl rfl rfl ?_ | refine ogP1 rfl rfl rfl (fun hg => ?_) (fun hg => ?_) | refine ogP0 rfl rfl rfl (fun hg => ?_) (fun hg => ?_)
  all_goals try simp only [s1, s2, s3, s4, s5, s6, s7, s8, s9, s10, s11, s12] at hg
  all_goals first | refine oQ (Q_ldc rfl rfl rfl rfl rfl) rfl rfl ?_ | refine oQ (Ld rfl rfl rfl rfl) rfl rfl ?_ | skip
  all_goals first | refine oT rfl rfl ?_ | refine o1 rfl rfl rfl ?_ | refine o0 rfl rfl rfl ?_ | refine ogP1 rfl rfl rfl (fun hg => ?_) (fun hg => ?_) | refine ogP0 rfl rfl rfl (fun hg => ?_) (fun hg => ?_)
  all_goals try simp only [s1, s2, s3, s4, s5, s6, s7, s8, s9, s10, s11, s12] at hg
  all_goals first | (refine oMul 12 12 rfl rfl (by omega) (by omega) (by decide) rfl (fun z13 hz13 hl13 hu13 => ?_)) | skip
  all_goals first | refine oT rfl rfl ?_ | refine o1 rfl rfl rfl ?_ | refine o0 rfl rfl rfl ?_ | refine ogP1 rfl rfl rfl (fun hg => ?_) (fun hg => ?_) | refine ogP0 rfl rfl rfl (fun hg => ?_) (fun hg => ?_)
  all_goals try simp only [s1, s2, s3, s4, s5, s6, s7, s8, s9, s10, s11, s12] at hg
  all_goals first | refine oQ (Ia0 rfl rfl rfl rfl rfl rfl) rfl rfl ?_ | refine oQ (Ia1 rfl rfl rfl rfl rfl rfl) rfl rfl ?_ | skip
  all_goals first | refine oT rfl rfl ?_ | refine o1 rfl rfl rfl ?_ | refine o0 rfl rfl rfl ?_ | refine ogP1 rfl rfl rfl (fun hg => ?_) (fun hg => ?_) | refine ogP0 rfl rfl rfl (fun hg => ?_) (fun hg => ?_)
  all_goals try simp only [s1, s2, s3, s4, s5, s6, s7, s8, s9, s10, s11, s12] at hg
  all_goals first | refine oQ (Q_ldc rfl rfl rfl rfl rfl) rfl rfl ?_ | refine oQ (Ld rfl rfl rfl rfl) rfl rfl ?_ | skip
  all_goals first | refine oT rfl rfl ?_ | refine o1 rfl rfl rfl ?_ | refine o0 rfl rfl rfl ?_ | refine ogP1 rfl rfl rfl (fun hg => ?_) (fun hg => ?_) | refine ogP0 rfl rfl rfl (fun hg => ?_) (fun hg => ?_)
  all_goals try simp only [s1, s2, s3, s4, s5, s6, s7, s8, s9, s10, s11, s12] at hg
  all_goals first | refine oQ (Ia0 rfl rfl rfl rfl rfl rfl) rfl rfl ?_ | refine oQ (Ia1 rfl rfl rfl rfl rfl rfl) rfl rfl ?_ | skip
  all_goals first | refine oT rfl rfl ?_ | refine o1 rfl rfl rfl ?_ | refine o0 rfl rfl rfl ?_ | refine ogP1 rfl rfl rfl (fun hg => ?_) (fun hg => ?_) | refine ogP0 rfl rfl rfl (fun hg => ?_) (fun hg => ?_)
  all_goals try simp only [s1, s2, s3, s4, s5, s6, s7, s8, s9, s10, s11, s12] at hg
  all_goals first | refine oQ (Q_ldc rfl rfl rfl rfl rfl) rfl rfl ?_ | refine oQ (Ld rfl rfl rfl rfl) rfl rfl ?_ | skip
  all_goals first | refine oT rfl rfl ?_ | refine o1 rfl rfl rfl ?_ | refine o0 rfl rfl rfl ?_ | refine ogP1 rfl rfl rfl (fun hg => ?_) (fun hg => ?_) | refine ogP0 rfl rfl rfl (fun hg => ?_) (fun hg => ?_)
  all_goals try simp only [s1, s2, s3, s4, s5, s6, s7, s8, s9, s10, s11, s12] at hg
  all_goals first | (refine oMul 12 12 rfl rfl (by omega) (by omega) (by decide) rfl (fun z18 hz18 hl18 hu18 => ?_)) | skip
  all_goals first | refine oT rfl rfl ?_ | refine o1 rfl rfl rfl ?_ | refine o0 rfl rfl rfl ?_ | refine ogP1 rfl rfl rfl (fun hg => ?_) (fun hg => ?_) | refine ogP0 rfl rfl rfl (fun hg => ?_) (fun hg => ?_)
  all_goals try simp only [s1, s2, s3, s4, s5, s6, s7, s8, s9, s10, s11, s12] at hg
  all_goals first | refine oQ (Q_binu rfl rfl rfl (by omega)) rfl rfl ?_ | refine oQ (Q_bin rfl rfl rfl) rfl rfl ?_ | skip
  all_goals first | refine oT rfl rfl ?_ | refine o1 rfl rfl rfl ?_ | refine o0 rfl rfl rfl ?_ | refine ogP1 rfl rfl rfl (fun hg => ?_) (fun hg => ?_) | refine ogP0 rfl rfl rfl (fun hg => ?_) (fun hg => ?_)
  all_goals try simp only [s1, s2, s3, s4, s5, s6, s7, s8, s9, s10, s11, s12] at hg
  all_goals first | (refine oM rfl rfl ?_) | skip
  all_goals first | refine oT rfl rfl ?_ | refine o1 rfl rfl rfl ?_ | refine o0 rfl rfl rfl ?_ | refine ogP1 rfl rfl rfl (fun hg => ?_) (fun hg => ?_) | refine ogP0 rfl rfl rfl (fun hg => ?_) (fun hg => ?_)
  all_goals try simp only [s1, s2, s3, s4, s5, s6, s7, s8, s9, s10, s11, s12] at hg
  all_goals first | (refine oQ (Q_call0 (mod_con _ _ (by omega) (by omega)) rfl rfl rfl) rfl rfl ?_) | skip
  all_goals first | refine oT rfl rfl ?_ | refine o1 rfl rfl rfl ?_ | refine o0 rfl rfl rfl ?_ | refine ogP1 rfl rfl rfl (fun hg => ?_) (fun hg => ?_) | refine ogP0 rfl rfl rfl (fun hg => ?_) (fun hg => ?_)
  all_goals try simp only [s1, s2, s3, s4, s5, s6, s7, s8, s9, s10, s11, s12] at hg
  all_goals first | (refine oQ (Q_bin rfl rfl rfl) rfl rfl ?_) | skip
  all_goals first | refine oQ (Q_pick_t rfl (by with_reducible rfl) rfl rfl) rfl rfl ?_ | refine oQ (Q_pick_f rfl (by with_reducible rfl) rfl rfl) rfl rfl ?_
  all_goals first | (refine oA rfl rfl ?_)
  all_goals refine oN ?_
  all_goals (
   refine CW_ret ?_)
  all_goals (
   refine exitQ (.inr rfl) 0 (.cons (.tmp rfl rfl) .nil) ?_ rfl vHn rfl rfl
   first
     | (subst hz13 hz18; (have hg' : normB p [a, b, c, d] = true := hg); simp [resV, moebB, hg']; done)
     | ((have hg' : normB p [a, b, c, d] = false := hg); simp [resV, moebB, hg']))
theorem l05Is_con (p a b c d : Int) : ConQ Try.prog [] 31 [.int p, .arr [a, b, c, d]] [] (.bool (primeB p && moebB p [a, b, c, d])) := by
  refine conW tab_ok [(0, .int p), (1, .arr [a, b, c, d])] 0 [] [] Try.func31 rfl rfl rfl rfl rfl rfl rfl rfl rfl ?_
  refine cR ?_
  refine oBox rfl rfl rfl rfl rfl rfl ?_
  refine oA rfl rfl ?_
  refine oN ?_
  refine cR ?_
  refine oM rfl rfl ?_
  refine oQ (Q_call0 (l01Prime_con _) rfl rfl rfl) rfl rfl ?_
  refine oM rfl rfl ?_
  all_goals first | refine oT rfl rfl ?_ | refine o1 rfl rfl rfl ?_ | refine o0 rfl rfl rfl ?_ | refine ogP1 rfl rfl rfl (fun hg => ?_) (fun hg => ?_) | refine ogP0 rfl rfl rfl (fun hg => ?_) (fun hg => ?_)
  all_goals try simp only [s1, s2, s3, s4, s5, s6, s7, s8, s9, s10, s11, s12] at hg
  all_goals first | (refine oM rfl rfl ?_) | skip
  all_goals first | refine oT rfl rfl ?_ | refine o1 rfl rfl rfl ?_ | refine o0 rfl rfl rfl ?_ | refine ogP1 rfl rfl rfl (fun hg => ?_) (fun hg => ?_) | refine ogP0 rfl rfl rfl (fun hg => ?_) (fun hg => ?_)
  all_goals try simp only [s1, s2, s3, s4, s5, s6, s7, s8, s9, s10, s11, s12] at hg
  all_goals first | refine oQ (Ia0 rfl rfl rfl rfl rfl rfl) rfl rfl ?_ | refine oQ (Ia1 rfl rfl rfl rfl rfl rfl) rfl rfl ?_ | skip
  all_goals first | refine oT rfl rfl ?_ | refine o1 rfl rfl rfl ?_ | refine o0 rfl rfl rfl ?_ | refine ogP1 rfl rfl rfl (fun hg => ?_) (fun hg => ?_) | refine ogP0 rfl rfl rfl (fun hg => ?_) (fun hg => ?_)
  all_goals try simp only [s1, s2, s3, s4, s5, s6, s7, s8, s9, s10, s11, s12] at hg
  all_goals first | refine oQ (Q_ldc rfl rfl rfl rfl rfl) rfl rfl ?_ | refine oQ (Ld rfl rfl rfl rfl) rfl rfl ?_ | skip
  all_goals first | refine oT rfl rfl ?_ | refine o1 rfl rfl rfl ?_ | refine o0 rfl rfl rfl ?_ | refine ogP1 rfl rfl rfl (fun hg => ?_) (fun hg => ?_) | refine ogP0 rfl rfl rfl (fun hg => ?_) (fun hg => ?_)
  all_goals try simp only [s1, s2, s3, s4, s5, s6, s7, s8, s9, s10, s11, s12] at hg
  all_goals first | refine oQ (Ia0 rfl rfl rfl rfl rfl rfl) rfl rfl ?_ | refine oQ (Ia1 rfl rfl rfl rfl rfl rfl) rfl rfl ?_ | skip
  all_goals first | refine oT rfl rfl ?_ | refine o1 rfl rfl rfl ?_ | refine o0 rfl rfl rfl ?_ | refine ogP1 rfl rfl rfl (fun hg => ?_) (fun hg => ?_) | refine ogP0 rfl rfl rfl (fun hg => ?_) (fun hg => ?_)
  all_goals try simp only [s1, s2, s3, s4, s5, s6, s7, s8, s9, s10, s11, s12] at hg
  all_goals first | refine oQ (Q_ldc rfl rfl rfl rfl rfl) rfl rfl ?_ | refine oQ (Ld rfl rfl rfl rfl) rfl rfl ?_ | skip
  all_goals first | refine oT rfl rfl ?_ | refine o1 rfl rfl rfl ?_ | refine o0 rfl rfl rfl ?_ | refine ogP1 rfl rfl rfl (fun hg => ?_) (fun hg => ?_) | refine ogP0 rfl rfl rfl (fun hg => ?_) (fun hg => ?_)
  all_goals try simp only [s1, s2, s3, s4, s5, s6, s7, s8, s9, s10, s11, s12] at hg
  all_goals first | refine oQ (Ia0 rfl rfl rfl rfl rfl rfl) rfl rfl ?_ | refine oQ (Ia1 rfl rfl rfl rfl rfl rfl) rfl rfl ?_ | skip
  all_goals first | refine oT rfl rfl ?_ | refine o1 rfl rfl rfl ?_ | refine o0 rfl rfl rfl ?_ | refine ogP1 rfl rfl rfl (fun hg => ?_) (fun hg => ?_) | refine ogP0 rfl rfl rfl (fun hg => ?_) (fun hg => ?_)
  all_goals try simp only [s1, s2, s3, s4, s5, s6, s7, s8, s9, s10, s11, s12] at hg
  all_goals first | refine oQ (Q_ldc rfl rfl rfl rfl rfl) rfl rfl ?_ | refine oQ (Ld rfl rfl rfl rfl) rfl rfl ?_ | skip
  all_goals first | refine oT rfl rfl ?_ | refine o1 rfl rfl rfl ?_ | refine o0 rfl rfl rfl ?_ | refine ogP1 rfl rfl rfl (fun hg => ?_) (fun hg => ?_) | refine ogP0 rfl rfl rfl (fun hg => ?_) (fun hg => ?_)
  all_goals try simp only [s1, s2, s3, s4, s5, s6, s7, s8, s9, s10, s11, s12] at hg
  all_goals first | refine oQ (Ia0 rfl rfl rfl rfl rfl rfl) rfl rfl ?_ | refine oQ (Ia1 rfl rfl rfl rfl rfl rfl) rfl rfl ?_ | skip
  all_goals first | refine oT rfl rfl ?_ | refine o1 rfl rfl rfl ?_ | refine o0 rfl rfl rfl ?_ | refine ogP1 rfl rfl rfl (fun hg => ?_) (fun hg => ?_) | refine ogP0 rfl rfl rfl (fun hg => ?_) (fun hg => ?_)
  all_goals try simp only [s1, s2, s3, s4, s5, s6, s7, s8, s9, s10, s11, s12] at hg
  all_goals first | refine oQ (Q_ldc rfl rfl rfl rfl rfl) rfl rfl ?_ | refine oQ (Ld rfl rfl rfl rfl) rfl rfl ?_ | skip
  all_goals first | refine oT rfl rfl ?_ | refine o1 rfl rfl rfl ?_ | refine o0 rfl rfl rfl ?_ | refine ogP1 rfl rfl rfl (fun hg => ?_) (fun hg => ?_) | refine ogP0 rfl rfl rfl (fun hg => ?_) (fun hg => ?_)
  all_goals try simp only [s1, s2, s3, s4, s5, s6, s7, s8, s9, s10, s11, s12] at hg
  all_goals first | (refine oBsl (zl := []) rfl rfl rfl rfl (.inl ⟨rfl, rfl⟩) rfl rfl rfl rfl rfl rfl ?_) | skip
  all_goals first | refine oT rfl rfl ?_ | refine o1 rfl rfl rfl ?_ | refine o0 rfl rfl rfl ?_ | refine ogP1 rfl rfl rfl (fun hg => ?_) (fun hg => ?_) | refine ogP0 rfl rfl rfl (fun hg => ?_) (fun hg => ?_)
  all_goals try simp only [s1, s2, s3, s4, s5, s6, s7, s8, s9, s10, s11, s12] at hg
  all_goals first | ((have hb := prime_bd hg); refine oQ (Q_call (l01Normal_con p 2 [a, b, c, d] 4 4 (Nat.le_refl _) (by omega) (by decide)) [(0, 1)] rfl rfl (Fits.mk' (vHc rfl vHn) rfl rfl (by simp)) rfl rfl) rfl rfl ?_) | skip
  all_goals first | refine oQ (Q_pick_t rfl (by with_reducible rfl) rfl rfl) rfl rfl ?_ | refine oQ (Q_pick_f rfl (by with_reducible rfl) rfl rfl) rfl rfl ?_
  all_goals first | (refine oM rfl rfl ?_)
  all_goals first | refine oT rfl rfl ?_ | refine o1 rfl rfl rfl ?_ | refine o0 rfl rfl rfl ?_ | refine ogP1 rfl rfl rfl (fun hg => ?_) (fun hg => ?_) | refine ogP0 rfl rfl rfl (fun hg => ?_) (fun hg => ?_)
  all_goals try simp only [s1, s2, s3, s4, s5, s6, s7, s8, s9, s10, s11, s12] at hg
  all_goals first | ((have hN := norm_list (l := [a, b, c, d]) hg); (have ha := hN a (by simp)); (have hb' := hN b (by simp)); (have hc := hN c (by simp)); (have hd := hN d (by simp)); refine oQ (Q_move rfl rfl) rfl rfl ?_) | skip
  all_goals first | refine oT rfl rfl ?_ | refine o1 rfl rfl rfl ?_ | refine o0 rfl rfl rfl ?_ | refine ogP1 rfl rfl rfl (fun hg => ?_) (fun hg => ?_) | refine ogP0 rfl rfl rfl (fun hg => ?_) (fun hg => ?_)
  all_goals try simp only [s1, s2, s3, s4, s5, s6, s7, s8, s9, s10, s11, s12] at hg
  all_goals first | refine oQ (Ia0 rfl rfl rfl rfl rfl rfl) rfl rfl ?_ | refine oQ (Ia1 rfl rfl rfl rfl rfl rfl) rfl rfl ?_ | skip
  all_goals first | refine oT rfl rfl ?_ | refine o1 rfl rfl rfl ?_ | refine o0 rfl rfl rfl ?_ | refine ogP1 rfl rfl rfl (fun hg => ?_) (fun hg => ?_) | refine ogP0 rfl rfl rfl (fun hg => ?_) (fun hg => ?_)
  all_goals try simp only [s1, s2, s3, s4, s5, s6, s7, s8, s9, s10, s11, s12] at hg
  all_goals first | refine oQ (Q_ldc rfl rfl rfl rfl rfl) rfl rfl ?_ | refine oQ (Ld rfl rfl rfl rfl) rfl rfl ?_ | skip
  all_goals first | refine oT rfl rfl ?_ | refine o1 rfl rfl rfl ?_ | refine o0 rfl rfl rfl ?_ | refine ogP1 rfl rfl rfl (fun hg => ?_) (fun hg => ?_) | refine ogP0 rfl rfl rfl (fun hg => ?_) (fun hg => ?_)
  all_goals try simp only [s1, s2, s3, s4, s5, s6, s7, s8, s9, s10, s11, s12] at hg
  all_goals first | refine oQ (Ia0 rfl rfl rfl rfl rfl rfl) rfl rfl ?_ | refine oQ (Ia1 rfl rfl rfl rfl rfl rfl) rfl rfl ?_ | skip
  all_goals first | refine oT rfl rfl ?_ | refine o1 rfl rfl rfl ?_ | refine o0 rfl rfl rfl ?_ | refine ogP1 rfl rfl rfl (fun hg => ?_) (fun hg => ?_) | refine ogP0 rfl rfl rfl (fun hg => ?_) (fun hg => ?_)
  all_goals try simp only [s1, s2, s3, s4, s5, s6, s7, s8, s9, s10, s11, s12] at hg
  all_goals first | refine oQ (Q_ldc rfl rfl rfl rfl rfl) rfl rfl ?_ | refine oQ (Ld rfl rfl rfl rfl) rfl rfl ?_ | skip
  all_goals first | refine oT rfl rfl ?_ | refine o1 rfl rfl rfl ?_ | refine o0 rfl rfl rfl ?_ | refine ogP1 rfl rfl rfl (fun hg => ?_) (fun hg => ?_) | refine ogP0 rfl rfl rfl (fun hg => ?_) (fun hg => ?_)
  all_goals try simp only [s1, s2, s3, s4, s5, s6, s7, s8, s9, s10, s11, s12] at hg
  all_goals first | (refine oMul 12 12 rfl rfl (by omega) (by omega) (by decide) rfl (fun z26 hz26 hl26 hu26 => ?_)) | skip
  all_goals first | refine oT rfl rfl ?_ | refine o1 rfl rfl rfl ?_ | refine o0 rfl rfl rfl ?_ | refine ogP1 rfl rfl rfl (fun hg => ?_) (fun hg => ?_) | refine ogP0 rfl rfl rfl (fun hg => ?_) (fun hg => ?_)
  all_goals try simp only [s1, s2, s3, s4, s5, s6, s7, s8, s9, s10, s11, s12] at hg
  all_goals first | refine oQ (Ia0 rfl rfl rfl rfl rfl rfl) rfl rfl ?_ | refine oQ (Ia1 rfl rfl rfl rfl rfl rfl) rfl rfl ?_ | skip
  all_goals first | refine oT rfl rfl ?_ | refine o1 rfl rfl rfl ?_ | refine o0 rfl rfl rfl ?_ | refine ogP1 rfl rfl rfl (fun hg => ?_) (fun hg => ?_) | refine ogP0 rfl rfl rfl (fun hg => ?_) (fun hg => ?_)
  all_goals try simp only [s1, s2, s3, s4, s5, s6, s7, s8, s9, s10, s11, s12] at hg
  all_goals first | refine oQ (Q_ldc rfl rfl rfl rfl rfl) rfl rfl ?_ | refine oQ (Ld rfl rfl rfl rfl) rfl rfl ?_ | skip
  all_goals first | refine oT rfl rfl ?_ | refine o1 rfl rfl rfl ?_ | refine o0 rfl rfl rfl ?_ | refine ogP1 rfl rfl rfl (fun hg => ?_) (fun hg => ?_) | refine ogP0 rfl rfl rfl (fun hg => ?_) (fun hg => ?_)
  all_goals try simp only [s1, s2, s3, s4, s5, s6, s7, s8, s9, s10, s11, s12] at hg
  all_goals first | refine oQ (Ia0 rfl rfl rfl rfl rfl rfl) rfl rfl ?_ | refine oQ (Ia1 rfl rfl rfl rfl rfl rfl) rfl rfl ?_ | skip
  all_goals first | refine oT rfl rfl ?_ | refine o1 rfl rfl rfl ?_ | refine o0 rfl rfl rfl ?_ | refine ogP1 rfl rfl rfl (fun hg => ?_) (fun hg => ?_) | refine ogP0 rfl rfl rfl (fun hg => ?_) (fun hg => ?_)
  all_goals try simp only [s1, s2, s3, s4, s5, s6, s7, s8, s9, s10, s11, s12] at hg
  all_goals first | refine oQ (Q_ldc rfl rfl rfl rfl rfl) rfl rfl ?_ | refine oQ (Ld rfl rfl rfl rfl) rfl rfl ?_ | skip
  all_goals first | refine oT rfl rfl ?_ | refine o1 rfl rfl rfl ?_ | refine o0 rfl rfl rfl ?_ | refine ogP1 rfl rfl rfl (fun hg => ?_) (fun hg => ?_) | refine ogP0 rfl rfl rfl (fun hg => ?_) (fun hg => ?_)
  all_goals try simp only [s1, s2, s3, s4, s5, s6, s7, s8, s9, s10, s11, s12] at hg
  all_goals first | (refine oMul 12 12 rfl rfl (by omega) (by omega) (by decide) rfl (fun z31 hz31 hl31 hu31 => ?_)) | skip
  all_goals first | refine oT rfl rfl ?_ | refine o1 rfl rfl rfl ?_ | refine o0 rfl rfl rfl ?_ | refine ogP1 rfl rfl rfl (fun hg => ?_) (fun hg => ?_) | refine ogP0 rfl rfl rfl (fun hg => ?_) (fun hg => ?_)
  all_goals try simp only [s1, s2, s3, s4, s5, s6, s7, s8, s9, s10, s11, s12] at hg
  all_goals first | refine oQ (Q_binu rfl rfl rfl (by omega)) rfl rfl ?_ | refine oQ (Q_bin rfl rfl rfl) rfl rfl ?_ | skip
  all_goals first | refine oT rfl rfl ?_ | refine o1 rfl rfl rfl ?_ | refine o0 rfl rfl rfl ?_ | refine ogP1 rfl rfl rfl (fun hg => ?_) (fun hg => ?_) | refine ogP0 rfl rfl rfl (fun hg => ?_) (fun hg => ?_)
  all_goals try simp only [s1, s2, s3, s4, s5, s6, s7, s8, s9, s10, s11, s12] at hg
  all_goals first | (refine oQ (Q_call0 (l01Mod_con _ _ (by omega) (by omega)) rfl rfl rfl) rfl rfl ?_) | skip
  all_goals first | refine oT rfl rfl ?_ | refine o1 rfl rfl rfl ?_ | refine o0 rfl rfl rfl ?_ | refine ogP1 rfl rfl rfl (fun hg => ?_) (fun hg => ?_) | refine ogP0 rfl rfl rfl (fun hg => ?_) (fun hg => ?_)
  all_goals try simp only [s1, s2, s3, s4, s5, s6, s7, s8, s9, s10, s11, s12] at hg
  all_goals first | (refine oQ (Q_bin rfl rfl rfl) rfl rfl ?_) | skip
  all_goals first | refine oQ (Q_pick_t rfl (by with_reducible rfl) rfl rfl) rfl rfl ?_ | refine oQ (Q_pick_f rfl (by with_reducible rfl) rfl rfl) rfl rfl ?_
  all_goals first | (refine oA rfl rfl ?_)
  all_goals refine oN ?_
  all_goals (
   refine CW_ret ?_)
  all_goals (
   refine exitQ (.inr rfl) 0 (.cons (.tmp rfl rfl) .nil) ?_ rfl vHn rfl rfl
   first
     | (subst hz26 hz31; (have hg' : normB p [a, b, c, d] = true := hg); simp_all [resV, moebB]; done)
     | ((have hg' : normB p [a, b, c, d] = false := hg); simp_all [resV, moebB]; done)
     | simp_all [resV, moebB])
/-- the place of a pair of numbers, not both 0 -/
def placeP (p x y : Int) : Int := if y % p = 0 then p else x % p * invP p (y % p) % p
theorem place_con (p x y : Int) (hp : primeB p = true) (hx : -1000000 ≤ x ∧ x ≤ 1000000) : ConQ Try.prog [] 37 [.int p, .int x, .int y] [] (.int (placeP p x y)) := by
  have hpb := prime_bd hp
  have hy := mod_bd hp y
  have hi := invz_bd hp (mod_bd hp y).1 (mod_bd hp y).2
  have hm := mul_bds (a := x) (b := invP p (y % p)) (A := 1000000) (B := 13) hx.1 hx.2 (by omega) (by omega)
  refine conW tab_ok [(0, .int p), (1, .int x), (2, .int y)] 0 [] [] Try.func37 rfl rfl rfl rfl rfl rfl rfl rfl rfl ?_
  refine cR ?_
  refine oA rfl rfl ?_
  refine oN ?_
  refine CW_seq ?_
  refine cR ?_
  iterate 2 refine oM rfl rfl ?_
  refine oQ (Q_call0 (mod_con _ _ (by omega) (by omega)) rfl rfl rfl) rfl rfl ?_
  refine oA rfl rfl ?_
  refine oN ?_
  refine cR ?_
  refine oM rfl rfl ?_
  refine oQ (Q_bin rfl rfl rfl) rfl rfl ?_
  refine oN ?_
  first | refine cT rfl ?_ | refine cF rfl ?_ | refine CW_cond rfl (fun hc => ?_) (fun hc => ?_)
  all_goals try simp only [s1, s2, s3, s4, s5, s6, s7, s8, s9, s10, s11, s12] at hc
  all_goals first
    | (
     refine CW_skip ?_)
    | (
     refine cR ?_
     refine oM rfl rfl ?_
     refine oA rfl rfl ?_
     refine oN ?_
     refine CW_ret ?_)
  all_goals first
    | with_reducible refine tR ?_
    | with_reducible refine tE ?_
    | (
     with_reducible refine tN ?_
     refine cR ?_
     iterate 3 refine oM rfl rfl ?_
     refine oQ (Q_call0 (inverse_con _ _ hp (by omega) (by omega)) rfl rfl rfl) rfl rfl ?_
     first | refine oQ (Q_binu rfl rfl rfl (by omega)) rfl rfl ?_ | refine oQ (Q_bin rfl rfl rfl) rfl rfl ?_
     refine oM rfl rfl ?_
     refine oQ (Q_call0 (mod_con _ _ (by omega) (by omega)) rfl rfl rfl) rfl rfl ?_
     refine oA rfl rfl ?_
     refine oN ?_
     refine CW_ret ?_)
  all_goals (
   refine exitQ (.inr rfl) 0 (.cons (.tmp rfl rfl) .nil) ?_ rfl vHn rfl rfl
   simp only [resV, placeP]
   first
     | rw [if_pos hc]
     | (rw [if_neg hc]; exact congrArg V.int ((Int.mul_emod x _ p).trans ((Int.mul_emod (x % p) _ p).trans (by rw [mod_mod_self])).symm)))
/-- the place to which a Moebius map leads a place -/
def atP (p a b c d x : Int) : Int := if x = p then placeP p a c else placeP p (a * x + b) (c * x + d)
theorem pair_inf (p : Int) : ConQ Try.prog [] 36 [.int p, .int p] [] (.arr [1, 0]) := by
  refine conW tab_ok [(0, .int p), (1, .int p)] 0 [] [] Try.func36 rfl rfl rfl rfl rfl rfl rfl rfl rfl ?_
  refine cR ?_
  refine oAlloc rfl rfl rfl rfl rfl rfl rfl ?_
  refine oN ?_
  refine CW_seq ?_
  refine cR ?_
  iterate 2 refine oM rfl rfl ?_
  refine oQ (Q_bin rfl rfl rfl) rfl rfl ?_
  refine oN ?_
  first | refine cT rfl ?_ | refine cF rfl ?_ | refine CW_cond rfl (fun hc => ?_) (fun hc => ?_)
  all_goals try simp only [s1, s2, s3, s4, s5, s6, s7, s8, s9, s10, s11, s12] at hc
  all_goals try (exfalso; exact absurd rfl hc; done)
  all_goals first
    | (
     refine CW_skip ?_)
    | (
     refine cR ?_
     refine oQ (Q_build rfl rfl rfl rfl rfl rfl rfl rfl) rfl rfl ?_
     first | refine oSw rfl rfl rfl rfl ?_ | refine oSa rfl rfl rfl rfl ?_
     refine oN ?_
     refine CW_ret ?_)
  all_goals first
    | with_reducible refine tR ?_
    | with_reducible refine tE ?_
    | (
     with_reducible refine tN ?_
     refine cR ?_
     refine oM rfl rfl ?_
     refine oQ (Q_build rfl rfl rfl rfl rfl rfl rfl rfl) rfl rfl ?_
     first | refine oSw rfl rfl rfl rfl ?_ | refine oSa rfl rfl rfl rfl ?_
     refine oN ?_
     refine CW_ret ?_)
  all_goals (
   first
     | (exfalso; exact absurd trivial hc)
     | (exfalso; exact absurd rfl hc)
     | exact exitQ (.inr rfl) 0 (.cons (.arr rfl rfl rfl rfl rfl) .nil) rfl rfl vHn rfl rfl)
theorem pair_fin (p x : Int) (hx : x ≠ p) : ConQ Try.prog [] 36 [.int p, .int x] [] (.arr [x, 1]) := by
  refine conW tab_ok [(0, .int p), (1, .int x)] 0 [] [] Try.func36 rfl rfl rfl rfl rfl rfl rfl rfl rfl ?_
  refine cR ?_
  refine oAlloc rfl rfl rfl rfl rfl rfl rfl ?_
  refine oN ?_
  refine CW_seq ?_
  refine cR ?_
  iterate 2 refine oM rfl rfl ?_
  refine oQ (Q_bin rfl rfl rfl) rfl rfl ?_
  refine oN ?_
  first | refine cT rfl ?_ | refine cF rfl ?_ | refine CW_cond rfl (fun hc => ?_) (fun hc => ?_)
  all_goals try simp only [s1, s2, s3, s4, s5, s6, s7, s8, s9, s10, s11, s12] at hc
  all_goals try (exfalso; exact absurd hc hx; done)
  all_goals first
    | (
     refine CW_skip ?_)
    | (
     refine cR ?_
     refine oQ (Q_build rfl rfl rfl rfl rfl rfl rfl rfl) rfl rfl ?_
     first | refine oSw rfl rfl rfl rfl ?_ | refine oSa rfl rfl rfl rfl ?_
     refine oN ?_
     refine CW_ret ?_)
  all_goals first
    | with_reducible refine tR ?_
    | with_reducible refine tE ?_
    | (
     with_reducible refine tN ?_
     refine cR ?_
     refine oM rfl rfl ?_
     refine oQ (Q_build rfl rfl rfl rfl rfl rfl rfl rfl) rfl rfl ?_
     first | refine oSw rfl rfl rfl rfl ?_ | refine oSa rfl rfl rfl rfl ?_
     refine oN ?_
     refine CW_ret ?_)
  all_goals (
   exact exitQ (.inr rfl) 0 (.cons (.arr rfl rfl rfl rfl rfl) .nil) rfl rfl vHn rfl rfl)
theorem at_con (p a b c d x : Int) (hp : primeB p = true) (ha : 0 ≤ a ∧ a < p) (hb : 0 ≤ b ∧ b < p) (hc : 0 ≤ c ∧ c < p) (hd : 0 ≤ d ∧ d < p) (hx : 0 ≤ x ∧ x ≤ p) : ConQ Try.prog [] 19 [.arr [a, b, c, d], .int p, .int x] [] (.int (atP p a b c d x)) := by
  have hpb := prime_bd hp
  by_cases hxp : x = p
  · subst hxp
    refine conW tab_ok [(0, .arr [a, b, c, d]), (1, .int x), (2, .int x)] 0 [] [] Try.func19 rfl rfl rfl rfl rfl rfl rfl rfl rfl ?_
    refine cR ?_
    refine oBox rfl rfl rfl rfl rfl rfl ?_
    refine oA rfl rfl ?_
    refine oN ?_
    refine cR ?_
    iterate 2 refine oM rfl rfl ?_
    refine oQ (Q_call0 (pair_inf _) rfl rfl rfl) rfl rfl ?_
    refine oAlloc rfl rfl rfl rfl rfl rfl rfl ?_
    first | refine oSw rfl rfl rfl rfl ?_ | refine oSa rfl rfl rfl rfl ?_
    refine oN ?_
    refine cR ?_
    refine oM rfl rfl ?_
    first | refine oQ (Ia0 rfl rfl rfl rfl rfl rfl) rfl rfl ?_ | refine oQ (Ia1 rfl rfl rfl rfl rfl rfl) rfl rfl ?_
    first | refine oQ (Q_ldc rfl rfl rfl rfl rfl) rfl rfl ?_ | refine oQ (Ld rfl rfl rfl rfl) rfl rfl ?_
    first | refine oQ (Ia0 rfl rfl rfl rfl rfl rfl) rfl rfl ?_ | refine oQ (Ia1 rfl rfl rfl rfl rfl rfl) rfl rfl ?_
    first | refine oQ (Q_ldc rfl rfl rfl rfl rfl) rfl rfl ?_ | refine oQ (Ld rfl rfl rfl rfl) rfl rfl ?_
    refine oMul 12 1 rfl rfl (by omega) (by omega) (by decide) rfl (fun z16 hz16 hl16 hu16 => ?_)
    first | refine oQ (Ia0 rfl rfl rfl rfl rfl rfl) rfl rfl ?_ | refine oQ (Ia1 rfl rfl rfl rfl rfl rfl) rfl rfl ?_
    first | refine oQ (Q_ldc rfl rfl rfl rfl rfl) rfl rfl ?_ | refine oQ (Ld rfl rfl rfl rfl) rfl rfl ?_
    first | refine oQ (Ia0 rfl rfl rfl rfl rfl rfl) rfl rfl ?_ | refine oQ (Ia1 rfl rfl rfl rfl rfl rfl) rfl rfl ?_
    first | refine oQ (Q_ldc rfl rfl rfl rfl rfl) rfl rfl ?_ | refine oQ (Ld rfl rfl rfl rfl) rfl rfl ?_
    refine oMul 12 1 rfl rfl (by omega) (by omega) (by decide) rfl (fun z21 hz21 hl21 hu21 => ?_)
    first | refine oQ (Q_binu rfl rfl rfl (by omega)) rfl rfl ?_ | refine oQ (Q_bin rfl rfl rfl) rfl rfl ?_
    first | refine oQ (Ia0 rfl rfl rfl rfl rfl rfl) rfl rfl ?_ | refine oQ (Ia1 rfl rfl rfl rfl rfl rfl) rfl rfl ?_
    first | refine oQ (Q_ldc rfl rfl rfl rfl rfl) rfl rfl ?_ | refine oQ (Ld rfl rfl rfl rfl) rfl rfl ?_
    first | refine oQ (Ia0 rfl rfl rfl rfl rfl rfl) rfl rfl ?_ | refine oQ (Ia1 rfl rfl rfl rfl rfl rfl) rfl rfl ?_
    first | refine oQ (Q_ldc rfl rfl rfl rfl rfl) rfl rfl ?_ | refine oQ (Ld rfl rfl rfl rfl) rfl rfl ?_
    refine oMul 12 1 rfl rfl (by omega) (by omega) (by decide) rfl (fun z27 hz27 hl27 hu27 => ?_)
    first | refine oQ (Ia0 rfl rfl rfl rfl rfl rfl) rfl rfl ?_ | refine oQ (Ia1 rfl rfl rfl rfl rfl rfl) rfl rfl ?_
    first | refine oQ (Q_ldc rfl rfl rfl rfl rfl) rfl rfl ?_ | refine oQ (Ld rfl rfl rfl rfl) rfl rfl ?_
    first | refine oQ (Ia0 rfl rfl rfl rfl rfl rfl) rfl rfl ?_ | refine oQ (Ia1 rfl rfl rfl rfl rfl rfl) rfl rfl ?_
    first | refine oQ (Q_ldc rfl rfl rfl rfl rfl) rfl rfl ?_ | refine oQ (Ld rfl rfl rfl rfl) rfl rfl ?_
    refine oMul 12 1 rfl rfl (by omega) (by omega) (by decide) rfl (fun z32 hz32 hl32 hu32 => ?_)
    first | refine oQ (Q_binu rfl rfl rfl (by omega)) rfl rfl ?_ | refine oQ (Q_bin rfl rfl rfl) rfl rfl ?_
    refine oQ (Q_call0 (place_con _ _ _ hp (by omega)) rfl rfl rfl) rfl rfl ?_
    refine oA rfl rfl ?_
    refine oN ?_
    refine CW_ret ?_
    all_goals (
     refine exitQ (.inr rfl) 0 (.cons (.tmp rfl rfl) .nil) ?_ rfl vHn rfl rfl
     subst hz16 hz21 hz27 hz32
     simp only [resV, atP, if_true, Int.mul_one, Int.mul_zero, Int.add_zero])
  · refine conW tab_ok [(0, .arr [a, b, c, d]), (1, .int p), (2, .int x)] 0 [] [] Try.func19 rfl rfl rfl rfl rfl rfl rfl rfl rfl ?_
    refine cR ?_
    refine oBox rfl rfl rfl rfl rfl rfl ?_
    refine oA rfl rfl ?_
    refine oN ?_
    refine cR ?_
    iterate 2 refine oM rfl rfl ?_
    refine oQ (Q_call0 (pair_fin _ _ hxp) rfl rfl rfl) rfl rfl ?_
    refine oAlloc rfl rfl rfl rfl rfl rfl rfl ?_
    first | refine oSw rfl rfl rfl rfl ?_ | refine oSa rfl rfl rfl rfl ?_
    refine oN ?_
    refine cR ?_
    refine oM rfl rfl ?_
    first | refine oQ (Ia0 rfl rfl rfl rfl rfl rfl) rfl rfl ?_ | refine oQ (Ia1 rfl rfl rfl rfl rfl rfl) rfl rfl ?_
    first | refine oQ (Q_ldc rfl rfl rfl rfl rfl) rfl rfl ?_ | refine oQ (Ld rfl rfl rfl rfl) rfl rfl ?_
    first | refine oQ (Ia0 rfl rfl rfl rfl rfl rfl) rfl rfl ?_ | refine oQ (Ia1 rfl rfl rfl rfl rfl rfl) rfl rfl ?_
    first | refine oQ (Q_ldc rfl rfl rfl rfl rfl) rfl rfl ?_ | refine oQ (Ld rfl rfl rfl rfl) rfl rfl ?_
    refine oMul 12 13 rfl rfl (by omega) (by omega) (by decide) rfl (fun z16 hz16 hl16 hu16 => ?_)
    first | refine oQ (Ia0 rfl rfl rfl rfl rfl rfl) rfl rfl ?_ | refine oQ (Ia1 rfl rfl rfl rfl rfl rfl) rfl rfl ?_
    first | refine oQ (Q_ldc rfl rfl rfl rfl rfl) rfl rfl ?_ | refine oQ (Ld rfl rfl rfl rfl) rfl rfl ?_
    first | refine oQ (Ia0 rfl rfl rfl rfl rfl rfl) rfl rfl ?_ | refine oQ (Ia1 rfl rfl rfl rfl rfl rfl) rfl rfl ?_
    first | refine oQ (Q_ldc rfl rfl rfl rfl rfl) rfl rfl ?_ | refine oQ (Ld rfl rfl rfl rfl) rfl rfl ?_
    refine oMul 12 1 rfl rfl (by omega) (by omega) (by decide) rfl (fun z21 hz21 hl21 hu21 => ?_)
    first | refine oQ (Q_binu rfl rfl rfl (by omega)) rfl rfl ?_ | refine oQ (Q_bin rfl rfl rfl) rfl rfl ?_
    first | refine oQ (Ia0 rfl rfl rfl rfl rfl rfl) rfl rfl ?_ | refine oQ (Ia1 rfl rfl rfl rfl rfl rfl) rfl rfl ?_
    first | refine oQ (Q_ldc rfl rfl rfl rfl rfl) rfl rfl ?_ | refine oQ (Ld rfl rfl rfl rfl) rfl rfl ?_
    first | refine oQ (Ia0 rfl rfl rfl rfl rfl rfl) rfl rfl ?_ | refine oQ (Ia1 rfl rfl rfl rfl rfl rfl) rfl rfl ?_
    first | refine oQ (Q_ldc rfl rfl rfl rfl rfl) rfl rfl ?_ | refine oQ (Ld rfl rfl rfl rfl) rfl rfl ?_
    refine oMul 12 13 rfl rfl (by omega) (by omega) (by decide) rfl (fun z27 hz27 hl27 hu27 => ?_)
    first | refine oQ (Ia0 rfl rfl rfl rfl rfl rfl) rfl rfl ?_ | refine oQ (Ia1 rfl rfl rfl rfl rfl rfl) rfl rfl ?_
    first | refine oQ (Q_ldc rfl rfl rfl rfl rfl) rfl rfl ?_ | refine oQ (Ld rfl rfl rfl rfl) rfl rfl ?_
    first | refine oQ (Ia0 rfl rfl rfl rfl rfl rfl) rfl rfl ?_ | refine oQ (Ia1 rfl rfl rfl rfl rfl rfl) rfl rfl ?_
    first | refine oQ (Q_ldc rfl rfl rfl rfl rfl) rfl rfl ?_ | refine oQ (Ld rfl rfl rfl rfl) rfl rfl ?_
    refine oMul 12 1 rfl rfl (by omega) (by omega) (by decide) rfl (fun z32 hz32 hl32 hu32 => ?_)
    first | refine oQ (Q_binu rfl rfl rfl (by omega)) rfl rfl ?_ | refine oQ (Q_bin rfl rfl rfl) rfl rfl ?_
    refine oQ (Q_call0 (place_con _ _ _ hp (by omega)) rfl rfl rfl) rfl rfl ?_
    refine oA rfl rfl ?_
    refine oN ?_
    refine CW_ret ?_
    all_goals (
     refine exitQ (.inr rfl) 0 (.cons (.tmp rfl rfl) .nil) ?_ rfl vHn rfl rfl
     subst hz16 hz21 hz27 hz32
     simp only [resV, atP, if_neg hxp, Int.mul_one])
end Go.Proofs.Ytchikadcicecoaa
namespace Go.Proofs.Ytchikadcicecoaa
attribute [local irreducible] CW OW QW QOp Con thenP inBlockP
set_option maxRecDepth 10000
set_option linter.unusedSimpArgs false
set_option linter.unusedVariables false
def placesB (p : Int) (l : List Int) : Bool := l.all fun n => decide (0 ≤ n) && decide (n ≤ p)
/-- the code of a prime, of things of which some are bad, and of places -/
def codeP (p : Int) (bad : Bool) (l : List Int) : Int := if primeB p = true then (if bad = true then 1 else if placesB p l = true then 0 else 2) else 2
theorem codeP_np {p : Int} {b : Bool} {l : List Int} (h : primeB p = false) : codeP p b l = 2 := by simp [codeP, h]
theorem codeP_bad {p : Int} {b : Bool} {l : List Int} (h : primeB p = true) (hb : b = true) : codeP p b l = 1 := by simp [codeP, h, hb]
theorem codeP_place {p : Int} {b : Bool} {l : List Int} (h : primeB p = true) (hb : b = false) (hl : placesB p l = false) : codeP p b l = 2 := by simp [codeP, h, hb, hl]
theorem codeP_ok {p : Int} {b : Bool} {l : List Int} (h : primeB p = true) (hb : b = false) (hl : placesB p l = true) : codeP p b l = 0 := by simp [codeP, h, hb, hl]
theorem arePlaces_con (p : Int) (t : TypeId) (L : List Int) (n k : Nat) (hn : n ≤ L.length) (hL : n ≤ 1000000000) : ConQ Try.prog [] 16 [.int p, .slice 0 0 n k] [(0, .ints t L)] (.bool (placesB p (L.take n))) := by
  refine conW tab_ok [(0, .int p), (1, .slice 0 0 n k)] 1 [0] [0] Try.func16 rfl rfl rfl rfl rfl rfl rfl rfl rfl ?_
  refine cR ?_
  refine oA rfl rfl ?_
  refine oN ?_
  refine CW_seq ?_
  refine cR ?_
  refine oM rfl rfl ?_
  first | refine oQ (Q_len rfl rfl rfl rfl) rfl rfl ?_ | refine oQ (Q_len0 rfl rfl rfl rfl) rfl rfl ?_
  refine oM rfl rfl ?_
  refine oN ?_
  refine CW_block ?_
  refine CW_loop (ι := Nat) (fun i => i ≤ n ∧ placesB p (L.take i) = true) (fun i => ⟨[(0, .int p), (7, .slice 0 0 n k), (8, .int n), (9, .int i)], [(0, .ints t L)], 1⟩) (fun i => n - i) 0 ?_ ?_ ?_
  · exact ⟨Nat.zero_le _, rfl⟩
  · refine View.mk' [] rfl rfl rfl ?_ ?_
    repeat' first | exact vFn | refine vFc rfl ?_ | exact vHn | refine vHc rfl ?_ | refine vFc (congrArg (fun z => some (V.int z)) ?_) ?_ | refine vHc (congrArg (fun z => some (Blk.ints _ z)) ?_) ?_ | refine vFc (congrArg (fun z => some (V.bool z)) ?_) ?_ | refine vFs rfl rfl ?_ ?_
  intro i hi
  obtain ⟨hi1, hi2⟩ := hi
  refine cR ?_
  refine oQ (Q_bin rfl rfl rfl) rfl rfl ?_
  refine oN ?_
  refine CW_seq ?_
  first | refine cT rfl ?_ | refine cF rfl ?_ | refine CW_cond rfl (fun hc => ?_) (fun hc => ?_)
  all_goals try simp only [s1, s2, s3, s4, s5, s6, s7, s8, s9, s10, s11, s12] at hc
  all_goals first
    | (
     refine CW_skip ?_)
    | (
     refine CW_exit ?_)
  all_goals first
    | with_reducible refine tR ?_
    | with_reducible refine tE ?_
    | (
     with_reducible refine tN ?_
     refine CW_seq ?_
     refine CW_block ?_
     refine cR ?_
     first | refine oQ (Is0 rfl rfl rfl rfl rfl rfl) rfl rfl ?_ | refine oQ (Is1 rfl rfl rfl rfl rfl rfl) rfl rfl ?_
     refine oQ (Ld rfl rfl rfl rfl) rfl rfl ?_
     refine oA rfl rfl ?_
     refine oN ?_
     refine cR ?_
     iterate 2 refine oM rfl rfl ?_
     refine oQ (Q_call0 (within_con _ _ _) rfl rfl rfl) rfl rfl ?_
     refine oQ (Q_not rfl) rfl rfl ?_
     refine oN ?_
     first | refine cT rfl ?_ | refine cF rfl ?_ | refine CW_cond rfl (fun hc => ?_) (fun hc => ?_)
     all_goals try simp only [s1, s2, s3, s4, s5, s6, s7, s8, s9, s10, s11, s12] at hc
     all_goals first
       | (
        refine CW_skip ?_)
       | (
        refine cR ?_
        refine oA rfl rfl ?_
        refine oN ?_
        refine CW_ret ?_)
     all_goals first | with_reducible refine bN ?_ | with_reducible refine bE ?_ | with_reducible refine bR ?_ | refine bX rfl ?_
     all_goals first
       | with_reducible refine tR ?_
       | with_reducible refine tE ?_
       | (
        with_reducible refine tN ?_
        refine CW_region ?_
        first | refine oQ (Q_binu rfl rfl rfl (by omega)) rfl rfl ?_ | refine oQ (Q_bin rfl rfl rfl) rfl rfl ?_
        refine oM rfl rfl ?_
        refine OW_nil ?_))
  all_goals first
    | with_reducible refine tR ?_
    | with_reducible refine tE ?_
    | (
     with_reducible refine tN ?_
     refine ⟨i + 1, ?_, ?_, View.mk' [] rfl rfl rfl ?_ ?_⟩
     · exact ⟨by omega, all_snoc (by omega) hi2 hc⟩
     · omega
     all_goals (repeat' first | exact vFn | refine vFc rfl ?_ | exact vHn | refine vHc rfl ?_ | refine vFc (congrArg (fun z => some (V.int z)) ?_) ?_ | refine vHc (congrArg (fun z => some (Blk.ints _ z)) ?_) ?_ | refine vFc (congrArg (fun z => some (V.bool z)) ?_) ?_ | refine vFs rfl rfl ?_ ?_))
  all_goals first | with_reducible refine bN ?_ | with_reducible refine bE ?_ | with_reducible refine bR ?_ | refine bX rfl ?_
  all_goals first
    | with_reducible refine tR ?_
    | with_reducible refine tE ?_
    | (
     with_reducible refine tN ?_
     refine cR ?_
     refine oA rfl rfl ?_
     refine oN ?_
     refine CW_ret ?_)
  all_goals (
   refine exitQ (.inr rfl) 1 (.cons (.tmp rfl rfl) .nil) ?_ rfl (vHc rfl vHn) rfl rfl
   simp only [resV, V.bool.injEq]
   first | (rfl; done) | exact (all_fail (by omega) (by omega) hc).symm | (have e : i = n := (by omega); subst e; exact hi2.symm))
abbrev badM (p : Int) (M : List Int) (k : Nat) : Bool := anyF (fun m => !moebB p m) 4 M k
theorem badM_false {p : Int} {M : List Int} {k : Nat} (h : ∀ j, j < k → moebB p (elemAt 4 M j) = true) : badM p M k = false := by
  unfold badM anyF
  rw [List.any_eq_false]
  intro j hj
  simp [h j (by simpa using hj)]
theorem badM_true {p : Int} {M : List Int} {k i : Nat} (hi : i < k) (h : moebB p (elemAt 4 M i) = false) : badM p M k = true := by
  unfold badM anyF
  rw [List.any_eq_true]
  exact ⟨i, by simpa using hi, by simp [h]⟩
theorem l05Is_con4 (p : Int) (m : List Int) (hm : m.length = 4) : ConQ Try.prog [] 31 [.int p, .arr m] [] (.bool (primeB p && moebB p m)) := by
  match m, hm with
  | [a, b, c, d], _ => exact l05Is_con p a b c d
theorem l05Code_row (p : Int) (tM : TypeId) (M : List Int) (k ck : Nat) (hM : k * 4 ≤ M.length) (hk : k ≤ 1000000000) (t2 : TypeId) (L : List Int) (n cn : Nat) (hn : n ≤ L.length) (hn9 : n ≤ 1000000000) : ConQ Try.prog [] 12 [.int p, .slice 0 0 k ck, .slice 1 0 n cn] [(0, .ints tM M), (1, .ints t2 L)] (.int (codeP p (badM p M k) (L.take n))) := by
  refine conW tab_ok [(0, .int p), (1, .slice 0 0 k ck), (2, .slice 1 0 n cn)] 2 [0, 1] [0, 1] Try.func12 rfl rfl rfl rfl rfl rfl rfl rfl rfl ?_
  refine cR ?_
  refine oA rfl rfl ?_
  refine oN ?_
  refine CW_seq ?_
  refine cR ?_
  refine oM rfl rfl ?_
  refine oQ (Q_call0 (l01Prime_con _) rfl rfl rfl) rfl rfl ?_
  refine oQ (Q_not rfl) rfl rfl ?_
  refine oN ?_
  first | refine cT rfl ?_ | refine cF rfl ?_ | refine CW_cond rfl (fun hc => ?_) (fun hc => ?_)
  all_goals try simp only [s1, s2, s3, s4, s5, s6, s7, s8, s9, s10, s11, s12] at hc
  all_goals first
    | (
     refine CW_skip ?_)
    | (
     refine cR ?_
     refine oA rfl rfl ?_
     refine oN ?_
     refine CW_ret ?_)
  all_goals first
    | with_reducible refine tR ?_
    | with_reducible refine tE ?_
    | (
     with_reducible refine tN ?_
     refine CW_seq ?_
     refine cR ?_
     refine oA rfl rfl ?_
     refine oN ?_
     refine CW_block ?_
     (have hp : primeB p = true := hc)
     refine CW_loop (ι := Nat) (fun i => i ≤ k ∧ ∀ j, j < i → moebB p (elemAt 4 M j) = true) (fun i => ⟨[(0, .int p), (1, .slice 0 0 k ck), (2, .slice 1 0 n cn), (7, .int i)], [(0, .ints tM M), (1, .ints t2 L)], 2⟩) (fun i => k - i) 0 ?_ ?_ ?_
     · exact ⟨Nat.zero_le _, fun j h => absurd h (Nat.not_lt_zero _)⟩
     · refine View.mk' [] rfl rfl rfl ?_ ?_
       repeat' first | exact vFn | refine vFc rfl ?_ | exact vHn | refine vHc rfl ?_ | refine vFc (congrArg (fun z => some (V.int z)) ?_) ?_ | refine vHc (congrArg (fun z => some (Blk.ints _ z)) ?_) ?_ | refine vFc (congrArg (fun z => some (V.bool z)) ?_) ?_ | refine vFs rfl rfl ?_ ?_
     rintro i ⟨hi, hi2⟩
     refine CW_seq ?_
     refine cR ?_
     iterate 2 refine oM rfl rfl ?_
     first | refine oQ (Q_len rfl rfl rfl rfl) rfl rfl ?_ | refine oQ (Q_len0 rfl rfl rfl rfl) rfl rfl ?_
     refine oQ (Q_bin rfl rfl rfl) rfl rfl ?_
     refine oN ?_
     first | refine cT rfl ?_ | refine cF rfl ?_ | refine CW_cond rfl (fun hc => ?_) (fun hc => ?_)
     all_goals try simp only [s1, s2, s3, s4, s5, s6, s7, s8, s9, s10, s11, s12] at hc
     all_goals first
       | (
        refine CW_skip ?_)
       | (
        refine CW_exit ?_)
     all_goals first
       | with_reducible refine tR ?_
       | with_reducible refine tE ?_
       | (
        with_reducible refine tN ?_
        refine CW_seq ?_
        refine CW_block ?_
        refine cR ?_
        iterate 3 refine oM rfl rfl ?_
        first | refine oQ (Q_ixs0z 4 rfl rfl rfl rfl rfl rfl (by first | omega | (dsimp only; omega) | (simp; omega) | (simp; done))) rfl rfl ?_ | refine oQ (Q_ixsz 4 rfl rfl rfl rfl rfl rfl (by first | omega | (dsimp only; omega) | (simp; omega) | (simp; done))) rfl rfl ?_
        first | refine oQ (Lw rfl rfl rfl rfl) rfl rfl ?_ | refine oQ (La rfl rfl rfl rfl rfl) rfl rfl ?_
        refine oQ (Q_call0 (l05Is_con4 p _ (elemAt_length hM (by omega))) rfl rfl rfl) rfl rfl ?_
        refine oQ (Q_not rfl) rfl rfl ?_
        refine oN ?_
        first | refine cT rfl ?_ | refine cF rfl ?_ | refine CW_cond rfl (fun hc => ?_) (fun hc => ?_)
        all_goals try simp only [s1, s2, s3, s4, s5, s6, s7, s8, s9, s10, s11, s12] at hc
        all_goals first
          | (
           refine CW_skip ?_)
          | (
           refine cR ?_
           refine oA rfl rfl ?_
           refine oN ?_
           refine CW_ret ?_)
        all_goals first | with_reducible refine bN ?_ | with_reducible refine bE ?_ | with_reducible refine bR ?_ | refine bX rfl ?_
        all_goals first
          | with_reducible refine tR ?_
          | with_reducible refine tE ?_
          | (
           with_reducible refine tN ?_
           refine CW_region ?_
           refine oM rfl rfl ?_
           first | refine oQ (Q_binu rfl rfl rfl (by omega)) rfl rfl ?_ | refine oQ (Q_bin rfl rfl rfl) rfl rfl ?_
           refine oA rfl rfl ?_
           refine OW_nil ?_))
     all_goals first
       | with_reducible refine tR ?_
       | with_reducible refine tE ?_
       | (
        with_reducible refine tN ?_
        refine ⟨i + 1, ?_, ?_, View.mk' [] rfl rfl rfl ?_ ?_⟩
        · refine ⟨by omega, fun j hj => ?_⟩
          by_cases e : j = i
          · subst e; simp only [Bool.and_eq_true] at hc; exact hc.2
          · exact hi2 j (by omega)
        · omega
        all_goals (repeat' first | exact vFn | refine vFc rfl ?_ | exact vHn | refine vHc rfl ?_ | refine vFc (congrArg (fun z => some (V.int z)) ?_) ?_ | refine vHc (congrArg (fun z => some (Blk.ints _ z)) ?_) ?_ | refine vFc (congrArg (fun z => some (V.bool z)) ?_) ?_ | refine vFs rfl rfl ?_ ?_))
     all_goals first | with_reducible refine bN ?_ | with_reducible refine bE ?_ | with_reducible refine bR ?_ | refine bX rfl ?_
     all_goals first
       | with_reducible refine tR ?_
       | with_reducible refine tE ?_
       | (
        with_reducible refine tN ?_
        refine CW_seq ?_
        refine cR ?_
        refine oA rfl rfl ?_
        refine oN ?_
        refine CW_block ?_
        (have hbad : badM p M k = false := badM_false (fun j hj => hi2 j (by omega)))
        refine CW_loop (ι := Nat) (fun i => i ≤ n ∧ placesB p (L.take i) = true) (fun i => ⟨[(0, .int p), (2, .slice 1 0 n cn), (8, .int i)], [(0, .ints tM M), (1, .ints t2 L)], 2⟩) (fun i => n - i) 0 ?_ ?_ ?_
        · exact ⟨Nat.zero_le _, rfl⟩
        · refine View.mk' [] rfl rfl rfl ?_ ?_
          repeat' first | exact vFn | refine vFc rfl ?_ | exact vHn | refine vHc rfl ?_ | refine vFc (congrArg (fun z => some (V.int z)) ?_) ?_ | refine vHc (congrArg (fun z => some (Blk.ints _ z)) ?_) ?_ | refine vFc (congrArg (fun z => some (V.bool z)) ?_) ?_ | refine vFs rfl rfl ?_ ?_
        intro u hu
        obtain ⟨hu1, hu2⟩ := hu
        refine CW_seq ?_
        refine cR ?_
        iterate 2 refine oM rfl rfl ?_
        first | refine oQ (Q_len rfl rfl rfl rfl) rfl rfl ?_ | refine oQ (Q_len0 rfl rfl rfl rfl) rfl rfl ?_
        refine oQ (Q_bin rfl rfl rfl) rfl rfl ?_
        refine oN ?_
        first | refine cT rfl ?_ | refine cF rfl ?_ | refine CW_cond rfl (fun hc => ?_) (fun hc => ?_)
        all_goals try simp only [s1, s2, s3, s4, s5, s6, s7, s8, s9, s10, s11, s12] at hc
        all_goals first
          | (
           refine CW_skip ?_)
          | (
           refine CW_exit ?_)
        all_goals first
          | with_reducible refine tR ?_
          | with_reducible refine tE ?_
          | (
           with_reducible refine tN ?_
           refine CW_seq ?_
           refine CW_block ?_
           refine cR ?_
           iterate 2 refine oM rfl rfl ?_
           first | refine oQ (Is0 rfl rfl rfl rfl rfl rfl) rfl rfl ?_ | refine oQ (Is1 rfl rfl rfl rfl rfl rfl) rfl rfl ?_
           refine oQ (Ld rfl rfl rfl rfl) rfl rfl ?_
           refine oM rfl rfl ?_
           refine oQ (Q_call0 (l01In_con _ _ _) rfl rfl rfl) rfl rfl ?_
           refine oQ (Q_not rfl) rfl rfl ?_
           refine oN ?_
           first | refine cT rfl ?_ | refine cF rfl ?_ | refine CW_cond rfl (fun hc => ?_) (fun hc => ?_)
           all_goals try simp only [s1, s2, s3, s4, s5, s6, s7, s8, s9, s10, s11, s12] at hc
           all_goals first
             | (
              refine CW_skip ?_)
             | (
              refine cR ?_
              refine oA rfl rfl ?_
              refine oN ?_
              refine CW_ret ?_)
           all_goals first | with_reducible refine bN ?_ | with_reducible refine bE ?_ | with_reducible refine bR ?_ | refine bX rfl ?_
           all_goals first
             | with_reducible refine tR ?_
             | with_reducible refine tE ?_
             | (
              with_reducible refine tN ?_
              refine CW_region ?_
              refine oM rfl rfl ?_
              first | refine oQ (Q_binu rfl rfl rfl (by omega)) rfl rfl ?_ | refine oQ (Q_bin rfl rfl rfl) rfl rfl ?_
              refine oA rfl rfl ?_
              refine OW_nil ?_))
        all_goals first
          | with_reducible refine tR ?_
          | with_reducible refine tE ?_
          | (
           with_reducible refine tN ?_
           refine ⟨u + 1, ?_, ?_, View.mk' [] rfl rfl rfl ?_ ?_⟩
           · exact ⟨by omega, all_snoc (by omega) hu2 hc⟩
           · omega
           all_goals (repeat' first | exact vFn | refine vFc rfl ?_ | exact vHn | refine vHc rfl ?_ | refine vFc (congrArg (fun z => some (V.int z)) ?_) ?_ | refine vHc (congrArg (fun z => some (Blk.ints _ z)) ?_) ?_ | refine vFc (congrArg (fun z => some (V.bool z)) ?_) ?_ | refine vFs rfl rfl ?_ ?_))
        all_goals first | with_reducible refine bN ?_ | with_reducible refine bE ?_ | with_reducible refine bR ?_ | refine bX rfl ?_
        all_goals first
          | with_reducible refine tR ?_
          | with_reducible refine tE ?_
          | (
           with_reducible refine tN ?_
           refine cR ?_
           refine oA rfl rfl ?_
           refine oN ?_
           refine CW_ret ?_)))
  all_goals (
   refine exitQ (.inr rfl) 2 (.cons (.tmp rfl rfl) .nil) ?_ rfl (vHc rfl (vHc rfl vHn)) rfl rfl
   first
     | exact congrArg V.int (codeP_np hc).symm
     | exact congrArg V.int (codeP_bad hp (badM_true (i := i) (by omega) (by simpa [hp] using hc))).symm
     | exact congrArg V.int (codeP_place hp hbad (all_fail (i := u) (n := n) (by omega) (by omega) hc)).symm
     | (have e : u = n := (by omega); subst e; exact congrArg V.int (codeP_ok hp hbad hu2).symm))
end Go.Proofs.Ytchikadcicecoaa
namespace Go.Proofs.Ytchikadcicecoaa
set_option linter.unusedVariables false
set_option linter.unusedSimpArgs false
abbrev N4 := Nat × Nat × Nat × Nat
def toM (m : N4) : List Int := [(m.1 : Int), (m.2.1 : Int), (m.2.2.1 : Int), (m.2.2.2 : Int)]
@[simp] theorem toM_len (m : N4) : (toM m).length = 4 := rfl
def ivN (n y : Nat) : Nat := ((List.range n).find? fun k => Nat.beq (y * k % n) 1).getD 0
def plN (n x y : Nat) : Nat := bif Nat.beq (y % n) 0 then n else x % n * ivN n (y % n) % n
def atN (n : Nat) (m : N4) (x : Nat) : Nat := bif Nat.beq x n then plN n m.1 m.2.2.1 else plN n (m.1 * x + m.2.1) (m.2.2.1 * x + m.2.2.2)
/-! ### all maps, in the reference's order -/
def r3 (n b c d : Nat) : List N4 := ((List.range d).filter fun x => !(Nat.beq x (b * c % n))).map fun x => (1, b, c, x)
def r2 (n b c : Nat) : List N4 := (List.range c).flatMap fun y => r3 n b y n
def r1 (n b : Nat) : List N4 := (List.range b).flatMap fun y => r2 n y n
def u2 (c d : Nat) : List N4 := (List.range d).map fun x => (0, 1, c, x)
def u1 (n c : Nat) : List N4 := (List.range c).flatMap fun y => u2 (y + 1) n
def MN (n : Nat) : List N4 := r1 n n ++ u1 n (n - 1)
end Go.Proofs.Ytchikadcicecoaa
namespace Go.Proofs.Ytchikadcicecoaa
set_option linter.unusedVariables false
set_option linter.unusedSimpArgs false
theorem mem_MN {n : Nat} {m : N4} : m ∈ MN n ↔ (∃ b c d, b < n ∧ c < n ∧ d < n ∧ d ≠ b * c % n ∧ m = (1, b, c, d)) ∨ (∃ c d, 1 ≤ c ∧ c < n ∧ d < n ∧ m = (0, 1, c, d)) := by
  simp only [MN, r1, r2, r3, u1, u2, List.mem_append, List.mem_flatMap, List.mem_range, List.mem_map, List.mem_filter, Bool.not_eq_true']
  constructor
  · rintro (⟨b, hb, c, hc, d, ⟨hd, hne⟩, rfl⟩ | ⟨c, hc, d, hd, rfl⟩)
    · exact .inl ⟨b, c, d, hb, hc, hd, fun e => by rw [← e] at hne; simp at hne, rfl⟩
    · exact .inr ⟨c + 1, d, by omega, by omega, hd, rfl⟩
  · rintro (⟨b, c, d, hb, hc, hd, hne, rfl⟩ | ⟨c, d, h1, hc, hd, rfl⟩)
    · refine .inl ⟨b, hb, c, hc, d, ⟨hd, ?_⟩, rfl⟩
      cases hq : Nat.beq d (b * c % n)
      · rfl
      · exact absurd (Nat.eq_of_beq_eq_true hq) hne
    · exact .inr ⟨c - 1, by omega, d, hd, by rw [Nat.sub_add_cancel h1]⟩
theorem MN_lt {n : Nat} (hn : 2 ≤ n) {m : N4} (h : m ∈ MN n) : m.1 < n ∧ m.2.1 < n ∧ m.2.2.1 < n ∧ m.2.2.2 < n := by
  rcases mem_MN.1 h with ⟨b, c, d, hb, hc, hd, _, rfl⟩ | ⟨c, d, h1, hc, hd, rfl⟩
  · exact ⟨by show 1 < n; omega, hb, hc, hd⟩
  · exact ⟨by show 0 < n; omega, by show 1 < n; omega, hc, hd⟩
/-! ### numbers and integers -/
theorem beqN {x y : Nat} : Nat.beq x y = true ↔ x = y := ⟨Nat.eq_of_beq_eq_true, fun h => by subst h; simp⟩
theorem inv_cast (n y : Nat) : invP (n : Int) (y : Int) = (ivN n y : Int) := by
  unfold invP invN ivN
  rw [Int.toNat_natCast]
  have e : (fun k : Nat => ((y : Int) * (k : Int) % (n : Int) == 1)) = fun k => Nat.beq (y * k % n) 1 := by
    funext k
    rw [← Int.natCast_mul, ← Int.natCast_emod, Bool.eq_iff_iff, beqN, beq_iff_eq]
    omega
  rw [e]
theorem place_cast (n x y : Nat) : placeP (n : Int) (x : Int) (y : Int) = (plN n x y : Int) := by
  unfold placeP plN
  rw [← Int.natCast_emod, ← Int.natCast_emod, inv_cast, ← Int.natCast_mul, ← Int.natCast_emod]
  by_cases h : y % n = 0
  · rw [h]; simp
  · have : Nat.beq (y % n) 0 = false := by
      cases hb : Nat.beq (y % n) 0
      · rfl
      · exact absurd (Nat.eq_of_beq_eq_true hb) h
    rw [this, if_neg (by omega)]; rfl
theorem at_cast (n : Nat) (m : N4) (x : Nat) : atP (n : Int) (m.1 : Int) (m.2.1 : Int) (m.2.2.1 : Int) (m.2.2.2 : Int) (x : Int) = (atN n m x : Int) := by
  unfold atP atN
  by_cases h : x = n
  · subst h; rw [if_pos rfl, place_cast]; simp
  · have : Nat.beq x n = false := by
      cases hb : Nat.beq x n
      · rfl
      · exact absurd (Nat.eq_of_beq_eq_true hb) h
    rw [if_neg (by omega), this, ← Int.natCast_mul, ← Int.natCast_mul, ← Int.natCast_add, ← Int.natCast_add, place_cast]; rfl
def thL4 (x y : List Int) : List Int := [x.getD 0 0 * y.getD 0 0 + x.getD 1 0 * y.getD 2 0, x.getD 0 0 * y.getD 1 0 + x.getD 1 0 * y.getD 3 0, x.getD 2 0 * y.getD 0 0 + x.getD 3 0 * y.getD 2 0, x.getD 2 0 * y.getD 1 0 + x.getD 3 0 * y.getD 3 0]
theorem moeb_mem {n : Nat} (hp : primeB (n : Int) = true) {m : N4} (h1 : m.1 < n) (h2 : m.2.1 < n) (h3 : m.2.2.1 < n) (h4 : m.2.2.2 < n) : moebB (n : Int) (toM m) = true ↔ m ∈ MN n := by
  have hb := prime_bd hp
  obtain ⟨a, b, c, d⟩ := m
  dsimp only at h1 h2 h3 h4
  have hmod : modB (n : Int) (toM (a, b, c, d)) = true := by
    simp only [modB, toM, List.all_cons, List.all_nil, Bool.and_true, Bool.and_eq_true, decide_eq_true_eq]
    omega
  have hdet0 : ((a : Int) * d - b * c) % (n : Int) = 0 ↔ a * d % n = b * c % n := by
    rw [← Int.emod_eq_emod_iff_emod_sub_eq_zero]
    rw [← Int.natCast_mul, ← Int.natCast_mul, ← Int.natCast_emod, ← Int.natCast_emod]
    omega
  have hdet : ((a : Int) * d - b * c) % (n : Int) ≠ 0 ↔ a * d % n ≠ b * c % n := not_congr hdet0
  simp only [toM] at hmod
  rw [mem_MN]
  simp only [moebB, normB, hmod, Bool.true_and, Bool.and_eq_true, beq_iff_eq, bne_iff_ne, toM, List.getD_cons_zero, List.getD_cons_succ, hdet]
  simp only [fnz]
  constructor
  · rintro ⟨hf, hd⟩
    by_cases ha : (a : Int) = 0
    · rw [if_pos ha] at hf
      have ha0 : a = 0 := by omega
      subst ha0
      by_cases hb0 : (b : Int) = 0
      · exfalso
        have : b = 0 := by omega
        subst this
        simp at hd
      · rw [if_neg hb0] at hf
        have hb1 : b = 1 := by omega
        subst hb1
        refine .inr ⟨c, d, ?_, h3, h4, rfl⟩
        rcases Nat.eq_zero_or_pos c with e | e
        · subst e; simp at hd
        · exact e
    · rw [if_neg ha] at hf
      have ha1 : a = 1 := by omega
      subst ha1
      refine .inl ⟨b, c, d, h2, h3, h4, ?_, rfl⟩
      rw [Nat.one_mul, Nat.mod_eq_of_lt h4] at hd
      exact hd
  · rintro (⟨b', c', d', _, _, _, hne, e⟩ | ⟨c', d', hc1, hc2, _, e⟩)
    · simp only [Prod.mk.injEq] at e
      obtain ⟨rfl, rfl, rfl, rfl⟩ := e
      exact ⟨by simp, by rw [Nat.one_mul, Nat.mod_eq_of_lt h4]; exact hne⟩
    · simp only [Prod.mk.injEq] at e
      obtain ⟨rfl, rfl, rfl, rfl⟩ := e
      refine ⟨by simp, ?_⟩
      rw [Nat.zero_mul, Nat.one_mul, Nat.zero_mod, Nat.mod_eq_of_lt hc2]
      omega
theorem toM_inj {x y : N4} (h : toM x = toM y) : x = y := by
  obtain ⟨a, b, c, d⟩ := x
  obtain ⟨a', b', c', d'⟩ := y
  simp only [toM, List.cons.injEq, and_true] at h
  simp only [Prod.mk.injEq]
  omega
end Go.Proofs.Ytchikadcicecoaa
namespace Go.Proofs.Ytchikadcicecoaa
set_option linter.unusedVariables false
set_option linter.unusedSimpArgs false
set_option linter.unusedSectionVars false
open Lean.Grind
section
variable {R : Type} [CommRing R]
def ic (x : Int) : R := (Ring.intCast (α := R)).intCast x
theorem ic_add (x y : Int) : (ic (x + y) : R) = ic x + ic y := Ring.intCast_add x y
theorem ic_mul (x y : Int) : (ic (x * y) : R) = ic x * ic y := Ring.intCast_mul x y
theorem ic_sub (x y : Int) : (ic (x - y) : R) = ic x - ic y := Ring.intCast_sub x y
theorem ic_neg (x : Int) : (ic (-x) : R) = -ic x := Ring.intCast_neg x
theorem ic_zero : (ic 0 : R) = 0 := Ring.intCast_zero
theorem ic_one : (ic 1 : R) = 1 := Ring.intCast_one
theorem ic_mod (n : Nat) [IsCharP R n] (x : Int) : (ic (x % (n : Int)) : R) = ic x := (IsCharP.intCast_ext_iff n).2 (Int.emod_emod_of_dvd _ (Int.dvd_refl _))
theorem ic_eq (n : Nat) [IsCharP R n] {x y : Int} : (ic x : R) = ic y ↔ x % (n : Int) = y % (n : Int) := IsCharP.intCast_ext_iff n
theorem ic_z (n : Nat) [IsCharP R n] {x : Int} : (ic x : R) = 0 ↔ x % (n : Int) = 0 := by
  rw [← ic_zero, ic_eq n, Int.zero_emod]
/-- a field -/
def Fld (R : Type) [CommRing R] : Prop := (1 : R) ≠ 0 ∧ (∀ x y : R, x * y = 0 → x = 0 ∨ y = 0) ∧ ∀ x : R, x ≠ 0 → ∃ i, x * i = 1
theorem Fld.ml {x y : R} (h : Fld R) (hx : x ≠ 0) (hy : y ≠ 0) : x * y ≠ 0 := fun e => by
  rcases h.2.1 _ _ e with e | e
  · exact hx e
  · exact hy e
end
theorem fld_of {p : Int} (hp : primeB p = true) : ∃ (n : Nat) (_ : NeZero n), p = (n : Int) ∧ Fld (Fin n) ∧ ∀ a : Fin n, ∃ k : Nat, (ic (k : Int) : Fin n) = a := by
  have h := prime_cases hp
  rcases h with rfl | rfl | rfl | rfl | rfl
  · exact ⟨3, inferInstance, rfl, ⟨by decide, by decide, by decide⟩, fun a => ⟨a.val, by revert a; decide⟩⟩
  · exact ⟨5, inferInstance, rfl, ⟨by decide, by decide, by decide⟩, fun a => ⟨a.val, by revert a; decide⟩⟩
  · exact ⟨7, inferInstance, rfl, ⟨by decide, by decide, by decide⟩, fun a => ⟨a.val, by revert a; decide⟩⟩
  · exact ⟨11, inferInstance, rfl, ⟨by decide, by decide +kernel, by decide +kernel⟩, fun a => ⟨a.val, by revert a; decide⟩⟩
  · exact ⟨13, inferInstance, rfl, ⟨by decide, by decide +kernel, by decide +kernel⟩, fun a => ⟨a.val, by revert a; decide⟩⟩
/-! ### normal lists -/
theorem em_l (a b p : Int) : a % p * b % p = a * b % p := by rw [Int.mul_emod, Int.emod_emod_of_dvd _ (Int.dvd_refl p), ← Int.mul_emod]
theorem em_r (a b p : Int) : a * (b % p) % p = a * b % p := by rw [Int.mul_emod, Int.emod_emod_of_dvd _ (Int.dvd_refl p), ← Int.mul_emod]
theorem unit_mul {p : Int} (hp : primeB p = true) {k a : Int} (hk : ¬ k % p = 0) (h0 : 0 < a) (h1 : a < p) : ¬ k * a % p = 0 := by
  intro e
  obtain ⟨_, _, h⟩ := inv_spec hp h0 h1
  apply hk
  have : k * (a * invP p a) % p = 0 := by rw [← Int.mul_assoc, ← em_l, e, Int.zero_mul, Int.zero_emod]
  rw [← em_r, h, Int.mul_one] at this
  exact this
theorem fnz_mul {p : Int} (hp : primeB p = true) {k : Int} (hk : ¬ k % p = 0) : ∀ {l : List Int}, (∀ x ∈ l, 0 ≤ x ∧ x < p) → fnz ((l.map (k * ·)).map (· % p)) = k * fnz l % p
  | [], _ => by simp [fnz]
  | a :: r, h => by
    have ha := h a List.mem_cons_self
    have ih := fnz_mul hp hk (l := r) (fun x hx => h x (List.mem_cons_of_mem _ hx))
    simp only [List.map_cons, fnz]
    by_cases h0 : a = 0
    · subst h0
      rw [if_pos (by simp), if_pos rfl]; exact ih
    · rw [if_neg (unit_mul hp hk (by omega) ha.2), if_neg h0]
theorem fnz_all {p : Int} {l : List Int} : fnz (l.map (· % p)) = 0 ↔ ∀ x ∈ l, x % p = 0 := by
  induction l with
  | nil => simp [fnz]
  | cons a r ih =>
    simp only [List.map_cons, fnz]
    split
    · rename_i h
      rw [ih]
      simp [h]
    · rename_i h
      simp [h]
theorem norm_of_mul {p : Int} (hp : primeB p = true) {m X : List Int} (hm : normB p m = true) {k : Int} (hk : ¬ k % p = 0) (hX : X.map (· % p) = (m.map (k * ·)).map (· % p)) : normL p X = m := by
  have hb := prime_bd hp
  have hr := Int.emod_nonneg k (show p ≠ 0 by omega)
  have hr2 := Int.emod_lt_of_pos k (show 0 < p by omega)
  obtain ⟨hi1, hi2, hi3⟩ := inv_spec hp (n := k % p) (by omega) hr2
  have hml : ∀ x ∈ m, 0 ≤ x ∧ x < p := norm_list hm
  simp only [normB, Bool.and_eq_true, beq_iff_eq] at hm
  have hf : facP p X = invP p (k % p) := by
    unfold facP
    rw [hX, fnz_mul hp hk hml, hm.2, Int.mul_one]
  have hn : normL p X = (X.map (· % p)).map (fun x => x * facP p X % p) := by unfold normL; rw [List.map_map]; rfl
  rw [hn, hX, hf, List.map_map, List.map_map]
  have : ∀ y ∈ m, (((fun x => x * invP p (k % p) % p) ∘ (fun x => x % p)) ∘ (fun x => k * x)) y = id y := fun y hy => by
    have h1 := hml y hy
    show k * y % p * invP p (k % p) % p = y
    rw [em_l, Int.mul_right_comm, ← em_l, ← em_l k, hi3, Int.one_mul, Int.emod_eq_of_lt h1.1 h1.2]
  rw [List.map_congr_left this, List.map_id]
theorem norm_norm {p : Int} (hp : primeB p = true) {l : List Int} (h : ¬ ∀ x ∈ l, x % p = 0) : normB p (normL p l) = true ∧ ¬ facP p l % p = 0 := by
  have hb := prime_bd hp
  have hz : fnz (l.map (· % p)) ≠ 0 := fun e => h (fnz_all.1 e)
  have hl : ∀ x ∈ l.map (· % p), 0 ≤ x ∧ x < p := fun x hx => by
    obtain ⟨y, _, rfl⟩ := List.mem_map.1 hx
    exact ⟨Int.emod_nonneg _ (by omega), Int.emod_lt_of_pos _ (by omega)⟩
  have hfb : 0 ≤ fnz (l.map (· % p)) ∧ fnz (l.map (· % p)) < p := by
    rcases fnz_mem (l.map (· % p)) with e | e
    · omega
    · exact hl _ e
  obtain ⟨h1, h2, h3⟩ := inv_spec hp (n := fnz (l.map (· % p))) (by omega) hfb.2
  have hf : facP p l = invP p (fnz (l.map (· % p))) := rfl
  have hk : ¬ facP p l % p = 0 := by rw [hf, Int.emod_eq_of_lt (by omega) h2]; omega
  refine ⟨?_, hk⟩
  have hn : normL p l = ((l.map (· % p)).map (facP p l * ·)).map (· % p) := by
    unfold normL
    rw [List.map_map, List.map_map]
    refine List.map_congr_left fun x _ => ?_
    show x % p * facP p l % p = facP p l * (x % p) % p
    rw [Int.mul_comm]
  simp only [normB, Bool.and_eq_true, beq_iff_eq]
  refine ⟨?_, ?_⟩
  · simp only [modB, List.all_eq_true, Bool.and_eq_true, decide_eq_true_eq]
    intro x hx
    unfold normL at hx
    obtain ⟨y, _, rfl⟩ := List.mem_map.1 hx
    have a1 := Int.emod_nonneg (y % p * facP p l) (show p ≠ 0 by omega)
    have a2 := Int.emod_lt_of_pos (y % p * facP p l) (show 0 < p by omega)
    omega
  · rw [hn, fnz_mul hp hk hl, Int.mul_comm, hf]; exact h3
end Go.Proofs.Ytchikadcicecoaa
namespace Go.Proofs.Ytchikadcicecoaa
set_option linter.unusedVariables false
set_option linter.unusedSimpArgs false
set_option linter.unusedSectionVars false
open Lean.Grind
def prX (p x : Int) : Int := if x = p then 1 else x
def prY (p x : Int) : Int := if x = p then 0 else 1
section
variable {R : Type} [CommRing R]
/-- a pair: of one place or of the other kind -/
def isPr (u v : R) : Prop := v = 1 ∨ (u = 1 ∧ v = 0)
def DD (m0 m1 m2 m3 x y u v : R) : R := (m0 * x + m1 * y) * v - (m2 * x + m3 * y) * u
/-- the product of the map that leads the units to two pairs, and of the one that leads back -/
def K0 (F G f g u1 v1 u2 v2 x1 y1 x2 y2 : R) : R := F * u1 * (g * y2) + G * u2 * (-(f * y1))
def K1 (F G f g u1 v1 u2 v2 x1 y1 x2 y2 : R) : R := F * u1 * (-(g * x2)) + G * u2 * (f * x1)
def K2 (F G f g u1 v1 u2 v2 x1 y1 x2 y2 : R) : R := F * v1 * (g * y2) + G * v2 * (-(f * y1))
def K3 (F G f g u1 v1 u2 v2 x1 y1 x2 y2 : R) : R := F * v1 * (-(g * x2)) + G * v2 * (f * x1)
theorem pr_scal {a b u v : R} (h : isPr u v) (hD : a * v - b * u = 0) : ∃ α : R, a = α * u ∧ b = α * v := by
  rcases h with h | ⟨h1, h2⟩
  · subst h
    exact ⟨b, by grind, by grind⟩
  · subst h1 h2
    exact ⟨a, by grind, by grind⟩
theorem mo_uniq (hd : Fld R) {m0 m1 m2 m3 x1 y1 x2 y2 x3 y3 u1 v1 u2 v2 u3 v3 : R} (hdet : m0 * m3 - m1 * m2 ≠ 0) (p1 : isPr u1 v1) (p2 : isPr u2 v2)
    (D1 : DD m0 m1 m2 m3 x1 y1 u1 v1 = 0) (D2 : DD m0 m1 m2 m3 x2 y2 u2 v2 = 0) (D3 : DD m0 m1 m2 m3 x3 y3 u3 v3 = 0)
    (hΔ : x1 * y2 - x2 * y1 ≠ 0) (hF : u3 * v2 - u2 * v3 ≠ 0) (hg : x1 * y3 - x3 * y1 ≠ 0) :
    ∃ k : R, k ≠ 0 ∧ K0 (u3 * v2 - u2 * v3) (u1 * v3 - u3 * v1) (x3 * y2 - x2 * y3) (x1 * y3 - x3 * y1) u1 v1 u2 v2 x1 y1 x2 y2 = k * m0 ∧
      K1 (u3 * v2 - u2 * v3) (u1 * v3 - u3 * v1) (x3 * y2 - x2 * y3) (x1 * y3 - x3 * y1) u1 v1 u2 v2 x1 y1 x2 y2 = k * m1 ∧
      K2 (u3 * v2 - u2 * v3) (u1 * v3 - u3 * v1) (x3 * y2 - x2 * y3) (x1 * y3 - x3 * y1) u1 v1 u2 v2 x1 y1 x2 y2 = k * m2 ∧
      K3 (u3 * v2 - u2 * v3) (u1 * v3 - u3 * v1) (x3 * y2 - x2 * y3) (x1 * y3 - x3 * y1) u1 v1 u2 v2 x1 y1 x2 y2 = k * m3 := by
  unfold DD at D1 D2 D3
  obtain ⟨α, a1, a2⟩ := pr_scal p1 D1
  obtain ⟨β, b1, b2⟩ := pr_scal p2 D2
  have hα : α ≠ 0 := by
    intro e
    subst e
    have e1 : (m0 * m3 - m1 * m2) * x1 = 0 := by grind
    have e2 : (m0 * m3 - m1 * m2) * y1 = 0 := by grind
    rcases hd.2.1 _ _ e1 with h | h
    · exact hdet h
    · rcases hd.2.1 _ _ e2 with h' | h'
      · exact hdet h'
      · exact hΔ (by rw [h, h']; grind)
  have hab : α * ((x3 * y2 - x2 * y3) * (u1 * v3 - u3 * v1)) = β * ((x1 * y3 - x3 * y1) * (u3 * v2 - u2 * v3)) := by
    have e : ((x1 * y2 - x2 * y1) * (m0 * x3 + m1 * y3)) * v3 - ((x1 * y2 - x2 * y1) * (m2 * x3 + m3 * y3)) * u3 = 0 := by grind
    have q1 : (x1 * y2 - x2 * y1) * (m0 * x3 + m1 * y3) = (x3 * y2 - x2 * y3) * (m0 * x1 + m1 * y1) + (x1 * y3 - x3 * y1) * (m0 * x2 + m1 * y2) := by grind
    have q2 : (x1 * y2 - x2 * y1) * (m2 * x3 + m3 * y3) = (x3 * y2 - x2 * y3) * (m2 * x1 + m3 * y1) + (x1 * y3 - x3 * y1) * (m2 * x2 + m3 * y2) := by grind
    rw [q1, q2, a1, a2, b1, b2] at e
    grind
  obtain ⟨i, hi⟩ := hd.2.2 α hα
  have hi0 : i ≠ 0 := fun e => hd.1 (by rw [← hi, e]; grind)
  generalize hf : x3 * y2 - x2 * y3 = f at *
  generalize hgg : x1 * y3 - x3 * y1 = g at *
  generalize hFF : u3 * v2 - u2 * v3 = F at *
  generalize hGG : u1 * v3 - u3 * v1 = G at *
  generalize hDD : x1 * y2 - x2 * y1 = Δ at *
  have d0 : Δ * m0 = α * u1 * y2 - β * u2 * y1 := by rw [← hDD, show (x1 * y2 - x2 * y1) * m0 = (m0 * x1 + m1 * y1) * y2 - (m0 * x2 + m1 * y2) * y1 by clear D1 D2 D3 a1 a2 b1 b2 hab hf hgg hFF hGG hDD; grind, a1, b1]
  have d1 : Δ * m1 = β * u2 * x1 - α * u1 * x2 := by rw [← hDD, show (x1 * y2 - x2 * y1) * m1 = (m0 * x2 + m1 * y2) * x1 - (m0 * x1 + m1 * y1) * x2 by clear D1 D2 D3 a1 a2 b1 b2 hab hf hgg hFF hGG hDD; grind, b1, a1]
  have d2 : Δ * m2 = α * v1 * y2 - β * v2 * y1 := by rw [← hDD, show (x1 * y2 - x2 * y1) * m2 = (m2 * x1 + m3 * y1) * y2 - (m2 * x2 + m3 * y2) * y1 by clear D1 D2 D3 a1 a2 b1 b2 hab hf hgg hFF hGG hDD; grind, a2, b2]
  have d3 : Δ * m3 = β * v2 * x1 - α * v1 * x2 := by rw [← hDD, show (x1 * y2 - x2 * y1) * m3 = (m2 * x2 + m3 * y2) * x1 - (m2 * x1 + m3 * y1) * x2 by clear D1 D2 D3 a1 a2 b1 b2 hab hf hgg hFF hGG hDD; grind, b2, a2]
  clear D1 D2 D3 hf hgg hFF hGG hDD a1 a2 b1 b2
  refine ⟨F * g * Δ * i, hd.ml (hd.ml (hd.ml hF hg) hΔ) hi0, ?_, ?_, ?_, ?_⟩
  · have : α * K0 F G f g u1 v1 u2 v2 x1 y1 x2 y2 = F * g * (Δ * m0) := by rw [d0]; unfold K0; grind
    calc K0 F G f g u1 v1 u2 v2 x1 y1 x2 y2 = (α * i) * K0 F G f g u1 v1 u2 v2 x1 y1 x2 y2 := by rw [hi]; grind
      _ = i * (α * K0 F G f g u1 v1 u2 v2 x1 y1 x2 y2) := by grind
      _ = _ := by rw [this]; grind
  · have : α * K1 F G f g u1 v1 u2 v2 x1 y1 x2 y2 = F * g * (Δ * m1) := by rw [d1]; unfold K1; grind
    calc K1 F G f g u1 v1 u2 v2 x1 y1 x2 y2 = (α * i) * K1 F G f g u1 v1 u2 v2 x1 y1 x2 y2 := by rw [hi]; grind
      _ = i * (α * K1 F G f g u1 v1 u2 v2 x1 y1 x2 y2) := by grind
      _ = _ := by rw [this]; grind
  · have : α * K2 F G f g u1 v1 u2 v2 x1 y1 x2 y2 = F * g * (Δ * m2) := by rw [d2]; unfold K2; grind
    calc K2 F G f g u1 v1 u2 v2 x1 y1 x2 y2 = (α * i) * K2 F G f g u1 v1 u2 v2 x1 y1 x2 y2 := by rw [hi]; grind
      _ = i * (α * K2 F G f g u1 v1 u2 v2 x1 y1 x2 y2) := by grind
      _ = _ := by rw [this]; grind
  · have : α * K3 F G f g u1 v1 u2 v2 x1 y1 x2 y2 = F * g * (Δ * m3) := by rw [d3]; unfold K3; grind
    calc K3 F G f g u1 v1 u2 v2 x1 y1 x2 y2 = (α * i) * K3 F G f g u1 v1 u2 v2 x1 y1 x2 y2 := by rw [hi]; grind
      _ = i * (α * K3 F G f g u1 v1 u2 v2 x1 y1 x2 y2) := by grind
      _ = _ := by rw [this]; grind
theorem mo_det {F G f g u1 v1 u2 v2 x1 y1 x2 y2 : R} : K0 F G f g u1 v1 u2 v2 x1 y1 x2 y2 * K3 F G f g u1 v1 u2 v2 x1 y1 x2 y2 - K1 F G f g u1 v1 u2 v2 x1 y1 x2 y2 * K2 F G f g u1 v1 u2 v2 x1 y1 x2 y2 = (F * G * (u1 * v2 - u2 * v1)) * (f * g * (x1 * y2 - x2 * y1)) := by
  unfold K0 K1 K2 K3; grind
theorem mo_1 {F G f g u1 v1 u2 v2 x1 y1 x2 y2 : R} : DD (K0 F G f g u1 v1 u2 v2 x1 y1 x2 y2) (K1 F G f g u1 v1 u2 v2 x1 y1 x2 y2) (K2 F G f g u1 v1 u2 v2 x1 y1 x2 y2) (K3 F G f g u1 v1 u2 v2 x1 y1 x2 y2) x1 y1 u1 v1 = 0 := by
  unfold DD K0 K1 K2 K3; grind
theorem mo_2 {F G f g u1 v1 u2 v2 x1 y1 x2 y2 : R} : DD (K0 F G f g u1 v1 u2 v2 x1 y1 x2 y2) (K1 F G f g u1 v1 u2 v2 x1 y1 x2 y2) (K2 F G f g u1 v1 u2 v2 x1 y1 x2 y2) (K3 F G f g u1 v1 u2 v2 x1 y1 x2 y2) x2 y2 u2 v2 = 0 := by
  unfold DD K0 K1 K2 K3; grind
theorem mo_3 {x1 y1 x2 y2 x3 y3 u1 v1 u2 v2 u3 v3 : R} : DD (K0 (u3 * v2 - u2 * v3) (u1 * v3 - u3 * v1) (x3 * y2 - x2 * y3) (x1 * y3 - x3 * y1) u1 v1 u2 v2 x1 y1 x2 y2) (K1 (u3 * v2 - u2 * v3) (u1 * v3 - u3 * v1) (x3 * y2 - x2 * y3) (x1 * y3 - x3 * y1) u1 v1 u2 v2 x1 y1 x2 y2) (K2 (u3 * v2 - u2 * v3) (u1 * v3 - u3 * v1) (x3 * y2 - x2 * y3) (x1 * y3 - x3 * y1) u1 v1 u2 v2 x1 y1 x2 y2) (K3 (u3 * v2 - u2 * v3) (u1 * v3 - u3 * v1) (x3 * y2 - x2 * y3) (x1 * y3 - x3 * y1) u1 v1 u2 v2 x1 y1 x2 y2) x3 y3 u3 v3 = 0 := by
  unfold DD K0 K1 K2 K3
  grind
theorem DD_scal (k m0 m1 m2 m3 x y u v : R) : DD (k * m0) (k * m1) (k * m2) (k * m3) x y u v = k * DD m0 m1 m2 m3 x y u v := by unfold DD; grind
end
end Go.Proofs.Ytchikadcicecoaa
namespace Go.Proofs.Ytchikadcicecoaa
set_option linter.unusedVariables false
set_option linter.unusedSimpArgs false
set_option linter.unusedSectionVars false
open Lean.Grind
def frF (p a b c : Int) : Int := (prX p c * prY p b - prX p b * prY p c) * invP p ((prX p a * prY p b - prX p b * prY p a) % p) % p
def frG (p a b c : Int) : Int := (prX p a * prY p c - prX p c * prY p a) * invP p ((prX p a * prY p b - prX p b * prY p a) % p) % p
def frL (p a b c : Int) : List Int := normL p [frF p a b c * prX p a, frG p a b c * prX p b, frF p a b c * prY p a, frG p a b c * prY p b]
def bkL (p : Int) (m : List Int) : List Int := normL p [m.getD 3 0, -m.getD 1 0, -m.getD 2 0, m.getD 0 0]
def moL (p a b c d e f : Int) : List Int := normL p (thL4 (frL p d e f) (bkL p (frL p a b c)))
theorem one_a {R : Type} [CommRing R] (y : R) (h : (1 : R) * 1 - y * 0 = 0) : (1 : R) = 0 := by grind
theorem one_b {R : Type} [CommRing R] (y : R) (h : y * 0 - (1 : R) * 1 = 0) : (1 : R) = 0 := by grind
theorem one_c {R : Type} [CommRing R] (A B : R) (h : A * 0 - B * 1 = 0) : B = 0 := by grind
section
variable {n : Nat} [NeZero n]
theorem nrm4 (hp : primeB (n : Int) = true) (hd : Fld (Fin n)) (a b c d : Int) (h : (ic a : Fin n) * ic d - ic b * ic c ≠ 0) : ∃ a' b' c' d' : Int, normL (n : Int) [a, b, c, d] = [a', b', c', d'] ∧ normB (n : Int) [a', b', c', d'] = true ∧
    ∃ k : Fin n, k ≠ 0 ∧ ic a' = k * ic a ∧ ic b' = k * ic b ∧ ic c' = k * ic c ∧ ic d' = k * ic d := by
  have hnz : ¬ ∀ x ∈ [a, b, c, d], x % (n : Int) = 0 := by
    intro e
    have ea := (ic_z (R := Fin n) n).2 (e a (by simp))
    have eb := (ic_z (R := Fin n) n).2 (e b (by simp))
    rw [ea, eb] at h
    exact h (by grind)
  obtain ⟨h1, h2⟩ := norm_norm hp hnz
  have key : ∀ x : Int, (ic (x % (n : Int) * facP (n : Int) [a, b, c, d] % (n : Int)) : Fin n) = ic (facP (n : Int) [a, b, c, d]) * ic x := fun x => by
    rw [ic_mod n, ic_mul, ic_mod n]; grind
  exact ⟨_, _, _, _, rfl, h1, ic (facP (n : Int) [a, b, c, d]), fun e => h2 ((ic_z (R := Fin n) n).1 e), key a, key b, key c, key d⟩
theorem br_nz (hp : primeB (n : Int) = true) (hd : Fld (Fin n)) {x u : Int} (hx : 0 ≤ x ∧ x ≤ n) (hu : 0 ≤ u ∧ u ≤ n) (hne : x ≠ u) : (ic (prX n x) : Fin n) * ic (prY n u) - ic (prX n u) * ic (prY n x) ≠ 0 := by
  have h1 := hd.1
  have c1 : (ic 1 : Fin n) = 1 := ic_one
  have c0 : (ic 0 : Fin n) = 0 := ic_zero
  by_cases e1 : x = n
  · have e2 : ¬ u = n := fun e => hne (e1.trans e.symm)
    simp only [prX, prY, if_pos e1, if_neg e2, c1, c0]
    intro e; exact h1 (one_a _ e)
  · by_cases e2 : u = n
    · simp only [prX, prY, if_neg e1, if_pos e2, c1, c0]
      intro e; exact h1 (one_b _ e)
    · simp only [prX, prY, if_neg e1, if_neg e2, c1]
      intro e
      have : (ic x : Fin n) = ic u := by grind
      rw [ic_eq n, Int.emod_eq_of_lt hx.1 (by omega), Int.emod_eq_of_lt hu.1 (by omega)] at this
      exact hne this
theorem pr_is (x : Int) : isPr (ic (prX n x) : Fin n) (ic (prY n x)) := by
  have c1 : (ic 1 : Fin n) = 1 := ic_one
  have c0 : (ic 0 : Fin n) = 0 := ic_zero
  unfold isPr prX prY
  split
  · exact .inr ⟨c1, c0⟩
  · exact .inl c1
theorem place_iff (hp : primeB (n : Int) = true) (hd : Fld (Fin n)) {A B u : Int} (hAB : ¬ ((ic A : Fin n) = 0 ∧ (ic B : Fin n) = 0)) (hu : 0 ≤ u ∧ u ≤ n) : placeP n A B = u ↔ (ic A : Fin n) * ic (prY n u) - ic B * ic (prX n u) = 0 := by
  have hb := prime_bd hp
  have c1 : (ic 1 : Fin n) = 1 := ic_one
  have c0 : (ic 0 : Fin n) = 0 := ic_zero
  unfold placeP
  by_cases hB : B % (n : Int) = 0
  · have hB' := (ic_z (R := Fin n) n).2 hB
    rw [if_pos hB]
    by_cases e : u = n
    · simp only [prX, prY, if_pos e, c1, c0, hB']
      exact ⟨fun _ => by grind, fun _ => e.symm⟩
    · simp only [prX, prY, if_neg e, c1, hB']
      exact ⟨fun h => absurd h.symm e, fun h => absurd ⟨by grind, hB'⟩ hAB⟩
  · rw [if_neg hB]
    have r1 := Int.emod_nonneg B (show (n : Int) ≠ 0 by omega)
    have r2 := Int.emod_lt_of_pos B (show 0 < (n : Int) by omega)
    obtain ⟨i1, i2, i3⟩ := inv_spec hp (n := B % (n : Int)) (by omega) r2
    have hi : (ic B : Fin n) * ic (invP n (B % (n : Int))) = 1 := by
      rw [← c1, ← ic_mod n 1, ← ic_mod n B, ← ic_mul, ← ic_mod n (_ * _), i3, ic_mod n]
    have q1 := Int.emod_nonneg (A % (n : Int) * invP n (B % (n : Int))) (show (n : Int) ≠ 0 by omega)
    have q2 := Int.emod_lt_of_pos (A % (n : Int) * invP n (B % (n : Int))) (show 0 < (n : Int) by omega)
    have hq : (ic (A % (n : Int) * invP n (B % (n : Int)) % (n : Int)) : Fin n) = ic A * ic (invP n (B % (n : Int))) := by rw [ic_mod n, ic_mul, ic_mod n]
    generalize A % (n : Int) * invP n (B % (n : Int)) % (n : Int) = q at *
    generalize (ic (invP n (B % (n : Int))) : Fin n) = i at *
    by_cases e : u = n
    · simp only [prX, prY, if_pos e, c1, c0]
      refine ⟨fun h => absurd (h.trans e) (by omega), fun h => absurd ((ic_z (R := Fin n) n).1 (one_c _ _ h)) hB⟩
    · simp only [prX, prY, if_neg e, c1]
      constructor
      · intro h
        subst h
        rw [hq]
        have : (ic A : Fin n) * 1 - ic B * (ic A * i) = ic A * (1 - ic B * i) := by grind
        rw [this, hi]; grind
      · intro h
        have h2 : (ic q : Fin n) = ic u := by
          rw [hq]
          have : (ic A : Fin n) = ic B * ic u := by grind
          rw [this]
          calc (ic B : Fin n) * ic u * i = (ic B * i) * ic u := by grind
            _ = ic u := by rw [hi]; grind
        rw [ic_eq n, Int.emod_eq_of_lt q1 q2, Int.emod_eq_of_lt hu.1 (by omega)] at h2
        exact h2
theorem at_iff (hp : primeB (n : Int) = true) (hd : Fld (Fin n)) {a b c d x u : Int} (hdet : (ic a : Fin n) * ic d - ic b * ic c ≠ 0) (hx : 0 ≤ x ∧ x ≤ n) (hu : 0 ≤ u ∧ u ≤ n) :
    atP n a b c d x = u ↔ DD (ic a : Fin n) (ic b) (ic c) (ic d) (ic (prX n x)) (ic (prY n x)) (ic (prX n u)) (ic (prY n u)) = 0 := by
  have c1 : (ic 1 : Fin n) = 1 := ic_one
  have c0 : (ic 0 : Fin n) = 0 := ic_zero
  have e : atP n a b c d x = placeP n (a * prX n x + b * prY n x) (c * prX n x + d * prY n x) := by
    unfold atP prX prY
    split <;> simp
  have hAB : ¬ ((ic (a * prX n x + b * prY n x) : Fin n) = 0 ∧ (ic (c * prX n x + d * prY n x) : Fin n) = 0) := by
    rintro ⟨h1, h2⟩
    simp only [ic_add, ic_mul] at h1 h2
    have e1 : ((ic a : Fin n) * ic d - ic b * ic c) * ic (prX n x) = 0 := by grind
    have e2 : ((ic a : Fin n) * ic d - ic b * ic c) * ic (prY n x) = 0 := by grind
    rcases hd.2.1 _ _ e1 with h | h
    · exact hdet h
    · rcases hd.2.1 _ _ e2 with h' | h'
      · exact hdet h'
      · rcases pr_is (n := n) x with q | ⟨q, _⟩
        · exact hd.1 (by rw [← q, h'])
        · exact hd.1 (by rw [← q, h])
  rw [e, place_iff hp hd hAB hu]
  simp only [ic_add, ic_mul]
  unfold DD
  exact Iff.rfl
theorem fr_ic (hp : primeB (n : Int) = true) (hd : Fld (Fin n)) {a b c : Int} (ha : 0 ≤ a ∧ a ≤ n) (hb : 0 ≤ b ∧ b ≤ n) (hc : 0 ≤ c ∧ c ≤ n) (hab : a ≠ b) (hac : a ≠ c) (hbc : b ≠ c) :
    ∃ w0 w1 w2 w3 : Int, frL n a b c = [w0, w1, w2, w3] ∧ normB (n : Int) [w0, w1, w2, w3] = true ∧ ∃ k : Fin n, k ≠ 0 ∧
      ic w0 = k * ((ic (prX n c) * ic (prY n b) - ic (prX n b) * ic (prY n c)) * ic (prX n a)) ∧ ic w1 = k * ((ic (prX n a) * ic (prY n c) - ic (prX n c) * ic (prY n a)) * ic (prX n b)) ∧
      ic w2 = k * ((ic (prX n c) * ic (prY n b) - ic (prX n b) * ic (prY n c)) * ic (prY n a)) ∧ ic w3 = k * ((ic (prX n a) * ic (prY n c) - ic (prX n c) * ic (prY n a)) * ic (prY n b)) := by
  have hbd := prime_bd hp
  have n1 := br_nz hp hd ha hb hab
  have n2 := br_nz hp hd ha hc hac
  have n3 := br_nz hp hd hc hb (fun e => hbc e.symm)
  have hΔ : ¬ (prX n a * prY n b - prX n b * prY n a) % (n : Int) = 0 := fun e => n1 (by rw [← ic_mul, ← ic_mul, ← ic_sub]; exact (ic_z n).2 e)
  have r1 := Int.emod_nonneg (prX n a * prY n b - prX n b * prY n a) (show (n : Int) ≠ 0 by omega)
  have r2 := Int.emod_lt_of_pos (prX n a * prY n b - prX n b * prY n a) (show 0 < (n : Int) by omega)
  obtain ⟨i1, i2, i3⟩ := inv_spec hp (by omega) r2
  have hi0 : (ic (invP n ((prX n a * prY n b - prX n b * prY n a) % (n : Int))) : Fin n) ≠ 0 := fun e => by
    have := (ic_z (R := Fin n) n).1 e
    rw [Int.emod_eq_of_lt (by omega) i2] at this
    omega
  have hF : (ic (frF n a b c) : Fin n) = (ic (prX n c) * ic (prY n b) - ic (prX n b) * ic (prY n c)) * ic (invP n ((prX n a * prY n b - prX n b * prY n a) % (n : Int))) := by
    unfold frF; rw [ic_mod n, ic_mul, ic_sub, ic_mul, ic_mul]
  have hG : (ic (frG n a b c) : Fin n) = (ic (prX n a) * ic (prY n c) - ic (prX n c) * ic (prY n a)) * ic (invP n ((prX n a * prY n b - prX n b * prY n a) % (n : Int))) := by
    unfold frG; rw [ic_mod n, ic_mul, ic_sub, ic_mul, ic_mul]
  generalize (ic (invP n ((prX n a * prY n b - prX n b * prY n a) % (n : Int))) : Fin n) = i at *
  obtain ⟨w0, w1, w2, w3, hw, hwn, k, hk, k0, k1, k2, k3⟩ := nrm4 hp hd (frF n a b c * prX n a) (frG n a b c * prX n b) (frF n a b c * prY n a) (frG n a b c * prY n b) (by
    simp only [ic_mul, hF, hG]
    have := hd.ml (hd.ml n3 n2) (hd.ml n1 (hd.ml hi0 hi0))
    intro e
    exact this (by grind))
  refine ⟨w0, w1, w2, w3, hw, hwn, k * i, hd.ml hk hi0, ?_, ?_, ?_, ?_⟩
  · rw [k0, ic_mul, hF]; grind
  · rw [k1, ic_mul, hG]; grind
  · rw [k2, ic_mul, hF]; grind
  · rw [k3, ic_mul, hG]; grind
end
end Go.Proofs.Ytchikadcicecoaa
namespace Go.Proofs.Ytchikadcicecoaa
set_option linter.unusedVariables false
set_option linter.unusedSimpArgs false
set_option linter.unusedSectionVars false
open Lean.Grind
theorem det_fg {R : Type} [CommRing R] (k f g x1 y1 x2 y2 : R) : (k * (f * x1)) * (k * (g * y2)) - (k * (g * x2)) * (k * (f * y1)) = (k * k) * ((f * g) * (x1 * y2 - x2 * y1)) := by grind
theorem det_bk {R : Type} [CommRing R] (a b c d : R) : d * a - (-b) * (-c) = a * d - b * c := by grind
theorem k_0 {R : Type} [CommRing R] (kt kf kb F G f g u1 v1 u2 v2 x1 y1 x2 y2 : R) : (kt * (F * u1)) * (kb * (kf * (g * y2))) + (kt * (G * u2)) * (kb * -(kf * (f * y1))) = (kt * kf * kb) * K0 F G f g u1 v1 u2 v2 x1 y1 x2 y2 := by unfold K0; grind
theorem k_1 {R : Type} [CommRing R] (kt kf kb F G f g u1 v1 u2 v2 x1 y1 x2 y2 : R) : (kt * (F * u1)) * (kb * -(kf * (g * x2))) + (kt * (G * u2)) * (kb * (kf * (f * x1))) = (kt * kf * kb) * K1 F G f g u1 v1 u2 v2 x1 y1 x2 y2 := by unfold K1; grind
theorem k_2 {R : Type} [CommRing R] (kt kf kb F G f g u1 v1 u2 v2 x1 y1 x2 y2 : R) : (kt * (F * v1)) * (kb * (kf * (g * y2))) + (kt * (G * v2)) * (kb * -(kf * (f * y1))) = (kt * kf * kb) * K2 F G f g u1 v1 u2 v2 x1 y1 x2 y2 := by unfold K2; grind
theorem k_3 {R : Type} [CommRing R] (kt kf kb F G f g u1 v1 u2 v2 x1 y1 x2 y2 : R) : (kt * (F * v1)) * (kb * -(kf * (g * x2))) + (kt * (G * v2)) * (kb * (kf * (f * x1))) = (kt * kf * kb) * K3 F G f g u1 v1 u2 v2 x1 y1 x2 y2 := by unfold K3; grind
theorem det_sc {R : Type} [CommRing R] (k a b c d : R) : (k * a) * (k * d) - (k * b) * (k * c) = (k * k) * (a * d - b * c) := by grind
theorem k_eq {R : Type} [CommRing R] {k l m w : R} (h : w = l * m) : k * w = (k * l) * m := by rw [h]; grind
section
variable {n : Nat} [NeZero n]
theorem mo_fld (hp : primeB (n : Int) = true) (hd : Fld (Fin n)) (hs : ∀ a : Fin n, ∃ k : Nat, (ic (k : Int) : Fin n) = a) {a b c d e f : Int} (ha : 0 ≤ a ∧ a ≤ n) (hb : 0 ≤ b ∧ b ≤ n) (hc : 0 ≤ c ∧ c ≤ n) (hD : 0 ≤ d ∧ d ≤ n) (he : 0 ≤ e ∧ e ≤ n) (hf : 0 ≤ f ∧ f ≤ n)
    (hab : a ≠ b) (hac : a ≠ c) (hbc : b ≠ c) (hde : d ≠ e) (hdf : d ≠ f) (hef : e ≠ f) :
    ∃ w0 w1 w2 w3 : Int, moL n a b c d e f = [w0, w1, w2, w3] ∧ normB (n : Int) [w0, w1, w2, w3] = true ∧ (ic w0 : Fin n) * ic w3 - ic w1 * ic w2 ≠ 0 ∧
      (atP n w0 w1 w2 w3 a = d ∧ atP n w0 w1 w2 w3 b = e ∧ atP n w0 w1 w2 w3 c = f) ∧
      ∀ m0 m1 m2 m3 : Int, normB (n : Int) [m0, m1, m2, m3] = true → (ic m0 : Fin n) * ic m3 - ic m1 * ic m2 ≠ 0 → atP n m0 m1 m2 m3 a = d → atP n m0 m1 m2 m3 b = e → atP n m0 m1 m2 m3 c = f → [m0, m1, m2, m3] = [w0, w1, w2, w3] := by
  obtain ⟨v0, v1, v2, v3, hv, hvn, kf, hkf, z0, z1, z2, z3⟩ := fr_ic hp hd ha hb hc hab hac hbc
  obtain ⟨t0, t1, t2, t3, ht, htn, kt, hkt, y0, y1, y2, y3⟩ := fr_ic hp hd hD he hf hde hdf hef
  have n1 := br_nz hp hd ha hb hab
  have n2 := br_nz hp hd ha hc hac
  have n3 := br_nz hp hd hc hb (fun x => hbc x.symm)
  have q1 := br_nz hp hd hD he hde
  have q2 := br_nz hp hd hD hf hdf
  have q3 := br_nz hp hd hf he (fun x => hef x.symm)
  have pd := pr_is (n := n) d
  have pe := pr_is (n := n) e
  have hat := fun (w0 w1 w2 w3 : Int) (h : (ic w0 : Fin n) * ic w3 - ic w1 * ic w2 ≠ 0) => And.intro (at_iff hp hd h ha hD) (And.intro (at_iff hp hd h hb he) (at_iff hp hd h hc hf))
  generalize (ic (prX n a) : Fin n) = xa at *
  generalize (ic (prY n a) : Fin n) = ya at *
  generalize (ic (prX n b) : Fin n) = xb at *
  generalize (ic (prY n b) : Fin n) = yb at *
  generalize (ic (prX n c) : Fin n) = xc at *
  generalize (ic (prY n c) : Fin n) = yc at *
  generalize (ic (prX n d) : Fin n) = xd at *
  generalize (ic (prY n d) : Fin n) = yd at *
  generalize (ic (prX n e) : Fin n) = xe at *
  generalize (ic (prY n e) : Fin n) = ye at *
  generalize (ic (prX n f) : Fin n) = xf at *
  generalize (ic (prY n f) : Fin n) = yf at *
  have hvd : (ic v0 : Fin n) * ic v3 - ic v1 * ic v2 ≠ 0 := by
    rw [z0, z1, z2, z3, det_fg]
    exact hd.ml (hd.ml hkf hkf) (hd.ml (hd.ml n3 n2) n1)
  obtain ⟨b0, b1, b2, b3, hbk, hbn, kb, hkb, g0, g1, g2, g3⟩ := nrm4 hp hd v3 (-v1) (-v2) v0 (by
    rw [ic_neg, ic_neg, det_bk]; exact hvd)
  rw [ic_neg] at g1 g2
  have e0 : (ic (t0 * b0 + t1 * b2) : Fin n) = _ := (by rw [ic_add, ic_mul, ic_mul, y0, y1, g0, g2, z3, z2] : (ic (t0 * b0 + t1 * b2) : Fin n) = _).trans (k_0 kt kf kb _ _ _ _ _ yd _ ye xa _ xb _)
  have e1 : (ic (t0 * b1 + t1 * b3) : Fin n) = _ := (by rw [ic_add, ic_mul, ic_mul, y0, y1, g1, g3, z1, z0] : (ic (t0 * b1 + t1 * b3) : Fin n) = _).trans (k_1 kt kf kb _ _ _ _ _ yd _ ye _ ya _ yb)
  have e2 : (ic (t2 * b0 + t3 * b2) : Fin n) = _ := (by rw [ic_add, ic_mul, ic_mul, y2, y3, g0, g2, z3, z2] : (ic (t2 * b0 + t3 * b2) : Fin n) = _).trans (k_2 kt kf kb _ _ _ _ xd _ xe _ xa _ xb _)
  have e3 : (ic (t2 * b1 + t3 * b3) : Fin n) = _ := (by rw [ic_add, ic_mul, ic_mul, y2, y3, g1, g3, z1, z0] : (ic (t2 * b1 + t3 * b3) : Fin n) = _).trans (k_3 kt kf kb _ _ _ _ xd _ xe _ _ ya _ yb)
  have hK := mo_det (F := xf * ye - xe * yf) (G := xd * yf - xf * yd) (f := xc * yb - xb * yc) (g := xa * yc - xc * ya) (u1 := xd) (v1 := yd) (u2 := xe) (v2 := ye) (x1 := xa) (y1 := ya) (x2 := xb) (y2 := yb)
  have hKn := hd.ml (hd.ml (hd.ml q3 q2) q1) (hd.ml (hd.ml n3 n2) n1)
  rw [← hK] at hKn
  have hkk := hd.ml (hd.ml hkt hkf) hkb
  obtain ⟨w0, w1, w2, w3, hw, hwn, kw, hkw, f0, f1, f2, f3⟩ := nrm4 hp hd (t0 * b0 + t1 * b2) (t0 * b1 + t1 * b3) (t2 * b0 + t3 * b2) (t2 * b1 + t3 * b3) (by
    rw [e0, e1, e2, e3, det_sc]
    exact hd.ml (hd.ml hkk hkk) hKn)
  rw [e0] at f0
  rw [e1] at f1
  rw [e2] at f2
  rw [e3] at f3
  have f0' := f0.trans (k_eq (k := kw) rfl)
  have f1' := f1.trans (k_eq (k := kw) rfl)
  have f2' := f2.trans (k_eq (k := kw) rfl)
  have f3' := f3.trans (k_eq (k := kw) rfl)
  have hkz := hd.ml hkw hkk
  generalize kw * (kt * kf * kb) = k at *
  clear f0 f1 f2 f3 e0 e1 e2 e3 y0 y1 y2 y3 z0 z1 z2 z3 g0 g1 g2 g3
  have hml : moL n a b c d e f = [w0, w1, w2, w3] := by
    unfold moL
    rw [hv, ht]
    have : bkL (n : Int) [v0, v1, v2, v3] = [b0, b1, b2, b3] := hbk
    rw [this]
    exact hw
  have hwd : (ic w0 : Fin n) * ic w3 - ic w1 * ic w2 ≠ 0 := by
    rw [f0', f1', f2', f3', det_sc]
    exact hd.ml (hd.ml hkz hkz) hKn
  refine ⟨w0, w1, w2, w3, hml, hwn, hwd, ⟨?_, ?_, ?_⟩, ?_⟩
  · rw [(hat _ _ _ _ hwd).1, f0', f1', f2', f3', DD_scal, mo_1]; exact Semiring.mul_zero _
  · rw [(hat _ _ _ _ hwd).2.1, f0', f1', f2', f3', DD_scal, mo_2]; exact Semiring.mul_zero _
  · rw [(hat _ _ _ _ hwd).2.2, f0', f1', f2', f3', DD_scal, mo_3]; exact Semiring.mul_zero _
  · intro m0 m1 m2 m3 hmn hmd h1 h2 h3
    rw [(hat _ _ _ _ hmd).1] at h1
    rw [(hat _ _ _ _ hmd).2.1] at h2
    rw [(hat _ _ _ _ hmd).2.2] at h3
    obtain ⟨l, hl, l0, l1, l2, l3⟩ := mo_uniq hd hmd pd pe h1 h2 h3 n1 q3 n2
    rw [l0] at f0'
    rw [l1] at f1'
    rw [l2] at f2'
    rw [l3] at f3'
    obtain ⟨q, hq⟩ := hs (k * l)
    have hq0 : ¬ (q : Int) % (n : Int) = 0 := fun x => hd.ml hkz hl (by rw [← hq]; exact (ic_z n).2 x)
    have cg : ∀ w m : Int, (ic w : Fin n) = k * (l * ic m) → w % (n : Int) = (q : Int) * m % (n : Int) := fun w m h => (ic_eq (R := Fin n) n).1 (by rw [h, ic_mul, hq, Semiring.mul_assoc])
    have x1 : normL (n : Int) [w0, w1, w2, w3] = [m0, m1, m2, m3] := norm_of_mul hp hmn hq0 (by simp only [List.map_cons, List.map_nil, cg _ _ f0', cg _ _ f1', cg _ _ f2', cg _ _ f3'])
    have hbd := prime_bd hp
    have x2 : normL (n : Int) [w0, w1, w2, w3] = [w0, w1, w2, w3] := norm_of_mul hp hwn (k := 1) (by rw [Int.emod_eq_of_lt (by omega) (by omega)]; omega) (by simp)
    exact x1.symm.trans x2
theorem det_int (a b c d : Int) : (ic a : Fin n) * ic d - ic b * ic c ≠ 0 ↔ (a * d - b * c) % (n : Int) ≠ 0 := by
  rw [← ic_mul, ← ic_mul, ← ic_sub]
  exact not_congr (ic_z n)
end
/-- the same over numbers -/
theorem mo_N {n : Nat} (hp : primeB (n : Int) = true) {a b c d e f : Nat} (ha : a ≤ n) (hb : b ≤ n) (hc : c ≤ n) (hD : d ≤ n) (he : e ≤ n) (hf : f ≤ n) (hab : a ≠ b) (hac : a ≠ c) (hbc : b ≠ c) (hde : d ≠ e) (hdf : d ≠ f) (hef : e ≠ f) :
    ∃ w : N4, moL (n : Int) a b c d e f = toM w ∧ w ∈ MN n ∧ (atN n w a = d ∧ atN n w b = e ∧ atN n w c = f) ∧ ∀ m : N4, m ∈ MN n → atN n m a = d → atN n m b = e → atN n m c = f → m = w := by
  have hbd := prime_bd hp
  have hn : 2 ≤ n := by omega
  obtain ⟨n', _, hnn, hd, hs⟩ := fld_of hp
  have e0 : n' = n := by omega
  subst e0
  obtain ⟨w0, w1, w2, w3, h1, h2, h3, ⟨h4, h5, h6⟩, h7⟩ := mo_fld hp hd hs (a := a) (b := b) (c := c) (d := d) (e := e) (f := f) (by omega) (by omega) (by omega) (by omega) (by omega) (by omega) (by omega) (by omega) (by omega) (by omega) (by omega) (by omega)
  have hl := norm_list h2
  have l0 := hl w0 (by simp)
  have l1 := hl w1 (by simp)
  have l2 := hl w2 (by simp)
  have l3 := hl w3 (by simp)
  obtain ⟨w0, rfl⟩ : ∃ n : Nat, w0 = (n : Int) := ⟨w0.toNat, by omega⟩
  obtain ⟨w1, rfl⟩ : ∃ n : Nat, w1 = (n : Int) := ⟨w1.toNat, by omega⟩
  obtain ⟨w2, rfl⟩ : ∃ n : Nat, w2 = (n : Int) := ⟨w2.toNat, by omega⟩
  obtain ⟨w3, rfl⟩ : ∃ n : Nat, w3 = (n : Int) := ⟨w3.toNat, by omega⟩
  have at1 := at_cast n' (w0, w1, w2, w3) a
  have at2 := at_cast n' (w0, w1, w2, w3) b
  have at3 := at_cast n' (w0, w1, w2, w3) c
  dsimp only at at1 at2 at3
  rw [at1] at h4
  rw [at2] at h5
  rw [at3] at h6
  refine ⟨(w0, w1, w2, w3), h1, ?_, ⟨by omega, by omega, by omega⟩, ?_⟩
  · refine (moeb_mem hp (by show w0 < n'; omega) (by show w1 < n'; omega) (by show w2 < n'; omega) (by show w3 < n'; omega)).1 ?_
    simp only [moebB, toM, h2, Bool.true_and, bne_iff_ne, List.getD_cons_zero, List.getD_cons_succ]
    exact (det_int _ _ _ _).1 h3
  · intro m hm g1 g2 g3
    have hml := MN_lt hn hm
    have hmb := (moeb_mem hp hml.1 hml.2.1 hml.2.2.1 hml.2.2.2).2 hm
    simp only [moebB, Bool.and_eq_true, bne_iff_ne] at hmb
    obtain ⟨m0, m1, m2, m3⟩ := m
    have b1 := at_cast n' (m0, m1, m2, m3) a
    have b2 := at_cast n' (m0, m1, m2, m3) b
    have b3 := at_cast n' (m0, m1, m2, m3) c
    dsimp only at b1 b2 b3
    refine toM_inj (h7 m0 m1 m2 m3 hmb.1 ((det_int _ _ _ _).2 hmb.2) ?_ ?_ ?_)
    · rw [b1, g1]
    · rw [b2, g2]
    · rw [b3, g3]
end Go.Proofs.Ytchikadcicecoaa
namespace Go.Proofs.Ytchikadcicecoaa
set_option linter.unusedVariables false
/-! ### operations that look at no memory -/
def PX (c : Cx) (o : Oper) (s : S) (v : V) : Prop := ∀ ρ0, GR c.gl c.D ρ0 → ∀ ρ a, FR c ρ s.F a → (∀ b ∈ c.D, ρ b = ρ0 b) → ∀ w, (execOp a.eval o).run c.P w = .ok (.value (rv ρ v)) w
section
variable {c : Cx} {s : S} {dst : Option Tmp} {ty : TypeId} {pos : String} {af : Array Edge} {g : Option (Nat × Bool)}
theorem PX_move {x : Operand} {v : V} (h : ev c s.F x = some v) (hv : nb v = true) : PX c ⟨dst, .move x, ty, pos, af, g⟩ s v := by
  intro ρ0 hg ρ a hf hfix w
  simp [execOp, ev_rv hg hfix hf h (ne_bot hv)]
end
/-! ### more of a heap -/
structure Ext (c : Cx) (ρ : Nat → Nat) (H : Hp) (ρ' : Nat → Nat) (H' : Hp) : Prop where
  lk : ∀ b k, lkB H b = some k → k ≠ .dead → lkB H' b = some k ∧ ρ' b = ρ b ∧ ∀ b' ∈ k.ids, ρ' b' = ρ b'
  d : ∀ b ∈ c.D, ρ' b = ρ b
section
variable {c : Cx} {s : S} {ρ0 ρ ρ' ρ2 : Nat → Nat} {H H' H2 : Hp} {w0 w : World}
theorem Ext.refl : Ext c ρ H ρ H := ⟨fun _ _ h _ => ⟨h, rfl, fun _ _ => rfl⟩, fun _ _ => rfl⟩
theorem Ext.trans (h1 : Ext c ρ H ρ' H') (h2 : Ext c ρ' H' ρ2 H2) : Ext c ρ H ρ2 H2 := by
  refine ⟨fun b k hk hd => ?_, fun b hb => (h2.d b hb).trans (h1.d b hb)⟩
  obtain ⟨a1, a2, a3⟩ := h1.lk b k hk hd
  obtain ⟨b1, b2, b3⟩ := h2.lk b k a1 hd
  exact ⟨b1, b2.trans a2, fun b' hb' => (b3 b' hb').trans (a3 b' hb')⟩
theorem CC.sub (h : Ext c ρ H ρ' H') (hw : CC c ρ0 w0 ρ' H' w) : CC c ρ0 w0 ρ H w := by
  refine ⟨⟨fun b k hk hd => ?_, fun b b' k k' h1 h2 d1 d2 hw12 he => ?_⟩, fun b hb => ?_, fun b k hk hd hwk => ?_, hw.inv.os, hw.inv.tape, hw.inv.out, hw.inv.drw, hw.inv.size, hw.inv.old⟩
  · obtain ⟨a1, a2, a3⟩ := h.lk b k hk hd
    obtain ⟨o, ho, hb⟩ := hw.hr.1 b k a1 hd
    exact ⟨o, by rw [← a2]; exact ho, BR_congr a3 hb⟩
  · obtain ⟨a1, a2, _⟩ := h.lk b k h1 d1
    obtain ⟨b1, b2, _⟩ := h.lk b' k' h2 d2
    exact hw.hr.2 b b' k k' a1 b1 d1 d2 hw12 (by rw [a2, b2]; exact he)
  · rw [← h.d b hb]; exact hw.inv.fix b hb
  · obtain ⟨a1, a2, _⟩ := h.lk b k hk hd
    rw [← a2]; exact hw.inv.own b k a1 hd hwk
/-- what makes no call -/
def NE (o : Oper) : Prop := ∀ ev P w f args w', (execOp ev o).run P w ≠ .ok (.enter f args) w'
theorem ne_v {P : Program} {m : Sem Value} {w w' : World} {f : FuncId} {args : Array Value} : (do pure (Next.value (← m)) : Sem Next).run P w ≠ .ok (.enter f args) w' := by
  simp only [Sem.run_bind]
  cases m.run P w <;> simp [Result.andThen]
/-- an operation that reads: the same in all greater heaps -/
def QX (c : Cx) (o : Oper) (s : S) (v : V) : Prop :=
  ∀ ρ0 w0, GR c.gl c.D ρ0 → ∀ ρ a, FR c ρ s.F a → (∀ b ∈ c.D, ρ b = ρ0 b) → ∀ ρ' H', Ext c ρ s.H ρ' H' → ∀ w, CC c ρ0 w0 ρ' H' w → o.quietAt c.P a (CC c ρ0 w0 ρ' H') w (rv ρ v)
theorem QX_of {o : Oper} {v : V} (h : QOp c o s v) (hne : NE o) : QX c o s v := by
  intro ρ0 w0 hg ρ a hf hfix ρ' H' hx w hw
  have h1 := h ρ0 w0 hg ρ a hf hfix w (hw.sub hx)
  have h2 := hne a.eval c.P w
  unfold Oper.quietAt at h1 ⊢
  generalize (execOp a.eval o).run c.P w = r at *
  cases r with
  | ok n w' =>
    cases n <;> simp only [Oper.quietUpon] at h1 ⊢
    case value u => exact h1
    case skip => exact h1
    case enter f args => exact absurd rfl (h2 f args w')
  | halt x w' => simp only [Oper.quietUpon] at h1
theorem QX_callv {dst : Option Tmp} {ty : TypeId} {pos : String} {af : Array Edge} {g : Option (Nat × Bool)} {op : Op} {f : Nat} {vs args0 : List V} {gl' : List (Nat × Nat)} {H0 : Hp} {r : V}
    (run : ∀ ρ0 ρ a w, GR c.gl c.D ρ0 → (∀ b ∈ c.D, ρ b = ρ0 b) → FR c ρ s.F a → (execOp a.eval ⟨dst, op, ty, pos, af, g⟩).run c.P w = .ok (.enter f (rvs ρ vs).toArray) w)
    (con : ConQ c.P gl' f args0 H0 r) (σ : Nat → Nat) (hargs : vs = rens σ args0) (hfit : Fits c s σ gl' H0) (hr : (r.ids.all fun b => (ids H0).contains b) = true) (hcl : closedB H0 = true) (hin : ((idss args0).all fun b => (ids H0).contains b) = true) :
    QX c ⟨dst, op, ty, pos, af, g⟩ s (ren σ r) := by
  intro ρ0 w0 hgr ρ a hf hfix ρ' H' hx w hw
  have hold : ∀ b ∈ ids H0, ρ' (σ b) = ρ (σ b) := fun b hb => by
    obtain ⟨k, hk⟩ := mem_ids_of hb
    exact (hx.lk _ _ (vH_lk hfit.hp hk) (ren_dead (live_of hfit.live hk))).2.1
  have hvH : ∀ H1 : Hp, (∀ x ∈ H1, x ∈ H0) → vH σ s.H H1 → vH σ H' H1 := by
    intro H1
    induction H1 with
    | nil => intro _ _; trivial
    | cons x r ih =>
      obtain ⟨b, k⟩ := x
      intro hm h
      have hl : k ≠ .dead := live_ne (List.all_eq_true.1 hfit.live _ (hm (b, k) (by simp)))
      exact ⟨(hx.lk _ _ h.1 (ren_dead hl)).1, ih (fun y hy => hm y (List.mem_cons_of_mem _ hy)) h.2⟩
  have hfit' : Fits c ⟨s.F, H', s.n⟩ σ gl' H0 := ⟨hvH H0 (fun _ h => h) hfit.hp, hfit.live, hfit.inj, hfit.gl⟩
  unfold Oper.quietAt
  rw [run ρ0 ρ a w hgr hfix hf]
  refine ⟨rfl, ?_⟩
  rw [hargs, rvs_rens]
  have e1 : rvs (fun b => ρ (σ b)) args0 = rvs (fun b => ρ' (σ b)) args0 := rvs_congr _ fun b hb => by
    simp only [List.all_eq_true, List.contains_iff_mem] at hin
    exact (hold b (hin b hb)).symm
  have e2 : rv ρ (ren σ r) = rv ρ' (ren σ r) := by
    rw [rv_ren, rv_ren]
    simp only [List.all_eq_true, List.contains_iff_mem] at hr
    exact rv_congr _ fun b hb => (hold b (hr b hb)).symm
  rw [e1, e2]
  exact calls_keep con σ hfit' hr hcl hgr hw
end
section
variable {P : Program} {ops : Array Oper} {Q : Exit → Act → World → Prop} {tl : Nat → Bool} {T T' : World → Prop}
/-- what an operation waits for -/
def depsOf (ops : Array Oper) (j : Nat) : List Nat := ((ops[j]?).map fun o => (o.after.toList.filter fun e => Region.binds .any e).map (·.on)).getD []
def dedup : List Nat → List Nat
  | [] => []
  | x :: r => match (dedup r).elem x with
    | true => dedup r
    | false => x :: dedup r
theorem mem_dedup {x : Nat} : ∀ {l : List Nat}, x ∈ dedup l → x ∈ l
  | [], h => h
  | y :: r, h => by
    simp only [dedup] at h
    split at h
    · exact List.mem_cons_of_mem _ (mem_dedup h)
    · rcases List.mem_cons.1 h with h | h
      · exact h ▸ List.mem_cons_self
      · exact List.mem_cons_of_mem _ (mem_dedup h)
def ancs (ops : Array Oper) : Nat → List Nat → List Nat
  | 0, l => l
  | n + 1, l => ancs ops n (dedup (l ++ l.flatMap (depsOf ops)))
/-- what has come was free to come -/
def DC (ops : Array Oper) (listed : Array Bool) : Prop := ∀ k, listed.getD k false = true → ∀ i ∈ depsOf ops k, listed.getD i false = true
theorem ancs_listed {listed : Array Bool} (hd : DC ops listed) : ∀ (n : Nat) (l : List Nat), (∀ x ∈ l, listed.getD x false = true) → ∀ x ∈ ancs ops n l, listed.getD x false = true
  | 0, _, h => h
  | n + 1, l, h => ancs_listed hd n _ fun x hx => by
    rcases List.mem_append.1 (mem_dedup hx) with h1 | h1
    · exact h x h1
    · obtain ⟨y, hy, hxy⟩ := List.mem_flatMap.1 h1
      exact hd y (h y hy) x hxy
theorem ready_deps {listed : Array Bool} {j : Nat} (hj : j ∈ Region.ready .any ops listed) : ∀ i ∈ depsOf ops j, listed.getD i false = true := by
  obtain ⟨_, o, ho, hall⟩ := mem_ready.1 hj
  intro i hi
  simp only [depsOf, ho, Option.map_some, Option.getD_some, List.mem_map, List.mem_filter] at hi
  obtain ⟨e, ⟨he, hb⟩, rfl⟩ := hi
  exact hall e (by simpa using he) hb
theorem DC.set {listed : Array Bool} {j : Nat} (hd : DC ops listed) (hj : j ∈ Region.ready .any ops listed) : DC ops (listed.setIfInBounds j true) := by
  intro k hk i hi
  refine getD_set_true ?_
  by_cases e : j = k
  · subst e; exact ready_deps hj i hi
  · exact hd k (by rwa [getD_set_ne false e] at hk) i hi
theorem DC.start (m : Nat) : DC ops (Array.replicate m false) := by
  intro k hk
  exfalso
  rcases Nat.lt_or_ge k m with h | h
  · simp [h] at hk
  · rw [Array.getD_eq_getD_getElem?, Array.getElem?_eq_none (by simpa using h)] at hk
    cases hk
/-- what looks at no memory -/
def pureOp (ops : Array Oper) (i : Nat) : Bool := match (ops[i]?).map (fun o : Oper => (o.guard.isNone, o.op)) with
  | some (_, Op.extract _ _) => true
  | some (true, Op.move _) => true
  | some (true, Op.slice _ _ lo hi _) => lo.isSome || hi.isSome
  | some (true, Op.binOp .add _ _ _ _) => true
  | _ => false
/-- the tail's operations wait for all others that may look at memory -/
def tailB (ops : Array Oper) (tl : Nat → Bool) : Bool := (List.range ops.size).all fun j => match tl j with
  | false => true
  | true => let A := ancs ops 14 (depsOf ops j); (List.range ops.size).all fun i => tl i || pureOp ops i || A.elem i
theorem tail_waits {listed : Array Bool} {i j : Nat} (h : tailB ops tl = true) (hdc : DC ops listed) (hj : j ∈ Region.ready .any ops listed) (ht : tl j = true) (hi : i < ops.size) (hti : tl i = false) (hpu : pureOp ops i = false) : listed.getD i false = true := by
  have hjs : j < ops.size := by obtain ⟨_, o, ho, _⟩ := mem_ready.1 hj; exact (Array.getElem?_eq_some_iff.1 ho).1
  simp only [tailB, List.all_eq_true, List.mem_range] at h
  have h1 := h j hjs
  rw [ht] at h1
  simp only [List.all_eq_true, List.mem_range, Bool.or_eq_true] at h1
  rcases h1 i hi with (h2 | h2) | h2
  · rw [hti] at h2; cases h2
  · rw [hpu] at h2; cases h2
  · exact ancs_listed hdc 14 _ (ready_deps hj) i (by simpa using h2)
theorem wpOp_quiet {i : Nat} {o : Oper} {v : Value} {a : Act} {w : World} {K : Act → World → Prop} (hi : ops[i]? = some o) (hy : YieldsIn P ops T o v a) (hT : T w) (h : ∀ w', T w' → K (a.put o.dst v) w') : wpOp P ops Q i K a w := by
  unfold wpOp
  simp only [hi]
  rcases hy with ⟨hw, hq⟩ | ⟨hw, rfl⟩
  · simp only [hw, if_true]
    refine .inl ?_
    have h1 := hq w hT
    unfold Oper.quietAt at h1
    unfold Oper.wp
    generalize (execOp a.eval o).run P w = r at *
    cases r with
    | ok n w' =>
      cases n <;> simp only [Oper.quietUpon] at h1 <;> simp only [Oper.upon]
      case value u => obtain ⟨rfl, rfl⟩ := h1; exact h _ hT
      case skip => obtain ⟨rfl, e⟩ := h1; rw [← e]; exact h _ hT
      case enter f args => obtain ⟨rfl, hc⟩ := h1; exact hc.mono fun e w'' ⟨he, hw''⟩ => by subst he; exact h _ hw''
    | halt x w' => simp only [Oper.quietUpon] at h1
  · simp only [hw, Bool.false_eq_true, if_false]; exact h _ hT
/-- operation i has its value before j comes: j does as it does behind it -/
theorem wpOp_swap {Y : Act → Prop} {j : Nat} {oi oj : Oper} {v : Value} (hj : ops[j]? = some oj) (hap : oi.apart ops oj = true) (hsi : ∀ cs b, oi.op ≠ .select cs b) (hsj : ∀ cs b, oj.op ≠ .select cs b)
    (hQ : ∀ ch a w, ¬ Q (.panic ch) a w) {K : Act → World → Prop} {a : Act} {w : World} (hy : ∀ a a', Y a → execOp a'.eval oi = execOp a.eval oi → Region.wanted oi (yielded ops a'.tmps) = Region.wanted oi (yielded ops a.tmps) → Y a') (hya : Y a) (h : wpOp P ops Q j K (a.put oi.dst v) w) :
    wpOp P ops Q j (fun a' w' => Y a' ∧ K (a'.put oi.dst v) w') a w := by
  obtain ⟨h1, h2, h3⟩ := Oper.apart_spec hap
  have keep : ∀ u, Y (a.put oj.dst u) := fun u => hy a _ hya (execOp_put oi hsi a oj.dst u h3) (wanted_put oi a oj.dst u h3)
  unfold wpOp at h ⊢
  simp only [hj] at h ⊢
  rw [wanted_put oj a oi.dst v h1] at h
  split
  · rename_i hw
    rw [if_pos hw] at h
    have he := execOp_put oj hsj a oi.dst v h1
    rcases h with h | ⟨h4, h5⟩
    · left
      unfold Oper.wp at h ⊢
      rw [he] at h
      generalize (execOp a.eval oj).run P w = r at *
      cases r with
      | ok n w' =>
        cases n <;> simp only [Oper.upon] at h ⊢
        case value u => exact ⟨keep u, by rw [← Act.put_comm a v u h2]; exact h⟩
        case skip => exact ⟨keep _, by rw [← Act.put_comm a v undef h2]; exact h⟩
        case defer d =>
          refine ⟨hy { a with defers := d :: a.defers } _ (hy a _ hya rfl rfl) (execOp_put oi hsi _ oj.dst _ h3) (wanted_put oi _ oj.dst _ h3), ?_⟩
          rw [← Act.put_comm _ v undef h2, ← Act.put_defers]
          exact h
        case enter f args =>
          refine h.mono fun e w'' he => ?_
          cases e with
          | returned u => exact ⟨keep u, by rw [← Act.put_comm a v u h2]; exact he⟩
          | panicked ch => exact absurd he (hQ _ _ _)
          | outgrown => exact he
        case row row args => exact h.mono fun u w'' he => ⟨keep u, by rw [← Act.put_comm a v u h2]; exact he⟩
      | halt x w' =>
        cases x <;> simp only [Oper.upon] at h ⊢
        case panic u => exact absurd h (hQ _ _ _)
    · right
      refine ⟨?_, h5⟩
      unfold Oper.asks at h4 ⊢
      rwa [he] at h4
  · rename_i hw
    rw [if_neg hw] at h
    exact ⟨keep _, by rw [← Act.put_comm a v undef h2]; exact h⟩
end
section
variable {c : Cx} {ρ0 : Nat → Nat} {w0 : World} {ops : Array Oper} {Q : Exit → Act → World → Prop} {tl : Nat → Bool}
/-- whichever order comes -/
def anyU (c : Cx) (ρ0 : Nat → Nat) (w0 : World) (ops : Array Oper) (Q : Exit → Act → World → Prop) (tl : Nat → Bool) : Nat → Array Bool → Act → (Nat → Nat) → Hp → Prop
  | 0, listed, a, ρ, H => Region.ready .any ops listed = [] ∧ ∀ w, CC c ρ0 w0 ρ H w → Q .normal a w
  | m + 1, listed, a, ρ, H => (Region.ready .any ops listed = [] → ∀ w, CC c ρ0 w0 ρ H w → Q .normal a w) ∧
    ∀ i ∈ Region.ready .any ops listed, ∀ w, CC c ρ0 w0 ρ H w → wpOp c.P ops Q i (fun a' w' => (tl i = true ∧ wpAny c.P .any ops Q m (listed.setIfInBounds i true) a' w') ∨
      (tl i = false ∧ ∃ ρ' H', Ext c ρ H ρ' H' ∧ CC c ρ0 w0 ρ' H' w' ∧ anyU c ρ0 w0 ops Q tl m (listed.setIfInBounds i true) a' ρ' H')) a w
theorem anyU_sound : ∀ (m : Nat) (listed : Array Bool) (a : Act) (ρ : Nat → Nat) (H : Hp) (w : World), CC c ρ0 w0 ρ H w → anyU c ρ0 w0 ops Q tl m listed a ρ H → wpAny c.P .any ops Q m listed a w
  | 0, _, _, _, _, w, hw, h => ⟨h.1, h.2 w hw⟩
  | m + 1, _, _, _, _, w, hw, h => ⟨fun h0 => h.1 h0 w hw, fun i hi => wpOp_mono (fun a' w' h' => by
    rcases h' with ⟨_, h'⟩ | ⟨_, ρ', H', _, hw', h'⟩
    · exact h'
    · exact anyU_sound m _ a' ρ' H' w' hw' h') (h.2 i hi w hw)⟩
/-- operation o yields v in all greater heaps -/
def YX (c : Cx) (ρ0 : Nat → Nat) (w0 : World) (ops : Array Oper) (o : Oper) (v : Value) (ρ : Nat → Nat) (H : Hp) (a : Act) : Prop :=
  (Region.wanted o (yielded ops a.tmps) = true ∧ ∀ ρ' H', Ext c ρ H ρ' H' → ∀ w, CC c ρ0 w0 ρ' H' w → o.quietAt c.P a (CC c ρ0 w0 ρ' H') w v) ∨
  (Region.wanted o (yielded ops a.tmps) = false ∧ v = undef)
theorem YX.same {o : Oper} {v : Value} {ρ : Nat → Nat} {H : Hp} (a a' : Act) (h : YX c ρ0 w0 ops o v ρ H a) (he : execOp a'.eval o = execOp a.eval o) (hw : Region.wanted o (yielded ops a'.tmps) = Region.wanted o (yielded ops a.tmps)) : YX c ρ0 w0 ops o v ρ H a' := by
  unfold YX Oper.quietAt at *
  rw [he, hw]
  exact h
theorem YX.ext {o : Oper} {v : Value} {ρ ρ' : Nat → Nat} {H H' : Hp} {a : Act} (h : YX c ρ0 w0 ops o v ρ H a) (hx : Ext c ρ H ρ' H') : YX c ρ0 w0 ops o v ρ' H' a :=
  h.imp (fun ⟨h1, h2⟩ => ⟨h1, fun ρ2 H2 hx2 => h2 ρ2 H2 (hx.trans hx2)⟩) id
theorem YX.yields {o : Oper} {v : Value} {ρ : Nat → Nat} {H : Hp} {a : Act} (h : YX c ρ0 w0 ops o v ρ H a) : YieldsIn c.P ops (CC c ρ0 w0 ρ H) o v a :=
  h.imp (fun ⟨h1, h2⟩ => ⟨h1, h2 ρ H .refl⟩) id
theorem unl {listed : Array Bool} {i : Nat} (h0 : listed.getD i true = false) (h1 : listed.getD i false = true) : False := by
  rcases Nat.lt_or_ge i listed.size with h' | h'
  · simp [h'] at h0 h1; rw [h0] at h1; cases h1
  · simp [Array.getElem?_eq_none h'] at h1
theorem anyU_take {i : Nat} {oi : Oper} {v : Value} (hi : ops[i]? = some oi) (hs : Region.noSelect ops = true) (hti : tl i = false) (hpu : pureOp ops i = false) (htl : tailB ops tl = true) (hQ : ∀ ch a w, ¬ Q (.panic ch) a w) : ∀ (m : Nat) (listed : Array Bool) (a : Act) (ρ : Nat → Nat) (H : Hp), DC ops listed →
    (∀ j oj, ops[j]? = some oj → j ≠ i → listed.getD j true = false → (∀ e ∈ oj.after, Region.binds .any e = true → e.on ≠ i) → oi.apart ops oj = true) → i ∈ Region.ready .any ops listed → YX c ρ0 w0 ops oi v ρ H a →
    anyU c ρ0 w0 ops Q tl m (listed.setIfInBounds i true) (a.put oi.dst v) ρ H → anyU c ρ0 w0 ops Q tl (m + 1) listed a ρ H := by
  have his : i < ops.size := (Array.getElem?_eq_some_iff.1 hi).1
  have nsel := Region.noSelect_spec hs
  intro m
  induction m with
  | zero =>
    intro listed a ρ H hdc _ hr hy h
    refine ⟨fun h => by rw [h] at hr; (cases hr), fun j hj w hw => ?_⟩
    by_cases hji : j = i
    · subst hji; exact wpOp_quiet hi hy.yields hw fun w' hw' => .inr ⟨hti, ρ, H, .refl, hw', h⟩
    · have := ready_mono hj hji
      rw [h.1] at this
      cases this
  | succ m ih =>
    intro listed a ρ H hdc hfree hr hy h
    refine ⟨fun h => by rw [h] at hr; (cases hr), fun j hj w hw => ?_⟩
    by_cases hji : j = i
    · subst hji; exact wpOp_quiet hi hy.yields hw fun w' hw' => .inr ⟨hti, ρ, H, .refl, hw', h⟩
    · have hjt : tl j = false := by
        cases ht : tl j
        · rfl
        · exact (unl (mem_ready.1 hr).1 (tail_waits htl hdc hj ht his hti hpu)).elim
      obtain ⟨hjun, oj, hoj, hall⟩ := mem_ready.1 hj
      have hnot : ∀ e ∈ oj.after, Region.binds .any e = true → e.on ≠ i := fun e he hb heq => by
        have h1 := hall e he hb
        rw [heq] at h1
        exact unl (mem_ready.1 hr).1 h1
      have hfree' : ∀ k ok, ops[k]? = some ok → k ≠ i → (listed.setIfInBounds j true).getD k true = false → (∀ e ∈ ok.after, Region.binds .any e = true → e.on ≠ i) → oi.apart ops ok = true := fun k ok hk hki hun hno => by
        refine hfree k ok hk hki ?_ hno
        by_cases hjk : j = k
        · subst hjk; exact hjun
        · rw [getD_set_ne true hjk] at hun; exact hun
      have h1 := h.2 j (ready_mono hj hji) w hw
      have h2 := wpOp_swap (Y := YX c ρ0 w0 ops oi v ρ H) hoj (hfree j oj hoj hji hjun hnot) (fun cs b => nsel i oi cs b hi) (fun cs b => nsel j oj cs b hoj) hQ YX.same hy h1
      refine wpOp_mono (fun a' w' ⟨hy', hk⟩ => .inr ⟨hjt, ?_⟩) h2
      rcases hk with ⟨hjt', _⟩ | ⟨_, ρ', H', hx, hw', hk⟩
      · rw [hjt] at hjt'; cases hjt'
      · refine ⟨ρ', H', hx, hw', ih (listed.setIfInBounds j true) a' ρ' H' (hdc.set hj) hfree' (ready_mono hr (Ne.symm hji)) (hy'.ext hx) ?_⟩
        rw [Array.setIfInBounds_comm _ _ hji]
        exact hk
theorem wpOp_yields {i : Nat} {o : Oper} {v : Value} {a : Act} {w : World} {K : Act → World → Prop} (hi : ops[i]? = some o) (hy : Yields c.P ops o v a) (h : K (a.put o.dst v) w) : wpOp c.P ops Q i K a w := by
  unfold wpOp
  simp only [hi]
  rcases hy with ⟨hw, hq⟩ | ⟨hw, rfl⟩
  · simp only [hw, if_true]
    exact .inl (by simp only [Oper.wp, hq w, Oper.upon]; exact h)
  · simp only [hw, Bool.false_eq_true, if_false]; exact h
theorem anyU_takeP {i : Nat} {oi : Oper} {v : Value} (hi : ops[i]? = some oi) (hs : Region.noSelect ops = true) (hti : tl i = false) (hQ : ∀ ch a w, ¬ Q (.panic ch) a w) : ∀ (m : Nat) (listed : Array Bool) (a : Act) (ρ : Nat → Nat) (H : Hp),
    (∀ j oj, ops[j]? = some oj → j ≠ i → listed.getD j true = false → (∀ e ∈ oj.after, Region.binds .any e = true → e.on ≠ i) → oi.apart ops oj = true) → i ∈ Region.ready .any ops listed → Yields c.P ops oi v a →
    anyU c ρ0 w0 ops Q tl m (listed.setIfInBounds i true) (a.put oi.dst v) ρ H → anyU c ρ0 w0 ops Q tl (m + 1) listed a ρ H := by
  have nsel := Region.noSelect_spec hs
  intro m
  induction m with
  | zero =>
    intro listed a ρ H _ hr hy h
    refine ⟨fun h => by rw [h] at hr; (cases hr), fun j hj w hw => ?_⟩
    by_cases hji : j = i
    · subst hji; exact wpOp_yields hi hy (.inr ⟨hti, ρ, H, .refl, hw, h⟩)
    · have := ready_mono hj hji
      rw [h.1] at this
      cases this
  | succ m ih =>
    intro listed a ρ H hfree hr hy h
    refine ⟨fun h => by rw [h] at hr; (cases hr), fun j hj w hw => ?_⟩
    by_cases hji : j = i
    · subst hji; exact wpOp_yields hi hy (.inr ⟨hti, ρ, H, .refl, hw, h⟩)
    · obtain ⟨hjun, oj, hoj, hall⟩ := mem_ready.1 hj
      have hnot : ∀ e ∈ oj.after, Region.binds .any e = true → e.on ≠ i := fun e he hb heq => by
        have h1 := hall e he hb
        rw [heq] at h1
        exact unl (mem_ready.1 hr).1 h1
      have hfree' : ∀ k ok, ops[k]? = some ok → k ≠ i → (listed.setIfInBounds j true).getD k true = false → (∀ e ∈ ok.after, Region.binds .any e = true → e.on ≠ i) → oi.apart ops ok = true := fun k ok hk hki hun hno => by
        refine hfree k ok hk hki ?_ hno
        by_cases hjk : j = k
        · subst hjk; exact hjun
        · rw [getD_set_ne true hjk] at hun; exact hun
      have h1 := h.2 j (ready_mono hj hji) w hw
      have h2 := wpOp_swap (Y := fun a => Yields c.P ops oi v a) hoj (hfree j oj hoj hji hjun hnot) (fun cs b => nsel i oi cs b hi) (fun cs b => nsel j oj cs b hoj) hQ
        (fun a a' h he hw => by unfold Yields at *; rw [he, hw]; exact h) hy h1
      refine wpOp_mono (fun a' w' ⟨hy', hk⟩ => ?_) h2
      rcases hk with ⟨hjt, hk⟩ | ⟨hjt, ρ', H', hx, hw', hk⟩
      · refine .inl ⟨hjt, wpAny_first hi nsel (fun ch a w h => absurd h (hQ _ _ _)) m _ _ _ hfree' (ready_mono hr (Ne.symm hji)) hy' ?_⟩
        rw [Array.setIfInBounds_comm _ _ hji]
        exact hk
      · refine .inr ⟨hjt, ρ', H', hx, hw', ih (listed.setIfInBounds j true) a' ρ' H' hfree' (ready_mono hr (Ne.symm hji)) hy' ?_⟩
        rw [Array.setIfInBounds_comm _ _ hji]
        exact hk
end
/-! ### on states -/
def np (Q : Exit → Act → World → Prop) : Exit → Act → World → Prop := fun e a w => (∀ ch, e ≠ .panic ch) ∧ Q e a w
def npP (Q : Post) : Post := fun e s => (∀ ch, e ≠ .panic ch) ∧ Q e s
theorem npN {Q : Post} {s : S} (h : Q .normal s) : npP Q .normal s := ⟨fun _ h => (by cases h), h⟩
def AW (c : Cx) (ops : Array Oper) (tl : Nat → Bool) (Q : Post) (m : Nat) (listed : Array Bool) (s : S) : Prop :=
  ∀ ρ0 w0, GR c.gl c.D ρ0 → ∀ ρ a, FR c ρ s.F a → WF c s → (∀ b ∈ c.D, ρ b = ρ0 b) → DC ops listed → anyU c ρ0 w0 ops (np (Lift c ρ0 w0 Q)) tl m listed a ρ s.H
section
variable {c : Cx} {s : S} {Q : Post} {ops : Array Oper} {tl : Nat → Bool} {m : Nat} {listed : Array Bool}
theorem CW_any {id : Nat} {l : List Oper} (tl : Nat → Bool) (m : Nat) (hsz : l.toArray.size = m) (hm : c.P.follows .mixedOrders = true) (hst : (Region.noSelect l.toArray && tailB l.toArray tl) = true)
    (h : (Region.noSelect l.toArray && tailB l.toArray tl) = true → AW c l.toArray tl Q m (Array.replicate m false) s) : CW c (.region id l.toArray true) Q s := by
  subst hsz
  have h := h hst
  intro ρ0 w0 hg ρ a w hs
  refine Code.wp_mono (fun e a w h => h.2) (wp_region_any (Q := np (Lift c ρ0 w0 Q)) hm ?_)
  exact anyU_sound (c := c) (tl := tl) _ _ _ _ _ _ hs.cc.drew (h ρ0 w0 hg ρ a hs.fr hs.wf hs.cc.inv.fix (DC.start _))
theorem AW_take {i : Nat} {o : Oper} {v : V} (hi : ops[i]? = some o) (hs : Region.noSelect ops = true) (htl : (!tl i && !pureOp ops i && tailB ops tl) = true) (hf : (Region.free .any ops listed i && (Region.ready .any ops listed).contains i) = true) (hg : o.guard = none) (hq : QX c o s v) (hN : okDst c.N o.dst = true)
    (hsc : sc s.n v.ids = true) (h : AW c ops tl Q m (listed.setIfInBounds i true) (s.put o.dst v)) : AW c ops tl Q (m + 1) listed s := by
  intro ρ0 w0 hgr ρ a hfr hwf hfix hdc
  simp only [Bool.and_eq_true, Bool.not_eq_true'] at htl hf
  refine anyU_take hi hs htl.1.1 htl.1.2 htl.2 (fun ch a w h => h.1 ch rfl) m listed a ρ s.H hdc (Region.free_spec hi hf.1) (by simpa using hf.2) (.inl ⟨by simp [Region.wanted, hg], fun ρ' H' hx w hw => hq ρ0 w0 hgr ρ a hfr hfix ρ' H' hx w hw⟩) ?_
  have := h ρ0 w0 hgr ρ _ (hfr.put' o.dst v _ (okDst_lt hN) (.inr rfl)) (hwf.put o.dst v hsc) hfix (hdc.set (by simpa using hf.2))
  rwa [put_H] at this
/-- an operation that makes blocks, and leaves the old ones -/
def GOp (c : Cx) (o : Oper) (s : S) (K : S → Prop) : Prop :=
  ∀ ρ0 w0, GR c.gl c.D ρ0 → ∀ ρ a, FR c ρ s.F a → WF c s → (∀ b ∈ c.D, ρ b = ρ0 b) → ∀ w, CC c ρ0 w0 ρ s.H w → ∀ Q, o.wp c.P a w (fun a' w' => ∃ s' ρ', K s' ∧ FR c ρ' s'.F a' ∧ WF c s' ∧ CC c ρ0 w0 ρ' s'.H w' ∧ Ext c ρ s.H ρ' s'.H) Q
theorem GOp_new {o : Oper} {k : Blk} {v : V} (hN : okDst c.N o.dst = true) (hn : Nat.blt s.n 1000 = true) (hk : sc s.n k.ids = true) (hv : sc (s.n + 1) v.ids = true) (run : NewRun c s o k v) :
    GOp c o s (fun s' => s' = S.put { F := s.F, H := (s.n, k) :: s.H, n := s.n + 1 } o.dst v) := by
  intro ρ0 w0 hgr ρ a hf hwf hfix w hw Q
  have h1000 : s.n < 1000 := by simpa [Nat.blt_eq] using hn
  obtain ⟨ob, w', hb, hwh, hsm, hr⟩ := run ρ0 ρ a w0 w hgr hfix hf hw hwf
  have hst := (St.push ⟨hw, hf, hwf⟩ h1000 hk hb hwh hsm).put o.dst v _ (okDst_lt hN) (.inr rfl) hv
  unfold Oper.wp
  rw [hr]
  simp only [Oper.upon]
  refine ⟨_, _, rfl, hst.fr, hst.wf, hst.cc, fun b k' hk' hd => ?_, fun b hb => ?_⟩
  · have hne : ∀ b', (b' < s.n ∨ 1000 ≤ b') → b' ≠ s.n := fun b' h => by omega
    have hbn : b ≠ s.n := fun e => by have := (hwf.fresh s.n (Nat.le_refl _) h1000).1; rw [← e, hk'] at this; cases this
    refine ⟨?_, by simp [up, hbn], fun b' hb' => by simp [up, hne b' (hwf.hs b k' hk' b' hb')]⟩
    rw [put_H, lkB_cons, if_neg (Ne.symm hbn)]; exact hk'
  · have : b ≠ s.n := fun e => (hwf.fresh s.n (Nat.le_refl _) h1000).2 (e ▸ hb)
    simp [up, this]
/-- whichever comes of those that may -/
def GStep (c : Cx) (ops : Array Oper) (tl : Nat → Bool) (Q : Post) (m : Nat) (listed : Array Bool) (s : S) (i : Nat) : Prop :=
  ∃ o K, ops[i]? = some o ∧ o.guard = none ∧ tl i = false ∧ GOp c o s K ∧ ∀ s', K s' → AW c ops tl Q m (listed.setIfInBounds i true) s'
theorem AW_any {rs : List Nat} (hr : Region.ready .any ops listed = rs) (hne : rs ≠ []) (h : ∀ i ∈ rs, GStep c ops tl Q m listed s i) : AW c ops tl Q (m + 1) listed s := by
  intro ρ0 w0 hgr ρ a hf hwf hfix hdc
  refine ⟨fun h0 => absurd (hr ▸ h0) hne, fun i hi w hw => ?_⟩
  obtain ⟨o, K, ho, hg, ht, hG, hk⟩ := h i (hr ▸ hi)
  unfold wpOp
  simp only [ho]
  rw [if_pos (by simp [Region.wanted, hg])]
  refine .inl (Oper.wp_mono (fun a' w' h' => ?_) (hG ρ0 w0 hgr ρ a hf hwf hfix w hw _))
  obtain ⟨s', ρ', hK, hf', hwf', hw', hx⟩ := h'
  exact .inr ⟨ht, ρ', s'.H, hx, hw', hk s' hK ρ0 w0 hgr ρ' a' hf' hwf' hw'.inv.fix (hdc.set hi)⟩
theorem AW_one {i : Nat} (hr : Region.ready .any ops listed = [i]) (h : GStep c ops tl Q m listed s i) : AW c ops tl Q (m + 1) listed s := AW_any hr (by simp) (by simpa using h)
/-- the tail, in its order -/
def chainB (ops : Array Oper) (tl : Nat → Bool) : List Nat → Array Bool → Bool
  | [], listed => (Region.ready .any ops listed).isEmpty
  | i :: r, listed => (Region.ready .any ops listed == [i]) && tl i && chainB ops tl r (listed.setIfInBounds i true)
theorem tail_any {P : Program} {Q : Exit → Act → World → Prop} : ∀ (is : List Nat) (l : List Oper) (listed : Array Bool) (a : Act) (w : World), is.map (ops[·]?) = l.map some → chainB ops tl is listed = true → wpList P ops Q l a w → wpAny P .any ops Q is.length listed a w
  | [], [], listed, a, w, _, hc, h => ⟨by simpa [chainB] using hc, h⟩
  | [], _ :: _, _, _, _, hm, _, _ => by simp at hm
  | _ :: _, [], _, _, _, hm, _, _ => by simp at hm
  | i :: is, o :: l, listed, a, w, hm, hc, h => by
    simp only [List.map_cons, List.cons.injEq] at hm
    simp only [chainB, Bool.and_eq_true, beq_iff_eq] at hc
    refine ⟨fun h0 => by rw [hc.1.1] at h0; (cases h0), fun j hj => ?_⟩
    rw [hc.1.1] at hj
    obtain rfl : j = i := by simpa using hj
    unfold wpOp
    simp only [hm.1]
    unfold wpList at h
    split
    · rename_i hw
      rw [if_pos hw] at h
      exact h.imp (Oper.wp_mono fun a' w' h' => tail_any is l _ a' w' hm.2 hc.2 h') id
    · rename_i hw
      rw [if_neg hw] at h
      exact tail_any is l _ _ _ hm.2 hc.2 h
theorem wpList_mono {P : Program} {Q Q' : Exit → Act → World → Prop} (hq : ∀ e a w, Q e a w → Q' e a w) (hl : LetsOut Q → LetsOut Q') : ∀ (l : List Oper) (a : Act) (w : World), wpList P ops Q l a w → wpList P ops Q' l a w
  | [], a, w, h => hq _ _ _ h
  | o :: l, a, w, h => by
    unfold wpList at h ⊢
    split
    · rename_i hw
      rw [if_pos hw] at h
      refine h.imp (fun h => ?_) fun h => ⟨h.1, hl h.2⟩
      unfold Oper.wp at h ⊢
      generalize (execOp a.eval o).run P w = r at *
      cases r with
      | ok n w' =>
        cases n <;> simp only [Oper.upon] at h ⊢ <;> first | exact wpList_mono hq hl l _ _ h | skip
        case enter f args =>
          refine h.mono fun e w'' he => ?_
          cases e with
          | returned u => exact wpList_mono hq hl l _ _ he
          | panicked ch => exact hq _ _ _ he
          | outgrown => exact hl he
        case row row args => exact h.mono fun u w'' he => wpList_mono hq hl l _ _ he
      | halt x w' => cases x <;> simp only [Oper.upon] at h ⊢ <;> exact hq _ _ _ h
    · rename_i hw
      rw [if_neg hw] at h
      exact wpList_mono hq hl l _ _ h
theorem AW_tail {is : List Nat} {l : List Oper} (hm : is.map (ops[·]?) = l.map some) (hc : chainB ops tl is listed = true) (hn : is.length = m) (h : OW c ops (npP Q) l s) : AW c ops tl Q m listed s := by
  subst hn
  intro ρ0 w0 hgr ρ a hf hwf hfix hdc
  have key : ∀ w, CC c ρ0 w0 ρ s.H w → wpList c.P ops (np (Lift c ρ0 w0 Q)) l a w := fun w hw =>
    wpList_mono (Q := Lift c ρ0 w0 (npP Q)) (fun e a w h => by obtain ⟨s', ρ', hq, hs'⟩ := h; exact ⟨hq.1, s', ρ', hq.2, hs'⟩) (fun h => by obtain ⟨a, w, s', ρ', hq, hs'⟩ := h; exact ⟨a, w, hq.1, s', ρ', hq.2, hs'⟩) l a w (h ρ0 w0 hgr ρ a w ⟨hw, hf, hwf⟩)
  cases is with
  | nil =>
    cases l with
    | nil => exact ⟨by simpa [chainB] using hc, fun w hw => key w hw⟩
    | cons o l => simp at hm
  | cons i is =>
    cases l with
    | nil => simp at hm
    | cons o l =>
      simp only [List.map_cons, List.cons.injEq] at hm
      simp only [chainB, Bool.and_eq_true, beq_iff_eq] at hc
      refine ⟨fun h0 => by rw [hc.1.1] at h0; (cases h0), fun j hj w hw => ?_⟩
      rw [hc.1.1] at hj
      obtain rfl : j = i := by simpa using hj
      have hk := key w hw
      unfold wpOp
      simp only [hm.1]
      unfold wpList at hk
      split
      · rename_i hwt
        rw [if_pos hwt] at hk
        exact hk.imp (Oper.wp_mono fun a' w' h' => .inl ⟨hc.1.2, tail_any is l _ a' w' hm.2 hc.2 h'⟩) id
      · rename_i hwt
        rw [if_neg hwt] at hk
        exact .inl ⟨hc.1.2, tail_any is l _ _ _ hm.2 hc.2 hk⟩
theorem AW_last (is : List Nat) (hm : (is.all fun i => (ops[i]?).isSome) = true) (hc : chainB ops tl is listed = true) (hn : is.length = m) (h : OW c ops (npP Q) (is.filterMap (ops[·]?)) s) : AW c ops tl Q m listed s := by
  refine AW_tail ?_ hc hn h
  clear hc hn h
  induction is with
  | nil => rfl
  | cons i is ih =>
    simp only [List.all_cons, Bool.and_eq_true] at hm
    obtain ⟨o, ho⟩ := Option.isSome_iff_exists.1 hm.1
    simp only [List.map_cons, List.filterMap_cons, ho, ih hm.2]
theorem NE_load {dst : Option Tmp} {t : TypeId} {x : Operand} {ty : TypeId} {pos : String} {af : Array Edge} {g : Option (Nat × Bool)} : NE ⟨dst, .load t x, ty, pos, af, g⟩ := fun ev P w f args w' h => ne_v h
theorem NE_bin {dst : Option Tmp} {op : BinOp} {t t' : TypeId} {x y : Operand} {ty : TypeId} {pos : String} {af : Array Edge} {g : Option (Nat × Bool)} : NE ⟨dst, .binOp op t x y t', ty, pos, af, g⟩ := fun ev P w f args w' h => ne_v h
theorem NE_ix {dst : Option Tmp} {t : TypeId} {x y : Operand} {ty : TypeId} {pos : String} {af : Array Edge} {g : Option (Nat × Bool)} : NE ⟨dst, .indexAddr t x y, ty, pos, af, g⟩ := fun ev P w f args w' h => ne_v h
theorem NE_build {dst : Option Tmp} {t : TypeId} {ps : Array (Nat × Operand)} {ty : TypeId} {pos : String} {af : Array Edge} {g : Option (Nat × Bool)} : NE ⟨dst, .build t ps, ty, pos, af, g⟩ := fun ev P w f args w' h => ne_v h
end
section
variable {c : Cx} {Q : Post} {F : Fr} {H : Hp} {n : Nat} {ops : Array Oper} {tl : Nat → Bool} {m : Nat} {listed : Array Bool} {d : Nat} {op : Op} {ty : TypeId} {pos : String} {af : Array Edge} {v : V}
theorem QX_call {s : S} {dst : Option Tmp} {g : Option (Nat × Bool)} {f : Nat} {xs : List Operand} {ats : Array TypeId} {vs args0 : List V} {gl' : List (Nat × Nat)} {H0 : Hp} {r : V}
    (con : ConQ c.P gl' f args0 H0 r) (σ : List (Nat × Nat)) (hx : evs c s.F xs = some vs) (hargs : vs = rens (ap σ) args0) (hfit : Fits c s (ap σ) gl' H0) (hr : (r.ids.all fun b => (ids H0).contains b) = true) (hcl : closedB H0 = true) (hin : ((idss args0).all fun b => (ids H0).contains b) = true) :
    QX c ⟨dst, .call ⟨.value (.func f), xs.toArray, ats⟩, ty, pos, af, g⟩ s (ren (ap σ) r) := QX_callv (fun _ _ _ _ hg hfix hf => run_call rfl con.1 hg hfix hf hx) con (ap σ) hargs hfit hr hcl hin
theorem QX_call0 {s : S} {dst : Option Tmp} {g : Option (Nat × Bool)} {f : Nat} {xs : List Operand} {ats : Array TypeId} {vs : List V} {r : V} (con : ConQ c.P [] f vs [] r) (hx : evs c s.F xs = some vs) (hids : idss vs = []) (hr : r.ids = []) :
    QX c ⟨dst, .call ⟨.value (.func f), xs.toArray, ats⟩, ty, pos, af, g⟩ s r := by
  have := QX_call (c := c) (s := s) (dst := dst) (ty := ty) (pos := pos) (af := af) (g := g) (ats := ats) con [] hx (rens_id _ _ (fun b hb => by rw [hids] at hb; simp at hb)).symm ⟨trivial, rfl, by simp [ids], by simp⟩ (by simp [hr]) rfl (by simp [hids])
  rwa [ren_id _ r (fun b hb => by rw [hr] at hb; simp at hb)] at this
theorem aQ (i : Nat) (hst : (Region.noSelect ops && tailB ops tl) = true) (hi : ops[i]? = some ⟨some d, op, ty, pos, af, none⟩) (ht : (tl i || pureOp ops i) = false) (hf : (Region.free .any ops listed i && (Region.ready .any ops listed).contains i) = true) (hq : QX c ⟨some d, op, ty, pos, af, none⟩ ⟨F, H, n⟩ v) (hN : Nat.blt d c.N = true)
    (hsc : sc n v.ids = true) (h : AW c ops tl Q m (listed.setIfInBounds i true) ⟨(d, v) :: F, H, n⟩) : AW c ops tl Q (m + 1) listed ⟨F, H, n⟩ := by
  simp only [Bool.and_eq_true] at hst
  simp only [Bool.or_eq_false_iff] at ht
  exact AW_take hi hst.1 (by simp [ht, hst.2]) hf rfl hq hN hsc h
/-- a part of an answer -/
theorem aP (i : Nat) {op : Op} (hst : (Region.noSelect ops && tailB ops tl) = true) (hi : ops[i]? = some ⟨some d, op, ty, pos, af, none⟩) (ht : tl i = false) (hf : (Region.free .any ops listed i && (Region.ready .any ops listed).contains i) = true)
    (hq : PX c ⟨some d, op, ty, pos, af, none⟩ ⟨F, H, n⟩ v) (hN : Nat.blt d c.N = true) (hsc : sc n v.ids = true) (h : AW c ops tl Q m (listed.setIfInBounds i true) ⟨(d, v) :: F, H, n⟩) : AW c ops tl Q (m + 1) listed ⟨F, H, n⟩ := by
  intro ρ0 w0 hgr ρ a hfr hwf hfix hdc
  simp only [Bool.and_eq_true] at hst hf
  refine anyU_takeP hi hst.1 ht (fun ch a w h => h.1 ch rfl) m listed a ρ H (Region.free_spec hi hf.1) (by simpa using hf.2) (v := rv ρ v) (.inl ⟨by simp [Region.wanted], fun w => hq ρ0 hgr ρ a hfr hfix w⟩) ?_
  exact h ρ0 w0 hgr ρ _ (hfr.put' (some d) v _ (okDst_lt (d := some d) hN) (.inr rfl)) (hwf.put (some d) v hsc) hfix (hdc.set (by simpa using hf.2))
theorem gAlloc {i0 : Nat} {t : TypeId} {i : TI} {k0 : Blk} (hi : ops[i0]? = some ⟨some d, .alloc t, ty, pos, af, none⟩) (htl : tl i0 = false) (ht : lkT c.T t = some i) (hz : i.z = some v) (ho : one v = true) (hk : mkBlk t v = k0) (hN : Nat.blt d c.N = true) (hn : Nat.blt n 1000 = true) (hsc : sc n k0.ids = true)
    (h : AW c ops tl Q m (listed.setIfInBounds i0 true) ⟨(d, .ptr n 0) :: F, (n, k0) :: H, n + 1⟩) : GStep c ops tl Q m listed ⟨F, H, n⟩ i0 := by
  subst hk
  exact ⟨_, _, hi, rfl, htl, GOp_new (k := mkBlk t v) (v := .ptr n 0) hN hn hsc (by simp [sc, V.ids, Nat.blt_eq]) (nr_alloc ht hz ho), fun s' e => by subst e; exact h⟩
end
end Go.Proofs.Ytchikadcicecoaa
namespace Go.Proofs.Ytchikadcicecoaa
set_option linter.unusedVariables false
/-- a heap in which some blocks may not be looked at -/
def msk (D : List Nat) (H : Hp) : Hp := (D.map fun b => (b, Blk.dead)) ++ H
theorem msk_in {H : Hp} {b : Nat} : ∀ {D : List Nat}, b ∈ D → lkB (msk D H) b = some .dead
  | d :: D, h => by
    show lkB ((d, Blk.dead) :: msk D H) b = _
    rw [lkB_cons]
    split
    · rfl
    · rename_i e
      exact msk_in ((List.mem_cons.1 h).resolve_left fun x => e x.symm)
theorem msk_out {H : Hp} {b : Nat} : ∀ {D : List Nat}, b ∉ D → lkB (msk D H) b = lkB H b
  | [], _ => rfl
  | d :: D, h => by
    show lkB ((d, Blk.dead) :: msk D H) b = _
    rw [lkB_cons, if_neg (fun e => h (by subst e; exact List.mem_cons_self)), msk_out (fun x => h (List.mem_cons_of_mem _ x))]
theorem msk_live {D : List Nat} {H : Hp} {b : Nat} {k : Blk} (h : lkB (msk D H) b = some k) (hd : k ≠ .dead) : b ∉ D ∧ lkB H b = some k := by
  by_cases hb : b ∈ D
  · rw [msk_in hb] at h; injection h with h; exact absurd h.symm hd
  · exact ⟨hb, by rw [← msk_out hb]; exact h⟩
section
variable {c : Cx} {ρ0 ρ ρ' ρ2 : Nat → Nat} {H H' H2 : Hp} {w0 w : World} {D : List Nat}
theorem Ext.msk (h : Ext c ρ (msk D H) ρ' H') : Ext c ρ (msk D H) ρ' (msk D H') := ⟨fun b k hb hd => by
  obtain ⟨h1, h2, h3⟩ := h.lk b k hb hd
  exact ⟨by rw [msk_out (msk_live hb hd).1]; exact h1, h2, h3⟩, h.d⟩
end
section
variable {c : Cx} {ρ0 : Nat → Nat} {w0 : World} {ops : Array Oper} {Q : Exit → Act → World → Prop} {D : List Nat}
/-- whichever order comes; the blocks of D are looked at by none but stores -/
def anyX (c : Cx) (ρ0 : Nat → Nat) (w0 : World) (ops : Array Oper) (Q : Exit → Act → World → Prop) (D : List Nat) : Nat → Array Bool → Act → (Nat → Nat) → Hp → Prop
  | 0, listed, a, ρ, H => Region.ready .any ops listed = [] ∧ ∀ w, CC c ρ0 w0 ρ H w → Q .normal a w
  | m + 1, listed, a, ρ, H => (Region.ready .any ops listed = [] → ∀ w, CC c ρ0 w0 ρ H w → Q .normal a w) ∧
    ∀ i ∈ Region.ready .any ops listed, ∀ w, CC c ρ0 w0 ρ H w → wpOp c.P ops Q i (fun a' w' => ∃ ρ' H', Ext c ρ (msk D H) ρ' H' ∧ CC c ρ0 w0 ρ' H' w' ∧ anyX c ρ0 w0 ops Q D m (listed.setIfInBounds i true) a' ρ' H') a w
end
def AX (c : Cx) (ops : Array Oper) (D : List Nat) (Q : Post) (m : Nat) (listed : Array Bool) (s : S) : Prop :=
  ∀ ρ0 w0, GR c.gl c.D ρ0 → ∀ ρ a, FR c ρ s.F a → WF c s → (∀ b ∈ c.D, ρ b = ρ0 b) → anyX c ρ0 w0 ops (np (Lift c ρ0 w0 Q)) D m listed a ρ s.H
section
variable {c : Cx} {s : S} {Q : Post} {ops : Array Oper} {D : List Nat} {m : Nat} {listed : Array Bool}
end
section
variable {c : Cx} {Q : Post} {F : Fr} {H : Hp} {n : Nat} {ops : Array Oper} {D : List Nat} {m : Nat} {listed : Array Bool} {d : Nat} {op : Op} {ty : TypeId} {pos : String} {af : Array Edge} {v : V}
theorem oQe {rest : List Oper} {v' : V} (hq : QOp c ⟨some d, op, ty, pos, af, none⟩ ⟨F, H, n⟩ v') (e : v' = v) (hN : Nat.blt d c.N = true) (hsc : sc n v.ids = true) (h : OW c ops Q rest ⟨(d, v) :: F, H, n⟩) : OW c ops Q (⟨some d, op, ty, pos, af, none⟩ :: rest) ⟨F, H, n⟩ := by
  subst e; exact oQ hq hN hsc h
end
end Go.Proofs.Ytchikadcicecoaa
