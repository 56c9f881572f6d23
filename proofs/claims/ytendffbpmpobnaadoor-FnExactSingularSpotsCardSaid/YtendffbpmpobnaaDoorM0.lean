/- Searches through lists of arrays; the code of a prime and of what a closure says. -/
import Derived.Test.YtendffbpmpobnaaDoorA3
namespace Go.Proofs.YtendffbpmpobnaaDoor
attribute [local irreducible] CW OW QW QOp Con thenP inBlockP
set_option maxRecDepth 10000
set_option linter.unusedSimpArgs false
set_option linter.unusedVariables false
theorem mod_list {p : Int} {l : List Int} (h : modB p l = true) : ∀ x ∈ l, 0 ≤ x ∧ x < p := by
  intro x hx
  have := List.all_eq_true.1 h x hx
  simp at this
  omega
theorem norm_list {p : Int} {l : List Int} (h : normB p l = true) : ∀ x ∈ l, 0 ≤ x ∧ x < p := by
  simp only [normB, Bool.and_eq_true] at h
  exact mod_list h.1
theorem all_snoc {f : Int → Bool} {l : List Int} {i : Nat} (hi : i < l.length) (h : (l.take i).all f = true) (h1 : f (l.getD i 0) = true) : (l.take (i + 1)).all f = true := by
  rw [take_snoc hi, List.all_append, h]
  simpa using h1
theorem all_fail {f : Int → Bool} {l : List Int} {i n : Nat} (hi : i < l.length) (hn : i < n) (h : f (l.getD i 0) = false) : (l.take n).all f = false := by
  rw [List.all_eq_false]
  refine ⟨l.getD i 0, ?_, by rw [h]; simp⟩
  rw [List.mem_take_iff_getElem]
  exact ⟨i, by omega, by simp [List.getD, hi]⟩
/-- element number i of a list of arrays -/
abbrev elemAt (sz : Nat) (M : List Int) (i : Nat) : List Int := (M.drop (i * sz)).take sz
theorem elemAt_length {sz : Nat} {M : List Int} {i k : Nat} (h : k * sz ≤ M.length) (hi : i < k) : (elemAt sz M i).length = sz := by
  have : (i + 1) * sz ≤ k * sz := Nat.mul_le_mul_right sz hi
  rw [Nat.add_mul] at this
  simp; omega
/-- the place of the first element for which something is so, or -1 -/
def idxF (g : List Int → Bool) (sz : Nat) (M : List Int) (k : Nat) : Int := match (List.range k).find? fun i => g (elemAt sz M i) with
  | some i => (i : Int)
  | none => -1
def anyF (g : List Int → Bool) (sz : Nat) (M : List Int) (k : Nat) : Bool := (List.range k).any fun i => g (elemAt sz M i)
theorem idx_found {g : List Int → Bool} {sz : Nat} {M : List Int} {k i : Nat} (hi : i < k) (h0 : ∀ j, j < i → g (elemAt sz M j) = false) (h1 : g (elemAt sz M i) = true) : idxF g sz M k = (i : Int) := by
  have : (List.range k).find? (fun i => g (elemAt sz M i)) = some i := by
    rw [List.find?_eq_some_iff_getElem]
    refine ⟨h1, i, by simpa using hi, by simp, fun j hj => ?_⟩
    simp [h0 j hj]
  simp [idxF, this]
theorem idx_none {g : List Int → Bool} {sz : Nat} {M : List Int} {k : Nat} (h0 : ∀ j, j < k → g (elemAt sz M j) = false) : idxF g sz M k = -1 := by
  have : (List.range k).find? (fun i => g (elemAt sz M i)) = none := by
    rw [List.find?_eq_none]
    intro j hj
    simp [h0 j (by simpa using hj)]
  simp [idxF, this]
theorem idx_any {g : List Int → Bool} {sz : Nat} {M : List Int} {k : Nat} : (decide (idxF g sz M k ≥ 0)) = anyF g sz M k := by
  unfold idxF anyF
  cases h : (List.range k).find? fun i => g (elemAt sz M i) with
  | none =>
    rw [List.find?_eq_none] at h
    symm
    simp only [ge_iff_le]
    rw [show decide ((0 : Int) ≤ -1) = false by decide, List.any_eq_false]
    exact h
  | some i =>
    have h1 := List.find?_some h
    have h2 := List.mem_of_find?_eq_some h
    symm
    have : decide ((i : Int) ≥ 0) = true := by simp
    rw [this, List.any_eq_true]
    exact ⟨i, h2, h1⟩
theorem injB_id : ∀ l : List Nat, injB (ap []) l = true
  | [] => rfl
  | b :: r => by
    simp only [injB, injB_id r, Bool.and_true, List.all_eq_true, Bool.or_eq_true, Nat.beq_eq_true_eq, Bool.not_eq_true']
    intro b' _
    by_cases h : b = b'
    · exact .inl (by subst h; exact Nat.beq_refl b)
    · right
      show Nat.beq b b' = false
      cases hb : Nat.beq b b'
      · rfl
      · exact absurd (Nat.eq_of_beq_eq_true hb) h
theorem rens_nil (l : List V) : rens (ap []) l = l := rens_id _ _ (fun _ _ => rfl)
/-- the code of a prime and of what a closure says, whatever it has captured -/
theorem planeCode_gen (p : Int) (f : Nat) (b : Bool) (caps : List V) (H0 : Hp) (n : Nat) (hv : vH (ap []) H0 H0) (hl : allLive H0 = true) (hcl : closedB H0 = true) (hwf : wfB (ids H0) ⟨[(0, .int p), (1, .func f [] caps)], H0, n⟩ = true) (hwf2 : wfB (ids H0) ⟨[(0, .int 0)], H0, n⟩ = true)
    (hf : primeB p = true → ConQ Tryd.prog [] f caps H0 (.bool b)) : ConQ Tryd.prog [] 91 [.int p, .func f [] caps] H0 (.int (if primeB p = true then (if b = true then 0 else 1) else 2)) := by
  have hsc : sc n (V.func f [] caps).ids = true := by
    simp only [wfB, Bool.and_eq_true, List.all_cons] at hwf
    exact hwf.2.2.1
  refine conW tab_ok [(0, .int p), (1, .func f [] caps)] n (ids H0) (wids H0) Tryd.func91 rfl rfl rfl rfl rfl rfl rfl rfl hwf ?_
  refine cR ?_
  refine oA rfl rfl ?_
  refine oN ?_
  refine CW_seq ?_
  refine CW_block ?_
  refine cR ?_
  refine oM rfl rfl ?_
  refine oQ (Q_call0 (isPrime_con _) rfl rfl rfl) rfl rfl ?_
  refine oQ (Q_not rfl) rfl rfl ?_
  refine oA rfl rfl ?_
  refine oN ?_
  first | refine cT rfl ?_ | refine cF rfl ?_ | refine CW_cond rfl (fun hc => ?_) (fun hc => ?_)
  all_goals try simp only [s1, s2, s3, s4, s5, s6, s7, s8, s9, s10, s11, s12] at hc
  all_goals first
    | (
     refine cR ?_
     refine oA rfl rfl ?_
     refine oN ?_
     refine CW_ret ?_)
    | (
     refine cR ?_
     refine oQ (Q_move rfl rfl) rfl hsc ?_
     refine oQ (Q_callf (hf hc) [] rfl rfl (rens_nil caps).symm ⟨hv, hl, injB_iff (injB_id _), fun x hx => by simp at hx⟩ rfl hcl) rfl rfl ?_
     refine oQ (Q_not rfl) rfl rfl ?_
     refine oA rfl rfl ?_
     refine oN ?_
     first | refine cT rfl ?_ | refine cF rfl ?_ | refine CW_cond rfl (fun hc => ?_) (fun hc => ?_)
     all_goals try simp only [s1, s2, s3, s4, s5, s6, s7, s8, s9, s10, s11, s12] at hc
     all_goals first
       | (
        refine CW_skip ?_)
       | (
        refine cR ?_
        refine oA rfl rfl ?_
        refine oN ?_
        refine CW_ret ?_))
  all_goals first | with_reducible refine bN ?_ | with_reducible refine bE ?_ | with_reducible refine bR ?_ | refine bX rfl ?_
  all_goals first
    | with_reducible refine tR ?_
    | with_reducible refine tE ?_
    | (
     with_reducible refine tN ?_
     refine cR ?_
     refine oA rfl rfl ?_
     refine oN ?_
     refine CW_ret ?_)
  all_goals (
   refine exitQ (.inr rfl) n (.cons (.tmp rfl rfl) .nil) ?_ rfl hv hwf2 (injB_id _)
   simp_all [resV, ren])
end Go.Proofs.YtendffbpmpobnaaDoor
