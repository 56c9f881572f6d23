/- Codes of conics; points on conics, of both sides. Printed by gen_q4.py. -/
import Derived.Test.YtendffbpmpobnaaDoorQ3
import Derived.Test.YtendffbpmpobnaaDoorEngJ
namespace Go.Proofs.YtendffbpmpobnaaDoor
attribute [local irreducible] CW OW QW QOp Con thenP inBlockP AW QX
set_option maxRecDepth 10000
set_option linter.unusedSimpArgs false
set_option linter.unusedVariables false
/-- the code of a prime, and of what has to be valid -/
def codeB (p : Int) (b : Bool) : Int := if primeB p = true then (if b = true then 0 else 1) else 2
theorem codeB_zero {p : Int} {b : Bool} : codeB p b = 0 ↔ primeB p = true ∧ b = true := by
  unfold codeB
  cases primeB p <;> cases b <;> simp
theorem not_any {g : List Int → Bool} {sz : Nat} {M : List Int} {k : Nat} : (!(anyF (fun m => !g m) sz M k)) = allF g sz M k := by
  unfold anyF allF
  rw [List.not_any_eq_all_not]
  congr 1
  funext i
  simp
theorem allF_one {g : List Int → Bool} {sz : Nat} {M : List Int} (h : M.length = sz) : allF g sz M 1 = g M := by
  subst h
  simp [allF, elemAt]
theorem allF_two {g : List Int → Bool} {sz : Nat} {A B : List Int} (ha : A.length = sz) (hb : B.length = sz) : allF g sz (A ++ B) 2 = (g A && g B) := by
  subst ha
  simp [allF, elemAt, List.range_succ, ← hb]
theorem pointB_prime {p : Int} {l : List Int} (h : pointB p l = true) : primeB p = true := by
  simp only [pointB, Bool.and_eq_true] at h; exact h.1
theorem pointB_mod {p : Int} {l : List Int} (h : pointB p l = true) : modB p l = true := by
  simp only [pointB, normB, Bool.and_eq_true] at h; exact h.2.1
/-- a list and a code: the list where the code is 0, and nil else -/
def listR (sz : Nat) (T : TypeId) (H0 : Hp) (b : Nat) (code : Int) (L : List (List Int)) (r : V) (H' : Hp) : Prop :=
  if code = 0 then ∃ (k : Nat) (sp : List Int), L.length ≤ k ∧ k * sz ≤ L.length * sz + sp.length ∧ r = .tuple [.slice b 0 L.length k, .int 0] ∧ H' = H0 ++ [(b, .ints T (L.flatten ++ sp))]
  else r = .tuple [.nilsl, .int code] ∧ H' = H0
theorem listR_ok {sz : Nat} {T : TypeId} {H0 : Hp} {b : Nat} {code : Int} {L : List (List Int)} {r : V} {H' : Hp} (hc : code = 0) {k : Nat} {sp : List Int} (h1 : L.length ≤ k) (h2 : k * sz ≤ L.length * sz + sp.length) (h3 : r = .tuple [.slice b 0 L.length k, .int 0]) (h4 : H' = H0 ++ [(b, .ints T (L.flatten ++ sp))]) : listR sz T H0 b code L r H' := by
  unfold listR
  rw [if_pos hc]
  exact ⟨k, sp, h1, h2, h3, h4⟩
theorem listR_no {sz : Nat} {T : TypeId} {H0 : Hp} {b : Nat} {code : Int} {L : List (List Int)} {r : V} {H' : Hp} (hc : ¬ code = 0) (h3 : r = .tuple [.nilsl, .int code]) (h4 : H' = H0) : listR sz T H0 b code L r H' := by
  unfold listR
  rw [if_neg hc]
  exact ⟨h3, h4⟩

end Go.Proofs.YtendffbpmpobnaaDoor
