/- Points on lines and on conics, on both sides. Printed by gen_q3.py. -/
import Derived.Test.YtendffbpmpobnaaDoorQ2
namespace Go.Proofs.YtendffbpmpobnaaDoor
attribute [local irreducible] CW OW QW QOp Con thenP inBlockP
set_option maxRecDepth 10000
set_option linter.unusedSimpArgs false
set_option linter.unusedVariables false
/-- small numbers -/
def sm (B : Int) (l : List Int) : Prop := ∀ x ∈ l, -B ≤ x ∧ x ≤ B
theorem sm_get {B : Int} {l : List Int} (h : sm B l) (hB : 0 ≤ B) (i : Nat) : -B ≤ l.getD i 0 ∧ l.getD i 0 ≤ B := by
  by_cases hi : i < l.length
  · have : l.getD i 0 = l[i] := by simp [List.getD, hi]
    rw [this]; exact h _ (List.getElem_mem hi)
  · have : l.getD i 0 = 0 := by simp [List.getD, hi]
    rw [this]; omega
theorem sm_mono {B C : Int} {l : List Int} (h : sm B l) (hB : B ≤ C) : sm C l := fun x hx => by have := h x hx; omega
theorem sm_mod {p : Int} {l : List Int} (hp : primeB p = true) (h : modB p l = true) : sm 13 l := fun x hx => by
  have := prime_bd hp
  have := mod_list h x hx; omega
theorem sm_point {p : Int} {l : List Int} (h : pointB p l = true) : sm 13 l := by
  simp only [pointB, normB, Bool.and_eq_true] at h
  exact sm_mod h.1 h.2.1
theorem allPts_mod {p : Int} (hp : primeB p = true) {x : List Int} (h : x ∈ allPts p) : ∀ z ∈ x, 0 ≤ z ∧ z < p := by
  have hb := prime_bd hp
  simp only [allPts, row1, rows2, row2, List.mem_append, List.mem_map, List.mem_flatMap, List.mem_singleton, List.mem_range] at h
  rcases h with (rfl | ⟨a, ha, rfl⟩) | ⟨a, ha, b, hb, rfl⟩ <;> intro z hz <;> simp only [List.mem_cons, List.not_mem_nil, or_false] at hz <;> omega
theorem allPts_sm {p : Int} (hp : primeB p = true) {x : List Int} (h : x ∈ allPts p) : sm 13 x := fun z hz => by
  have := allPts_mod hp h z hz
  have := prime_bd hp
  omega
/-- the sum of the products of the first i numbers -/
def dotT (c w : List Int) : Nat → Int
  | 0 => 0
  | i + 1 => dotT c w i + c.getD i 0 * w.getD i 0
theorem dotT_bd {A B : Int} {c w : List Int} (hc : sm A c) (hw : sm B w) (hA : 0 ≤ A) (hB : 0 ≤ B) (i : Nat) : -(i * (A * B)) ≤ dotT c w i ∧ dotT c w i ≤ i * (A * B) := by
  induction i with
  | zero => simp [dotT]
  | succ i ih =>
    have h1 := sm_get hc hA i
    have h2 := sm_get hw hB i
    have h3 := mul_bds h1.1 h1.2 h2.1 h2.2
    simp only [dotT, Int.natCast_add, Int.natCast_one, Int.add_mul, Int.one_mul]
    omega
def dotV (a b : List Int) : Int := dotT a b 3
def onB (p : Int) (a l : List Int) : Bool := dotV a l % p == 0
def pw : List Int → List Int
  | [x, y, z] => [x * x, y * y, z * z, x * y, x * z, y * z]
  | _ => []
def conV (p : Int) (c a : List Int) : Int := dotT c (pw a) 6 % p
theorem sm3 {B a b c : Int} : sm B [a, b, c] ↔ (-B ≤ a ∧ a ≤ B) ∧ (-B ≤ b ∧ b ≤ B) ∧ (-B ≤ c ∧ c ≤ B) := by simp [sm]
theorem pw_sm {a : List Int} (h : sm 13 a) (hl : a.length = 3) : sm 169 (pw a) := by
  match a, hl with
  | [x, y, z], _ =>
    obtain ⟨hx, hy, hz⟩ := sm3.1 h
    intro u hu
    simp only [pw, List.mem_cons, List.not_mem_nil, or_false] at hu
    rcases hu with rfl | rfl | rfl | rfl | rfl | rfl
    · exact mul_bds hx.1 hx.2 hx.1 hx.2
    · exact mul_bds hy.1 hy.2 hy.1 hy.2
    · exact mul_bds hz.1 hz.2 hz.1 hz.2
    · exact mul_bds hx.1 hx.2 hy.1 hy.2
    · exact mul_bds hx.1 hx.2 hz.1 hz.2
    · exact mul_bds hy.1 hy.2 hz.1 hz.2
theorem pw_length {a : List Int} (hl : a.length = 3) : (pw a).length = 6 := by
  match a, hl with
  | [x, y, z], _ => rfl
theorem tmod_zero (x p : Int) : (x.tmod p = 0) ↔ (x % p = 0) := by
  rw [← Int.dvd_iff_tmod_eq_zero, Int.dvd_iff_emod_eq_zero]
end Go.Proofs.YtendffbpmpobnaaDoor
