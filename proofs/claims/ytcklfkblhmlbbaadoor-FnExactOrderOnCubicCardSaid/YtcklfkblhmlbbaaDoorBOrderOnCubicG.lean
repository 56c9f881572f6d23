/- What the last text of OrderOnCubic needs, part 7: contracts of functions and plain mathematics. No conditions beyond those each theorem states. -/
import Derived.LoopN
import Derived.Test.YtcklfkblhmlbbaaDoorBOrderOnCubicF
namespace Go.Proofs.YtcklfkblhmlbbaaDoor
set_option linter.unusedVariables false
section
variable {c : Cx} {s : S} {Q : Post}
end
/-- a loop of at most n rounds -/
def RW (c : Cx) (x : Code) (Q : Post) (n : Nat) (s : S) : Prop := ∀ ρ0 w0, GR c.gl c.D ρ0 → ∀ ρ a w, St c ρ0 w0 ρ s a w → Code.rounds c.P x (Lift c ρ0 w0 Q) n a w
theorem RW_succ {c : Cx} {x : Code} {Q : Post} {n : Nat} {s : S} (h : CW c x (thenP (RW c x Q n) Q) s) : RW c x Q (n + 1) s := by
  intro ρ0 w0 hg ρ a w hs
  refine Code.wp_mono ?_ (h ρ0 w0 hg ρ a w hs)
  rintro e a' w' ⟨s', ρ', hq, hs'⟩
  cases e <;> first | exact hq ρ0 w0 hg ρ' a' w' hs' | exact ⟨s', ρ', hq, hs'⟩
theorem CW_rounds {c : Cx} {x : Code} {Q : Post} {s : S} (n : Nat) (h : RW c x Q n s) : CW c (.loop x) Q s := fun ρ0 w0 hg ρ a w hs => wp_loop_rounds n (h ρ0 w0 hg ρ a w hs)
section
variable {c : Cx} {Q : Post} {F : Fr} {H : Hp} {n : Nat} {ops : Array Oper} {rest : List Oper} {tl : Nat → Bool} {m : Nat} {listed : Array Bool} {d : Nat} {ty : TypeId} {pos : String} {af : Array Edge}
end
end Go.Proofs.YtcklfkblhmlbbaaDoor
namespace Go.Proofs.YtcklfkblhmlbbaaDoor
set_option maxRecDepth 10000
set_option linter.unusedSimpArgs false
set_option linter.unusedVariables false
/-- the table of products, as it lies -/
def cuT : List Int := [0, 0, 0, 0, 0, 1, 0, 0, 2, 0, 1, 1, 0, 1, 2, 0, 2, 2, 1, 1, 1, 1, 1, 2, 1, 2, 2, 2, 2, 2]
def cuF (n k : Nat) : Nat := [0, 0, 0, 0, 0, 1, 0, 0, 2, 0, 1, 1, 0, 1, 2, 0, 2, 2, 1, 1, 1, 1, 1, 2, 1, 2, 2, 2, 2, 2].getD (n * 3 + k) 0
theorem ten_cases {P : Nat → Prop} (h : ∀ i : Fin 10, P i.1) {i : Nat} (hi : i < 10) : P i := h ⟨i, hi⟩
theorem cu_row {n : Nat} (hn : n < 10) : (cuT.drop (n * 3)).take 3 = [(cuF n 0 : Int), (cuF n 1 : Int), (cuF n 2 : Int)] := ten_cases (P := fun n => (cuT.drop (n * 3)).take 3 = [(cuF n 0 : Int), (cuF n 1 : Int), (cuF n 2 : Int)]) (by decide) hn
theorem three_get (f : Nat → Nat) {k : Nat} (hk : k < 3) : [(f 0 : Int), (f 1 : Int), (f 2 : Int)].getD k 0 = (f k : Int) := by
  have h : k = 0 ∨ k = 1 ∨ k = 2 := by omega
  rcases h with rfl | rfl | rfl <;> rfl
theorem cu_lt {n k : Nat} (hn : n < 10) (hk : k < 3) : cuF n k < 3 := (show ∀ n : Fin 10, ∀ k : Fin 3, cuF n.1 k.1 < 3 by decide) ⟨n, hn⟩ ⟨k, hk⟩
theorem sh_eq {i k : Nat} (hi : i < 8) (hk : k < 3) : ((i : Nat) : Int).fdiv (2 ^ ((k : Nat) : Int).toNat) = ((i / 2 ^ k : Nat) : Int) := (show ∀ i : Fin 8, ∀ k : Fin 3, ((i.1 : Nat) : Int).fdiv (2 ^ ((k.1 : Nat) : Int).toNat) = ((i.1 / 2 ^ k.1 : Nat) : Int) by decide) ⟨i, hi⟩ ⟨k, hk⟩
theorem bit_eq {i k : Nat} (hi : i < 8) (hk : k < 3) : bitsI .and ((i / 2 ^ k : Nat) : Int) 1 = some ((i / 2 ^ k % 2 : Nat) : Int) := (show ∀ i : Fin 8, ∀ k : Fin 3, bitsI .and ((i.1 / 2 ^ k.1 : Nat) : Int) 1 = some ((i.1 / 2 ^ k.1 % 2 : Nat) : Int) by decide) ⟨i, hi⟩ ⟨k, hk⟩
/-- numbers from 0 to B -/
def smN (B : Int) (l : List Int) : Prop := ∀ x ∈ l, 0 ≤ x ∧ x ≤ B
theorem smN_get {B : Int} {l : List Int} (h : smN B l) (hB : 0 ≤ B) (i : Nat) : 0 ≤ l.getD i 0 ∧ l.getD i 0 ≤ B := by
  by_cases hi : i < l.length
  · have : l.getD i 0 = l[i] := by simp [List.getD, hi]
    rw [this]; exact h _ (List.getElem_mem hi)
  · have : l.getD i 0 = 0 := by simp [List.getD, hi]
    rw [this]; omega
theorem smN_norm {p : Int} {l : List Int} (hp : primeB p = true) (h : modB p l = true) : smN 12 l := fun x hx => by
  have := prime_bd hp
  have := mod_list h x hx; omega
theorem smN_point {p : Int} {l : List Int} (h : pointB p l = true) : smN 12 l := by
  simp only [pointB, normB, Bool.and_eq_true] at h
  exact smN_norm h.1 h.2.1
/-- one term: a number of the cubic times k factors, of a or of b as a code's digits say -/
def cuTm (c a b : List Int) (n i : Nat) : Nat → Int
  | 0 => c.getD n 0
  | k + 1 => cuTm c a b n i k * (if i / 2 ^ k % 2 = 1 then b.getD (cuF n k) 0 else a.getD (cuF n k) 0)
def cuCt (i : Nat) : Nat → Nat
  | 0 => 0
  | k + 1 => cuCt i k + (if i / 2 ^ k % 2 = 1 then 1 else 0)
theorem cuCt_le (i : Nat) : ∀ k, cuCt i k ≤ k
  | 0 => Nat.le_refl _
  | k + 1 => by have := cuCt_le i k; rw [cuCt]; split <;> omega
theorem cuTm_bd {c a b : List Int} (hc : smN 12 c) (ha : smN 12 a) (hb : smN 12 b) (n i : Nat) {k : Nat} (hk : k ≤ 3) : 0 ≤ cuTm c a b n i k ∧ cuTm c a b n i k ≤ 20736 := by
  have key : ∀ (k : Nat) (B : Int), 0 ≤ cuTm c a b n i k → cuTm c a b n i k ≤ B → 0 ≤ cuTm c a b n i (k + 1) ∧ cuTm c a b n i (k + 1) ≤ B * 12 := fun k B h1 h2 => by
    rw [cuTm]
    have hx : 0 ≤ (if i / 2 ^ k % 2 = 1 then b.getD (cuF n k) 0 else a.getD (cuF n k) 0) ∧ (if i / 2 ^ k % 2 = 1 then b.getD (cuF n k) 0 else a.getD (cuF n k) 0) ≤ 12 := by
      split
      · exact smN_get hb (by decide) _
      · exact smN_get ha (by decide) _
    exact mulN_bds h1 h2 hx.1 hx.2
  have h0 : 0 ≤ cuTm c a b n i 0 ∧ cuTm c a b n i 0 ≤ 12 := smN_get hc (by decide) n
  have h1 : 0 ≤ cuTm c a b n i 1 ∧ cuTm c a b n i 1 ≤ 144 := key 0 12 h0.1 h0.2
  have h2 : 0 ≤ cuTm c a b n i 2 ∧ cuTm c a b n i 2 ≤ 1728 := key 1 _ h1.1 h1.2
  have h3 : 0 ≤ cuTm c a b n i 3 ∧ cuTm c a b n i 3 ≤ 20736 := key 2 _ h2.1 h2.2
  have h : k = 0 ∨ k = 1 ∨ k = 2 ∨ k = 3 := by omega
  rcases h with rfl | rfl | rfl | rfl <;> omega
/-- the sum of the terms with j factors of b, among the first m -/
def cuS (c a b : List Int) (j : Nat) : Nat → Int
  | 0 => 0
  | m + 1 => cuS c a b j m + (if cuCt (m % 8) 3 = j then cuTm c a b (m / 8) (m % 8) 3 else 0)
def alV (p : Int) (c a b : List Int) (m : Nat) : List Int := [cuS c a b 0 m % p, cuS c a b 1 m % p, cuS c a b 2 m % p, cuS c a b 3 m % p]
@[simp] theorem alV_len (p : Int) (c a b : List Int) (m : Nat) : (alV p c a b m).length = 4 := rfl
theorem alV_zero (p : Int) (c a b : List Int) : alV p c a b (0 * 8 + 0) = [0, 0, 0, 0] := by simp [alV, cuS]
theorem alV_bd {p : Int} (hp : primeB p = true) (c a b : List Int) (m j : Nat) : 0 ≤ (alV p c a b m).getD j 0 ∧ (alV p c a b m).getD j 0 ≤ 12 := by
  have hb := prime_bd hp
  have h1 := fun x : Int => Int.emod_nonneg x (show p ≠ 0 by omega)
  have h2 := fun x : Int => Int.emod_lt_of_pos x (show 0 < p by omega)
  refine smN_get (B := 12) ?_ (by decide) j
  intro x hx
  simp only [alV, List.mem_cons, List.not_mem_nil, or_false] at hx
  rcases hx with rfl | rfl | rfl | rfl
  · have := h1 (cuS c a b 0 m); have := h2 (cuS c a b 0 m); omega
  · have := h1 (cuS c a b 1 m); have := h2 (cuS c a b 1 m); omega
  · have := h1 (cuS c a b 2 m); have := h2 (cuS c a b 2 m); omega
  · have := h1 (cuS c a b 3 m); have := h2 (cuS c a b 3 m); omega
theorem alV_step (p : Int) (c a b : List Int) (n : Nat) {i : Nat} (hi : i < 8) :
    (alV p c a b (n * 8 + i)).set (cuCt i 3) (((alV p c a b (n * 8 + i)).getD (cuCt i 3) 0 + cuTm c a b n i 3) % p) = alV p c a b (n * 8 + (i + 1)) := by
  have h1 : (n * 8 + i) % 8 = i := by omega
  have h2 : (n * 8 + i) / 8 = n := by omega
  have h3 := cuCt_le i 3
  have h : cuCt i 3 = 0 ∨ cuCt i 3 = 1 ∨ cuCt i 3 = 2 ∨ cuCt i 3 = 3 := by omega
  unfold alV
  rw [show n * 8 + (i + 1) = (n * 8 + i) + 1 by omega]
  simp only [cuS, h1, h2]
  rcases h with h | h | h | h <;> rw [h] <;> simp
/-- exponents, as they lie -/
def exT : List Int := [3, 0, 0, 2, 1, 0, 2, 0, 1, 1, 2, 0, 1, 1, 1, 1, 0, 2, 0, 3, 0, 0, 2, 1, 0, 1, 2, 0, 0, 3]
def exF (n k : Nat) : Nat := [3, 0, 0, 2, 1, 0, 2, 0, 1, 1, 2, 0, 1, 1, 1, 1, 0, 2, 0, 3, 0, 0, 2, 1, 0, 1, 2, 0, 0, 3].getD (n * 3 + k) 0
def exD (y n k : Nat) : Nat := if k = y then exF n k - 1 else exF n k
theorem ex_row {n : Nat} (hn : n < 10) : (exT.drop (n * 3)).take 3 = [(exF n 0 : Int), (exF n 1 : Int), (exF n 2 : Int)] := ten_cases (P := fun n => (exT.drop (n * 3)).take 3 = [(exF n 0 : Int), (exF n 1 : Int), (exF n 2 : Int)]) (by decide) hn
theorem ex_le {n k : Nat} (hn : n < 10) (hk : k < 3) : exF n k ≤ 3 := (show ∀ n : Fin 10, ∀ k : Fin 3, exF n.1 k.1 ≤ 3 by decide) ⟨n, hn⟩ ⟨k, hk⟩
theorem exD_le {y n k : Nat} (hn : n < 10) (hk : k < 3) : exD y n k ≤ 3 := by
  have := ex_le hn hk
  unfold exD; split <;> omega
theorem exD_row {y n : Nat} (hy : y < 3) : [(exF n 0 : Int), (exF n 1 : Int), (exF n 2 : Int)].set y (if 0 > ((exF n y : Nat) : Int) - 1 then 0 else ((exF n y : Nat) : Int) - 1) = [(exD y n 0 : Int), (exD y n 1 : Int), (exD y n 2 : Int)] := by
  have h : y = 0 ∨ y = 1 ∨ y = 2 := by omega
  have e : (if 0 > ((exF n y : Nat) : Int) - 1 then 0 else ((exF n y : Nat) : Int) - 1) = ((exF n y - 1 : Nat) : Int) := by split <;> omega
  rw [e]
  rcases h with rfl | rfl | rfl <;> simp [exD]
theorem pw_bd {x : Int} (h : 0 ≤ x ∧ x ≤ 12) {k : Nat} (hk : k ≤ 3) : 0 ≤ x ^ k ∧ x ^ k ≤ 1728 := by
  have h1 := mulN_bds h.1 h.2 h.1 h.2
  have h2 := mulN_bds h1.1 h1.2 h.1 h.2
  have hc : k = 0 ∨ k = 1 ∨ k = 2 ∨ k = 3 := by omega
  rcases hc with rfl | rfl | rfl | rfl
  · simp
  · simp only [Int.pow_one]; omega
  · rw [Int.pow_succ, Int.pow_one]; omega
  · rw [Int.pow_succ, Int.pow_succ, Int.pow_one]; omega
/-- a number times k powers, each reduced -/
def exV (p : Int) (a : List Int) (w : Int) (E : Nat → Nat) : Nat → Int
  | 0 => w
  | k + 1 => exV p a w E k * a.getD k 0 ^ E k % p
theorem exV_bd {p : Int} (hp : primeB p = true) (a : List Int) {w : Int} (hw : 0 ≤ w ∧ w ≤ 36) (E : Nat → Nat) : ∀ k, 0 ≤ exV p a w E k ∧ exV p a w E k ≤ 36
  | 0 => hw
  | k + 1 => by
    have hb := prime_bd hp
    have h1 := Int.emod_nonneg (exV p a w E k * a.getD k 0 ^ E k) (show p ≠ 0 by omega)
    have h2 := Int.emod_lt_of_pos (exV p a w E k * a.getD k 0 ^ E k) (show 0 < p by omega)
    rw [exV]; omega
def atS (p : Int) (c a : List Int) : Nat → Int
  | 0 => 0
  | n + 1 => atS p c a n + exV p a (c.getD n 0) (exF n) 3
def dS (p : Int) (c a : List Int) (y : Nat) : Nat → Int
  | 0 => 0
  | n + 1 => dS p c a y n + exV p a (c.getD n 0 * (exF n y : Int)) (exD y n) 3
/-- the value, and a derivative, of a cubic at a point -/
def cuA (p : Int) (c a : List Int) : Int := atS p c a 10 % p
def cuD (p : Int) (c a : List Int) (y : Nat) : Int := dS p c a y 10 % p
theorem em_mul (x y p : Int) : (x % p * y) % p = (x * y) % p := by rw [Int.mul_emod, Int.emod_emod_of_dvd _ (Int.dvd_refl p), ← Int.mul_emod]
theorem exV3 (p : Int) (a : List Int) (w : Int) (E : Nat → Nat) : exV p a w E 3 % p = (w * a.getD 0 0 ^ E 0 * a.getD 1 0 ^ E 1 * a.getD 2 0 ^ E 2) % p := by
  simp only [exV]
  rw [Int.emod_emod_of_dvd _ (Int.dvd_refl p), em_mul, Int.mul_assoc, em_mul, Int.mul_assoc, Int.mul_assoc, Int.mul_assoc]
theorem cuS_round (c a b : List Int) (j n : Nat) : cuS c a b j ((n + 1) * 8) = cuS c a b j (n * 8) + (if 0 = j then cuTm c a b n 0 3 else 0) + (if 1 = j then cuTm c a b n 1 3 else 0) + (if 1 = j then cuTm c a b n 2 3 else 0) + (if 2 = j then cuTm c a b n 3 3 else 0) + (if 1 = j then cuTm c a b n 4 3 else 0) + (if 2 = j then cuTm c a b n 5 3 else 0) + (if 2 = j then cuTm c a b n 6 3 else 0) + (if 3 = j then cuTm c a b n 7 3 else 0) := by
  have h : ∀ i, i < 8 → cuS c a b j (n * 8 + (i + 1)) = cuS c a b j (n * 8 + i) + (if cuCt i 3 = j then cuTm c a b n i 3 else 0) := fun i hi => by
    rw [show n * 8 + (i + 1) = (n * 8 + i) + 1 by omega, cuS, show (n * 8 + i) % 8 = i by omega, show (n * 8 + i) / 8 = n by omega]
  rw [show (n + 1) * 8 = n * 8 + (7 + 1) by omega, h 7 (by decide), h 6 (by decide), h 5 (by decide), h 4 (by decide), h 3 (by decide), h 2 (by decide), h 1 (by decide), h 0 (by decide)]
  rfl
theorem tm_at (c : List Int) (x y z : Int) (b : List Int) {n : Nat} (hn : n < 10) : cuTm c [x, y, z] b n 0 3 = c.getD n 0 * x ^ exF n 0 * y ^ exF n 1 * z ^ exF n 2 := by
  have h : n = 0 ∨ n = 1 ∨ n = 2 ∨ n = 3 ∨ n = 4 ∨ n = 5 ∨ n = 6 ∨ n = 7 ∨ n = 8 ∨ n = 9 := by omega
  rcases h with rfl | rfl | rfl | rfl | rfl | rfl | rfl | rfl | rfl | rfl <;> simp [cuTm, cuF, exF] <;> grind
def unitL (y : Nat) : List Int := [if y = 0 then 1 else 0, if y = 1 then 1 else 0, if y = 2 then 1 else 0]
theorem tm_d (c : List Int) (x y z : Int) (w : Nat) (hw : w < 3) {n : Nat} (hn : n < 10) : cuTm c [x, y, z] (unitL w) n 1 3 + cuTm c [x, y, z] (unitL w) n 2 3 + cuTm c [x, y, z] (unitL w) n 4 3 = c.getD n 0 * (exF n w : Int) * x ^ exD w n 0 * y ^ exD w n 1 * z ^ exD w n 2 := by
  have h : n = 0 ∨ n = 1 ∨ n = 2 ∨ n = 3 ∨ n = 4 ∨ n = 5 ∨ n = 6 ∨ n = 7 ∨ n = 8 ∨ n = 9 := by omega
  have h' : w = 0 ∨ w = 1 ∨ w = 2 := by omega
  rcases h' with rfl | rfl | rfl <;> rcases h with rfl | rfl | rfl | rfl | rfl | rfl | rfl | rfl | rfl | rfl <;> simp [cuTm, cuF, exF, exD, unitL] <;> grind
theorem al_at (p : Int) (c a b : List Int) (ha : a.length = 3) : ∀ n, n ≤ 10 → cuS c a b 0 (n * 8) % p = atS p c a n % p
  | 0, _ => rfl
  | n + 1, hn => by
    have ih := al_at p c a b ha n (by omega)
    rw [cuS_round, atS]
    simp only [if_true, Nat.reduceEqDiff, if_false, Int.add_zero]
    rw [Int.add_emod, ih, Int.add_emod (atS p c a n), exV3]
    match a, ha with
    | [x, y, z], _ => rw [tm_at c x y z b (by omega)]; rfl
theorem al_d (p : Int) (c a : List Int) (w : Nat) (hw : w < 3) (ha : a.length = 3) : ∀ n, n ≤ 10 → cuS c a (unitL w) 1 (n * 8) % p = dS p c a w n % p
  | 0, _ => rfl
  | n + 1, hn => by
    have ih := al_d p c a w hw ha n (by omega)
    rw [cuS_round, dS]
    simp only [if_true, Nat.reduceEqDiff, if_false, Int.add_zero, Nat.zero_ne_one]
    rw [Int.add_assoc, Int.add_assoc, Int.add_emod, ih, Int.add_emod (dS p c a w n), exV3]
    match a, ha with
    | [x, y, z], _ => rw [← Int.add_assoc, tm_d c x y z w hw (by omega)]; rfl
theorem alV_at (p : Int) (c a b : List Int) (ha : a.length = 3) : (alV p c a b 80).getD 0 0 = cuA p c a := al_at p c a b ha 10 (by decide)
theorem alV_d (p : Int) (c a : List Int) (w : Nat) (hw : w < 3) (ha : a.length = 3) : (alV p c a (unitL w) 80).getD 1 0 = cuD p c a w := al_d p c a w hw ha 10 (by decide)
section
variable {c : Cx} {s : S} {Q : Post}
theorem Q_max {dst : Option Tmp} {ty : TypeId} {pos : String} {af : Array Edge} {g : Option (Tmp × Bool)} {x y : Operand} {ats : Array TypeId} {m n : Int} (hx : ev c s.F x = some (.int m)) (hy : ev c s.F y = some (.int n)) :
    QOp c ⟨dst, .call ⟨.builtin .max, #[x, y], ats⟩, ty, pos, af, g⟩ s (.int (if n > m then n else m)) := by
  intro ρ0 w0 hg ρ a hf hfix w hw
  refine quiet_val ?_
  simp [execOp, resolve, invoke, builtin, Builtin.max_, Builtin.max2, ev_rv hg hfix hf hx (by simp), ev_rv hg hfix hf hy (by simp), rv]
end
attribute [local irreducible] CW OW QW QOp Con thenP inBlockP
theorem along_con (p : Int) (c a b : List Int) (hp : primeB p = true) (hcl : c.length = 10) (hal : a.length = 3) (hbl : b.length = 3) (qc : smN 12 c) (qa : smN 12 a) (qb : smN 12 b) : ConQ Tryd.prog [(0, 2000)] 90 [.arr c, .int p, .arr a, .arr b] [(2000, .ro 0 cuT)] (.arr (alV p c a b 80)) := by
  have hpb := prime_bd hp
  refine conW tab_ok [(0, .arr c), (1, .int p), (2, .arr a), (3, .arr b)] 0 [2000] [] Tryd.func90 rfl rfl rfl rfl rfl rfl rfl rfl rfl ?_
  refine cR ?_
  iterate 3 refine oBox rfl rfl rfl rfl rfl rfl ?_
  refine oAlloc rfl rfl rfl rfl rfl rfl rfl ?_
  refine oN ?_
  refine cR ?_
  refine oQ (Q_build rfl rfl rfl rfl rfl rfl rfl rfl) rfl rfl ?_
  refine oAlloc rfl rfl rfl rfl rfl rfl rfl ?_
  first | refine oSw rfl rfl rfl rfl ?_ | refine oSa rfl rfl rfl rfl ?_
  refine oN ?_
  refine CW_seq ?_
  refine cR ?_
  refine oQ (Q_ldra (j := 0) (n := 30) rfl rfl rfl rfl rfl rfl (by decide)) rfl rfl ?_
  refine oM rfl rfl ?_
  refine oN ?_
  refine CW_block ?_
  refine CW_loop (ι := Nat) (fun n => n ≤ 10) (fun n => ⟨[(1, .int p), (4, .ptr 0 0), (6, .ptr 1 0), (7, .ptr 2 0), (8, .ptr 3 0), (9, .ptr 4 0), (18, .arr cuT), (19, .int (n : Nat))], [(0, .ints 27 c), (1, .ints 29 a), (2, .ints 29 b), (3, .ints 104 [0, 0, 0, 0]), (4, .ints 104 (alV p c a b (n * 8 + 0))), (2000, .ro 0 cuT)], 5⟩) (fun n => 10 - n) 0 ?_ ?_ ?_
  · first | trivial | omega | (simp; done) | (simp; omega)
  · refine View.mk' [] rfl rfl rfl ?_ ?_
    repeat' first | exact vFn | refine vFc rfl ?_ | exact vHn | refine vHc rfl ?_ | refine vFc (congrArg (fun z => some (V.int z)) ?_) ?_ | refine vHc (congrArg (fun z => some (Blk.ints _ z)) ?_) ?_ | refine vFc (congrArg (fun z => some (V.bool z)) ?_) ?_ | refine vFs rfl rfl ?_ ?_
    all_goals rw [alV_zero]
    all_goals rfl
  intro n hn
  refine cR ?_
  refine oQ (Q_bin rfl rfl rfl) rfl rfl ?_
  refine oN ?_
  refine CW_seq ?_
  first | refine cT rfl ?_ | refine cF rfl ?_ | refine CW_cond rfl (fun hc => ?_) (fun hc => ?_)
  all_goals try simp only [s1, s2, s3, s4, s5, s6, s7, s8, s9, s10, s11, s12] at hc
  all_goals first
    | (
     refine CW_skip ?_)
    | (
     refine CW_exit ?_)
  all_goals first
    | with_reducible refine tR ?_
    | with_reducible refine tE ?_
    | (
     with_reducible refine tN ?_
     refine CW_seq ?_
     refine CW_block ?_
     refine cR ?_
     refine oM rfl rfl ?_
     (have hn10 : n < 10 := by omega); refine oQ (Q_indexz 3 rfl rfl rfl rfl rfl rfl rfl (by omega)) rfl rfl ?_; rw [cu_row hn10]
     refine oAlloc rfl rfl rfl rfl rfl rfl rfl ?_
     refine oA rfl rfl ?_
     first | refine oSw rfl rfl rfl rfl ?_ | refine oSa rfl rfl rfl rfl ?_
     refine oN ?_
     refine cR ?_
     refine oM rfl rfl ?_
     refine oN ?_
     refine CW_block ?_
     refine CW_loop (ι := Nat) (fun i => i ≤ 8) (fun i => ⟨[(1, .int p), (4, .ptr 0 0), (6, .ptr 1 0), (7, .ptr 2 0), (8, .ptr 3 0), (9, .ptr 4 0), (10, .int (n : Nat)), (11, .ptr 5 0), (18, .arr cuT), (19, .int (n : Nat)), (23, .int (i : Nat))], [(0, .ints 27 c), (1, .ints 29 a), (2, .ints 29 b), (3, .ints 104 [0, 0, 0, 0]), (4, .ints 104 (alV p c a b (n * 8 + i))), (5, .ints 88 [(cuF n 0 : Int), (cuF n 1 : Int), (cuF n 2 : Int)]), (2000, .ro 0 cuT)], 6⟩) (fun i => 8 - i) 0 ?_ ?_ ?_
     · first | trivial | omega | (simp; done) | (simp; omega)
     · refine View.mk' [] rfl rfl rfl ?_ ?_
       repeat' first | exact vFn | refine vFc rfl ?_ | exact vHn | refine vHc rfl ?_ | refine vFc (congrArg (fun z => some (V.int z)) ?_) ?_ | refine vHc (congrArg (fun z => some (Blk.ints _ z)) ?_) ?_ | refine vFc (congrArg (fun z => some (V.bool z)) ?_) ?_ | refine vFs rfl rfl ?_ ?_
     intro i hi
     have hav := alV_bd hp c a b (n * 8 + i) (cuCt i 3)
     have hct := cuCt_le i 3
     have hT3 := cuTm_bd qc qa qb n i (Nat.le_refl 3)
     refine cR ?_
     refine oQ (Q_bin rfl rfl rfl) rfl rfl ?_
     refine oN ?_
     refine CW_seq ?_
     first | refine cT rfl ?_ | refine cF rfl ?_ | refine CW_cond rfl (fun hc => ?_) (fun hc => ?_)
     all_goals try simp only [s1, s2, s3, s4, s5, s6, s7, s8, s9, s10, s11, s12] at hc
     all_goals first
       | (
        refine CW_skip ?_)
       | (
        refine CW_exit ?_)
     all_goals first
       | with_reducible refine tR ?_
       | with_reducible refine tE ?_
       | (
        with_reducible refine tN ?_
        refine CW_seq ?_
        refine CW_block ?_
        refine cR ?_
        refine oM rfl rfl ?_
        refine oA rfl rfl ?_
        refine oN ?_
        refine cR ?_
        refine oM rfl rfl ?_
        first | refine oQ (Ia0 rfl rfl rfl rfl rfl rfl) rfl rfl ?_ | refine oQ (Ia1 rfl rfl rfl rfl rfl rfl) rfl rfl ?_
        refine oQ (Ld rfl rfl rfl rfl) rfl rfl ?_
        iterate 2 refine oA rfl rfl ?_
        refine oN ?_
        refine CW_seq ?_
        refine cR ?_
        (have hi8 : i < 8 := by omega); refine oQ (Q_ldw rfl rfl rfl rfl rfl) rfl rfl ?_
        refine oM rfl rfl ?_
        refine oN ?_
        refine CW_block ?_
        refine CW_loop (ι := Nat) (fun k => k ≤ 3) (fun k => ⟨[(1, .int p), (4, .ptr 0 0), (6, .ptr 1 0), (7, .ptr 2 0), (8, .ptr 3 0), (9, .ptr 4 0), (10, .int (n : Nat)), (11, .ptr 5 0), (12, .int (i : Nat)), (13, .int (cuTm c a b n i k)), (14, .int (cuCt i k : Nat)), (18, .arr cuT), (19, .int (n : Nat)), (23, .int (i : Nat)), (29, .arr [(cuF n 0 : Int), (cuF n 1 : Int), (cuF n 2 : Int)]), (30, .int (k : Nat))], [(0, .ints 27 c), (1, .ints 29 a), (2, .ints 29 b), (3, .ints 104 [0, 0, 0, 0]), (4, .ints 104 (alV p c a b (n * 8 + i))), (5, .ints 88 [(cuF n 0 : Int), (cuF n 1 : Int), (cuF n 2 : Int)]), (2000, .ro 0 cuT)], 6⟩) (fun k => 3 - k) 0 ?_ ?_ ?_
        · first | trivial | omega | (simp; done) | (simp; omega)
        · refine View.mk' [] rfl rfl rfl ?_ ?_
          repeat' first | exact vFn | refine vFc rfl ?_ | exact vHn | refine vHc rfl ?_ | refine vFc (congrArg (fun z => some (V.int z)) ?_) ?_ | refine vHc (congrArg (fun z => some (Blk.ints _ z)) ?_) ?_ | refine vFc (congrArg (fun z => some (V.bool z)) ?_) ?_ | refine vFs rfl rfl ?_ ?_
        intro k hk
        have hT := cuTm_bd qc qa qb n i hk
        have hca := smN_get qa (by decide) (cuF n k)
        have hcb := smN_get qb (by decide) (cuF n k)
        have hctk := cuCt_le i k
        refine cR ?_
        refine oQ (Q_bin rfl rfl rfl) rfl rfl ?_
        refine oN ?_
        refine CW_seq ?_
        first | refine cT rfl ?_ | refine cF rfl ?_ | refine CW_cond rfl (fun hc => ?_) (fun hc => ?_)
        all_goals try simp only [s1, s2, s3, s4, s5, s6, s7, s8, s9, s10, s11, s12] at hc
        all_goals first
          | (
           refine CW_skip ?_)
          | (
           refine CW_exit ?_)
        all_goals first
          | with_reducible refine tR ?_
          | with_reducible refine tE ?_
          | (
           with_reducible refine tN ?_
           refine CW_seq ?_
           refine CW_block ?_
           refine cR ?_
           refine oM rfl rfl ?_
           (have hk3 : k < 3 := by omega); (have hcu := cu_lt hn10 hk3); refine oQ (Q_index1 rfl rfl rfl rfl rfl rfl rfl (by omega) (by simp; omega)) rfl rfl ?_; rw [three_get (cuF n) hk3]
           iterate 2 refine oA rfl rfl ?_
           refine oN ?_
           refine cR ?_
           iterate 2 refine oM rfl rfl ?_
           refine oQ (Q_shr rfl rfl (by omega) (by omega)) rfl rfl ?_; rw [sh_eq hi8 hk3]
           refine oQ (Q_bits rfl rfl (bit_eq hi8 hk3)) rfl rfl ?_
           refine oQ (Q_bin rfl rfl rfl) rfl rfl ?_
           refine oN ?_
           first | refine cT rfl ?_ | refine cF rfl ?_ | refine CW_cond rfl (fun hc => ?_) (fun hc => ?_)
           all_goals try simp only [s1, s2, s3, s4, s5, s6, s7, s8, s9, s10, s11, s12] at hc
           all_goals first
             | (
              refine CW_region ?_
              iterate 2 refine oM rfl rfl ?_
              first | refine oQ (Ia0 rfl rfl rfl rfl rfl rfl) rfl rfl ?_ | refine oQ (Ia1 rfl rfl rfl rfl rfl rfl) rfl rfl ?_
              refine oQ (Ld rfl rfl rfl rfl) rfl rfl ?_
              refine oMulN 20736 12 rfl rfl (by omega) (by omega) (by decide) rfl (fun z50 hz50 hl50 hu50 => ?_)
              refine oA rfl rfl ?_
              refine OW_nil ?_)
             | (
              refine CW_region ?_
              iterate 2 refine oM rfl rfl ?_
              first | refine oQ (Ia0 rfl rfl rfl rfl rfl rfl) rfl rfl ?_ | refine oQ (Ia1 rfl rfl rfl rfl rfl rfl) rfl rfl ?_
              refine oQ (Ld rfl rfl rfl rfl) rfl rfl ?_
              refine oMulN 20736 12 rfl rfl (by omega) (by omega) (by decide) rfl (fun z43 hz43 hl43 hu43 => ?_)
              refine oM rfl rfl ?_
              first | refine oQ (Q_binu rfl rfl rfl (by omega)) rfl rfl ?_ | refine oQ (Q_bin rfl rfl rfl) rfl rfl ?_
              iterate 2 refine oA rfl rfl ?_
              refine OW_nil ?_)
           all_goals first | with_reducible refine bN ?_ | with_reducible refine bE ?_ | with_reducible refine bR ?_ | refine bX rfl ?_
           all_goals with_reducible refine tN ?_
           all_goals (
            refine CW_region ?_
            first | refine oQ (Q_binu rfl rfl rfl (by omega)) rfl rfl ?_ | refine oQ (Q_bin rfl rfl rfl) rfl rfl ?_
            refine oM rfl rfl ?_
            refine OW_nil ?_))
        all_goals first
          | with_reducible refine tR ?_
          | with_reducible refine tE ?_
          | (
           with_reducible refine tN ?_
           refine ⟨k + 1, ?_, ?_, View.mk' [] rfl rfl rfl ?_ ?_⟩
           · omega
           · omega
           all_goals (repeat' first | exact vFn | refine vFc rfl ?_ | exact vHn | refine vHc rfl ?_ | refine vFc (congrArg (fun z => some (V.int z)) ?_) ?_ | refine vHc (congrArg (fun z => some (Blk.ints _ z)) ?_) ?_ | refine vFc (congrArg (fun z => some (V.bool z)) ?_) ?_ | refine vFs rfl rfl ?_ ?_)
           all_goals first | subst hz43 | subst hz50 | skip
           all_goals first | (rw [cuTm, if_pos (show i / 2 ^ k % 2 = 1 by exact_mod_cast hc)]; done) | (rw [cuTm, if_pos (show i / 2 ^ k % 2 = 1 by exact_mod_cast hc)]; simp; done) | (rw [cuTm, if_neg (show ¬ i / 2 ^ k % 2 = 1 by exact_mod_cast hc)]; done) | (rw [cuTm, if_neg (show ¬ i / 2 ^ k % 2 = 1 by exact_mod_cast hc)]; simp; done) | (rw [cuCt, if_pos (show i / 2 ^ k % 2 = 1 by exact_mod_cast hc)]; done) | (rw [cuCt, if_pos (show i / 2 ^ k % 2 = 1 by exact_mod_cast hc)]; simp; done) | (rw [cuCt, if_neg (show ¬ i / 2 ^ k % 2 = 1 by exact_mod_cast hc)]; done) | (rw [cuCt, if_neg (show ¬ i / 2 ^ k % 2 = 1 by exact_mod_cast hc)]; simp; done) | fail "LEFT")
        all_goals first | with_reducible refine bN ?_ | with_reducible refine bE ?_ | with_reducible refine bR ?_ | refine bX rfl ?_
        all_goals with_reducible refine tN ?_
        all_goals (
         refine CW_region ?_
         (have e : k = 3 := by omega); subst e; refine oM rfl rfl ?_
         refine oM rfl rfl ?_
         first | refine oQ (Ia0 rfl rfl rfl rfl rfl rfl) rfl rfl ?_ | refine oQ (Ia1 rfl rfl rfl rfl rfl rfl) rfl rfl ?_
         refine oQ (Ld rfl rfl rfl rfl) rfl rfl ?_
         refine oM rfl rfl ?_
         first | refine oQ (Q_binu rfl rfl rfl (by omega)) rfl rfl ?_ | refine oQ (Q_bin rfl rfl rfl) rfl rfl ?_
         refine oM rfl rfl ?_
         refine oQ (Q_call0 (mod_con _ p (by omega) (by omega)) rfl rfl rfl) rfl rfl ?_
         first | refine oQ (Ia0 rfl rfl rfl rfl rfl rfl) rfl rfl ?_ | refine oQ (Ia1 rfl rfl rfl rfl rfl rfl) rfl rfl ?_
         refine oS rfl rfl rfl rfl rfl ?_
         refine OW_nil ?_)
        all_goals first | with_reducible refine bN ?_ | with_reducible refine bE ?_ | with_reducible refine bR ?_ | refine bX rfl ?_
        all_goals with_reducible refine tN ?_
        all_goals (
         refine CW_region ?_
         first | refine oQ (Q_binu rfl rfl rfl (by omega)) rfl rfl ?_ | refine oQ (Q_bin rfl rfl rfl) rfl rfl ?_
         refine oM rfl rfl ?_
         refine OW_nil ?_))
     all_goals first
       | with_reducible refine tR ?_
       | with_reducible refine tE ?_
       | (
        with_reducible refine tN ?_
        refine ⟨i + 1, ?_, ?_, View.mk' [] rfl rfl rfl ?_ ?_⟩
        · omega
        · omega
        all_goals (repeat' first | exact vFn | refine vFc rfl ?_ | exact vHn | refine vHc rfl ?_ | refine vFc (congrArg (fun z => some (V.int z)) ?_) ?_ | refine vHc (congrArg (fun z => some (Blk.ints _ z)) ?_) ?_ | refine vFc (congrArg (fun z => some (V.bool z)) ?_) ?_ | refine vFs rfl rfl ?_ ?_)
        all_goals exact alV_step p c a b n hi8)
     all_goals first | with_reducible refine bN ?_ | with_reducible refine bE ?_ | with_reducible refine bR ?_ | refine bX rfl ?_
     all_goals first | with_reducible refine bN ?_ | with_reducible refine bE ?_ | with_reducible refine bR ?_ | refine bX rfl ?_
     all_goals with_reducible refine tN ?_
     all_goals (
      refine CW_region ?_
      first | refine oQ (Q_binu rfl rfl rfl (by omega)) rfl rfl ?_ | refine oQ (Q_bin rfl rfl rfl) rfl rfl ?_
      refine oM rfl rfl ?_
      refine OW_nil ?_))
  all_goals first
    | with_reducible refine tR ?_
    | with_reducible refine tE ?_
    | (
     with_reducible refine tN ?_
     refine ⟨n + 1, ?_, ?_, View.mk' [] rfl rfl rfl ?_ ?_⟩
     · omega
     · omega
     all_goals (repeat' first | exact vFn | refine vFc rfl ?_ | exact vHn | refine vHc rfl ?_ | refine vFc (congrArg (fun z => some (V.int z)) ?_) ?_ | refine vHc (congrArg (fun z => some (Blk.ints _ z)) ?_) ?_ | refine vFc (congrArg (fun z => some (V.bool z)) ?_) ?_ | refine vFs rfl rfl ?_ ?_)
     all_goals (have e : i = 8 := by omega)
     all_goals subst e
     all_goals rw [show (n + 1) * 8 + 0 = n * 8 + 8 by omega])
  all_goals first | with_reducible refine bN ?_ | with_reducible refine bE ?_ | with_reducible refine bR ?_ | refine bX rfl ?_
  all_goals with_reducible refine tN ?_
  all_goals (
   refine cR ?_
   first | refine oQ (Lw rfl rfl rfl rfl) rfl rfl ?_ | refine oQ (La rfl rfl rfl rfl rfl) rfl rfl ?_
   first | refine oSw rfl rfl rfl rfl ?_ | refine oSa rfl rfl rfl rfl ?_
   refine oN ?_
   refine CW_ret ?_)
  all_goals (
   have e : n = 10 := by omega
   subst e
   refine exitQ (.inr rfl) 0 (.cons (.arr rfl rfl rfl rfl (by first | omega | (dsimp only; omega) | (simp; omega) | (simp; done))) .nil) ?_ rfl (vHc rfl vHn) rfl rfl
   rfl)
theorem at_con (p : Int) (c a : List Int) (hp : primeB p = true) (hcl : c.length = 10) (hal : a.length = 3) (qc : smN 12 c) (qa : smN 12 a) : ConQ Tryd.prog [(0, 2000)] 55 [.arr c, .int p, .arr a] [(2000, .ro 0 cuT)] (.int (cuA p c a)) := by
  have hz : smN 12 [0, 0, 0] := by intro x hx; simp at hx; omega
  refine conW tab_ok [(0, .arr c), (1, .int p), (2, .arr a)] 0 [2000] [] Tryd.func55 rfl rfl rfl rfl rfl rfl rfl rfl rfl ?_
  refine cR ?_
  iterate 2 refine oBox rfl rfl rfl rfl rfl rfl ?_
  refine oA rfl rfl ?_
  refine oN ?_
  refine cR ?_
  refine oQ (Q_ldw rfl rfl rfl rfl hcl) rfl rfl ?_
  refine oM rfl rfl ?_
  refine oQ (Q_ldw rfl rfl rfl rfl hal) rfl rfl ?_
  refine oQ (v := .arr [0, 0, 0]) (Q_build rfl rfl rfl rfl rfl rfl rfl rfl) rfl rfl ?_
  refine oQ (Q_call (along_con p c a [0, 0, 0] hp hcl hal rfl qc qa hz) [] rfl rfl (Fits.mk' (vHc rfl vHn) rfl rfl (by first | (simp; done) | exact glOk rfl rfl rfl)) rfl rfl) rfl rfl ?_
  refine oQ (Q_index1 rfl rfl rfl rfl rfl rfl rfl (by decide) (by rw [alV_len]; decide)) rfl rfl ?_; rw [alV_at p c a _ hal]
  refine oA rfl rfl ?_
  refine oN ?_
  refine CW_ret ?_
  all_goals (
   ((refine exitQ (.inr rfl) 0 (.cons (.tmp rfl rfl) .nil) ?_ rfl (vHc rfl vHn) rfl rfl); rfl))
theorem slopes_con (p : Int) (c a : List Int) (hp : primeB p = true) (hcl : c.length = 10) (hal : a.length = 3) (qc : smN 12 c) (qa : smN 12 a) : ConQ Tryd.prog [(0, 2000)] 57 [.arr c, .int p, .arr a] [(2000, .ro 0 cuT)] (.arr [cuD p c a 0, cuD p c a 1, cuD p c a 2]) := by
  have hz : ∀ w, smN 12 (unitL w) := by
    intro w x hx
    simp only [unitL, List.mem_cons, List.not_mem_nil, or_false] at hx
    rcases hx with rfl | rfl | rfl <;> split <;> omega
  have h0 := along_con p c a (unitL 0) hp hcl hal rfl qc qa (hz 0)
  have h1 := along_con p c a (unitL 1) hp hcl hal rfl qc qa (hz 1)
  have h2 := along_con p c a (unitL 2) hp hcl hal rfl qc qa (hz 2)
  have e0 := alV_d p c a 0 (by decide) hal
  have e1 := alV_d p c a 1 (by decide) hal
  have e2 := alV_d p c a 2 (by decide) hal
  have l0 := alV_len p c a (unitL 0) 80
  have l1 := alV_len p c a (unitL 1) 80
  have l2 := alV_len p c a (unitL 2) 80
  generalize alV p c a (unitL 0) 80 = v0 at *
  generalize alV p c a (unitL 1) 80 = v1 at *
  generalize alV p c a (unitL 2) 80 = v2 at *
  refine conW tab_ok [(0, .arr c), (1, .int p), (2, .arr a)] 0 [2000] [] Tryd.func57 rfl rfl rfl rfl rfl rfl rfl rfl rfl ?_
  refine cR ?_
  iterate 2 refine oBox rfl rfl rfl rfl rfl rfl ?_
  refine oAlloc rfl rfl rfl rfl rfl rfl rfl ?_
  refine oN ?_
  refine CW_seq ?_
  refine CW_any (fun i => List.elem i [19]) 20 rfl lateOk (by decide +kernel) (fun hst => ?_)
  refine aQ 0 hst rfl rfl (by decide +kernel) (QX_of (Q_ldw rfl rfl rfl rfl hcl) NE_load) rfl rfl ?_
  refine aP 1 hst rfl rfl (by decide +kernel) (PX_move rfl rfl) rfl rfl ?_
  refine aQ 2 hst rfl rfl (by decide +kernel) (QX_of (Q_ldw rfl rfl rfl rfl hal) NE_load) rfl rfl ?_
  refine aQ 3 hst rfl rfl (by decide +kernel) (QX_of (v := .arr (unitL 0)) (Q_build rfl rfl rfl rfl rfl rfl rfl rfl) NE_build) rfl rfl ?_
  refine aQ 4 hst rfl rfl (by decide +kernel) (QX_call (h0) [] rfl rfl (Fits.mk' (vHc rfl vHn) rfl rfl (by first | (simp; done) | exact glOk rfl rfl rfl)) rfl rfl rfl) rfl rfl ?_
  refine aQ 5 hst rfl rfl (by decide +kernel) (QX_of (Q_index1 rfl rfl rfl rfl rfl rfl rfl (by decide) (by rw [l0]; decide)) NE_index) rfl rfl ?_; rw [e0]
  refine aQ 6 hst rfl rfl (by decide +kernel) (QX_of (Q_ldw rfl rfl rfl rfl hcl) NE_load) rfl rfl ?_
  refine aP 7 hst rfl rfl (by decide +kernel) (PX_move rfl rfl) rfl rfl ?_
  refine aQ 8 hst rfl rfl (by decide +kernel) (QX_of (Q_ldw rfl rfl rfl rfl hal) NE_load) rfl rfl ?_
  refine aQ 9 hst rfl rfl (by decide +kernel) (QX_of (v := .arr (unitL 1)) (Q_build rfl rfl rfl rfl rfl rfl rfl rfl) NE_build) rfl rfl ?_
  refine aQ 10 hst rfl rfl (by decide +kernel) (QX_call (h1) [] rfl rfl (Fits.mk' (vHc rfl vHn) rfl rfl (by first | (simp; done) | exact glOk rfl rfl rfl)) rfl rfl rfl) rfl rfl ?_
  refine aQ 11 hst rfl rfl (by decide +kernel) (QX_of (Q_index1 rfl rfl rfl rfl rfl rfl rfl (by decide) (by rw [l1]; decide)) NE_index) rfl rfl ?_; rw [e1]
  refine aQ 12 hst rfl rfl (by decide +kernel) (QX_of (Q_ldw rfl rfl rfl rfl hcl) NE_load) rfl rfl ?_
  refine aP 13 hst rfl rfl (by decide +kernel) (PX_move rfl rfl) rfl rfl ?_
  refine aQ 14 hst rfl rfl (by decide +kernel) (QX_of (Q_ldw rfl rfl rfl rfl hal) NE_load) rfl rfl ?_
  refine aQ 15 hst rfl rfl (by decide +kernel) (QX_of (v := .arr (unitL 2)) (Q_build rfl rfl rfl rfl rfl rfl rfl rfl) NE_build) rfl rfl ?_
  refine aQ 16 hst rfl rfl (by decide +kernel) (QX_call (h2) [] rfl rfl (Fits.mk' (vHc rfl vHn) rfl rfl (by first | (simp; done) | exact glOk rfl rfl rfl)) rfl rfl rfl) rfl rfl ?_
  refine aQ 17 hst rfl rfl (by decide +kernel) (QX_of (Q_index1 rfl rfl rfl rfl rfl rfl rfl (by decide) (by rw [l2]; decide)) NE_index) rfl rfl ?_; rw [e2]
  refine aQ 18 hst rfl rfl (by decide +kernel) (QX_of (v := .arr [cuD p c a 0, cuD p c a 1, cuD p c a 2]) (Q_build rfl rfl rfl rfl rfl rfl rfl rfl) NE_build) rfl rfl ?_
  refine AW_last [19] rfl (by decide +kernel) rfl ?_
  first | refine oSw rfl rfl rfl rfl ?_ | refine oSa rfl rfl rfl rfl ?_
  refine OW_nil (npN ?_)
  all_goals with_reducible refine tN ?_
  all_goals (
   refine CW_ret ?_)
  all_goals (
   ((refine exitQ (.inr rfl) 0 (.cons (.arr rfl rfl rfl rfl (by first | omega | (dsimp only; omega) | (simp; omega) | (simp; done))) .nil) ?_ rfl (vHc rfl vHn) rfl rfl); rfl))
theorem l06Products_con  : ConQ Tryd.prog [] 103 [] [] (.arr exT) := by
  have hsl : exT.length = 30 := rfl
  refine conW tab_ok [] 0 [] [] Tryd.func103 rfl rfl rfl rfl rfl rfl rfl rfl rfl ?_
  refine cR ?_
  refine oAlloc rfl rfl rfl rfl rfl rfl rfl ?_
  refine oN ?_
  refine cR ?_
  iterate 10 refine oQ (Q_build rfl rfl rfl rfl rfl rfl rfl rfl) rfl rfl ?_
  refine oQ (v := .arr exT) (Q_build rfl rfl rfl rfl rfl rfl rfl rfl) rfl rfl ?_
  first | refine oSw rfl rfl rfl rfl ?_ | refine oSa rfl rfl rfl rfl ?_
  refine oN ?_
  refine CW_ret ?_
  all_goals (
   ((refine exitQ (.inr rfl) 0 (.cons (.arr rfl rfl rfl rfl (by first | omega | (dsimp only; omega) | (simp; omega) | (simp; done))) .nil) ?_ rfl vHn rfl rfl); rfl))
theorem l06Power_con (x : Int) (k : Nat) (hx : 0 ≤ x ∧ x ≤ 12) (hk : k ≤ 3) : ConQ Tryd.prog [] 114 [.int x, .int (k : Int)] [] (.int (x ^ k)) := by
  refine conW tab_ok [(0, .int x), (1, .int (k : Int))] 0 [] [] Tryd.func114 rfl rfl rfl rfl rfl rfl rfl rfl rfl ?_
  refine cR ?_
  refine oA rfl rfl ?_
  refine oN ?_
  refine cR ?_
  refine oA rfl rfl ?_
  refine oN ?_
  refine CW_seq ?_
  refine CW_block ?_
  refine CW_loop (ι := Nat) (fun i => i ≤ k) (fun i => ⟨[(0, .int x), (1, .int ((k : Int) - (i : Nat))), (5, .int (x ^ i))], [], 0⟩) (fun i => k - i) 0 ?_ ?_ ?_
  · first | trivial | omega | (simp; done) | (simp; omega)
  · refine View.mk' [] rfl rfl rfl ?_ ?_
    repeat' first | exact vFn | refine vFc rfl ?_ | exact vHn | refine vHc rfl ?_ | refine vFc (congrArg (fun z => some (V.int z)) ?_) ?_ | refine vHc (congrArg (fun z => some (Blk.ints _ z)) ?_) ?_ | refine vFc (congrArg (fun z => some (V.bool z)) ?_) ?_ | refine vFs rfl rfl ?_ ?_
    all_goals simp
  intro i hi
  have hw := pw_bd hx (show i ≤ 3 by omega)
  refine CW_seq ?_
  refine cR ?_
  refine oM rfl rfl ?_
  refine oQ (Q_bin rfl rfl rfl) rfl rfl ?_
  refine oN ?_
  first | refine cT rfl ?_ | refine cF rfl ?_ | refine CW_cond rfl (fun hc => ?_) (fun hc => ?_)
  all_goals try simp only [s1, s2, s3, s4, s5, s6, s7, s8, s9, s10, s11, s12] at hc
  all_goals first
    | (
     refine CW_skip ?_)
    | (
     refine CW_exit ?_)
  all_goals first
    | with_reducible refine tR ?_
    | with_reducible refine tE ?_
    | (
     with_reducible refine tN ?_
     refine CW_seq ?_
     refine CW_block ?_
     refine CW_region ?_
     iterate 2 refine oM rfl rfl ?_
     refine oMulN 1728 12 rfl rfl (by omega) (by omega) (by decide) rfl (fun z12 hz12 hl12 hu12 => ?_)
     refine oA rfl rfl ?_
     refine OW_nil ?_
     all_goals first | with_reducible refine bN ?_ | with_reducible refine bE ?_ | with_reducible refine bR ?_ | refine bX rfl ?_
     all_goals with_reducible refine tN ?_
     all_goals (
      refine CW_region ?_
      refine oM rfl rfl ?_
      first | refine oQ (Q_binu rfl rfl rfl (by omega)) rfl rfl ?_ | refine oQ (Q_bin rfl rfl rfl) rfl rfl ?_
      refine oA rfl rfl ?_
      refine OW_nil ?_))
  all_goals first
    | with_reducible refine tR ?_
    | with_reducible refine tE ?_
    | (
     with_reducible refine tN ?_
     refine ⟨i + 1, ?_, ?_, View.mk' [] rfl rfl rfl ?_ ?_⟩
     · omega
     · omega
     all_goals (repeat' first | exact vFn | refine vFc rfl ?_ | exact vHn | refine vHc rfl ?_ | refine vFc (congrArg (fun z => some (V.int z)) ?_) ?_ | refine vHc (congrArg (fun z => some (Blk.ints _ z)) ?_) ?_ | refine vFc (congrArg (fun z => some (V.bool z)) ?_) ?_ | refine vFs rfl rfl ?_ ?_)
     all_goals first | subst hz12 | skip
     all_goals first | omega | (rw [Int.pow_succ]; done) | (rw [Int.pow_succ]; rfl) | fail "LEFT")
  all_goals first | with_reducible refine bN ?_ | with_reducible refine bE ?_ | with_reducible refine bR ?_ | refine bX rfl ?_
  all_goals with_reducible refine tN ?_
  all_goals (
   refine cR ?_
   refine oM rfl rfl ?_
   refine oA rfl rfl ?_
   refine oN ?_
   refine CW_ret ?_)
  all_goals (
   have e : i = k := by omega
   subst e
   refine exitQ (.inr rfl) 0 (.cons (.tmp rfl rfl) .nil) ?_ rfl vHn rfl rfl
   rfl)
theorem l06At_con (p : Int) (c a : List Int)  (hp : primeB p = true) (hcl : c.length = 10) (hal : a.length = 3) (qc : smN 12 c) (qa : smN 12 a) : ConQ Tryd.prog [] 81 [.int p, .arr c, .arr a, .int (-1)] [] (.int (cuA p c a)) := by
  have hpb := prime_bd hp
  have hsl : exT.length = 30 := rfl
  have hSb : ∀ n : Nat, n ≤ 10 → 0 ≤ atS p c a n ∧ atS p c a n ≤ (n : Int) * 36 := by
    intro n
    induction n with
    | zero => intro _; exact ⟨Int.le_refl _, by simp [atS]⟩
    | succ n ih =>
      intro h
      have ih := ih (by omega)
      have h1 := smN_get qc (by decide) n
      have hw : 0 ≤ c.getD n 0 ∧ c.getD n 0 ≤ 36 := ⟨h1.1, by omega⟩
      have h3 := exV_bd hp a hw (exF n) 3
      rw [atS]
      omega
  refine conW tab_ok [(0, .int p), (1, .arr c), (2, .arr a), (3, .int (-1))] 0 [] [] Tryd.func81 rfl rfl rfl rfl rfl rfl rfl rfl rfl ?_
  refine cR ?_
  iterate 2 refine oBox rfl rfl rfl rfl rfl rfl ?_
  refine oA rfl rfl ?_
  refine oN ?_
  refine cR ?_
  refine oQ (Q_call0 (l06Products_con) rfl rfl rfl) rfl rfl ?_
  refine oAlloc rfl rfl rfl rfl rfl rfl rfl ?_
  refine oA rfl rfl ?_
  first | refine oSw rfl rfl rfl rfl ?_ | refine oSa rfl rfl rfl rfl ?_
  refine oN ?_
  refine CW_seq ?_
  refine cR ?_
  refine oA rfl rfl ?_
  refine oN ?_
  refine CW_block ?_
  refine CW_loop (ι := Nat) (fun n => n ≤ 10) (fun n => ⟨[(0, .int p), (3, .int (-1)), (5, .ptr 0 0), (6, .ptr 1 0), (9, .int (atS p c a n)), (10, .ptr 2 0), (11, .int (n : Nat))], [(0, .ints 27 c), (1, .ints 29 a), (2, .ints 118 exT)], 3⟩) (fun n => 10 - n) 0 ?_ ?_ ?_
  · first | trivial | omega | (simp; done) | (simp; omega)
  · refine View.mk' [] rfl rfl rfl ?_ ?_
    repeat' first | exact vFn | refine vFc rfl ?_ | exact vHn | refine vHc rfl ?_ | refine vFc (congrArg (fun z => some (V.int z)) ?_) ?_ | refine vHc (congrArg (fun z => some (Blk.ints _ z)) ?_) ?_ | refine vFc (congrArg (fun z => some (V.bool z)) ?_) ?_ | refine vFs rfl rfl ?_ ?_
  intro n hn
  have hS := hSb n hn
  have h1 := smN_get qc (by decide) n
  have hw : 0 ≤ c.getD n 0 ∧ c.getD n 0 ≤ 36 := ⟨h1.1, by omega⟩
  have hV3 := exV_bd hp a hw (exF n) 3
  refine CW_seq ?_
  refine cR ?_
  refine oM rfl rfl ?_
  refine oQ (Q_bin rfl rfl rfl) rfl rfl ?_
  refine oN ?_
  first | refine cT rfl ?_ | refine cF rfl ?_ | refine CW_cond rfl (fun hc => ?_) (fun hc => ?_)
  all_goals try simp only [s1, s2, s3, s4, s5, s6, s7, s8, s9, s10, s11, s12] at hc
  all_goals try (exfalso; first | omega | (simp at hc; done); done)
  all_goals first
    | (
     refine CW_skip ?_)
    | (
     refine CW_exit ?_)
  all_goals first
    | with_reducible refine tR ?_
    | with_reducible refine tE ?_
    | (
     with_reducible refine tN ?_
     refine CW_seq ?_
     refine CW_block ?_
     refine CW_seq ?_
     refine CW_any (fun i => List.elem i [8]) 9 rfl lateOk (by decide +kernel) (fun hst => ?_)
     refine aP 0 hst rfl rfl (by decide +kernel) (PX_move rfl rfl) rfl rfl ?_
     first | refine aQ 1 hst rfl rfl (by decide +kernel) (QX_of (Ia0 rfl rfl rfl rfl rfl rfl) NE_ix) rfl rfl ?_ | refine aQ 1 hst rfl rfl (by decide +kernel) (QX_of (Ia1 rfl rfl rfl rfl rfl rfl) NE_ix) rfl rfl ?_
     refine aQ 2 hst rfl rfl (by decide +kernel) (QX_of (Ld rfl rfl rfl rfl) NE_load) rfl rfl ?_
     refine aP 3 hst rfl rfl (by decide +kernel) (PX_move rfl rfl) rfl rfl ?_
     (have hn10 : n < 10 := by omega); refine aQ 4 hst rfl rfl (by decide +kernel) (QX_of (Q_ixa0z 3 rfl rfl rfl rfl rfl rfl (by omega)) NE_ix) rfl rfl ?_
     refine aQ 5 hst rfl rfl (by decide +kernel) (QX_of (Q_lda (n := 3) rfl rfl rfl rfl rfl (by omega)) NE_load) rfl rfl ?_; rw [ex_row hn10]
     refine AW_one (i := 6) (by decide +kernel) ?_
     refine gAlloc rfl rfl rfl rfl rfl rfl rfl rfl rfl ?_
     refine aQ 7 hst rfl rfl (by decide +kernel) (QX_of (Q_assign rfl rfl) NE_assign) rfl rfl ?_
     refine AW_last [8] rfl (by decide +kernel) rfl ?_
     first | refine oSw rfl rfl rfl rfl ?_ | refine oSa rfl rfl rfl rfl ?_
     refine OW_nil (npN ?_)
     all_goals with_reducible refine tN ?_
     all_goals (
      refine CW_seq ?_
      refine cR ?_
      refine oM rfl rfl ?_
      refine oQ (Q_bin rfl rfl rfl) rfl rfl ?_
      refine oN ?_
      first | refine cT rfl ?_ | refine cF rfl ?_ | refine CW_cond rfl (fun hc => ?_) (fun hc => ?_)
      all_goals try simp only [s1, s2, s3, s4, s5, s6, s7, s8, s9, s10, s11, s12] at hc
      all_goals try (exfalso; first | omega | (simp at hc; done); done)
      all_goals first
        | (
         refine CW_skip ?_)
        | (
         refine cR ?_
         iterate 2 refine oM rfl rfl ?_
         first | refine oQ (Ia0 rfl rfl rfl rfl rfl rfl) rfl rfl ?_ | refine oQ (Ia1 rfl rfl rfl rfl rfl rfl) rfl rfl ?_
         refine oQ (Ld rfl rfl rfl rfl) rfl rfl ?_
         first | refine oQ (Q_binu rfl rfl rfl (by omega)) rfl rfl ?_ | refine oQ (Q_bin rfl rfl rfl) rfl rfl ?_
         refine oA rfl rfl ?_
         refine oN ?_
         refine CW_region ?_
         iterate 2 refine oM rfl rfl ?_
         first | refine oQ (Ia0 rfl rfl rfl rfl rfl rfl) rfl rfl ?_ | refine oQ (Ia1 rfl rfl rfl rfl rfl rfl) rfl rfl ?_
         refine oQ (Ld rfl rfl rfl rfl) rfl rfl ?_
         first | refine oQ (Q_binu rfl rfl rfl (by omega)) rfl rfl ?_ | refine oQ (Q_bin rfl rfl rfl) rfl rfl ?_
         fail "builtin max at slot 38"
         first | refine oQ (Ia0 rfl rfl rfl rfl rfl rfl) rfl rfl ?_ | refine oQ (Ia1 rfl rfl rfl rfl rfl rfl) rfl rfl ?_
         refine oS rfl rfl rfl rfl rfl ?_
         refine OW_nil ?_)
      all_goals with_reducible refine tN ?_
      all_goals (
       refine CW_seq ?_
       refine cR ?_
       refine oA rfl rfl ?_
       refine oN ?_
       refine CW_block ?_
       refine CW_loop (ι := Nat) (fun k => k ≤ 3) (fun k => ⟨[(0, .int p), (3, .int (-1)), (5, .ptr 0 0), (6, .ptr 1 0), (9, .int (atS p c a n)), (10, .ptr 2 0), (11, .int (n : Nat)), (12, .int (exV p a (c.getD n 0) (exF n) k)), (13, .ptr 3 0), (14, .int (k : Nat))], [(0, .ints 27 c), (1, .ints 29 a), (2, .ints 118 exT), (3, .ints 23 [(exF n 0 : Int), (exF n 1 : Int), (exF n 2 : Int)])], 4⟩) (fun k => 3 - k) 0 ?_ ?_ ?_
       · first | trivial | omega | (simp; done) | (simp; omega)
       · refine View.mk' [] rfl rfl rfl ?_ ?_
         repeat' first | exact vFn | refine vFc rfl ?_ | exact vHn | refine vHc rfl ?_ | refine vFc (congrArg (fun z => some (V.int z)) ?_) ?_ | refine vHc (congrArg (fun z => some (Blk.ints _ z)) ?_) ?_ | refine vFc (congrArg (fun z => some (V.bool z)) ?_) ?_ | refine vFs rfl rfl ?_ ?_
       intro k hk
       have hV := exV_bd hp a hw (exF n) k
       have hak := smN_get qa (by decide) k
       have hEk := fun h : k < 3 => ex_le hn10 h
       have hpw := fun h : k < 3 => pw_bd hak (hEk h)
       refine CW_seq ?_
       refine cR ?_
       refine oM rfl rfl ?_
       refine oQ (Q_bin rfl rfl rfl) rfl rfl ?_
       refine oN ?_
       first | refine cT rfl ?_ | refine cF rfl ?_ | refine CW_cond rfl (fun hc => ?_) (fun hc => ?_)
       all_goals try simp only [s1, s2, s3, s4, s5, s6, s7, s8, s9, s10, s11, s12] at hc
       all_goals try (exfalso; first | omega | (simp at hc; done); done)
       all_goals first
         | (
          refine CW_skip ?_)
         | (
          refine CW_exit ?_)
       all_goals first
         | with_reducible refine tR ?_
         | with_reducible refine tE ?_
         | (
          with_reducible refine tN ?_
          refine CW_seq ?_
          refine CW_block ?_
          refine CW_draw lateOk (by decide +kernel) ?_
          iterate 2 refine qM rfl rfl ?_
          first | refine qQ (Ia0 rfl rfl rfl rfl rfl rfl) rfl rfl ?_ | refine qQ (Ia1 rfl rfl rfl rfl rfl rfl) rfl rfl ?_
          refine qQ (Ld rfl rfl rfl rfl) rfl rfl ?_
          refine qM rfl rfl ?_
          first | refine qQ (Ia0 rfl rfl rfl rfl rfl rfl) rfl rfl ?_ | refine qQ (Ia1 rfl rfl rfl rfl rfl rfl) rfl rfl ?_
          (have hk3 : k < 3 := by omega); (have hpw := hpw hk3); refine qQ (Ld rfl rfl rfl rfl) rfl rfl ?_; rw [three_get (exF n) hk3]
          refine qQ (Q_call0 (l06Power_con _ _ hak (hEk hk3)) rfl rfl rfl) rfl rfl ?_
          refine qMulN 36 1728 rfl rfl (by omega) (by omega) (by decide) rfl (fun z52 hz52 hl52 hu52 => ?_)
          refine qM rfl rfl ?_
          refine qRemN rfl rfl (by omega) (by omega) rfl (fun z54 hz54 hl54 hu54 => ?_)
          refine qA rfl rfl ?_
          refine QW_nil ?_
          all_goals first | with_reducible refine bN ?_ | with_reducible refine bE ?_ | with_reducible refine bR ?_ | refine bX rfl ?_
          all_goals with_reducible refine tN ?_
          all_goals (
           refine CW_region ?_
           refine oM rfl rfl ?_
           first | refine oQ (Q_binu rfl rfl rfl (by omega)) rfl rfl ?_ | refine oQ (Q_bin rfl rfl rfl) rfl rfl ?_
           refine oA rfl rfl ?_
           refine OW_nil ?_))
       all_goals first
         | with_reducible refine tR ?_
         | with_reducible refine tE ?_
         | (
          with_reducible refine tN ?_
          refine ⟨k + 1, ?_, ?_, View.mk' [] rfl rfl rfl ?_ ?_⟩
          · omega
          · omega
          all_goals (repeat' first | exact vFn | refine vFc rfl ?_ | exact vHn | refine vHc rfl ?_ | refine vFc (congrArg (fun z => some (V.int z)) ?_) ?_ | refine vHc (congrArg (fun z => some (Blk.ints _ z)) ?_) ?_ | refine vFc (congrArg (fun z => some (V.bool z)) ?_) ?_ | refine vFs rfl rfl ?_ ?_)
          all_goals subst hz54 hz52
          all_goals rfl)
       all_goals first | with_reducible refine bN ?_ | with_reducible refine bE ?_ | with_reducible refine bR ?_ | refine bX rfl ?_
       all_goals with_reducible refine tN ?_
       all_goals (
        refine CW_region ?_
        (have e : k = 3 := by omega); subst e; refine oM rfl rfl ?_
        refine oM rfl rfl ?_
        first | refine oQ (Q_binu rfl rfl rfl (by omega)) rfl rfl ?_ | refine oQ (Q_bin rfl rfl rfl) rfl rfl ?_
        refine oA rfl rfl ?_
        refine OW_nil ?_)))
     all_goals first | with_reducible refine bN ?_ | with_reducible refine bE ?_ | with_reducible refine bR ?_ | refine bX rfl ?_
     all_goals with_reducible refine tN ?_
     all_goals (
      refine CW_region ?_
      refine oM rfl rfl ?_
      first | refine oQ (Q_binu rfl rfl rfl (by omega)) rfl rfl ?_ | refine oQ (Q_bin rfl rfl rfl) rfl rfl ?_
      refine oA rfl rfl ?_
      refine OW_nil ?_))
  all_goals first
    | with_reducible refine tR ?_
    | with_reducible refine tE ?_
    | (
     with_reducible refine tN ?_
     refine ⟨n + 1, ?_, ?_, View.mk' [] rfl rfl rfl ?_ ?_⟩
     · omega
     · omega
     all_goals (repeat' first | exact vFn | refine vFc rfl ?_ | exact vHn | refine vHc rfl ?_ | refine vFc (congrArg (fun z => some (V.int z)) ?_) ?_ | refine vHc (congrArg (fun z => some (Blk.ints _ z)) ?_) ?_ | refine vFc (congrArg (fun z => some (V.bool z)) ?_) ?_ | refine vFs rfl rfl ?_ ?_)
     all_goals rfl)
  all_goals first | with_reducible refine bN ?_ | with_reducible refine bE ?_ | with_reducible refine bR ?_ | refine bX rfl ?_
  all_goals with_reducible refine tN ?_
  all_goals (
   refine cR ?_
   iterate 2 refine oM rfl rfl ?_
   refine oRemN rfl rfl (by omega) (by omega) rfl (fun z60 hz60 hl60 hu60 => ?_)
   refine oA rfl rfl ?_
   refine oN ?_
   refine CW_ret ?_)
  all_goals (
   have e : n = 10 := by omega
   subst e
   refine exitQ (.inr rfl) 0 (.cons (.tmp rfl rfl) .nil) ?_ rfl vHn rfl rfl
   subst hz60
   rfl)
theorem l06Atd_con (p : Int) (c a : List Int) (y : Nat) (hy : y < 3) (hp : primeB p = true) (hcl : c.length = 10) (hal : a.length = 3) (qc : smN 12 c) (qa : smN 12 a) : ConQ Tryd.prog [] 81 [.int p, .arr c, .arr a, .int (y : Nat)] [] (.int (cuD p c a y)) := by
  have hpb := prime_bd hp
  have hsl : exT.length = 30 := rfl
  have hSb : ∀ n : Nat, n ≤ 10 → 0 ≤ dS p c a y n ∧ dS p c a y n ≤ (n : Int) * 36 := by
    intro n
    induction n with
    | zero => intro _; exact ⟨Int.le_refl _, by simp [dS]⟩
    | succ n ih =>
      intro h
      have ih := ih (by omega)
      have h1 := smN_get qc (by decide) n
      have hw : 0 ≤ c.getD n 0 * (exF n y : Int) ∧ c.getD n 0 * (exF n y : Int) ≤ 36 := (mulN_bds (A := 12) (B := 3) h1.1 h1.2 (by omega) (by have := ex_le (show n < 10 by omega) hy; omega))
      have h3 := exV_bd hp a hw (exD y n) 3
      rw [dS]
      omega
  refine conW tab_ok [(0, .int p), (1, .arr c), (2, .arr a), (3, .int (y : Nat))] 0 [] [] Tryd.func81 rfl rfl rfl rfl rfl rfl rfl rfl rfl ?_
  refine cR ?_
  iterate 2 refine oBox rfl rfl rfl rfl rfl rfl ?_
  refine oA rfl rfl ?_
  refine oN ?_
  refine cR ?_
  refine oQ (Q_call0 (l06Products_con) rfl rfl rfl) rfl rfl ?_
  refine oAlloc rfl rfl rfl rfl rfl rfl rfl ?_
  refine oA rfl rfl ?_
  first | refine oSw rfl rfl rfl rfl ?_ | refine oSa rfl rfl rfl rfl ?_
  refine oN ?_
  refine CW_seq ?_
  refine cR ?_
  refine oA rfl rfl ?_
  refine oN ?_
  refine CW_block ?_
  refine CW_loop (ι := Nat) (fun n => n ≤ 10) (fun n => ⟨[(0, .int p), (3, .int (y : Nat)), (5, .ptr 0 0), (6, .ptr 1 0), (9, .int (dS p c a y n)), (10, .ptr 2 0), (11, .int (n : Nat))], [(0, .ints 27 c), (1, .ints 29 a), (2, .ints 118 exT)], 3⟩) (fun n => 10 - n) 0 ?_ ?_ ?_
  · first | trivial | omega | (simp; done) | (simp; omega)
  · refine View.mk' [] rfl rfl rfl ?_ ?_
    repeat' first | exact vFn | refine vFc rfl ?_ | exact vHn | refine vHc rfl ?_ | refine vFc (congrArg (fun z => some (V.int z)) ?_) ?_ | refine vHc (congrArg (fun z => some (Blk.ints _ z)) ?_) ?_ | refine vFc (congrArg (fun z => some (V.bool z)) ?_) ?_ | refine vFs rfl rfl ?_ ?_
  intro n hn
  have hS := hSb n hn
  have h1 := smN_get qc (by decide) n
  have hw : 0 ≤ c.getD n 0 * (exF n y : Int) ∧ c.getD n 0 * (exF n y : Int) ≤ 36 := (by by_cases hn9 : n < 10; exact mulN_bds (A := 12) (B := 3) h1.1 h1.2 (by omega) (by have := ex_le hn9 hy; omega); (have hn9 : c.getD n 0 = 0 := (by unfold List.getD; rw [List.getElem?_eq_none (by omega)]; rfl)); rw [hn9]; simp)
  have hV3 := exV_bd hp a hw (exD y n) 3
  refine CW_seq ?_
  refine cR ?_
  refine oM rfl rfl ?_
  refine oQ (Q_bin rfl rfl rfl) rfl rfl ?_
  refine oN ?_
  first | refine cT rfl ?_ | refine cF rfl ?_ | refine CW_cond rfl (fun hc => ?_) (fun hc => ?_)
  all_goals try simp only [s1, s2, s3, s4, s5, s6, s7, s8, s9, s10, s11, s12] at hc
  all_goals try (exfalso; first | omega | (simp at hc; done); done)
  all_goals first
    | (
     refine CW_skip ?_)
    | (
     refine CW_exit ?_)
  all_goals first
    | with_reducible refine tR ?_
    | with_reducible refine tE ?_
    | (
     with_reducible refine tN ?_
     refine CW_seq ?_
     refine CW_block ?_
     refine CW_seq ?_
     refine CW_any (fun i => List.elem i [8]) 9 rfl lateOk (by decide +kernel) (fun hst => ?_)
     refine aP 0 hst rfl rfl (by decide +kernel) (PX_move rfl rfl) rfl rfl ?_
     first | refine aQ 1 hst rfl rfl (by decide +kernel) (QX_of (Ia0 rfl rfl rfl rfl rfl rfl) NE_ix) rfl rfl ?_ | refine aQ 1 hst rfl rfl (by decide +kernel) (QX_of (Ia1 rfl rfl rfl rfl rfl rfl) NE_ix) rfl rfl ?_
     refine aQ 2 hst rfl rfl (by decide +kernel) (QX_of (Ld rfl rfl rfl rfl) NE_load) rfl rfl ?_
     refine aP 3 hst rfl rfl (by decide +kernel) (PX_move rfl rfl) rfl rfl ?_
     (have hn10 : n < 10 := by omega); refine aQ 4 hst rfl rfl (by decide +kernel) (QX_of (Q_ixa0z 3 rfl rfl rfl rfl rfl rfl (by omega)) NE_ix) rfl rfl ?_
     refine aQ 5 hst rfl rfl (by decide +kernel) (QX_of (Q_lda (n := 3) rfl rfl rfl rfl rfl (by omega)) NE_load) rfl rfl ?_; rw [ex_row hn10]
     refine AW_one (i := 6) (by decide +kernel) ?_
     refine gAlloc rfl rfl rfl rfl rfl rfl rfl rfl rfl ?_
     refine aQ 7 hst rfl rfl (by decide +kernel) (QX_of (Q_assign rfl rfl) NE_assign) rfl rfl ?_
     refine AW_last [8] rfl (by decide +kernel) rfl ?_
     first | refine oSw rfl rfl rfl rfl ?_ | refine oSa rfl rfl rfl rfl ?_
     refine OW_nil (npN ?_)
     all_goals with_reducible refine tN ?_
     all_goals (
      refine CW_seq ?_
      refine cR ?_
      refine oM rfl rfl ?_
      refine oQ (Q_bin rfl rfl rfl) rfl rfl ?_
      refine oN ?_
      first | refine cT rfl ?_ | refine cF rfl ?_ | refine CW_cond rfl (fun hc => ?_) (fun hc => ?_)
      all_goals try simp only [s1, s2, s3, s4, s5, s6, s7, s8, s9, s10, s11, s12] at hc
      all_goals try (exfalso; first | omega | (simp at hc; done); done)
      all_goals first
        | (
         refine CW_skip ?_)
        | (
         refine cR ?_
         iterate 2 refine oM rfl rfl ?_
         first | refine oQ (Ia0 rfl rfl rfl rfl rfl rfl) rfl rfl ?_ | refine oQ (Ia1 rfl rfl rfl rfl rfl rfl) rfl rfl ?_
         (have hel := ex_le hn10 hy); refine oQ (Ld rfl rfl rfl rfl) rfl rfl ?_; rw [three_get (exF n) hy]
         refine oMulN 12 3 rfl rfl (by omega) (by omega) (by decide) rfl (fun z32 hz32 hl32 hu32 => ?_)
         refine oA rfl rfl ?_
         refine oN ?_
         refine CW_region ?_
         iterate 2 refine oM rfl rfl ?_
         first | refine oQ (Ia0 rfl rfl rfl rfl rfl rfl) rfl rfl ?_ | refine oQ (Ia1 rfl rfl rfl rfl rfl rfl) rfl rfl ?_
         refine oQ (Ld rfl rfl rfl rfl) rfl rfl ?_; rw [three_get (exF n) hy]
         first | refine oQ (Q_binu rfl rfl rfl (by omega)) rfl rfl ?_ | refine oQ (Q_bin rfl rfl rfl) rfl rfl ?_
         refine oQ (Q_max rfl rfl) rfl rfl ?_
         first | refine oQ (Ia0 rfl rfl rfl rfl rfl rfl) rfl rfl ?_ | refine oQ (Ia1 rfl rfl rfl rfl rfl rfl) rfl rfl ?_
         refine oS rfl rfl rfl rfl rfl ?_
         refine OW_nil ?_)
      all_goals with_reducible refine tN ?_
      all_goals (
       refine CW_seq ?_
       refine cR ?_
       refine oA rfl rfl ?_
       refine oN ?_
       refine CW_block ?_
       refine CW_loop (ι := Nat) (fun k => k ≤ 3) (fun k => ⟨[(0, .int p), (3, .int (y : Nat)), (5, .ptr 0 0), (6, .ptr 1 0), (9, .int (dS p c a y n)), (10, .ptr 2 0), (11, .int (n : Nat)), (12, .int (exV p a (c.getD n 0 * (exF n y : Int)) (exD y n) k)), (13, .ptr 3 0), (14, .int (k : Nat))], [(0, .ints 27 c), (1, .ints 29 a), (2, .ints 118 exT), (3, .ints 23 [(exD y n 0 : Int), (exD y n 1 : Int), (exD y n 2 : Int)])], 4⟩) (fun k => 3 - k) 0 ?_ ?_ ?_
       · first | trivial | omega | (simp; done) | (simp; omega)
       · refine View.mk' [] rfl rfl rfl ?_ ?_
         repeat' first | exact vFn | refine vFc rfl ?_ | exact vHn | refine vHc rfl ?_ | refine vFc (congrArg (fun z => some (V.int z)) ?_) ?_ | refine vHc (congrArg (fun z => some (Blk.ints _ z)) ?_) ?_ | refine vFc (congrArg (fun z => some (V.bool z)) ?_) ?_ | refine vFs rfl rfl ?_ ?_
         all_goals first | (subst hz32; rfl) | (rw [exD_row hy]; done) | skip
       intro k hk
       have hV := exV_bd hp a hw (exD y n) k
       have hak := smN_get qa (by decide) k
       have hEk := fun h : k < 3 => exD_le (y := y) hn10 h
       have hpw := fun h : k < 3 => pw_bd hak (hEk h)
       refine CW_seq ?_
       refine cR ?_
       refine oM rfl rfl ?_
       refine oQ (Q_bin rfl rfl rfl) rfl rfl ?_
       refine oN ?_
       first | refine cT rfl ?_ | refine cF rfl ?_ | refine CW_cond rfl (fun hc => ?_) (fun hc => ?_)
       all_goals try simp only [s1, s2, s3, s4, s5, s6, s7, s8, s9, s10, s11, s12] at hc
       all_goals try (exfalso; first | omega | (simp at hc; done); done)
       all_goals first
         | (
          refine CW_skip ?_)
         | (
          refine CW_exit ?_)
       all_goals first
         | with_reducible refine tR ?_
         | with_reducible refine tE ?_
         | (
          with_reducible refine tN ?_
          refine CW_seq ?_
          refine CW_block ?_
          refine CW_draw lateOk (by decide +kernel) ?_
          iterate 2 refine qM rfl rfl ?_
          first | refine qQ (Ia0 rfl rfl rfl rfl rfl rfl) rfl rfl ?_ | refine qQ (Ia1 rfl rfl rfl rfl rfl rfl) rfl rfl ?_
          refine qQ (Ld rfl rfl rfl rfl) rfl rfl ?_
          refine qM rfl rfl ?_
          first | refine qQ (Ia0 rfl rfl rfl rfl rfl rfl) rfl rfl ?_ | refine qQ (Ia1 rfl rfl rfl rfl rfl rfl) rfl rfl ?_
          (have hk3 : k < 3 := by omega); (have hpw := hpw hk3); refine qQ (Ld rfl rfl rfl rfl) rfl rfl ?_; rw [three_get (exD y n) hk3]
          refine qQ (Q_call0 (l06Power_con _ _ hak (hEk hk3)) rfl rfl rfl) rfl rfl ?_
          refine qMulN 36 1728 rfl rfl (by omega) (by omega) (by decide) rfl (fun z52 hz52 hl52 hu52 => ?_)
          refine qM rfl rfl ?_
          refine qRemN rfl rfl (by omega) (by omega) rfl (fun z54 hz54 hl54 hu54 => ?_)
          refine qA rfl rfl ?_
          refine QW_nil ?_
          all_goals first | with_reducible refine bN ?_ | with_reducible refine bE ?_ | with_reducible refine bR ?_ | refine bX rfl ?_
          all_goals with_reducible refine tN ?_
          all_goals (
           refine CW_region ?_
           refine oM rfl rfl ?_
           first | refine oQ (Q_binu rfl rfl rfl (by omega)) rfl rfl ?_ | refine oQ (Q_bin rfl rfl rfl) rfl rfl ?_
           refine oA rfl rfl ?_
           refine OW_nil ?_))
       all_goals first
         | with_reducible refine tR ?_
         | with_reducible refine tE ?_
         | (
          with_reducible refine tN ?_
          refine ⟨k + 1, ?_, ?_, View.mk' [] rfl rfl rfl ?_ ?_⟩
          · omega
          · omega
          all_goals (repeat' first | exact vFn | refine vFc rfl ?_ | exact vHn | refine vHc rfl ?_ | refine vFc (congrArg (fun z => some (V.int z)) ?_) ?_ | refine vHc (congrArg (fun z => some (Blk.ints _ z)) ?_) ?_ | refine vFc (congrArg (fun z => some (V.bool z)) ?_) ?_ | refine vFs rfl rfl ?_ ?_)
          all_goals subst hz54 hz52
          all_goals rfl)
       all_goals first | with_reducible refine bN ?_ | with_reducible refine bE ?_ | with_reducible refine bR ?_ | refine bX rfl ?_
       all_goals with_reducible refine tN ?_
       all_goals (
        refine CW_region ?_
        (have e : k = 3 := by omega); subst e; refine oM rfl rfl ?_
        refine oM rfl rfl ?_
        first | refine oQ (Q_binu rfl rfl rfl (by omega)) rfl rfl ?_ | refine oQ (Q_bin rfl rfl rfl) rfl rfl ?_
        refine oA rfl rfl ?_
        refine OW_nil ?_)))
     all_goals first | with_reducible refine bN ?_ | with_reducible refine bE ?_ | with_reducible refine bR ?_ | refine bX rfl ?_
     all_goals with_reducible refine tN ?_
     all_goals (
      refine CW_region ?_
      refine oM rfl rfl ?_
      first | refine oQ (Q_binu rfl rfl rfl (by omega)) rfl rfl ?_ | refine oQ (Q_bin rfl rfl rfl) rfl rfl ?_
      refine oA rfl rfl ?_
      refine OW_nil ?_))
  all_goals first
    | with_reducible refine tR ?_
    | with_reducible refine tE ?_
    | (
     with_reducible refine tN ?_
     refine ⟨n + 1, ?_, ?_, View.mk' [] rfl rfl rfl ?_ ?_⟩
     · omega
     · omega
     all_goals (repeat' first | exact vFn | refine vFc rfl ?_ | exact vHn | refine vHc rfl ?_ | refine vFc (congrArg (fun z => some (V.int z)) ?_) ?_ | refine vHc (congrArg (fun z => some (Blk.ints _ z)) ?_) ?_ | refine vFc (congrArg (fun z => some (V.bool z)) ?_) ?_ | refine vFs rfl rfl ?_ ?_)
     all_goals rfl)
  all_goals first | with_reducible refine bN ?_ | with_reducible refine bE ?_ | with_reducible refine bR ?_ | refine bX rfl ?_
  all_goals with_reducible refine tN ?_
  all_goals (
   refine cR ?_
   iterate 2 refine oM rfl rfl ?_
   refine oRemN rfl rfl (by omega) (by omega) rfl (fun z60 hz60 hl60 hu60 => ?_)
   refine oA rfl rfl ?_
   refine oN ?_
   refine CW_ret ?_)
  all_goals (
   have e : n = 10 := by omega
   subst e
   refine exitQ (.inr rfl) 0 (.cons (.tmp rfl rfl) .nil) ?_ rfl vHn rfl rfl
   subst hz60
   rfl)
end Go.Proofs.YtcklfkblhmlbbaaDoor
namespace Go.Proofs.YtcklfkblhmlbbaaDoor
set_option linter.unusedVariables false
open Lean.Grind
section
variable {R : Type} [CommRing R]
/-- the numbers of a cubic form at sss, sst, stt, ttt of S (s, t) + T (a, b) -/
def cf0 (E0 E1 E2 E3 s t a b : R) : R := E0 * s ^ 3 + E1 * (s ^ 2 * t) + E2 * (s * t ^ 2) + E3 * t ^ 3
def cf1 (E0 E1 E2 E3 s t a b : R) : R := 3 * E0 * s ^ 2 * a + E1 * (2 * s * a * t + s ^ 2 * b) + E2 * (2 * s * t * b + a * t ^ 2) + 3 * E3 * t ^ 2 * b
def qf0 (q0 q1 q2 s t a b : R) : R := q0 * s ^ 2 + q1 * (s * t) + q2 * t ^ 2
def qf1 (q0 q1 q2 s t a b : R) : R := 2 * q0 * s * a + q1 * (s * b + a * t) + 2 * q2 * t * b
def lf0 (m0 m1 s t a b : R) : R := m0 * s + m1 * t
def lf1 (m0 m1 s t a b : R) : R := m0 * a + m1 * b
def cf2 (E0 E1 E2 E3 s t a b : R) : R := cf1 E0 E1 E2 E3 a b s t
def cf3 (E0 E1 E2 E3 s t a b : R) : R := cf0 E0 E1 E2 E3 a b s t
def qf2 (q0 q1 q2 s t a b : R) : R := qf0 q0 q1 q2 a b s t
/- division by t S - s T, the remainder r: over a point l (s, t) -/
theorem cf0_t (q0 q1 q2 r s t l a b : R) : cf0 (t * q0) (t * q1 - s * q0) (t * q2 - s * q1) (r - s * q2) (l * s) (l * t) a b = r * (l * t) ^ 3 := by unfold cf0; grind
theorem cf1_t (q0 q1 q2 s t l a b : R) : cf1 (t * q0) (t * q1 - s * q0) (t * q2 - s * q1) (0 - s * q2) (l * s) (l * t) a b = (t * a - s * b) * qf0 q0 q1 q2 (l * s) (l * t) a b := by unfold cf1 qf0; grind
theorem cf2_t (q0 q1 q2 s t l a b : R) : cf2 (t * q0) (t * q1 - s * q0) (t * q2 - s * q1) (0 - s * q2) (l * s) (l * t) a b = (t * a - s * b) * qf1 q0 q1 q2 (l * s) (l * t) a b := by unfold cf2 cf1 qf1; grind
theorem cf3_t (q0 q1 q2 s t l a b : R) : cf3 (t * q0) (t * q1 - s * q0) (t * q2 - s * q1) (0 - s * q2) (l * s) (l * t) a b = (t * a - s * b) * qf2 q0 q1 q2 (l * s) (l * t) a b := by unfold cf3 cf0 qf2 qf0; grind
theorem qf0_t (m0 m1 r s t l a b : R) : qf0 (t * m0) (t * m1 - s * m0) (r - s * m1) (l * s) (l * t) a b = r * (l * t) ^ 2 := by unfold qf0; grind
theorem qf1_t (m0 m1 s t l a b : R) : qf1 (t * m0) (t * m1 - s * m0) (0 - s * m1) (l * s) (l * t) a b = (t * a - s * b) * lf0 m0 m1 (l * s) (l * t) a b := by unfold qf1 lf0; grind
theorem qf2_t (m0 m1 s t l a b : R) : qf2 (t * m0) (t * m1 - s * m0) (0 - s * m1) (l * s) (l * t) a b = (t * a - s * b) * lf1 m0 m1 (l * s) (l * t) a b := by unfold qf2 qf0 lf1; grind
theorem lf0_t (k r s t l a b : R) : lf0 (t * k) (r - s * k) (l * s) (l * t) a b = r * (l * t) := by unfold lf0; grind
theorem lf1_t (k s t l a b : R) : lf1 (t * k) (0 - s * k) (l * s) (l * t) a b = (t * a - s * b) * k := by unfold lf1; grind
/- division by T: over a point (s, 0) -/
theorem cf0_z (E0 E1 E2 E3 s a b : R) : cf0 E0 E1 E2 E3 s 0 a b = E0 * s ^ 3 := by unfold cf0; grind
theorem cf1_z (E1 E2 E3 s a b : R) : cf1 0 E1 E2 E3 s 0 a b = b * qf0 E1 E2 E3 s 0 a b := by unfold cf1 qf0; grind
theorem cf2_z (E1 E2 E3 s a b : R) : cf2 0 E1 E2 E3 s 0 a b = b * qf1 E1 E2 E3 s 0 a b := by unfold cf2 cf1 qf1; grind
theorem cf3_z (E1 E2 E3 s a b : R) : cf3 0 E1 E2 E3 s 0 a b = b * qf2 E1 E2 E3 s 0 a b := by unfold cf3 cf0 qf2 qf0; grind
theorem qf0_z (q0 q1 q2 s a b : R) : qf0 q0 q1 q2 s 0 a b = q0 * s ^ 2 := by unfold qf0; grind
theorem qf1_z (q1 q2 s a b : R) : qf1 0 q1 q2 s 0 a b = b * lf0 q1 q2 s 0 a b := by unfold qf1 lf0; grind
theorem qf2_z (q1 q2 s a b : R) : qf2 0 q1 q2 s 0 a b = b * lf1 q1 q2 s 0 a b := by unfold qf2 qf0 lf1; grind
theorem lf0_z (m0 m1 s a b : R) : lf0 m0 m1 s 0 a b = m0 * s := by unfold lf0; grind
theorem lf1_z (m1 s a b : R) : lf1 0 m1 s 0 a b = b * m1 := by unfold lf1; grind
/- a cubic's terms at x = s u + t v and y = a u + b v -/
def tr0 (x1 x2 x3 y1 y2 y3 : R) : R := x1 * x2 * x3
def tr1 (x1 x2 x3 y1 y2 y3 : R) : R := y1 * x2 * x3 + x1 * y2 * x3 + x1 * x2 * y3
def tr2 (x1 x2 x3 y1 y2 y3 : R) : R := tr1 y1 y2 y3 x1 x2 x3
def tr3 (x1 x2 x3 y1 y2 y3 : R) : R := tr0 y1 y2 y3 x1 x2 x3
theorem tr0_lin (u1 u2 u3 v1 v2 v3 s t a b : R) : tr0 (s * u1 + t * v1) (s * u2 + t * v2) (s * u3 + t * v3) (a * u1 + b * v1) (a * u2 + b * v2) (a * u3 + b * v3) = cf0 (tr0 u1 u2 u3 v1 v2 v3) (tr1 u1 u2 u3 v1 v2 v3) (tr2 u1 u2 u3 v1 v2 v3) (tr3 u1 u2 u3 v1 v2 v3) s t a b := by unfold cf0 tr3 tr2 tr1 tr0; grind
theorem tr1_lin (u1 u2 u3 v1 v2 v3 s t a b : R) : tr1 (s * u1 + t * v1) (s * u2 + t * v2) (s * u3 + t * v3) (a * u1 + b * v1) (a * u2 + b * v2) (a * u3 + b * v3) = cf1 (tr0 u1 u2 u3 v1 v2 v3) (tr1 u1 u2 u3 v1 v2 v3) (tr2 u1 u2 u3 v1 v2 v3) (tr3 u1 u2 u3 v1 v2 v3) s t a b := by unfold cf1 tr3 tr2 tr1 tr0; grind
theorem tr2_lin (u1 u2 u3 v1 v2 v3 s t a b : R) : tr2 (s * u1 + t * v1) (s * u2 + t * v2) (s * u3 + t * v3) (a * u1 + b * v1) (a * u2 + b * v2) (a * u3 + b * v3) = cf2 (tr0 u1 u2 u3 v1 v2 v3) (tr1 u1 u2 u3 v1 v2 v3) (tr2 u1 u2 u3 v1 v2 v3) (tr3 u1 u2 u3 v1 v2 v3) s t a b := by unfold cf2 cf1 tr3 tr2 tr1 tr0; grind
theorem tr3_lin (u1 u2 u3 v1 v2 v3 s t a b : R) : tr3 (s * u1 + t * v1) (s * u2 + t * v2) (s * u3 + t * v3) (a * u1 + b * v1) (a * u2 + b * v2) (a * u3 + b * v3) = cf3 (tr0 u1 u2 u3 v1 v2 v3) (tr1 u1 u2 u3 v1 v2 v3) (tr2 u1 u2 u3 v1 v2 v3) (tr3 u1 u2 u3 v1 v2 v3) s t a b := by unfold cf3 cf0 tr3 tr2 tr1 tr0; grind
/-- no numbers but 0 have the product 0 -/
def Dom (R : Type) [CommRing R] : Prop := (1 : R) ≠ 0 ∧ ∀ x y : R, x * y = 0 → x = 0 ∨ y = 0
theorem Dom.pw {x : R} (h : Dom R) (hx : x ≠ 0) : ∀ n : Nat, x ^ n ≠ 0
  | 0 => by rw [Semiring.pow_zero]; exact h.1
  | n + 1 => by
    rw [Semiring.pow_succ]
    intro e
    rcases h.2 _ _ e with e | e
    · exact h.pw hx n e
    · exact hx e
theorem Dom.ml {x y : R} (h : Dom R) (hx : x ≠ 0) (hy : y ≠ 0) : x * y ≠ 0 := fun e => by
  rcases h.2 _ _ e with e | e
  · exact hx e
  · exact hy e
section
variable [DecidableEq R]
def leadR (N0 N1 N2 : R) : Nat := if N0 ≠ 0 then 0 else if N1 ≠ 0 then 1 else if N2 ≠ 0 then 2 else 3
/-- how often t S - s T divides, by division from the front; i is the inverse of t -/
def oftT (E0 E1 E2 E3 s i : R) : Nat :=
  if E3 + s * ((E2 + s * ((E1 + s * (E0 * i)) * i)) * i) ≠ 0 then 0
  else if (E2 + s * ((E1 + s * (E0 * i)) * i)) * i + s * (((E1 + s * (E0 * i)) * i + s * ((E0 * i) * i)) * i) ≠ 0 then 1
  else if ((E1 + s * (E0 * i)) * i + s * ((E0 * i) * i)) * i + s * (((E0 * i) * i) * i) ≠ 0 then 2 else 3
def oftZ (E0 E1 E2 : R) : Nat := if E0 ≠ 0 then 0 else if E1 ≠ 0 then 1 else if E2 ≠ 0 then 2 else 3
theorem lead_t (h : Dom R) {E0 E1 E2 E3 s t i l a b : R} (hl : l ≠ 0) (ti : t * i = 1) (hD : t * a - s * b ≠ 0) :
    leadR (cf0 E0 E1 E2 E3 (l * s) (l * t) a b) (cf1 E0 E1 E2 E3 (l * s) (l * t) a b) (cf2 E0 E1 E2 E3 (l * s) (l * t) a b) = oftT E0 E1 E2 E3 s i ∧
    (cf0 E0 E1 E2 E3 (l * s) (l * t) a b = 0 → cf1 E0 E1 E2 E3 (l * s) (l * t) a b = 0 → cf2 E0 E1 E2 E3 (l * s) (l * t) a b = 0 → cf3 E0 E1 E2 E3 (l * s) (l * t) a b = 0 → E0 = 0 ∧ E1 = 0 ∧ E2 = 0 ∧ E3 = 0) := by
  have ht : t ≠ 0 := fun e => h.1 (by rw [← ti, e]; grind)
  have hlt := h.ml hl ht
  unfold oftT leadR
  obtain ⟨q0, hq0⟩ : ∃ q, q = E0 * i := ⟨_, rfl⟩
  rw [← hq0]
  obtain ⟨q1, hq1⟩ : ∃ q, q = (E1 + s * q0) * i := ⟨_, rfl⟩
  rw [← hq1]
  obtain ⟨q2, hq2⟩ : ∃ q, q = (E2 + s * q1) * i := ⟨_, rfl⟩
  rw [← hq2]
  obtain ⟨r, hr⟩ : ∃ q, q = E3 + s * q2 := ⟨_, rfl⟩
  rw [← hr]
  have g0 : E0 = t * q0 := by grind
  have g1 : E1 = t * q1 - s * q0 := by grind
  have g2 : E2 = t * q2 - s * q1 := by grind
  have g3 : E3 = r - s * q2 := by grind
  clear hq0 hq1 hq2 hr
  subst g0 g1 g2 g3
  rw [cf0_t]
  by_cases hr : r = 0
  · subst hr
    rw [cf1_t, cf2_t, cf3_t]
    obtain ⟨m0, hm0⟩ : ∃ q, q = q0 * i := ⟨_, rfl⟩
    rw [← hm0]
    obtain ⟨m1, hm1⟩ : ∃ q, q = (q1 + s * m0) * i := ⟨_, rfl⟩
    rw [← hm1]
    obtain ⟨r2, hr2⟩ : ∃ q, q = q2 + s * m1 := ⟨_, rfl⟩
    rw [← hr2]
    have g0 : q0 = t * m0 := by grind
    have g1 : q1 = t * m1 - s * m0 := by grind
    have g2 : q2 = r2 - s * m1 := by grind
    clear hm0 hm1 hr2
    subst g0 g1 g2
    rw [qf0_t]
    by_cases hr2 : r2 = 0
    · subst hr2
      rw [qf1_t, qf2_t]
      obtain ⟨k, hk⟩ : ∃ q, q = m0 * i := ⟨_, rfl⟩
      rw [← hk]
      obtain ⟨r3, hr3⟩ : ∃ q, q = m1 + s * k := ⟨_, rfl⟩
      rw [← hr3]
      have g0 : m0 = t * k := by grind
      have g1 : m1 = r3 - s * k := by grind
      clear hk hr3
      subst g0 g1
      rw [lf0_t]
      by_cases hr3 : r3 = 0
      · subst hr3
        rw [lf1_t]
        refine ⟨by simp [Semiring.zero_mul, Semiring.mul_zero], fun _ _ _ e => ?_⟩
        have hk0 : k = 0 := by
          rcases h.2 _ _ e with e | e
          · exact absurd e hD
          · rcases h.2 _ _ e with e | e
            · exact absurd e hD
            · rcases h.2 _ _ e with e | e
              · exact absurd e hD
              · exact e
        subst hk0
        grind
      · have n2 : (t * a - s * b) * ((t * a - s * b) * (r3 * (l * t))) ≠ 0 := h.ml hD (h.ml hD (h.ml hr3 hlt))
        refine ⟨?_, fun _ _ e => absurd e n2⟩
        rw [if_neg (by simp [Semiring.zero_mul]), if_neg (by simp [Semiring.zero_mul, Semiring.mul_zero]), if_pos n2, if_neg (by simp), if_neg (by simp), if_pos hr3]
    · have n1 : (t * a - s * b) * (r2 * (l * t) ^ 2) ≠ 0 := h.ml hD (h.ml hr2 (h.pw hlt 2))
      refine ⟨?_, fun _ e => absurd e n1⟩
      rw [if_neg (by simp [Semiring.zero_mul]), if_pos n1, if_neg (by simp), if_pos hr2]
  · have n0 : r * (l * t) ^ 3 ≠ 0 := h.ml hr (h.pw hlt 3)
    refine ⟨?_, fun e => absurd e n0⟩
    rw [if_pos n0, if_pos hr]
theorem lead_z (h : Dom R) {E0 E1 E2 E3 s a b : R} (hs : s ≠ 0) (hb : b ≠ 0) :
    leadR (cf0 E0 E1 E2 E3 s 0 a b) (cf1 E0 E1 E2 E3 s 0 a b) (cf2 E0 E1 E2 E3 s 0 a b) = oftZ E0 E1 E2 ∧
    (cf0 E0 E1 E2 E3 s 0 a b = 0 → cf1 E0 E1 E2 E3 s 0 a b = 0 → cf2 E0 E1 E2 E3 s 0 a b = 0 → cf3 E0 E1 E2 E3 s 0 a b = 0 → E0 = 0 ∧ E1 = 0 ∧ E2 = 0 ∧ E3 = 0) := by
  unfold leadR oftZ
  rw [cf0_z]
  by_cases h0 : E0 = 0
  · subst h0
    rw [cf1_z, cf2_z, cf3_z, qf0_z]
    by_cases h1 : E1 = 0
    · subst h1
      rw [qf1_z, qf2_z, lf0_z]
      by_cases h2 : E2 = 0
      · subst h2
        rw [lf1_z]
        refine ⟨by simp [Semiring.zero_mul, Semiring.mul_zero], fun _ _ _ e => ?_⟩
        have h3 : E3 = 0 := by
          rcases h.2 _ _ e with e | e
          · exact absurd e hb
          · rcases h.2 _ _ e with e | e
            · exact absurd e hb
            · rcases h.2 _ _ e with e | e
              · exact absurd e hb
              · exact e
        exact ⟨rfl, rfl, rfl, h3⟩
      · have n2 : b * (b * (E2 * s)) ≠ 0 := h.ml hb (h.ml hb (h.ml h2 hs))
        refine ⟨?_, fun _ _ e => absurd e n2⟩
        rw [if_neg (by simp [Semiring.zero_mul]), if_neg (by simp [Semiring.zero_mul, Semiring.mul_zero]), if_pos n2, if_neg (by simp), if_neg (by simp), if_pos h2]
    · have n1 : b * (E1 * s ^ 2) ≠ 0 := h.ml hb (h.ml h1 (h.pw hs 2))
      refine ⟨?_, fun _ e => absurd e n1⟩
      rw [if_neg (by simp [Semiring.zero_mul]), if_pos n1, if_neg (by simp), if_pos h1]
  · have n0 : E0 * s ^ 3 ≠ 0 := h.ml h0 (h.pw hs 3)
    refine ⟨?_, fun e => absurd e n0⟩
    rw [if_pos n0, if_pos h0]
end
end
end Go.Proofs.YtcklfkblhmlbbaaDoor
namespace Go.Proofs.YtcklfkblhmlbbaaDoor
set_option linter.unusedVariables false
set_option linter.unusedSimpArgs false
open Lean.Grind
section
variable {R : Type} [CommRing R]
def ic (x : Int) : R := (Ring.intCast (α := R)).intCast x
theorem ic_add (x y : Int) : (ic (x + y) : R) = ic x + ic y := Ring.intCast_add x y
theorem ic_mul (x y : Int) : (ic (x * y) : R) = ic x * ic y := Ring.intCast_mul x y
theorem ic_zero : (ic 0 : R) = 0 := Ring.intCast_zero
theorem ic_mod (n : Nat) [IsCharP R n] (x : Int) : (ic (x % (n : Int)) : R) = ic x := (IsCharP.intCast_ext_iff n).2 (Int.emod_emod_of_dvd _ (Int.dvd_refl _))
theorem ic_eq (n : Nat) [IsCharP R n] {x y : Int} : (ic x : R) = ic y ↔ x % (n : Int) = y % (n : Int) := IsCharP.intCast_ext_iff n
theorem ic_z (n : Nat) [IsCharP R n] {x : Int} : (ic x : R) = 0 ↔ x % (n : Int) = 0 := by
  rw [← ic_zero, ic_eq n, Int.zero_emod]
/-- the sum of numbers times numbers -/
def sR (C e : Nat → R) : Nat → R
  | 0 => 0
  | n + 1 => sR C e n + C n * e n
def eR (j : Nat) (A B : Nat → R) (n : Nat) : R := match j with
  | 0 => tr0 (A (cuF n 0)) (A (cuF n 1)) (A (cuF n 2)) (B (cuF n 0)) (B (cuF n 1)) (B (cuF n 2))
  | 1 => tr1 (A (cuF n 0)) (A (cuF n 1)) (A (cuF n 2)) (B (cuF n 0)) (B (cuF n 1)) (B (cuF n 2))
  | 2 => tr2 (A (cuF n 0)) (A (cuF n 1)) (A (cuF n 2)) (B (cuF n 0)) (B (cuF n 1)) (B (cuF n 2))
  | _ => tr3 (A (cuF n 0)) (A (cuF n 1)) (A (cuF n 2)) (B (cuF n 0)) (B (cuF n 1)) (B (cuF n 2))
def icL (l : List Int) (k : Nat) : R := ic (l.getD k 0)
theorem cuS_ic (c a b : List Int) {j : Nat} (hj : j < 4) : ∀ n, (ic (cuS c a b j (n * 8)) : R) = sR (icL c) (eR j (icL a) (icL b)) n
  | 0 => by rw [Nat.zero_mul]; exact ic_zero
  | n + 1 => by
    have ih := cuS_ic c a b hj n
    rw [cuS_round, sR, ← ih]
    have h : j = 0 ∨ j = 1 ∨ j = 2 ∨ j = 3 := by omega
    rcases h with rfl | rfl | rfl | rfl <;>
      simp only [cuTm, Nat.reducePow, Nat.reduceDiv, Nat.reduceMod, Nat.reduceEqDiff, if_true, if_false, Int.add_zero, ic_add, ic_mul, eR, icL, tr0, tr1, tr2, tr3, Nat.zero_ne_one, Nat.one_ne_zero, reduceCtorEq, Nat.div_one] <;> grind
theorem sR_lin {C : Nat → R} {e e0 e1 e2 e3 : Nat → R} {k0 k1 k2 k3 : R} (h : ∀ n, n < 10 → e n = k0 * e0 n + k1 * e1 n + k2 * e2 n + k3 * e3 n) : ∀ n, n ≤ 10 → sR C e n = k0 * sR C e0 n + k1 * sR C e1 n + k2 * sR C e2 n + k3 * sR C e3 n
  | 0, _ => by simp only [sR]; grind
  | n + 1, hn => by
    have ih := sR_lin (C := C) h n (by omega)
    have hh := h n (by omega)
    simp only [sR]
    rw [ih, hh]
    grind
theorem al_lin (c : List Int) {a b u v : List Int} {s t x y : R} (ha : ∀ k, k < 3 → icL a k = s * icL u k + t * icL v k) (hb : ∀ k, k < 3 → icL b k = x * icL u k + y * icL v k) :
    (ic (cuS c a b 0 80) : R) = cf0 (ic (cuS c u v 0 80)) (ic (cuS c u v 1 80)) (ic (cuS c u v 2 80)) (ic (cuS c u v 3 80)) s t x y ∧
    (ic (cuS c a b 1 80) : R) = cf1 (ic (cuS c u v 0 80)) (ic (cuS c u v 1 80)) (ic (cuS c u v 2 80)) (ic (cuS c u v 3 80)) s t x y ∧
    (ic (cuS c a b 2 80) : R) = cf2 (ic (cuS c u v 0 80)) (ic (cuS c u v 1 80)) (ic (cuS c u v 2 80)) (ic (cuS c u v 3 80)) s t x y ∧
    (ic (cuS c a b 3 80) : R) = cf3 (ic (cuS c u v 0 80)) (ic (cuS c u v 1 80)) (ic (cuS c u v 2 80)) (ic (cuS c u v 3 80)) s t x y := by
  have e := fun (w z : List Int) (j : Nat) (hj : j < 4) => cuS_ic (R := R) c w z hj 10
  rw [show (80 : Nat) = 10 * 8 from rfl, e a b 0 (by decide), e a b 1 (by decide), e a b 2 (by decide), e a b 3 (by decide), e u v 0 (by decide), e u v 1 (by decide), e u v 2 (by decide), e u v 3 (by decide)]
  have hA := fun n (hn : n < 10) k (hk : k < 3) => ha _ (cu_lt hn hk)
  have hB := fun n (hn : n < 10) k (hk : k < 3) => hb _ (cu_lt hn hk)
  refine ⟨?_, ?_, ?_, ?_⟩
  · rw [sR_lin (C := icL c) (e := eR 0 (icL a) (icL b)) (e0 := eR 0 (icL u) (icL v)) (e1 := eR 1 (icL u) (icL v)) (e2 := eR 2 (icL u) (icL v)) (e3 := eR 3 (icL u) (icL v)) (k0 := s ^ 3) (k1 := s ^ 2 * t) (k2 := s * t ^ 2) (k3 := t ^ 3) (fun n hn => by
      simp only [eR]
      rw [hA n hn 0 (by decide), hA n hn 1 (by decide), hA n hn 2 (by decide), hB n hn 0 (by decide), hB n hn 1 (by decide), hB n hn 2 (by decide), tr0_lin]
      unfold cf0; grind) 10 (Nat.le_refl _)]
    unfold cf0; grind
  · rw [sR_lin (C := icL c) (e := eR 1 (icL a) (icL b)) (e0 := eR 0 (icL u) (icL v)) (e1 := eR 1 (icL u) (icL v)) (e2 := eR 2 (icL u) (icL v)) (e3 := eR 3 (icL u) (icL v)) (k0 := 3 * s ^ 2 * x) (k1 := 2 * s * x * t + s ^ 2 * y) (k2 := 2 * s * t * y + x * t ^ 2) (k3 := 3 * t ^ 2 * y) (fun n hn => by
      simp only [eR]
      rw [hA n hn 0 (by decide), hA n hn 1 (by decide), hA n hn 2 (by decide), hB n hn 0 (by decide), hB n hn 1 (by decide), hB n hn 2 (by decide), tr1_lin]
      unfold cf1; grind) 10 (Nat.le_refl _)]
    unfold cf1; grind
  · rw [sR_lin (C := icL c) (e := eR 2 (icL a) (icL b)) (e0 := eR 0 (icL u) (icL v)) (e1 := eR 1 (icL u) (icL v)) (e2 := eR 2 (icL u) (icL v)) (e3 := eR 3 (icL u) (icL v)) (k0 := 3 * x ^ 2 * s) (k1 := 2 * x * s * y + x ^ 2 * t) (k2 := 2 * x * y * t + s * y ^ 2) (k3 := 3 * y ^ 2 * t) (fun n hn => by
      simp only [eR]
      rw [hA n hn 0 (by decide), hA n hn 1 (by decide), hA n hn 2 (by decide), hB n hn 0 (by decide), hB n hn 1 (by decide), hB n hn 2 (by decide), tr2_lin]
      unfold cf2 cf1; grind) 10 (Nat.le_refl _)]
    unfold cf2 cf1; grind
  · rw [sR_lin (C := icL c) (e := eR 3 (icL a) (icL b)) (e0 := eR 0 (icL u) (icL v)) (e1 := eR 1 (icL u) (icL v)) (e2 := eR 2 (icL u) (icL v)) (e3 := eR 3 (icL u) (icL v)) (k0 := x ^ 3) (k1 := x ^ 2 * y) (k2 := x * y ^ 2) (k3 := y ^ 3) (fun n hn => by
      simp only [eR]
      rw [hA n hn 0 (by decide), hA n hn 1 (by decide), hA n hn 2 (by decide), hB n hn 0 (by decide), hB n hn 1 (by decide), hB n hn 2 (by decide), tr3_lin]
      unfold cf3 cf0; grind) 10 (Nat.le_refl _)]
    unfold cf3 cf0; grind
end
theorem dom_of {p : Int} (hp : primeB p = true) : ∃ (n : Nat) (_ : NeZero n), p = (n : Int) ∧ Dom (Fin n) := by
  obtain ⟨n, rfl, _⟩ := of_prime hp
  have h : n = 3 ∨ n = 5 ∨ n = 7 ∨ n = 11 ∨ n = 13 := by have := prime_cases hp; omega
  rcases h with rfl | rfl | rfl | rfl | rfl
  · exact ⟨3, inferInstance, rfl, by decide, by decide⟩
  · exact ⟨5, inferInstance, rfl, by decide, by decide⟩
  · exact ⟨7, inferInstance, rfl, by decide, by decide⟩
  · exact ⟨11, inferInstance, rfl, by decide, by decide⟩
  · exact ⟨13, inferInstance, rfl, by decide +kernel, by decide +kernel⟩
end Go.Proofs.YtcklfkblhmlbbaaDoor
namespace Go.Proofs.YtcklfkblhmlbbaaDoor
set_option linter.unusedVariables false
set_option linter.unusedSimpArgs false
open Lean.Grind
/-- division from the front by t S - s T, i the inverse of t -/
def dvT (p s i : Int) : List Int → Int → List Int
  | [], _ => []
  | x :: r, z => (x + s * z) * i % p :: dvT p s i r ((x + s * z) * i % p)
def quT (p s t : Int) (P : List Int) : List Int := if t ≠ 0 then dvT p s (invP p t) P.dropLast 0 else P.tail
def rmT (p s t : Int) (P : List Int) : Int := if t ≠ 0 then (P.getD (P.length - 1) 0 + s * (quT p s t P).getD (P.length - 2) 0) % p else P.getD 0 0
/-- the reference's count -/
def oftI (p s t : Int) (P : List Int) : Nat :=
  if rmT p s t P ≠ 0 then 0 else if rmT p s t (quT p s t P) ≠ 0 then 1 else if rmT p s t (quT p s t (quT p s t P)) ≠ 0 then 2 else 3
/-- the program's count -/
def leadI (N : List Int) : Nat := if N.getD 0 0 ≠ 0 then 0 else if N.getD 1 0 ≠ 0 then 1 else if N.getD 2 0 ≠ 0 then 2 else 3
theorem ite_congr3 {a b c a' b' c' : Prop} [Decidable a] [Decidable b] [Decidable c] [Decidable a'] [Decidable b'] [Decidable c'] (h1 : a ↔ a') (h2 : b ↔ b') (h3 : c ↔ c') :
    (if a then (0 : Nat) else if b then 1 else if c then 2 else 3) = (if a' then 0 else if b' then 1 else if c' then 2 else 3) := by
  by_cases x : a' <;> by_cases y : b' <;> by_cases z : c' <;> simp [h1, h2, h3, x, y, z]
section
variable {n : Nat} [NeZero n]
theorem nz_iff {x : Int} : x % (n : Int) ≠ 0 ↔ (ic x : Fin n) ≠ 0 := not_congr (ic_z (R := Fin n) n).symm
theorem leadI_ic (c a b : List Int) : leadI (alV (n : Int) c a b 80) = leadR (ic (cuS c a b 0 80) : Fin n) (ic (cuS c a b 1 80)) (ic (cuS c a b 2 80)) := by
  unfold leadI leadR alV
  exact ite_congr3 nz_iff nz_iff nz_iff
theorem oftI_t {s t : Int} (ht : t ≠ 0) (X0 X1 X2 X3 : Int) : oftI (n : Int) s t [X0 % (n : Int), X1 % (n : Int), X2 % (n : Int), X3 % (n : Int)] = oftT (ic X0 : Fin n) (ic X1) (ic X2) (ic X3) (ic s) (ic (invP (n : Int) t)) := by
  unfold oftI oftT
  refine ite_congr3 ?_ ?_ ?_
  all_goals simp only [rmT, quT, if_pos ht, dvT, List.dropLast, List.length_cons, List.length_nil, List.getD_cons_succ, List.getD_cons_zero, Nat.add_sub_cancel, Nat.reduceAdd, Nat.reduceSub]
  all_goals rw [nz_iff]
  all_goals simp only [ic_add, ic_mul, ic_mod n, ic_zero, Semiring.mul_zero, Semiring.add_zero]
theorem oftI_z {s : Int} (X0 X1 X2 X3 : Int) : oftI (n : Int) s 0 [X0 % (n : Int), X1 % (n : Int), X2 % (n : Int), X3 % (n : Int)] = oftZ (ic X0 : Fin n) (ic X1) (ic X2) := by
  unfold oftI oftZ
  refine ite_congr3 ?_ ?_ ?_
  all_goals simp only [rmT, quT, ne_eq, _root_.not_true, if_false, List.tail, List.getD_cons_zero]
  all_goals exact nz_iff
/-- at a point f (s u + t v), with another point x u + y v -/
theorem count_eq (hd : Dom (Fin n)) (hp : primeB (n : Int) = true) (c : List Int) {a b u v : List Int} {s t f : Int} {x y : Fin n} (hs : 0 ≤ s ∧ s < n) (ht : 0 ≤ t ∧ t < n) (hf : (ic f : Fin n) ≠ 0) (hst : ¬ (s = 0 ∧ t = 0))
    (ha : ∀ k, k < 3 → (icL a k : Fin n) = ic f * (ic s * icL u k + ic t * icL v k)) (hb : ∀ k, k < 3 → (icL b k : Fin n) = x * icL u k + y * icL v k) (hD : ic t * x - ic s * y ≠ (0 : Fin n)) :
    leadI (alV (n : Int) c a b 80) = oftI (n : Int) s t (alV (n : Int) c u v 80) ∧ (alV (n : Int) c a b 80 = [0, 0, 0, 0] → alV (n : Int) c u v 80 = [0, 0, 0, 0]) := by
  obtain ⟨e0, e1, e2, e3⟩ := al_lin (R := Fin n) c (a := a) (b := b) (u := u) (v := v) (s := ic f * ic s) (t := ic f * ic t) (x := x) (y := y) (fun k hk => by rw [ha k hk]; grind) hb
  have zer : ∀ w z : List Int, alV (n : Int) c w z 80 = [0, 0, 0, 0] ↔ ((ic (cuS c w z 0 80) : Fin n) = 0 ∧ (ic (cuS c w z 1 80) : Fin n) = 0 ∧ (ic (cuS c w z 2 80) : Fin n) = 0 ∧ (ic (cuS c w z 3 80) : Fin n) = 0) := fun w z => by
    simp only [alV, List.cons.injEq, and_true, ic_z (R := Fin n) n]
  rw [leadI_ic, zer, zer, e0, e1, e2, e3]
  by_cases h0 : t = 0
  · subst h0
    have hs0 : s ≠ 0 := fun e => hst ⟨e, rfl⟩
    have hsi : (ic s : Fin n) ≠ 0 := by
      rw [← nz_iff, Int.emod_eq_of_lt hs.1 hs.2]; exact hs0
    have hz : (ic f * ic (0 : Int) : Fin n) = 0 := by rw [ic_zero, Semiring.mul_zero]
    have hy : y ≠ 0 := fun e => hD (by rw [e, ic_zero]; grind)
    rw [hz]
    obtain ⟨h1, h2⟩ := lead_z hd (E0 := (ic (cuS c u v 0 80) : Fin n)) (E1 := ic (cuS c u v 1 80)) (E2 := ic (cuS c u v 2 80)) (E3 := ic (cuS c u v 3 80)) (s := ic f * ic s) (a := x) (b := y) (hd.ml hf hsi) hy
    exact ⟨by rw [h1]; exact (oftI_z _ _ _ _).symm, fun ⟨g0, g1, g2, g3⟩ => h2 g0 g1 g2 g3⟩
  · obtain ⟨_, _, hi⟩ := inv_spec hp (n := t) (by omega) ht.2
    have hti : (ic t * ic (invP (n : Int) t) : Fin n) = 1 := by
      rw [← ic_mul, ← ic_mod n, hi]; exact Ring.intCast_one
    obtain ⟨h1, h2⟩ := lead_t hd (E0 := (ic (cuS c u v 0 80) : Fin n)) (E1 := ic (cuS c u v 1 80)) (E2 := ic (cuS c u v 2 80)) (E3 := ic (cuS c u v 3 80)) (l := ic f) (s := ic s) (t := ic t) (i := ic (invP (n : Int) t)) (a := x) (b := y) hf hti hD
    exact ⟨by rw [h1]; exact (oftI_t h0 _ _ _ _).symm, fun ⟨g0, g1, g2, g3⟩ => h2 g0 g1 g2 g3⟩
end
end Go.Proofs.YtcklfkblhmlbbaaDoor
