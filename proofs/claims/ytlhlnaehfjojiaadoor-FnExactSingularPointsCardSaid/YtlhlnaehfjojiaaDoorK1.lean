/- Cubics: the table of products, values and derivatives at points. Printed by gen_k1.py. -/
import Derived.Test.YtlhlnaehfjojiaaDoorQ3
import Derived.Test.YtlhlnaehfjojiaaDoorEngJ
import Derived.Test.YtlhlnaehfjojiaaDoorEngL
namespace Go.Proofs.YtlhlnaehfjojiaaDoor
set_option maxRecDepth 10000
set_option linter.unusedSimpArgs false
set_option linter.unusedVariables false
/-- the table of products, as it lies -/
def cuT : List Int := [0, 0, 0, 0, 0, 1, 0, 0, 2, 0, 1, 1, 0, 1, 2, 0, 2, 2, 1, 1, 1, 1, 1, 2, 1, 2, 2, 2, 2, 2]
def cuF (n k : Nat) : Nat := [0, 0, 0, 0, 0, 1, 0, 0, 2, 0, 1, 1, 0, 1, 2, 0, 2, 2, 1, 1, 1, 1, 1, 2, 1, 2, 2, 2, 2, 2].getD (n * 3 + k) 0
theorem ten_cases {P : Nat → Prop} (h : ∀ i : Fin 10, P i.1) {i : Nat} (hi : i < 10) : P i := h ⟨i, hi⟩
theorem cu_row {n : Nat} (hn : n < 10) : (cuT.drop (n * 3)).take 3 = [(cuF n 0 : Int), (cuF n 1 : Int), (cuF n 2 : Int)] := ten_cases (P := fun n => (cuT.drop (n * 3)).take 3 = [(cuF n 0 : Int), (cuF n 1 : Int), (cuF n 2 : Int)]) (by decide) hn
theorem three_get (f : Nat → Nat) {k : Nat} (hk : k < 3) : [(f 0 : Int), (f 1 : Int), (f 2 : Int)].getD k 0 = (f k : Int) := by
  have h : k = 0 ∨ k = 1 ∨ k = 2 := by omega
  rcases h with rfl | rfl | rfl <;> rfl
theorem cu_lt {n k : Nat} (hn : n < 10) (hk : k < 3) : cuF n k < 3 := (show ∀ n : Fin 10, ∀ k : Fin 3, cuF n.1 k.1 < 3 by decide) ⟨n, hn⟩ ⟨k, hk⟩
theorem sh_eq {i k : Nat} (hi : i < 8) (hk : k < 3) : ((i : Nat) : Int).fdiv (2 ^ ((k : Nat) : Int).toNat) = ((i / 2 ^ k : Nat) : Int) := (show ∀ i : Fin 8, ∀ k : Fin 3, ((i.1 : Nat) : Int).fdiv (2 ^ ((k.1 : Nat) : Int).toNat) = ((i.1 / 2 ^ k.1 : Nat) : Int) by decide) ⟨i, hi⟩ ⟨k, hk⟩
theorem bit_eq {i k : Nat} (hi : i < 8) (hk : k < 3) : bitsI .and ((i / 2 ^ k : Nat) : Int) 1 = some ((i / 2 ^ k % 2 : Nat) : Int) := (show ∀ i : Fin 8, ∀ k : Fin 3, bitsI .and ((i.1 / 2 ^ k.1 : Nat) : Int) 1 = some ((i.1 / 2 ^ k.1 % 2 : Nat) : Int) by decide) ⟨i, hi⟩ ⟨k, hk⟩
/-- numbers from 0 to B -/
def smN (B : Int) (l : List Int) : Prop := ∀ x ∈ l, 0 ≤ x ∧ x ≤ B
theorem smN_get {B : Int} {l : List Int} (h : smN B l) (hB : 0 ≤ B) (i : Nat) : 0 ≤ l.getD i 0 ∧ l.getD i 0 ≤ B := by
  by_cases hi : i < l.length
  · have : l.getD i 0 = l[i] := by simp [List.getD, hi]
    rw [this]; exact h _ (List.getElem_mem hi)
  · have : l.getD i 0 = 0 := by simp [List.getD, hi]
    rw [this]; omega
theorem smN_norm {p : Int} {l : List Int} (hp : primeB p = true) (h : modB p l = true) : smN 12 l := fun x hx => by
  have := prime_bd hp
  have := mod_list h x hx; omega
theorem smN_point {p : Int} {l : List Int} (h : pointB p l = true) : smN 12 l := by
  simp only [pointB, normB, Bool.and_eq_true] at h
  exact smN_norm h.1 h.2.1
/-- one term: a number of the cubic times k factors, of a or of b as a code's digits say -/
def cuTm (c a b : List Int) (n i : Nat) : Nat → Int
  | 0 => c.getD n 0
  | k + 1 => cuTm c a b n i k * (if i / 2 ^ k % 2 = 1 then b.getD (cuF n k) 0 else a.getD (cuF n k) 0)
def cuCt (i : Nat) : Nat → Nat
  | 0 => 0
  | k + 1 => cuCt i k + (if i / 2 ^ k % 2 = 1 then 1 else 0)
theorem cuCt_le (i : Nat) : ∀ k, cuCt i k ≤ k
  | 0 => Nat.le_refl _
  | k + 1 => by have := cuCt_le i k; rw [cuCt]; split <;> omega
theorem cuTm_bd {c a b : List Int} (hc : smN 12 c) (ha : smN 12 a) (hb : smN 12 b) (n i : Nat) {k : Nat} (hk : k ≤ 3) : 0 ≤ cuTm c a b n i k ∧ cuTm c a b n i k ≤ 20736 := by
  have key : ∀ (k : Nat) (B : Int), 0 ≤ cuTm c a b n i k → cuTm c a b n i k ≤ B → 0 ≤ cuTm c a b n i (k + 1) ∧ cuTm c a b n i (k + 1) ≤ B * 12 := fun k B h1 h2 => by
    rw [cuTm]
    have hx : 0 ≤ (if i / 2 ^ k % 2 = 1 then b.getD (cuF n k) 0 else a.getD (cuF n k) 0) ∧ (if i / 2 ^ k % 2 = 1 then b.getD (cuF n k) 0 else a.getD (cuF n k) 0) ≤ 12 := by
      split
      · exact smN_get hb (by decide) _
      · exact smN_get ha (by decide) _
    exact mulN_bds h1 h2 hx.1 hx.2
  have h0 : 0 ≤ cuTm c a b n i 0 ∧ cuTm c a b n i 0 ≤ 12 := smN_get hc (by decide) n
  have h1 : 0 ≤ cuTm c a b n i 1 ∧ cuTm c a b n i 1 ≤ 144 := key 0 12 h0.1 h0.2
  have h2 : 0 ≤ cuTm c a b n i 2 ∧ cuTm c a b n i 2 ≤ 1728 := key 1 _ h1.1 h1.2
  have h3 : 0 ≤ cuTm c a b n i 3 ∧ cuTm c a b n i 3 ≤ 20736 := key 2 _ h2.1 h2.2
  have h : k = 0 ∨ k = 1 ∨ k = 2 ∨ k = 3 := by omega
  rcases h with rfl | rfl | rfl | rfl <;> omega
/-- the sum of the terms with j factors of b, among the first m -/
def cuS (c a b : List Int) (j : Nat) : Nat → Int
  | 0 => 0
  | m + 1 => cuS c a b j m + (if cuCt (m % 8) 3 = j then cuTm c a b (m / 8) (m % 8) 3 else 0)
def alV (p : Int) (c a b : List Int) (m : Nat) : List Int := [cuS c a b 0 m % p, cuS c a b 1 m % p, cuS c a b 2 m % p, cuS c a b 3 m % p]
@[simp] theorem alV_len (p : Int) (c a b : List Int) (m : Nat) : (alV p c a b m).length = 4 := rfl
theorem alV_zero (p : Int) (c a b : List Int) : alV p c a b (0 * 8 + 0) = [0, 0, 0, 0] := by simp [alV, cuS]
theorem alV_bd {p : Int} (hp : primeB p = true) (c a b : List Int) (m j : Nat) : 0 ≤ (alV p c a b m).getD j 0 ∧ (alV p c a b m).getD j 0 ≤ 12 := by
  have hb := prime_bd hp
  have h1 := fun x : Int => Int.emod_nonneg x (show p ≠ 0 by omega)
  have h2 := fun x : Int => Int.emod_lt_of_pos x (show 0 < p by omega)
  refine smN_get (B := 12) ?_ (by decide) j
  intro x hx
  simp only [alV, List.mem_cons, List.not_mem_nil, or_false] at hx
  rcases hx with rfl | rfl | rfl | rfl
  · have := h1 (cuS c a b 0 m); have := h2 (cuS c a b 0 m); omega
  · have := h1 (cuS c a b 1 m); have := h2 (cuS c a b 1 m); omega
  · have := h1 (cuS c a b 2 m); have := h2 (cuS c a b 2 m); omega
  · have := h1 (cuS c a b 3 m); have := h2 (cuS c a b 3 m); omega
theorem alV_step (p : Int) (c a b : List Int) (n : Nat) {i : Nat} (hi : i < 8) :
    (alV p c a b (n * 8 + i)).set (cuCt i 3) (((alV p c a b (n * 8 + i)).getD (cuCt i 3) 0 + cuTm c a b n i 3) % p) = alV p c a b (n * 8 + (i + 1)) := by
  have h1 : (n * 8 + i) % 8 = i := by omega
  have h2 : (n * 8 + i) / 8 = n := by omega
  have h3 := cuCt_le i 3
  have h : cuCt i 3 = 0 ∨ cuCt i 3 = 1 ∨ cuCt i 3 = 2 ∨ cuCt i 3 = 3 := by omega
  unfold alV
  rw [show n * 8 + (i + 1) = (n * 8 + i) + 1 by omega]
  simp only [cuS, h1, h2]
  rcases h with h | h | h | h <;> rw [h] <;> simp
/-- exponents, as they lie -/
def exT : List Int := [3, 0, 0, 2, 1, 0, 2, 0, 1, 1, 2, 0, 1, 1, 1, 1, 0, 2, 0, 3, 0, 0, 2, 1, 0, 1, 2, 0, 0, 3]
def exF (n k : Nat) : Nat := [3, 0, 0, 2, 1, 0, 2, 0, 1, 1, 2, 0, 1, 1, 1, 1, 0, 2, 0, 3, 0, 0, 2, 1, 0, 1, 2, 0, 0, 3].getD (n * 3 + k) 0
def exD (y n k : Nat) : Nat := if k = y then exF n k - 1 else exF n k
theorem ex_row {n : Nat} (hn : n < 10) : (exT.drop (n * 3)).take 3 = [(exF n 0 : Int), (exF n 1 : Int), (exF n 2 : Int)] := ten_cases (P := fun n => (exT.drop (n * 3)).take 3 = [(exF n 0 : Int), (exF n 1 : Int), (exF n 2 : Int)]) (by decide) hn
theorem ex_le {n k : Nat} (hn : n < 10) (hk : k < 3) : exF n k ≤ 3 := (show ∀ n : Fin 10, ∀ k : Fin 3, exF n.1 k.1 ≤ 3 by decide) ⟨n, hn⟩ ⟨k, hk⟩
theorem exD_le {y n k : Nat} (hn : n < 10) (hk : k < 3) : exD y n k ≤ 3 := by
  have := ex_le hn hk
  unfold exD; split <;> omega
theorem exD_row {y n : Nat} (hy : y < 3) : [(exF n 0 : Int), (exF n 1 : Int), (exF n 2 : Int)].set y (if 0 > ((exF n y : Nat) : Int) - 1 then 0 else ((exF n y : Nat) : Int) - 1) = [(exD y n 0 : Int), (exD y n 1 : Int), (exD y n 2 : Int)] := by
  have h : y = 0 ∨ y = 1 ∨ y = 2 := by omega
  have e : (if 0 > ((exF n y : Nat) : Int) - 1 then 0 else ((exF n y : Nat) : Int) - 1) = ((exF n y - 1 : Nat) : Int) := by split <;> omega
  rw [e]
  rcases h with rfl | rfl | rfl <;> simp [exD]
theorem pw_bd {x : Int} (h : 0 ≤ x ∧ x ≤ 12) {k : Nat} (hk : k ≤ 3) : 0 ≤ x ^ k ∧ x ^ k ≤ 1728 := by
  have h1 := mulN_bds h.1 h.2 h.1 h.2
  have h2 := mulN_bds h1.1 h1.2 h.1 h.2
  have hc : k = 0 ∨ k = 1 ∨ k = 2 ∨ k = 3 := by omega
  rcases hc with rfl | rfl | rfl | rfl
  · simp
  · simp only [Int.pow_one]; omega
  · rw [Int.pow_succ, Int.pow_one]; omega
  · rw [Int.pow_succ, Int.pow_succ, Int.pow_one]; omega
/-- a number times k powers, each reduced -/
def exV (p : Int) (a : List Int) (w : Int) (E : Nat → Nat) : Nat → Int
  | 0 => w
  | k + 1 => exV p a w E k * a.getD k 0 ^ E k % p
theorem exV_bd {p : Int} (hp : primeB p = true) (a : List Int) {w : Int} (hw : 0 ≤ w ∧ w ≤ 36) (E : Nat → Nat) : ∀ k, 0 ≤ exV p a w E k ∧ exV p a w E k ≤ 36
  | 0 => hw
  | k + 1 => by
    have hb := prime_bd hp
    have h1 := Int.emod_nonneg (exV p a w E k * a.getD k 0 ^ E k) (show p ≠ 0 by omega)
    have h2 := Int.emod_lt_of_pos (exV p a w E k * a.getD k 0 ^ E k) (show 0 < p by omega)
    rw [exV]; omega
def atS (p : Int) (c a : List Int) : Nat → Int
  | 0 => 0
  | n + 1 => atS p c a n + exV p a (c.getD n 0) (exF n) 3
def dS (p : Int) (c a : List Int) (y : Nat) : Nat → Int
  | 0 => 0
  | n + 1 => dS p c a y n + exV p a (c.getD n 0 * (exF n y : Int)) (exD y n) 3
/-- the value, and a derivative, of a cubic at a point -/
def cuA (p : Int) (c a : List Int) : Int := atS p c a 10 % p
def cuD (p : Int) (c a : List Int) (y : Nat) : Int := dS p c a y 10 % p
theorem em_mul (x y p : Int) : (x % p * y) % p = (x * y) % p := by rw [Int.mul_emod, Int.emod_emod_of_dvd _ (Int.dvd_refl p), ← Int.mul_emod]
theorem exV3 (p : Int) (a : List Int) (w : Int) (E : Nat → Nat) : exV p a w E 3 % p = (w * a.getD 0 0 ^ E 0 * a.getD 1 0 ^ E 1 * a.getD 2 0 ^ E 2) % p := by
  simp only [exV]
  rw [Int.emod_emod_of_dvd _ (Int.dvd_refl p), em_mul, Int.mul_assoc, em_mul, Int.mul_assoc, Int.mul_assoc, Int.mul_assoc]
theorem cuS_round (c a b : List Int) (j n : Nat) : cuS c a b j ((n + 1) * 8) = cuS c a b j (n * 8) + (if 0 = j then cuTm c a b n 0 3 else 0) + (if 1 = j then cuTm c a b n 1 3 else 0) + (if 1 = j then cuTm c a b n 2 3 else 0) + (if 2 = j then cuTm c a b n 3 3 else 0) + (if 1 = j then cuTm c a b n 4 3 else 0) + (if 2 = j then cuTm c a b n 5 3 else 0) + (if 2 = j then cuTm c a b n 6 3 else 0) + (if 3 = j then cuTm c a b n 7 3 else 0) := by
  have h : ∀ i, i < 8 → cuS c a b j (n * 8 + (i + 1)) = cuS c a b j (n * 8 + i) + (if cuCt i 3 = j then cuTm c a b n i 3 else 0) := fun i hi => by
    rw [show n * 8 + (i + 1) = (n * 8 + i) + 1 by omega, cuS, show (n * 8 + i) % 8 = i by omega, show (n * 8 + i) / 8 = n by omega]
  rw [show (n + 1) * 8 = n * 8 + (7 + 1) by omega, h 7 (by decide), h 6 (by decide), h 5 (by decide), h 4 (by decide), h 3 (by decide), h 2 (by decide), h 1 (by decide), h 0 (by decide)]
  rfl
theorem tm_at (c : List Int) (x y z : Int) (b : List Int) {n : Nat} (hn : n < 10) : cuTm c [x, y, z] b n 0 3 = c.getD n 0 * x ^ exF n 0 * y ^ exF n 1 * z ^ exF n 2 := by
  have h : n = 0 ∨ n = 1 ∨ n = 2 ∨ n = 3 ∨ n = 4 ∨ n = 5 ∨ n = 6 ∨ n = 7 ∨ n = 8 ∨ n = 9 := by omega
  rcases h with rfl | rfl | rfl | rfl | rfl | rfl | rfl | rfl | rfl | rfl <;> simp [cuTm, cuF, exF] <;> grind
def unitL (y : Nat) : List Int := [if y = 0 then 1 else 0, if y = 1 then 1 else 0, if y = 2 then 1 else 0]
theorem tm_d (c : List Int) (x y z : Int) (w : Nat) (hw : w < 3) {n : Nat} (hn : n < 10) : cuTm c [x, y, z] (unitL w) n 1 3 + cuTm c [x, y, z] (unitL w) n 2 3 + cuTm c [x, y, z] (unitL w) n 4 3 = c.getD n 0 * (exF n w : Int) * x ^ exD w n 0 * y ^ exD w n 1 * z ^ exD w n 2 := by
  have h : n = 0 ∨ n = 1 ∨ n = 2 ∨ n = 3 ∨ n = 4 ∨ n = 5 ∨ n = 6 ∨ n = 7 ∨ n = 8 ∨ n = 9 := by omega
  have h' : w = 0 ∨ w = 1 ∨ w = 2 := by omega
  rcases h' with rfl | rfl | rfl <;> rcases h with rfl | rfl | rfl | rfl | rfl | rfl | rfl | rfl | rfl | rfl <;> simp [cuTm, cuF, exF, exD, unitL] <;> grind
theorem al_at (p : Int) (c a b : List Int) (ha : a.length = 3) : ∀ n, n ≤ 10 → cuS c a b 0 (n * 8) % p = atS p c a n % p
  | 0, _ => rfl
  | n + 1, hn => by
    have ih := al_at p c a b ha n (by omega)
    rw [cuS_round, atS]
    simp only [if_true, Nat.reduceEqDiff, if_false, Int.add_zero]
    rw [Int.add_emod, ih, Int.add_emod (atS p c a n), exV3]
    match a, ha with
    | [x, y, z], _ => rw [tm_at c x y z b (by omega)]; rfl
theorem al_d (p : Int) (c a : List Int) (w : Nat) (hw : w < 3) (ha : a.length = 3) : ∀ n, n ≤ 10 → cuS c a (unitL w) 1 (n * 8) % p = dS p c a w n % p
  | 0, _ => rfl
  | n + 1, hn => by
    have ih := al_d p c a w hw ha n (by omega)
    rw [cuS_round, dS]
    simp only [if_true, Nat.reduceEqDiff, if_false, Int.add_zero, Nat.zero_ne_one]
    rw [Int.add_assoc, Int.add_assoc, Int.add_emod, ih, Int.add_emod (dS p c a w n), exV3]
    match a, ha with
    | [x, y, z], _ => rw [← Int.add_assoc, tm_d c x y z w hw (by omega)]; rfl
theorem alV_at (p : Int) (c a b : List Int) (ha : a.length = 3) : (alV p c a b 80).getD 0 0 = cuA p c a := al_at p c a b ha 10 (by decide)
theorem alV_d (p : Int) (c a : List Int) (w : Nat) (hw : w < 3) (ha : a.length = 3) : (alV p c a (unitL w) 80).getD 1 0 = cuD p c a w := al_d p c a w hw ha 10 (by decide)
section
variable {c : Cx} {s : S} {Q : Post}
theorem Q_max {dst : Option Tmp} {ty : TypeId} {pos : String} {af : Array Edge} {g : Option (Tmp × Bool)} {x y : Operand} {ats : Array TypeId} {m n : Int} (hx : ev c s.F x = some (.int m)) (hy : ev c s.F y = some (.int n)) :
    QOp c ⟨dst, .call ⟨.builtin .max, #[x, y], ats⟩, ty, pos, af, g⟩ s (.int (if n > m then n else m)) := by
  intro ρ0 w0 hg ρ a hf hfix w hw
  refine quiet_val ?_
  simp [execOp, resolve, invoke, builtin, Builtin.max_, Builtin.max2, ev_rv hg hfix hf hx (by simp), ev_rv hg hfix hf hy (by simp), rv]
end
attribute [local irreducible] CW OW QW QOp Con thenP inBlockP

theorem along_con (p : Int) (c a b : List Int) (hp : primeB p = true) (hcl : c.length = 10) (hal : a.length = 3) (hbl : b.length = 3) (qc : smN 12 c) (qa : smN 12 a) (qb : smN 12 b) : ConQ Tryd.prog [(0, 2000)] 87 [.arr c, .int p, .arr a, .arr b] [(2000, .ro 0 cuT)] (.arr (alV p c a b 80)) := by
  have hpb := prime_bd hp
  refine conW tab_ok [(0, .arr c), (1, .int p), (2, .arr a), (3, .arr b)] 0 [2000] [] Tryd.func87 rfl rfl rfl rfl rfl rfl rfl rfl rfl ?_
  refine cR ?_
  iterate 3 refine oBox rfl rfl rfl rfl rfl rfl ?_
  refine oAlloc rfl rfl rfl rfl rfl rfl rfl ?_
  refine oN ?_
  refine cR ?_
  refine oQ (Q_build rfl rfl rfl rfl rfl rfl rfl rfl) rfl rfl ?_
  refine oAlloc rfl rfl rfl rfl rfl rfl rfl ?_
  first | refine oSw rfl rfl rfl rfl ?_ | refine oSa rfl rfl rfl rfl ?_
  refine oN ?_
  refine CW_seq ?_
  refine cR ?_
  refine oQ (Q_ldra (j := 0) (n := 30) rfl rfl rfl rfl rfl rfl (by decide)) rfl rfl ?_
  refine oM rfl rfl ?_
  refine oN ?_
  refine CW_block ?_
  refine CW_loop (ι := Nat) (fun n => n ≤ 10) (fun n => ⟨[(1, .int p), (4, .ptr 0 0), (6, .ptr 1 0), (7, .ptr 2 0), (8, .ptr 3 0), (9, .ptr 4 0), (18, .arr cuT), (19, .int (n : Nat))], [(0, .ints 26 c), (1, .ints 35 a), (2, .ints 35 b), (3, .ints 102 [0, 0, 0, 0]), (4, .ints 102 (alV p c a b (n * 8 + 0))), (2000, .ro 0 cuT)], 5⟩) (fun n => 10 - n) 0 ?_ ?_ ?_
  · first | trivial | omega | (simp; done) | (simp; omega)
  · refine View.mk' [] rfl rfl rfl ?_ ?_
    repeat' first | exact vFn | refine vFc rfl ?_ | exact vHn | refine vHc rfl ?_ | refine vFc (congrArg (fun z => some (V.int z)) ?_) ?_ | refine vHc (congrArg (fun z => some (Blk.ints _ z)) ?_) ?_ | refine vFc (congrArg (fun z => some (V.bool z)) ?_) ?_ | refine vFs rfl rfl ?_ ?_
    all_goals rw [alV_zero]
    all_goals rfl
  intro n hn
  refine cR ?_
  refine oQ (Q_bin rfl rfl rfl) rfl rfl ?_
  refine oN ?_
  refine CW_seq ?_
  first | refine cT rfl ?_ | refine cF rfl ?_ | refine CW_cond rfl (fun hc => ?_) (fun hc => ?_)
  all_goals try simp only [s1, s2, s3, s4, s5, s6, s7, s8, s9, s10, s11, s12] at hc
  all_goals first
    | (
     refine CW_skip ?_)
    | (
     refine CW_exit ?_)
  all_goals first
    | with_reducible refine tR ?_
    | with_reducible refine tE ?_
    | (
     with_reducible refine tN ?_
     refine CW_seq ?_
     refine CW_block ?_
     refine cR ?_
     refine oM rfl rfl ?_
     (have hn10 : n < 10 := by omega); refine oQ (Q_indexz 3 rfl rfl rfl rfl rfl rfl rfl (by omega)) rfl rfl ?_; rw [cu_row hn10]
     refine oAlloc rfl rfl rfl rfl rfl rfl rfl ?_
     refine oA rfl rfl ?_
     first | refine oSw rfl rfl rfl rfl ?_ | refine oSa rfl rfl rfl rfl ?_
     refine oN ?_
     refine cR ?_
     refine oM rfl rfl ?_
     refine oN ?_
     refine CW_block ?_
     refine CW_loop (ι := Nat) (fun i => i ≤ 8) (fun i => ⟨[(1, .int p), (4, .ptr 0 0), (6, .ptr 1 0), (7, .ptr 2 0), (8, .ptr 3 0), (9, .ptr 4 0), (10, .int (n : Nat)), (11, .ptr 5 0), (18, .arr cuT), (19, .int (n : Nat)), (23, .int (i : Nat))], [(0, .ints 26 c), (1, .ints 35 a), (2, .ints 35 b), (3, .ints 102 [0, 0, 0, 0]), (4, .ints 102 (alV p c a b (n * 8 + i))), (5, .ints 88 [(cuF n 0 : Int), (cuF n 1 : Int), (cuF n 2 : Int)]), (2000, .ro 0 cuT)], 6⟩) (fun i => 8 - i) 0 ?_ ?_ ?_
     · first | trivial | omega | (simp; done) | (simp; omega)
     · refine View.mk' [] rfl rfl rfl ?_ ?_
       repeat' first | exact vFn | refine vFc rfl ?_ | exact vHn | refine vHc rfl ?_ | refine vFc (congrArg (fun z => some (V.int z)) ?_) ?_ | refine vHc (congrArg (fun z => some (Blk.ints _ z)) ?_) ?_ | refine vFc (congrArg (fun z => some (V.bool z)) ?_) ?_ | refine vFs rfl rfl ?_ ?_
     intro i hi
     have hav := alV_bd hp c a b (n * 8 + i) (cuCt i 3)
     have hct := cuCt_le i 3
     have hT3 := cuTm_bd qc qa qb n i (Nat.le_refl 3)
     refine cR ?_
     refine oQ (Q_bin rfl rfl rfl) rfl rfl ?_
     refine oN ?_
     refine CW_seq ?_
     first | refine cT rfl ?_ | refine cF rfl ?_ | refine CW_cond rfl (fun hc => ?_) (fun hc => ?_)
     all_goals try simp only [s1, s2, s3, s4, s5, s6, s7, s8, s9, s10, s11, s12] at hc
     all_goals first
       | (
        refine CW_skip ?_)
       | (
        refine CW_exit ?_)
     all_goals first
       | with_reducible refine tR ?_
       | with_reducible refine tE ?_
       | (
        with_reducible refine tN ?_
        refine CW_seq ?_
        refine CW_block ?_
        refine cR ?_
        refine oM rfl rfl ?_
        refine oA rfl rfl ?_
        refine oN ?_
        refine cR ?_
        refine oM rfl rfl ?_
        first | refine oQ (Ia0 rfl rfl rfl rfl rfl rfl) rfl rfl ?_ | refine oQ (Ia1 rfl rfl rfl rfl rfl rfl) rfl rfl ?_
        refine oQ (Ld rfl rfl rfl rfl) rfl rfl ?_
        iterate 2 refine oA rfl rfl ?_
        refine oN ?_
        refine CW_seq ?_
        refine cR ?_
        (have hi8 : i < 8 := by omega); refine oQ (Q_ldw rfl rfl rfl rfl rfl) rfl rfl ?_
        refine oM rfl rfl ?_
        refine oN ?_
        refine CW_block ?_
        refine CW_loop (ι := Nat) (fun k => k ≤ 3) (fun k => ⟨[(1, .int p), (4, .ptr 0 0), (6, .ptr 1 0), (7, .ptr 2 0), (8, .ptr 3 0), (9, .ptr 4 0), (10, .int (n : Nat)), (11, .ptr 5 0), (12, .int (i : Nat)), (13, .int (cuTm c a b n i k)), (14, .int (cuCt i k : Nat)), (18, .arr cuT), (19, .int (n : Nat)), (23, .int (i : Nat)), (29, .arr [(cuF n 0 : Int), (cuF n 1 : Int), (cuF n 2 : Int)]), (30, .int (k : Nat))], [(0, .ints 26 c), (1, .ints 35 a), (2, .ints 35 b), (3, .ints 102 [0, 0, 0, 0]), (4, .ints 102 (alV p c a b (n * 8 + i))), (5, .ints 88 [(cuF n 0 : Int), (cuF n 1 : Int), (cuF n 2 : Int)]), (2000, .ro 0 cuT)], 6⟩) (fun k => 3 - k) 0 ?_ ?_ ?_
        · first | trivial | omega | (simp; done) | (simp; omega)
        · refine View.mk' [] rfl rfl rfl ?_ ?_
          repeat' first | exact vFn | refine vFc rfl ?_ | exact vHn | refine vHc rfl ?_ | refine vFc (congrArg (fun z => some (V.int z)) ?_) ?_ | refine vHc (congrArg (fun z => some (Blk.ints _ z)) ?_) ?_ | refine vFc (congrArg (fun z => some (V.bool z)) ?_) ?_ | refine vFs rfl rfl ?_ ?_
        intro k hk
        have hT := cuTm_bd qc qa qb n i hk
        have hca := smN_get qa (by decide) (cuF n k)
        have hcb := smN_get qb (by decide) (cuF n k)
        have hctk := cuCt_le i k
        refine cR ?_
        refine oQ (Q_bin rfl rfl rfl) rfl rfl ?_
        refine oN ?_
        refine CW_seq ?_
        first | refine cT rfl ?_ | refine cF rfl ?_ | refine CW_cond rfl (fun hc => ?_) (fun hc => ?_)
        all_goals try simp only [s1, s2, s3, s4, s5, s6, s7, s8, s9, s10, s11, s12] at hc
        all_goals first
          | (
           refine CW_skip ?_)
          | (
           refine CW_exit ?_)
        all_goals first
          | with_reducible refine tR ?_
          | with_reducible refine tE ?_
          | (
           with_reducible refine tN ?_
           refine CW_seq ?_
           refine CW_block ?_
           refine cR ?_
           refine oM rfl rfl ?_
           (have hk3 : k < 3 := by omega); (have hcu := cu_lt hn10 hk3); refine oQ (Q_index1 rfl rfl rfl rfl rfl rfl rfl (by omega) (by simp; omega)) rfl rfl ?_; rw [three_get (cuF n) hk3]
           iterate 2 refine oA rfl rfl ?_
           refine oN ?_
           refine cR ?_
           iterate 2 refine oM rfl rfl ?_
           refine oQ (Q_shr rfl rfl (by omega) (by omega)) rfl rfl ?_; rw [sh_eq hi8 hk3]
           refine oQ (Q_bits rfl rfl (bit_eq hi8 hk3)) rfl rfl ?_
           refine oQ (Q_bin rfl rfl rfl) rfl rfl ?_
           refine oN ?_
           first | refine cT rfl ?_ | refine cF rfl ?_ | refine CW_cond rfl (fun hc => ?_) (fun hc => ?_)
           all_goals try simp only [s1, s2, s3, s4, s5, s6, s7, s8, s9, s10, s11, s12] at hc
           all_goals first
             | (
              refine CW_region ?_
              iterate 2 refine oM rfl rfl ?_
              first | refine oQ (Ia0 rfl rfl rfl rfl rfl rfl) rfl rfl ?_ | refine oQ (Ia1 rfl rfl rfl rfl rfl rfl) rfl rfl ?_
              refine oQ (Ld rfl rfl rfl rfl) rfl rfl ?_
              refine oMulN 20736 12 rfl rfl (by omega) (by omega) (by decide) rfl (fun z50 hz50 hl50 hu50 => ?_)
              refine oA rfl rfl ?_
              refine OW_nil ?_)
             | (
              refine CW_region ?_
              iterate 2 refine oM rfl rfl ?_
              first | refine oQ (Ia0 rfl rfl rfl rfl rfl rfl) rfl rfl ?_ | refine oQ (Ia1 rfl rfl rfl rfl rfl rfl) rfl rfl ?_
              refine oQ (Ld rfl rfl rfl rfl) rfl rfl ?_
              refine oMulN 20736 12 rfl rfl (by omega) (by omega) (by decide) rfl (fun z43 hz43 hl43 hu43 => ?_)
              refine oM rfl rfl ?_
              first | refine oQ (Q_binu rfl rfl rfl (by omega)) rfl rfl ?_ | refine oQ (Q_bin rfl rfl rfl) rfl rfl ?_
              iterate 2 refine oA rfl rfl ?_
              refine OW_nil ?_)
           all_goals first | with_reducible refine bN ?_ | with_reducible refine bE ?_ | with_reducible refine bR ?_ | refine bX rfl ?_
           all_goals with_reducible refine tN ?_
           all_goals (
            refine CW_region ?_
            first | refine oQ (Q_binu rfl rfl rfl (by omega)) rfl rfl ?_ | refine oQ (Q_bin rfl rfl rfl) rfl rfl ?_
            refine oM rfl rfl ?_
            refine OW_nil ?_))
        all_goals first
          | with_reducible refine tR ?_
          | with_reducible refine tE ?_
          | (
           with_reducible refine tN ?_
           refine ⟨k + 1, ?_, ?_, View.mk' [] rfl rfl rfl ?_ ?_⟩
           · omega
           · omega
           all_goals (repeat' first | exact vFn | refine vFc rfl ?_ | exact vHn | refine vHc rfl ?_ | refine vFc (congrArg (fun z => some (V.int z)) ?_) ?_ | refine vHc (congrArg (fun z => some (Blk.ints _ z)) ?_) ?_ | refine vFc (congrArg (fun z => some (V.bool z)) ?_) ?_ | refine vFs rfl rfl ?_ ?_)
           all_goals first | subst hz43 | subst hz50 | skip
           all_goals first | (rw [cuTm, if_pos (show i / 2 ^ k % 2 = 1 by exact_mod_cast hc)]; done) | (rw [cuTm, if_pos (show i / 2 ^ k % 2 = 1 by exact_mod_cast hc)]; simp; done) | (rw [cuTm, if_neg (show ¬ i / 2 ^ k % 2 = 1 by exact_mod_cast hc)]; done) | (rw [cuTm, if_neg (show ¬ i / 2 ^ k % 2 = 1 by exact_mod_cast hc)]; simp; done) | (rw [cuCt, if_pos (show i / 2 ^ k % 2 = 1 by exact_mod_cast hc)]; done) | (rw [cuCt, if_pos (show i / 2 ^ k % 2 = 1 by exact_mod_cast hc)]; simp; done) | (rw [cuCt, if_neg (show ¬ i / 2 ^ k % 2 = 1 by exact_mod_cast hc)]; done) | (rw [cuCt, if_neg (show ¬ i / 2 ^ k % 2 = 1 by exact_mod_cast hc)]; simp; done) | fail "LEFT")
        all_goals first | with_reducible refine bN ?_ | with_reducible refine bE ?_ | with_reducible refine bR ?_ | refine bX rfl ?_
        all_goals with_reducible refine tN ?_
        all_goals (
         refine CW_region ?_
         (have e : k = 3 := by omega); subst e; refine oM rfl rfl ?_
         refine oM rfl rfl ?_
         first | refine oQ (Ia0 rfl rfl rfl rfl rfl rfl) rfl rfl ?_ | refine oQ (Ia1 rfl rfl rfl rfl rfl rfl) rfl rfl ?_
         refine oQ (Ld rfl rfl rfl rfl) rfl rfl ?_
         refine oM rfl rfl ?_
         first | refine oQ (Q_binu rfl rfl rfl (by omega)) rfl rfl ?_ | refine oQ (Q_bin rfl rfl rfl) rfl rfl ?_
         refine oM rfl rfl ?_
         refine oQ (Q_call0 (mod_con _ p (by omega) (by omega)) rfl rfl rfl) rfl rfl ?_
         first | refine oQ (Ia0 rfl rfl rfl rfl rfl rfl) rfl rfl ?_ | refine oQ (Ia1 rfl rfl rfl rfl rfl rfl) rfl rfl ?_
         refine oS rfl rfl rfl rfl rfl ?_
         refine OW_nil ?_)
        all_goals first | with_reducible refine bN ?_ | with_reducible refine bE ?_ | with_reducible refine bR ?_ | refine bX rfl ?_
        all_goals with_reducible refine tN ?_
        all_goals (
         refine CW_region ?_
         first | refine oQ (Q_binu rfl rfl rfl (by omega)) rfl rfl ?_ | refine oQ (Q_bin rfl rfl rfl) rfl rfl ?_
         refine oM rfl rfl ?_
         refine OW_nil ?_))
     all_goals first
       | with_reducible refine tR ?_
       | with_reducible refine tE ?_
       | (
        with_reducible refine tN ?_
        refine ⟨i + 1, ?_, ?_, View.mk' [] rfl rfl rfl ?_ ?_⟩
        · omega
        · omega
        all_goals (repeat' first | exact vFn | refine vFc rfl ?_ | exact vHn | refine vHc rfl ?_ | refine vFc (congrArg (fun z => some (V.int z)) ?_) ?_ | refine vHc (congrArg (fun z => some (Blk.ints _ z)) ?_) ?_ | refine vFc (congrArg (fun z => some (V.bool z)) ?_) ?_ | refine vFs rfl rfl ?_ ?_)
        all_goals exact alV_step p c a b n hi8)
     all_goals first | with_reducible refine bN ?_ | with_reducible refine bE ?_ | with_reducible refine bR ?_ | refine bX rfl ?_
     all_goals first | with_reducible refine bN ?_ | with_reducible refine bE ?_ | with_reducible refine bR ?_ | refine bX rfl ?_
     all_goals with_reducible refine tN ?_
     all_goals (
      refine CW_region ?_
      first | refine oQ (Q_binu rfl rfl rfl (by omega)) rfl rfl ?_ | refine oQ (Q_bin rfl rfl rfl) rfl rfl ?_
      refine oM rfl rfl ?_
      refine OW_nil ?_))
  all_goals first
    | with_reducible refine tR ?_
    | with_reducible refine tE ?_
    | (
     with_reducible refine tN ?_
     refine ⟨n + 1, ?_, ?_, View.mk' [] rfl rfl rfl ?_ ?_⟩
     · omega
     · omega
     all_goals (repeat' first | exact vFn | refine vFc rfl ?_ | exact vHn | refine vHc rfl ?_ | refine vFc (congrArg (fun z => some (V.int z)) ?_) ?_ | refine vHc (congrArg (fun z => some (Blk.ints _ z)) ?_) ?_ | refine vFc (congrArg (fun z => some (V.bool z)) ?_) ?_ | refine vFs rfl rfl ?_ ?_)
     all_goals (have e : i = 8 := by omega)
     all_goals subst e
     all_goals rw [show (n + 1) * 8 + 0 = n * 8 + 8 by omega])
  all_goals first | with_reducible refine bN ?_ | with_reducible refine bE ?_ | with_reducible refine bR ?_ | refine bX rfl ?_
  all_goals with_reducible refine tN ?_
  all_goals (
   refine cR ?_
   first | refine oQ (Lw rfl rfl rfl rfl) rfl rfl ?_ | refine oQ (La rfl rfl rfl rfl rfl) rfl rfl ?_
   first | refine oSw rfl rfl rfl rfl ?_ | refine oSa rfl rfl rfl rfl ?_
   refine oN ?_
   refine CW_ret ?_)
  all_goals (
   have e : n = 10 := by omega
   subst e
   refine exitQ (.inr rfl) 0 (.cons (.arr rfl rfl rfl rfl (by first | omega | (dsimp only; omega) | (simp; omega) | (simp; done))) .nil) ?_ rfl (vHc rfl vHn) rfl rfl
   rfl)
theorem at_con (p : Int) (c a : List Int) (hp : primeB p = true) (hcl : c.length = 10) (hal : a.length = 3) (qc : smN 12 c) (qa : smN 12 a) : ConQ Tryd.prog [(0, 2000)] 51 [.arr c, .int p, .arr a] [(2000, .ro 0 cuT)] (.int (cuA p c a)) := by
  have hz : smN 12 [0, 0, 0] := by intro x hx; simp at hx; omega
  refine conW tab_ok [(0, .arr c), (1, .int p), (2, .arr a)] 0 [2000] [] Tryd.func51 rfl rfl rfl rfl rfl rfl rfl rfl rfl ?_
  refine cR ?_
  iterate 2 refine oBox rfl rfl rfl rfl rfl rfl ?_
  refine oA rfl rfl ?_
  refine oN ?_
  refine cR ?_
  refine oQ (Q_ldw rfl rfl rfl rfl hcl) rfl rfl ?_
  refine oM rfl rfl ?_
  refine oQ (Q_ldw rfl rfl rfl rfl hal) rfl rfl ?_
  refine oQ (v := .arr [0, 0, 0]) (Q_build rfl rfl rfl rfl rfl rfl rfl rfl) rfl rfl ?_
  refine oQ (Q_call (along_con p c a [0, 0, 0] hp hcl hal rfl qc qa hz) [] rfl rfl (Fits.mk' (vHc rfl vHn) rfl rfl (by first | (simp; done) | exact glOk rfl rfl rfl)) rfl rfl) rfl rfl ?_
  refine oQ (Q_index1 rfl rfl rfl rfl rfl rfl rfl (by decide) (by rw [alV_len]; decide)) rfl rfl ?_; rw [alV_at p c a _ hal]
  refine oA rfl rfl ?_
  refine oN ?_
  refine CW_ret ?_
  all_goals (
   ((refine exitQ (.inr rfl) 0 (.cons (.tmp rfl rfl) .nil) ?_ rfl (vHc rfl vHn) rfl rfl); rfl))
theorem slopes_con (p : Int) (c a : List Int) (hp : primeB p = true) (hcl : c.length = 10) (hal : a.length = 3) (qc : smN 12 c) (qa : smN 12 a) : ConQ Tryd.prog [(0, 2000)] 57 [.arr c, .int p, .arr a] [(2000, .ro 0 cuT)] (.arr [cuD p c a 0, cuD p c a 1, cuD p c a 2]) := by
  have hz : ∀ w, smN 12 (unitL w) := by
    intro w x hx
    simp only [unitL, List.mem_cons, List.not_mem_nil, or_false] at hx
    rcases hx with rfl | rfl | rfl <;> split <;> omega
  have h0 := along_con p c a (unitL 0) hp hcl hal rfl qc qa (hz 0)
  have h1 := along_con p c a (unitL 1) hp hcl hal rfl qc qa (hz 1)
  have h2 := along_con p c a (unitL 2) hp hcl hal rfl qc qa (hz 2)
  have e0 := alV_d p c a 0 (by decide) hal
  have e1 := alV_d p c a 1 (by decide) hal
  have e2 := alV_d p c a 2 (by decide) hal
  have l0 := alV_len p c a (unitL 0) 80
  have l1 := alV_len p c a (unitL 1) 80
  have l2 := alV_len p c a (unitL 2) 80
  generalize alV p c a (unitL 0) 80 = v0 at *
  generalize alV p c a (unitL 1) 80 = v1 at *
  generalize alV p c a (unitL 2) 80 = v2 at *
  refine conW tab_ok [(0, .arr c), (1, .int p), (2, .arr a)] 0 [2000] [] Tryd.func57 rfl rfl rfl rfl rfl rfl rfl rfl rfl ?_
  refine cR ?_
  iterate 2 refine oBox rfl rfl rfl rfl rfl rfl ?_
  refine oAlloc rfl rfl rfl rfl rfl rfl rfl ?_
  refine oN ?_
  refine CW_seq ?_
  refine CW_any (fun i => List.elem i [19]) 20 rfl lateOk (by decide +kernel) (fun hst => ?_)
  refine aQ 0 hst rfl rfl (by decide +kernel) (QX_of (Q_ldw rfl rfl rfl rfl hcl) NE_load) rfl rfl ?_
  refine aP 1 hst rfl rfl (by decide +kernel) (PX_move rfl rfl) rfl rfl ?_
  refine aQ 2 hst rfl rfl (by decide +kernel) (QX_of (Q_ldw rfl rfl rfl rfl hal) NE_load) rfl rfl ?_
  refine aQ 3 hst rfl rfl (by decide +kernel) (QX_of (v := .arr (unitL 0)) (Q_build rfl rfl rfl rfl rfl rfl rfl rfl) NE_build) rfl rfl ?_
  refine aQ 4 hst rfl rfl (by decide +kernel) (QX_call (h0) [] rfl rfl (Fits.mk' (vHc rfl vHn) rfl rfl (by first | (simp; done) | exact glOk rfl rfl rfl)) rfl rfl rfl) rfl rfl ?_
  refine aQ 5 hst rfl rfl (by decide +kernel) (QX_of (Q_index1 rfl rfl rfl rfl rfl rfl rfl (by decide) (by rw [l0]; decide)) NE_index) rfl rfl ?_; rw [e0]
  refine aQ 6 hst rfl rfl (by decide +kernel) (QX_of (Q_ldw rfl rfl rfl rfl hcl) NE_load) rfl rfl ?_
  refine aP 7 hst rfl rfl (by decide +kernel) (PX_move rfl rfl) rfl rfl ?_
  refine aQ 8 hst rfl rfl (by decide +kernel) (QX_of (Q_ldw rfl rfl rfl rfl hal) NE_load) rfl rfl ?_
  refine aQ 9 hst rfl rfl (by decide +kernel) (QX_of (v := .arr (unitL 1)) (Q_build rfl rfl rfl rfl rfl rfl rfl rfl) NE_build) rfl rfl ?_
  refine aQ 10 hst rfl rfl (by decide +kernel) (QX_call (h1) [] rfl rfl (Fits.mk' (vHc rfl vHn) rfl rfl (by first | (simp; done) | exact glOk rfl rfl rfl)) rfl rfl rfl) rfl rfl ?_
  refine aQ 11 hst rfl rfl (by decide +kernel) (QX_of (Q_index1 rfl rfl rfl rfl rfl rfl rfl (by decide) (by rw [l1]; decide)) NE_index) rfl rfl ?_; rw [e1]
  refine aQ 12 hst rfl rfl (by decide +kernel) (QX_of (Q_ldw rfl rfl rfl rfl hcl) NE_load) rfl rfl ?_
  refine aP 13 hst rfl rfl (by decide +kernel) (PX_move rfl rfl) rfl rfl ?_
  refine aQ 14 hst rfl rfl (by decide +kernel) (QX_of (Q_ldw rfl rfl rfl rfl hal) NE_load) rfl rfl ?_
  refine aQ 15 hst rfl rfl (by decide +kernel) (QX_of (v := .arr (unitL 2)) (Q_build rfl rfl rfl rfl rfl rfl rfl rfl) NE_build) rfl rfl ?_
  refine aQ 16 hst rfl rfl (by decide +kernel) (QX_call (h2) [] rfl rfl (Fits.mk' (vHc rfl vHn) rfl rfl (by first | (simp; done) | exact glOk rfl rfl rfl)) rfl rfl rfl) rfl rfl ?_
  refine aQ 17 hst rfl rfl (by decide +kernel) (QX_of (Q_index1 rfl rfl rfl rfl rfl rfl rfl (by decide) (by rw [l2]; decide)) NE_index) rfl rfl ?_; rw [e2]
  refine aQ 18 hst rfl rfl (by decide +kernel) (QX_of (v := .arr [cuD p c a 0, cuD p c a 1, cuD p c a 2]) (Q_build rfl rfl rfl rfl rfl rfl rfl rfl) NE_build) rfl rfl ?_
  refine AW_last [19] rfl (by decide +kernel) rfl ?_
  first | refine oSw rfl rfl rfl rfl ?_ | refine oSa rfl rfl rfl rfl ?_
  refine OW_nil (npN ?_)
  all_goals with_reducible refine tN ?_
  all_goals (
   refine CW_ret ?_)
  all_goals (
   ((refine exitQ (.inr rfl) 0 (.cons (.arr rfl rfl rfl rfl (by first | omega | (dsimp only; omega) | (simp; omega) | (simp; done))) .nil) ?_ rfl (vHc rfl vHn) rfl rfl); rfl))
theorem l06Products_con  : ConQ Tryd.prog [] 103 [] [] (.arr exT) := by
  have hsl : exT.length = 30 := rfl
  refine conW tab_ok [] 0 [] [] Tryd.func103 rfl rfl rfl rfl rfl rfl rfl rfl rfl ?_
  refine cR ?_
  refine oAlloc rfl rfl rfl rfl rfl rfl rfl ?_
  refine oN ?_
  refine cR ?_
  iterate 10 refine oQ (Q_build rfl rfl rfl rfl rfl rfl rfl rfl) rfl rfl ?_
  refine oQ (v := .arr exT) (Q_build rfl rfl rfl rfl rfl rfl rfl rfl) rfl rfl ?_
  first | refine oSw rfl rfl rfl rfl ?_ | refine oSa rfl rfl rfl rfl ?_
  refine oN ?_
  refine CW_ret ?_
  all_goals (
   ((refine exitQ (.inr rfl) 0 (.cons (.arr rfl rfl rfl rfl (by first | omega | (dsimp only; omega) | (simp; omega) | (simp; done))) .nil) ?_ rfl vHn rfl rfl); rfl))
theorem l06Power_con (x : Int) (k : Nat) (hx : 0 ≤ x ∧ x ≤ 12) (hk : k ≤ 3) : ConQ Tryd.prog [] 115 [.int x, .int (k : Int)] [] (.int (x ^ k)) := by
  refine conW tab_ok [(0, .int x), (1, .int (k : Int))] 0 [] [] Tryd.func115 rfl rfl rfl rfl rfl rfl rfl rfl rfl ?_
  refine cR ?_
  refine oA rfl rfl ?_
  refine oN ?_
  refine cR ?_
  refine oA rfl rfl ?_
  refine oN ?_
  refine CW_seq ?_
  refine CW_block ?_
  refine CW_loop (ι := Nat) (fun i => i ≤ k) (fun i => ⟨[(0, .int x), (1, .int ((k : Int) - (i : Nat))), (5, .int (x ^ i))], [], 0⟩) (fun i => k - i) 0 ?_ ?_ ?_
  · first | trivial | omega | (simp; done) | (simp; omega)
  · refine View.mk' [] rfl rfl rfl ?_ ?_
    repeat' first | exact vFn | refine vFc rfl ?_ | exact vHn | refine vHc rfl ?_ | refine vFc (congrArg (fun z => some (V.int z)) ?_) ?_ | refine vHc (congrArg (fun z => some (Blk.ints _ z)) ?_) ?_ | refine vFc (congrArg (fun z => some (V.bool z)) ?_) ?_ | refine vFs rfl rfl ?_ ?_
    all_goals simp
  intro i hi
  have hw := pw_bd hx (show i ≤ 3 by omega)
  refine CW_seq ?_
  refine cR ?_
  refine oM rfl rfl ?_
  refine oQ (Q_bin rfl rfl rfl) rfl rfl ?_
  refine oN ?_
  first | refine cT rfl ?_ | refine cF rfl ?_ | refine CW_cond rfl (fun hc => ?_) (fun hc => ?_)
  all_goals try simp only [s1, s2, s3, s4, s5, s6, s7, s8, s9, s10, s11, s12] at hc
  all_goals first
    | (
     refine CW_skip ?_)
    | (
     refine CW_exit ?_)
  all_goals first
    | with_reducible refine tR ?_
    | with_reducible refine tE ?_
    | (
     with_reducible refine tN ?_
     refine CW_seq ?_
     refine CW_block ?_
     refine CW_region ?_
     iterate 2 refine oM rfl rfl ?_
     refine oMulN 1728 12 rfl rfl (by omega) (by omega) (by decide) rfl (fun z12 hz12 hl12 hu12 => ?_)
     refine oA rfl rfl ?_
     refine OW_nil ?_
     all_goals first | with_reducible refine bN ?_ | with_reducible refine bE ?_ | with_reducible refine bR ?_ | refine bX rfl ?_
     all_goals with_reducible refine tN ?_
     all_goals (
      refine CW_region ?_
      refine oM rfl rfl ?_
      first | refine oQ (Q_binu rfl rfl rfl (by omega)) rfl rfl ?_ | refine oQ (Q_bin rfl rfl rfl) rfl rfl ?_
      refine oA rfl rfl ?_
      refine OW_nil ?_))
  all_goals first
    | with_reducible refine tR ?_
    | with_reducible refine tE ?_
    | (
     with_reducible refine tN ?_
     refine ⟨i + 1, ?_, ?_, View.mk' [] rfl rfl rfl ?_ ?_⟩
     · omega
     · omega
     all_goals (repeat' first | exact vFn | refine vFc rfl ?_ | exact vHn | refine vHc rfl ?_ | refine vFc (congrArg (fun z => some (V.int z)) ?_) ?_ | refine vHc (congrArg (fun z => some (Blk.ints _ z)) ?_) ?_ | refine vFc (congrArg (fun z => some (V.bool z)) ?_) ?_ | refine vFs rfl rfl ?_ ?_)
     all_goals first | subst hz12 | skip
     all_goals first | omega | (rw [Int.pow_succ]; done) | (rw [Int.pow_succ]; rfl) | fail "LEFT")
  all_goals first | with_reducible refine bN ?_ | with_reducible refine bE ?_ | with_reducible refine bR ?_ | refine bX rfl ?_
  all_goals with_reducible refine tN ?_
  all_goals (
   refine cR ?_
   refine oM rfl rfl ?_
   refine oA rfl rfl ?_
   refine oN ?_
   refine CW_ret ?_)
  all_goals (
   have e : i = k := by omega
   subst e
   refine exitQ (.inr rfl) 0 (.cons (.tmp rfl rfl) .nil) ?_ rfl vHn rfl rfl
   rfl)
theorem l06At_con (p : Int) (c a : List Int)  (hp : primeB p = true) (hcl : c.length = 10) (hal : a.length = 3) (qc : smN 12 c) (qa : smN 12 a) : ConQ Tryd.prog [] 89 [.int p, .arr c, .arr a, .int (-1)] [] (.int (cuA p c a)) := by
  have hpb := prime_bd hp
  have hsl : exT.length = 30 := rfl
  have hSb : ∀ n : Nat, n ≤ 10 → 0 ≤ atS p c a n ∧ atS p c a n ≤ (n : Int) * 36 := by
    intro n
    induction n with
    | zero => intro _; exact ⟨Int.le_refl _, by simp [atS]⟩
    | succ n ih =>
      intro h
      have ih := ih (by omega)
      have h1 := smN_get qc (by decide) n
      have hw : 0 ≤ c.getD n 0 ∧ c.getD n 0 ≤ 36 := ⟨h1.1, by omega⟩
      have h3 := exV_bd hp a hw (exF n) 3
      rw [atS]
      omega
  refine conW tab_ok [(0, .int p), (1, .arr c), (2, .arr a), (3, .int (-1))] 0 [] [] Tryd.func89 rfl rfl rfl rfl rfl rfl rfl rfl rfl ?_
  refine cR ?_
  iterate 2 refine oBox rfl rfl rfl rfl rfl rfl ?_
  refine oA rfl rfl ?_
  refine oN ?_
  refine cR ?_
  refine oQ (Q_call0 (l06Products_con) rfl rfl rfl) rfl rfl ?_
  refine oAlloc rfl rfl rfl rfl rfl rfl rfl ?_
  refine oA rfl rfl ?_
  first | refine oSw rfl rfl rfl rfl ?_ | refine oSa rfl rfl rfl rfl ?_
  refine oN ?_
  refine CW_seq ?_
  refine cR ?_
  refine oA rfl rfl ?_
  refine oN ?_
  refine CW_block ?_
  refine CW_loop (ι := Nat) (fun n => n ≤ 10) (fun n => ⟨[(0, .int p), (3, .int (-1)), (5, .ptr 0 0), (6, .ptr 1 0), (9, .int (atS p c a n)), (10, .ptr 2 0), (11, .int (n : Nat))], [(0, .ints 26 c), (1, .ints 35 a), (2, .ints 118 exT)], 3⟩) (fun n => 10 - n) 0 ?_ ?_ ?_
  · first | trivial | omega | (simp; done) | (simp; omega)
  · refine View.mk' [] rfl rfl rfl ?_ ?_
    repeat' first | exact vFn | refine vFc rfl ?_ | exact vHn | refine vHc rfl ?_ | refine vFc (congrArg (fun z => some (V.int z)) ?_) ?_ | refine vHc (congrArg (fun z => some (Blk.ints _ z)) ?_) ?_ | refine vFc (congrArg (fun z => some (V.bool z)) ?_) ?_ | refine vFs rfl rfl ?_ ?_
  intro n hn
  have hS := hSb n hn
  have h1 := smN_get qc (by decide) n
  have hw : 0 ≤ c.getD n 0 ∧ c.getD n 0 ≤ 36 := ⟨h1.1, by omega⟩
  have hV3 := exV_bd hp a hw (exF n) 3
  refine CW_seq ?_
  refine cR ?_
  refine oM rfl rfl ?_
  refine oQ (Q_bin rfl rfl rfl) rfl rfl ?_
  refine oN ?_
  first | refine cT rfl ?_ | refine cF rfl ?_ | refine CW_cond rfl (fun hc => ?_) (fun hc => ?_)
  all_goals try simp only [s1, s2, s3, s4, s5, s6, s7, s8, s9, s10, s11, s12] at hc
  all_goals try (exfalso; first | omega | (simp at hc; done); done)
  all_goals first
    | (
     refine CW_skip ?_)
    | (
     refine CW_exit ?_)
  all_goals first
    | with_reducible refine tR ?_
    | with_reducible refine tE ?_
    | (
     with_reducible refine tN ?_
     refine CW_seq ?_
     refine CW_block ?_
     refine CW_seq ?_
     refine CW_any (fun i => List.elem i [8]) 9 rfl lateOk (by decide +kernel) (fun hst => ?_)
     refine aP 0 hst rfl rfl (by decide +kernel) (PX_move rfl rfl) rfl rfl ?_
     first | refine aQ 1 hst rfl rfl (by decide +kernel) (QX_of (Ia0 rfl rfl rfl rfl rfl rfl) NE_ix) rfl rfl ?_ | refine aQ 1 hst rfl rfl (by decide +kernel) (QX_of (Ia1 rfl rfl rfl rfl rfl rfl) NE_ix) rfl rfl ?_
     refine aQ 2 hst rfl rfl (by decide +kernel) (QX_of (Ld rfl rfl rfl rfl) NE_load) rfl rfl ?_
     refine aP 3 hst rfl rfl (by decide +kernel) (PX_move rfl rfl) rfl rfl ?_
     (have hn10 : n < 10 := by omega); refine aQ 4 hst rfl rfl (by decide +kernel) (QX_of (Q_ixa0z 3 rfl rfl rfl rfl rfl rfl (by omega)) NE_ix) rfl rfl ?_
     refine aQ 5 hst rfl rfl (by decide +kernel) (QX_of (Q_lda (n := 3) rfl rfl rfl rfl rfl (by omega)) NE_load) rfl rfl ?_; rw [ex_row hn10]
     refine AW_one (i := 6) (by decide +kernel) ?_
     refine gAlloc rfl rfl rfl rfl rfl rfl rfl rfl rfl ?_
     refine aQ 7 hst rfl rfl (by decide +kernel) (QX_of (Q_assign rfl rfl) NE_assign) rfl rfl ?_
     refine AW_last [8] rfl (by decide +kernel) rfl ?_
     first | refine oSw rfl rfl rfl rfl ?_ | refine oSa rfl rfl rfl rfl ?_
     refine OW_nil (npN ?_)
     all_goals with_reducible refine tN ?_
     all_goals (
      refine CW_seq ?_
      refine cR ?_
      refine oM rfl rfl ?_
      refine oQ (Q_bin rfl rfl rfl) rfl rfl ?_
      refine oN ?_
      first | refine cT rfl ?_ | refine cF rfl ?_ | refine CW_cond rfl (fun hc => ?_) (fun hc => ?_)
      all_goals try simp only [s1, s2, s3, s4, s5, s6, s7, s8, s9, s10, s11, s12] at hc
      all_goals try (exfalso; first | omega | (simp at hc; done); done)
      all_goals first
        | (
         refine CW_skip ?_)
        | (
         refine cR ?_
         iterate 2 refine oM rfl rfl ?_
         first | refine oQ (Ia0 rfl rfl rfl rfl rfl rfl) rfl rfl ?_ | refine oQ (Ia1 rfl rfl rfl rfl rfl rfl) rfl rfl ?_
         refine oQ (Ld rfl rfl rfl rfl) rfl rfl ?_
         first | refine oQ (Q_binu rfl rfl rfl (by omega)) rfl rfl ?_ | refine oQ (Q_bin rfl rfl rfl) rfl rfl ?_
         refine oA rfl rfl ?_
         refine oN ?_
         refine CW_region ?_
         iterate 2 refine oM rfl rfl ?_
         first | refine oQ (Ia0 rfl rfl rfl rfl rfl rfl) rfl rfl ?_ | refine oQ (Ia1 rfl rfl rfl rfl rfl rfl) rfl rfl ?_
         refine oQ (Ld rfl rfl rfl rfl) rfl rfl ?_
         first | refine oQ (Q_binu rfl rfl rfl (by omega)) rfl rfl ?_ | refine oQ (Q_bin rfl rfl rfl) rfl rfl ?_
         fail "builtin max at slot 38"
         first | refine oQ (Ia0 rfl rfl rfl rfl rfl rfl) rfl rfl ?_ | refine oQ (Ia1 rfl rfl rfl rfl rfl rfl) rfl rfl ?_
         refine oS rfl rfl rfl rfl rfl ?_
         refine OW_nil ?_)
      all_goals with_reducible refine tN ?_
      all_goals (
       refine CW_seq ?_
       refine cR ?_
       refine oA rfl rfl ?_
       refine oN ?_
       refine CW_block ?_
       refine CW_loop (ι := Nat) (fun k => k ≤ 3) (fun k => ⟨[(0, .int p), (3, .int (-1)), (5, .ptr 0 0), (6, .ptr 1 0), (9, .int (atS p c a n)), (10, .ptr 2 0), (11, .int (n : Nat)), (12, .int (exV p a (c.getD n 0) (exF n) k)), (13, .ptr 3 0), (14, .int (k : Nat))], [(0, .ints 26 c), (1, .ints 35 a), (2, .ints 118 exT), (3, .ints 31 [(exF n 0 : Int), (exF n 1 : Int), (exF n 2 : Int)])], 4⟩) (fun k => 3 - k) 0 ?_ ?_ ?_
       · first | trivial | omega | (simp; done) | (simp; omega)
       · refine View.mk' [] rfl rfl rfl ?_ ?_
         repeat' first | exact vFn | refine vFc rfl ?_ | exact vHn | refine vHc rfl ?_ | refine vFc (congrArg (fun z => some (V.int z)) ?_) ?_ | refine vHc (congrArg (fun z => some (Blk.ints _ z)) ?_) ?_ | refine vFc (congrArg (fun z => some (V.bool z)) ?_) ?_ | refine vFs rfl rfl ?_ ?_
       intro k hk
       have hV := exV_bd hp a hw (exF n) k
       have hak := smN_get qa (by decide) k
       have hEk := fun h : k < 3 => ex_le hn10 h
       have hpw := fun h : k < 3 => pw_bd hak (hEk h)
       refine CW_seq ?_
       refine cR ?_
       refine oM rfl rfl ?_
       refine oQ (Q_bin rfl rfl rfl) rfl rfl ?_
       refine oN ?_
       first | refine cT rfl ?_ | refine cF rfl ?_ | refine CW_cond rfl (fun hc => ?_) (fun hc => ?_)
       all_goals try simp only [s1, s2, s3, s4, s5, s6, s7, s8, s9, s10, s11, s12] at hc
       all_goals try (exfalso; first | omega | (simp at hc; done); done)
       all_goals first
         | (
          refine CW_skip ?_)
         | (
          refine CW_exit ?_)
       all_goals first
         | with_reducible refine tR ?_
         | with_reducible refine tE ?_
         | (
          with_reducible refine tN ?_
          refine CW_seq ?_
          refine CW_block ?_
          refine CW_draw lateOk (by decide +kernel) ?_
          iterate 2 refine qM rfl rfl ?_
          first | refine qQ (Ia0 rfl rfl rfl rfl rfl rfl) rfl rfl ?_ | refine qQ (Ia1 rfl rfl rfl rfl rfl rfl) rfl rfl ?_
          refine qQ (Ld rfl rfl rfl rfl) rfl rfl ?_
          refine qM rfl rfl ?_
          first | refine qQ (Ia0 rfl rfl rfl rfl rfl rfl) rfl rfl ?_ | refine qQ (Ia1 rfl rfl rfl rfl rfl rfl) rfl rfl ?_
          (have hk3 : k < 3 := by omega); (have hpw := hpw hk3); refine qQ (Ld rfl rfl rfl rfl) rfl rfl ?_; rw [three_get (exF n) hk3]
          refine qQ (Q_call0 (l06Power_con _ _ hak (hEk hk3)) rfl rfl rfl) rfl rfl ?_
          refine qMulN 36 1728 rfl rfl (by omega) (by omega) (by decide) rfl (fun z52 hz52 hl52 hu52 => ?_)
          refine qM rfl rfl ?_
          refine qRemN rfl rfl (by omega) (by omega) rfl (fun z54 hz54 hl54 hu54 => ?_)
          refine qA rfl rfl ?_
          refine QW_nil ?_
          all_goals first | with_reducible refine bN ?_ | with_reducible refine bE ?_ | with_reducible refine bR ?_ | refine bX rfl ?_
          all_goals with_reducible refine tN ?_
          all_goals (
           refine CW_region ?_
           refine oM rfl rfl ?_
           first | refine oQ (Q_binu rfl rfl rfl (by omega)) rfl rfl ?_ | refine oQ (Q_bin rfl rfl rfl) rfl rfl ?_
           refine oA rfl rfl ?_
           refine OW_nil ?_))
       all_goals first
         | with_reducible refine tR ?_
         | with_reducible refine tE ?_
         | (
          with_reducible refine tN ?_
          refine ⟨k + 1, ?_, ?_, View.mk' [] rfl rfl rfl ?_ ?_⟩
          · omega
          · omega
          all_goals (repeat' first | exact vFn | refine vFc rfl ?_ | exact vHn | refine vHc rfl ?_ | refine vFc (congrArg (fun z => some (V.int z)) ?_) ?_ | refine vHc (congrArg (fun z => some (Blk.ints _ z)) ?_) ?_ | refine vFc (congrArg (fun z => some (V.bool z)) ?_) ?_ | refine vFs rfl rfl ?_ ?_)
          all_goals subst hz54 hz52
          all_goals rfl)
       all_goals first | with_reducible refine bN ?_ | with_reducible refine bE ?_ | with_reducible refine bR ?_ | refine bX rfl ?_
       all_goals with_reducible refine tN ?_
       all_goals (
        refine CW_region ?_
        (have e : k = 3 := by omega); subst e; refine oM rfl rfl ?_
        refine oM rfl rfl ?_
        first | refine oQ (Q_binu rfl rfl rfl (by omega)) rfl rfl ?_ | refine oQ (Q_bin rfl rfl rfl) rfl rfl ?_
        refine oA rfl rfl ?_
        refine OW_nil ?_)))
     all_goals first | with_reducible refine bN ?_ | with_reducible refine bE ?_ | with_reducible refine bR ?_ | refine bX rfl ?_
     all_goals with_reducible refine tN ?_
     all_goals (
      refine CW_region ?_
      refine oM rfl rfl ?_
      first | refine oQ (Q_binu rfl rfl rfl (by omega)) rfl rfl ?_ | refine oQ (Q_bin rfl rfl rfl) rfl rfl ?_
      refine oA rfl rfl ?_
      refine OW_nil ?_))
  all_goals first
    | with_reducible refine tR ?_
    | with_reducible refine tE ?_
    | (
     with_reducible refine tN ?_
     refine ⟨n + 1, ?_, ?_, View.mk' [] rfl rfl rfl ?_ ?_⟩
     · omega
     · omega
     all_goals (repeat' first | exact vFn | refine vFc rfl ?_ | exact vHn | refine vHc rfl ?_ | refine vFc (congrArg (fun z => some (V.int z)) ?_) ?_ | refine vHc (congrArg (fun z => some (Blk.ints _ z)) ?_) ?_ | refine vFc (congrArg (fun z => some (V.bool z)) ?_) ?_ | refine vFs rfl rfl ?_ ?_)
     all_goals rfl)
  all_goals first | with_reducible refine bN ?_ | with_reducible refine bE ?_ | with_reducible refine bR ?_ | refine bX rfl ?_
  all_goals with_reducible refine tN ?_
  all_goals (
   refine cR ?_
   iterate 2 refine oM rfl rfl ?_
   refine oRemN rfl rfl (by omega) (by omega) rfl (fun z60 hz60 hl60 hu60 => ?_)
   refine oA rfl rfl ?_
   refine oN ?_
   refine CW_ret ?_)
  all_goals (
   have e : n = 10 := by omega
   subst e
   refine exitQ (.inr rfl) 0 (.cons (.tmp rfl rfl) .nil) ?_ rfl vHn rfl rfl
   subst hz60
   rfl)
theorem l06Atd_con (p : Int) (c a : List Int) (y : Nat) (hy : y < 3) (hp : primeB p = true) (hcl : c.length = 10) (hal : a.length = 3) (qc : smN 12 c) (qa : smN 12 a) : ConQ Tryd.prog [] 89 [.int p, .arr c, .arr a, .int (y : Nat)] [] (.int (cuD p c a y)) := by
  have hpb := prime_bd hp
  have hsl : exT.length = 30 := rfl
  have hSb : ∀ n : Nat, n ≤ 10 → 0 ≤ dS p c a y n ∧ dS p c a y n ≤ (n : Int) * 36 := by
    intro n
    induction n with
    | zero => intro _; exact ⟨Int.le_refl _, by simp [dS]⟩
    | succ n ih =>
      intro h
      have ih := ih (by omega)
      have h1 := smN_get qc (by decide) n
      have hw : 0 ≤ c.getD n 0 * (exF n y : Int) ∧ c.getD n 0 * (exF n y : Int) ≤ 36 := (mulN_bds (A := 12) (B := 3) h1.1 h1.2 (by omega) (by have := ex_le (show n < 10 by omega) hy; omega))
      have h3 := exV_bd hp a hw (exD y n) 3
      rw [dS]
      omega
  refine conW tab_ok [(0, .int p), (1, .arr c), (2, .arr a), (3, .int (y : Nat))] 0 [] [] Tryd.func89 rfl rfl rfl rfl rfl rfl rfl rfl rfl ?_
  refine cR ?_
  iterate 2 refine oBox rfl rfl rfl rfl rfl rfl ?_
  refine oA rfl rfl ?_
  refine oN ?_
  refine cR ?_
  refine oQ (Q_call0 (l06Products_con) rfl rfl rfl) rfl rfl ?_
  refine oAlloc rfl rfl rfl rfl rfl rfl rfl ?_
  refine oA rfl rfl ?_
  first | refine oSw rfl rfl rfl rfl ?_ | refine oSa rfl rfl rfl rfl ?_
  refine oN ?_
  refine CW_seq ?_
  refine cR ?_
  refine oA rfl rfl ?_
  refine oN ?_
  refine CW_block ?_
  refine CW_loop (ι := Nat) (fun n => n ≤ 10) (fun n => ⟨[(0, .int p), (3, .int (y : Nat)), (5, .ptr 0 0), (6, .ptr 1 0), (9, .int (dS p c a y n)), (10, .ptr 2 0), (11, .int (n : Nat))], [(0, .ints 26 c), (1, .ints 35 a), (2, .ints 118 exT)], 3⟩) (fun n => 10 - n) 0 ?_ ?_ ?_
  · first | trivial | omega | (simp; done) | (simp; omega)
  · refine View.mk' [] rfl rfl rfl ?_ ?_
    repeat' first | exact vFn | refine vFc rfl ?_ | exact vHn | refine vHc rfl ?_ | refine vFc (congrArg (fun z => some (V.int z)) ?_) ?_ | refine vHc (congrArg (fun z => some (Blk.ints _ z)) ?_) ?_ | refine vFc (congrArg (fun z => some (V.bool z)) ?_) ?_ | refine vFs rfl rfl ?_ ?_
  intro n hn
  have hS := hSb n hn
  have h1 := smN_get qc (by decide) n
  have hw : 0 ≤ c.getD n 0 * (exF n y : Int) ∧ c.getD n 0 * (exF n y : Int) ≤ 36 := (by by_cases hn9 : n < 10; exact mulN_bds (A := 12) (B := 3) h1.1 h1.2 (by omega) (by have := ex_le hn9 hy; omega); (have hn9 : c.getD n 0 = 0 := (by unfold List.getD; rw [List.getElem?_eq_none (by omega)]; rfl)); rw [hn9]; simp)
  have hV3 := exV_bd hp a hw (exD y n) 3
  refine CW_seq ?_
  refine cR ?_
  refine oM rfl rfl ?_
  refine oQ (Q_bin rfl rfl rfl) rfl rfl ?_
  refine oN ?_
  first | refine cT rfl ?_ | refine cF rfl ?_ | refine CW_cond rfl (fun hc => ?_) (fun hc => ?_)
  all_goals try simp only [s1, s2, s3, s4, s5, s6, s7, s8, s9, s10, s11, s12] at hc
  all_goals try (exfalso; first | omega | (simp at hc; done); done)
  all_goals first
    | (
     refine CW_skip ?_)
    | (
     refine CW_exit ?_)
  all_goals first
    | with_reducible refine tR ?_
    | with_reducible refine tE ?_
    | (
     with_reducible refine tN ?_
     refine CW_seq ?_
     refine CW_block ?_
     refine CW_seq ?_
     refine CW_any (fun i => List.elem i [8]) 9 rfl lateOk (by decide +kernel) (fun hst => ?_)
     refine aP 0 hst rfl rfl (by decide +kernel) (PX_move rfl rfl) rfl rfl ?_
     first | refine aQ 1 hst rfl rfl (by decide +kernel) (QX_of (Ia0 rfl rfl rfl rfl rfl rfl) NE_ix) rfl rfl ?_ | refine aQ 1 hst rfl rfl (by decide +kernel) (QX_of (Ia1 rfl rfl rfl rfl rfl rfl) NE_ix) rfl rfl ?_
     refine aQ 2 hst rfl rfl (by decide +kernel) (QX_of (Ld rfl rfl rfl rfl) NE_load) rfl rfl ?_
     refine aP 3 hst rfl rfl (by decide +kernel) (PX_move rfl rfl) rfl rfl ?_
     (have hn10 : n < 10 := by omega); refine aQ 4 hst rfl rfl (by decide +kernel) (QX_of (Q_ixa0z 3 rfl rfl rfl rfl rfl rfl (by omega)) NE_ix) rfl rfl ?_
     refine aQ 5 hst rfl rfl (by decide +kernel) (QX_of (Q_lda (n := 3) rfl rfl rfl rfl rfl (by omega)) NE_load) rfl rfl ?_; rw [ex_row hn10]
     refine AW_one (i := 6) (by decide +kernel) ?_
     refine gAlloc rfl rfl rfl rfl rfl rfl rfl rfl rfl ?_
     refine aQ 7 hst rfl rfl (by decide +kernel) (QX_of (Q_assign rfl rfl) NE_assign) rfl rfl ?_
     refine AW_last [8] rfl (by decide +kernel) rfl ?_
     first | refine oSw rfl rfl rfl rfl ?_ | refine oSa rfl rfl rfl rfl ?_
     refine OW_nil (npN ?_)
     all_goals with_reducible refine tN ?_
     all_goals (
      refine CW_seq ?_
      refine cR ?_
      refine oM rfl rfl ?_
      refine oQ (Q_bin rfl rfl rfl) rfl rfl ?_
      refine oN ?_
      first | refine cT rfl ?_ | refine cF rfl ?_ | refine CW_cond rfl (fun hc => ?_) (fun hc => ?_)
      all_goals try simp only [s1, s2, s3, s4, s5, s6, s7, s8, s9, s10, s11, s12] at hc
      all_goals try (exfalso; first | omega | (simp at hc; done); done)
      all_goals first
        | (
         refine CW_skip ?_)
        | (
         refine cR ?_
         iterate 2 refine oM rfl rfl ?_
         first | refine oQ (Ia0 rfl rfl rfl rfl rfl rfl) rfl rfl ?_ | refine oQ (Ia1 rfl rfl rfl rfl rfl rfl) rfl rfl ?_
         (have hel := ex_le hn10 hy); refine oQ (Ld rfl rfl rfl rfl) rfl rfl ?_; rw [three_get (exF n) hy]
         refine oMulN 12 3 rfl rfl (by omega) (by omega) (by decide) rfl (fun z32 hz32 hl32 hu32 => ?_)
         refine oA rfl rfl ?_
         refine oN ?_
         refine CW_region ?_
         iterate 2 refine oM rfl rfl ?_
         first | refine oQ (Ia0 rfl rfl rfl rfl rfl rfl) rfl rfl ?_ | refine oQ (Ia1 rfl rfl rfl rfl rfl rfl) rfl rfl ?_
         refine oQ (Ld rfl rfl rfl rfl) rfl rfl ?_; rw [three_get (exF n) hy]
         first | refine oQ (Q_binu rfl rfl rfl (by omega)) rfl rfl ?_ | refine oQ (Q_bin rfl rfl rfl) rfl rfl ?_
         refine oQ (Q_max rfl rfl) rfl rfl ?_
         first | refine oQ (Ia0 rfl rfl rfl rfl rfl rfl) rfl rfl ?_ | refine oQ (Ia1 rfl rfl rfl rfl rfl rfl) rfl rfl ?_
         refine oS rfl rfl rfl rfl rfl ?_
         refine OW_nil ?_)
      all_goals with_reducible refine tN ?_
      all_goals (
       refine CW_seq ?_
       refine cR ?_
       refine oA rfl rfl ?_
       refine oN ?_
       refine CW_block ?_
       refine CW_loop (ι := Nat) (fun k => k ≤ 3) (fun k => ⟨[(0, .int p), (3, .int (y : Nat)), (5, .ptr 0 0), (6, .ptr 1 0), (9, .int (dS p c a y n)), (10, .ptr 2 0), (11, .int (n : Nat)), (12, .int (exV p a (c.getD n 0 * (exF n y : Int)) (exD y n) k)), (13, .ptr 3 0), (14, .int (k : Nat))], [(0, .ints 26 c), (1, .ints 35 a), (2, .ints 118 exT), (3, .ints 31 [(exD y n 0 : Int), (exD y n 1 : Int), (exD y n 2 : Int)])], 4⟩) (fun k => 3 - k) 0 ?_ ?_ ?_
       · first | trivial | omega | (simp; done) | (simp; omega)
       · refine View.mk' [] rfl rfl rfl ?_ ?_
         repeat' first | exact vFn | refine vFc rfl ?_ | exact vHn | refine vHc rfl ?_ | refine vFc (congrArg (fun z => some (V.int z)) ?_) ?_ | refine vHc (congrArg (fun z => some (Blk.ints _ z)) ?_) ?_ | refine vFc (congrArg (fun z => some (V.bool z)) ?_) ?_ | refine vFs rfl rfl ?_ ?_
         all_goals first | (subst hz32; rfl) | (rw [exD_row hy]; done) | skip
       intro k hk
       have hV := exV_bd hp a hw (exD y n) k
       have hak := smN_get qa (by decide) k
       have hEk := fun h : k < 3 => exD_le (y := y) hn10 h
       have hpw := fun h : k < 3 => pw_bd hak (hEk h)
       refine CW_seq ?_
       refine cR ?_
       refine oM rfl rfl ?_
       refine oQ (Q_bin rfl rfl rfl) rfl rfl ?_
       refine oN ?_
       first | refine cT rfl ?_ | refine cF rfl ?_ | refine CW_cond rfl (fun hc => ?_) (fun hc => ?_)
       all_goals try simp only [s1, s2, s3, s4, s5, s6, s7, s8, s9, s10, s11, s12] at hc
       all_goals try (exfalso; first | omega | (simp at hc; done); done)
       all_goals first
         | (
          refine CW_skip ?_)
         | (
          refine CW_exit ?_)
       all_goals first
         | with_reducible refine tR ?_
         | with_reducible refine tE ?_
         | (
          with_reducible refine tN ?_
          refine CW_seq ?_
          refine CW_block ?_
          refine CW_draw lateOk (by decide +kernel) ?_
          iterate 2 refine qM rfl rfl ?_
          first | refine qQ (Ia0 rfl rfl rfl rfl rfl rfl) rfl rfl ?_ | refine qQ (Ia1 rfl rfl rfl rfl rfl rfl) rfl rfl ?_
          refine qQ (Ld rfl rfl rfl rfl) rfl rfl ?_
          refine qM rfl rfl ?_
          first | refine qQ (Ia0 rfl rfl rfl rfl rfl rfl) rfl rfl ?_ | refine qQ (Ia1 rfl rfl rfl rfl rfl rfl) rfl rfl ?_
          (have hk3 : k < 3 := by omega); (have hpw := hpw hk3); refine qQ (Ld rfl rfl rfl rfl) rfl rfl ?_; rw [three_get (exD y n) hk3]
          refine qQ (Q_call0 (l06Power_con _ _ hak (hEk hk3)) rfl rfl rfl) rfl rfl ?_
          refine qMulN 36 1728 rfl rfl (by omega) (by omega) (by decide) rfl (fun z52 hz52 hl52 hu52 => ?_)
          refine qM rfl rfl ?_
          refine qRemN rfl rfl (by omega) (by omega) rfl (fun z54 hz54 hl54 hu54 => ?_)
          refine qA rfl rfl ?_
          refine QW_nil ?_
          all_goals first | with_reducible refine bN ?_ | with_reducible refine bE ?_ | with_reducible refine bR ?_ | refine bX rfl ?_
          all_goals with_reducible refine tN ?_
          all_goals (
           refine CW_region ?_
           refine oM rfl rfl ?_
           first | refine oQ (Q_binu rfl rfl rfl (by omega)) rfl rfl ?_ | refine oQ (Q_bin rfl rfl rfl) rfl rfl ?_
           refine oA rfl rfl ?_
           refine OW_nil ?_))
       all_goals first
         | with_reducible refine tR ?_
         | with_reducible refine tE ?_
         | (
          with_reducible refine tN ?_
          refine ⟨k + 1, ?_, ?_, View.mk' [] rfl rfl rfl ?_ ?_⟩
          · omega
          · omega
          all_goals (repeat' first | exact vFn | refine vFc rfl ?_ | exact vHn | refine vHc rfl ?_ | refine vFc (congrArg (fun z => some (V.int z)) ?_) ?_ | refine vHc (congrArg (fun z => some (Blk.ints _ z)) ?_) ?_ | refine vFc (congrArg (fun z => some (V.bool z)) ?_) ?_ | refine vFs rfl rfl ?_ ?_)
          all_goals subst hz54 hz52
          all_goals rfl)
       all_goals first | with_reducible refine bN ?_ | with_reducible refine bE ?_ | with_reducible refine bR ?_ | refine bX rfl ?_
       all_goals with_reducible refine tN ?_
       all_goals (
        refine CW_region ?_
        (have e : k = 3 := by omega); subst e; refine oM rfl rfl ?_
        refine oM rfl rfl ?_
        first | refine oQ (Q_binu rfl rfl rfl (by omega)) rfl rfl ?_ | refine oQ (Q_bin rfl rfl rfl) rfl rfl ?_
        refine oA rfl rfl ?_
        refine OW_nil ?_)))
     all_goals first | with_reducible refine bN ?_ | with_reducible refine bE ?_ | with_reducible refine bR ?_ | refine bX rfl ?_
     all_goals with_reducible refine tN ?_
     all_goals (
      refine CW_region ?_
      refine oM rfl rfl ?_
      first | refine oQ (Q_binu rfl rfl rfl (by omega)) rfl rfl ?_ | refine oQ (Q_bin rfl rfl rfl) rfl rfl ?_
      refine oA rfl rfl ?_
      refine OW_nil ?_))
  all_goals first
    | with_reducible refine tR ?_
    | with_reducible refine tE ?_
    | (
     with_reducible refine tN ?_
     refine ⟨n + 1, ?_, ?_, View.mk' [] rfl rfl rfl ?_ ?_⟩
     · omega
     · omega
     all_goals (repeat' first | exact vFn | refine vFc rfl ?_ | exact vHn | refine vHc rfl ?_ | refine vFc (congrArg (fun z => some (V.int z)) ?_) ?_ | refine vHc (congrArg (fun z => some (Blk.ints _ z)) ?_) ?_ | refine vFc (congrArg (fun z => some (V.bool z)) ?_) ?_ | refine vFs rfl rfl ?_ ?_)
     all_goals rfl)
  all_goals first | with_reducible refine bN ?_ | with_reducible refine bE ?_ | with_reducible refine bR ?_ | refine bX rfl ?_
  all_goals with_reducible refine tN ?_
  all_goals (
   refine cR ?_
   iterate 2 refine oM rfl rfl ?_
   refine oRemN rfl rfl (by omega) (by omega) rfl (fun z60 hz60 hl60 hu60 => ?_)
   refine oA rfl rfl ?_
   refine oN ?_
   refine CW_ret ?_)
  all_goals (
   have e : n = 10 := by omega
   subst e
   refine exitQ (.inr rfl) 0 (.cons (.tmp rfl rfl) .nil) ?_ rfl vHn rfl rfl
   subst hz60
   rfl)
end Go.Proofs.YtlhlnaehfjojiaaDoor
