/- What the last text of OrderOnCubic needs, part 11: contracts of functions and plain mathematics. No conditions beyond those each theorem states. -/
import Derived.Test.YtcklfkblhmlbbaaDoorBOrderOnCubicJ
namespace Go.Proofs.YtcklfkblhmlbbaaDoor
set_option maxRecDepth 10000
set_option linter.unusedSimpArgs false
set_option linter.unusedVariables false
theorem fill2 {a b : List Int} (ha : a.length = 3) (hb : b.length = 3) : fillI 3 (List.replicate (2 * 3) 0) [(0, V.arr a), (1, V.arr b)] = some (a ++ b) := by
  match a, ha, b, hb with
  | [_, _, _], _, [_, _, _], _ => rfl
theorem okp2 {a b : List Int} (ha : a.length = 3) (hb : b.length = 3) : okParts 3 (2 * 3) [(0, V.arr a), (1, V.arr b)] = true := by
  match a, ha, b, hb with
  | [_, _, _], _, [_, _, _], _ => rfl
theorem allF2 {g : List Int → Bool} {a b : List Int} (ha : a.length = 3) (hb : b.length = 3) : allF g 3 (a ++ b) 2 = (g a && g b) := allF_two ha hb
attribute [local irreducible] CW OW QW QOp Con thenP inBlockP AW QX RW AX
theorem sum_con (p : Int) (c o a b : List Int) (hp : primeB p = true) (hcl : c.length = 10) (qc : smN 12 c) (ho : o ∈ allPts p) (ha : a ∈ allPts p) (hb : b ∈ allPts p) : ConQ Tryd.prog [(0, 2000)] 67 [.arr c, .int p, .arr o, .arr a, .arr b] [(2000, .ro 0 cuT)] (.tuple [.arr (smO p c o a b).1, .bool (smO p c o a b).2]) := by
  have hol := allPts_three ho
  have hal := allPts_three ha
  have hbl := allPts_three hb
  have h1 := third_con p c a b hp hcl qc ha hb
  have hvl := thV_len p c a b
  cases hK : thK p c a b with
  | true =>
    have h2 := third_con p c o (thV p c a b) hp hcl qc ho (thV_mem hK)
    have hvl2 := thV_len p c o (thV p c a b)
    have hs : smO p c o a b = (thV p c o (thV p c a b), thK p c o (thV p c a b)) := by unfold smO; rw [if_pos hK]
    rw [hK] at h1
    rw [hs]
    dsimp only
    generalize thK p c o (thV p c a b) = k2 at *
    generalize thV p c o (thV p c a b) = v2 at *
    generalize thV p c a b = v1 at *
    refine conW tab_ok [(0, .arr c), (1, .int p), (2, .arr o), (3, .arr a), (4, .arr b)] 0 [2000] [] Tryd.func67 rfl rfl rfl rfl rfl rfl rfl rfl rfl ?_
    refine cR ?_
    iterate 4 refine oBox rfl rfl rfl rfl rfl rfl ?_
    refine oAlloc rfl rfl rfl rfl rfl rfl rfl ?_
    refine oA rfl rfl ?_
    refine oN ?_
    refine cR ?_
    first | refine oQ (Lw rfl rfl rfl rfl) rfl rfl ?_ | refine oQ (La rfl rfl rfl rfl rfl) rfl rfl ?_
    refine oM rfl rfl ?_
    first | refine oQ (Lw rfl rfl rfl rfl) rfl rfl ?_ | refine oQ (La rfl rfl rfl rfl rfl) rfl rfl ?_
    first | refine oQ (Lw rfl rfl rfl rfl) rfl rfl ?_ | refine oQ (La rfl rfl rfl rfl rfl) rfl rfl ?_
    refine oQe (Q_call (h1) [] rfl rfl (Fits.mk' (vHc rfl vHn) rfl rfl (by first | (simp; done) | exact glOk rfl rfl rfl)) rfl rfl) (show _ = .tuple [.arr v1, .bool true] from rfl) rfl rfl ?_
    refine oM rfl rfl ?_
    iterate 2 refine oQ (Q_extract rfl rfl) rfl rfl ?_
    refine oAlloc rfl rfl rfl rfl rfl rfl rfl ?_
    first | refine oSw rfl rfl rfl rfl ?_ | refine oSa rfl rfl rfl rfl ?_
    refine oA rfl rfl ?_
    refine oN ?_
    refine CW_seq ?_
    refine cR ?_
    refine oM rfl rfl ?_
    refine oQ (Q_not rfl) rfl rfl ?_
    refine oN ?_
    first | refine cT rfl ?_ | refine cF rfl ?_ | refine CW_cond rfl (fun hc => ?_) (fun hc => ?_)
    all_goals try simp only [s1, s2, s3, s4, s5, s6, s7, s8, s9, s10, s11, s12] at hc
    all_goals try (exfalso; (cases hc; done); done)
    all_goals first
      | (
       refine CW_skip ?_)
      | (
       refine cR ?_
       refine oQ (Q_build rfl rfl rfl rfl rfl rfl rfl rfl) rfl rfl ?_
       first | refine oSw rfl rfl rfl rfl ?_ | refine oSa rfl rfl rfl rfl ?_
       refine oA rfl rfl ?_
       refine oN ?_
       refine CW_ret ?_)
    all_goals first
      | with_reducible refine tR ?_
      | with_reducible refine tE ?_
      | (
       with_reducible refine tN ?_
       refine cR ?_
       first | refine oQ (Lw rfl rfl rfl rfl) rfl rfl ?_ | refine oQ (La rfl rfl rfl rfl rfl) rfl rfl ?_
       refine oM rfl rfl ?_
       first | refine oQ (Lw rfl rfl rfl rfl) rfl rfl ?_ | refine oQ (La rfl rfl rfl rfl rfl) rfl rfl ?_
       first | refine oQ (Lw rfl rfl rfl rfl) rfl rfl ?_ | refine oQ (La rfl rfl rfl rfl rfl) rfl rfl ?_
       refine oQe (Q_call (h2) [] rfl rfl (Fits.mk' (vHc rfl vHn) rfl rfl (by first | (simp; done) | exact glOk rfl rfl rfl)) rfl rfl) (show _ = .tuple [.arr v2, .bool k2] from rfl) rfl rfl ?_
       iterate 2 refine oQ (Q_extract rfl rfl) rfl rfl ?_
       first | refine oSw rfl rfl rfl rfl ?_ | refine oSa rfl rfl rfl rfl ?_
       refine oA rfl rfl ?_
       refine oN ?_
       refine CW_ret ?_)
    all_goals (
     first | ((refine exitQ (.inr rfl) 0 (.cons (.arr rfl rfl rfl rfl (by first | omega | (dsimp only; omega) | (simp; omega) | (simp; done))) (.cons (.tmp rfl rfl) .nil)) ?_ rfl (vHc rfl vHn) rfl rfl); rfl) | (exfalso; simp_all; done))
  | false =>
    have hs : smO p c o a b = ([0, 0, 0], false) := by unfold smO; rw [if_neg (by rw [hK]; decide)]
    rw [hK] at h1
    rw [hs]
    generalize thV p c a b = v1 at *
    refine conW tab_ok [(0, .arr c), (1, .int p), (2, .arr o), (3, .arr a), (4, .arr b)] 0 [2000] [] Tryd.func67 rfl rfl rfl rfl rfl rfl rfl rfl rfl ?_
    refine cR ?_
    iterate 4 refine oBox rfl rfl rfl rfl rfl rfl ?_
    refine oAlloc rfl rfl rfl rfl rfl rfl rfl ?_
    refine oA rfl rfl ?_
    refine oN ?_
    refine cR ?_
    first | refine oQ (Lw rfl rfl rfl rfl) rfl rfl ?_ | refine oQ (La rfl rfl rfl rfl rfl) rfl rfl ?_
    refine oM rfl rfl ?_
    first | refine oQ (Lw rfl rfl rfl rfl) rfl rfl ?_ | refine oQ (La rfl rfl rfl rfl rfl) rfl rfl ?_
    first | refine oQ (Lw rfl rfl rfl rfl) rfl rfl ?_ | refine oQ (La rfl rfl rfl rfl rfl) rfl rfl ?_
    refine oQe (Q_call (h1) [] rfl rfl (Fits.mk' (vHc rfl vHn) rfl rfl (by first | (simp; done) | exact glOk rfl rfl rfl)) rfl rfl) (show _ = .tuple [.arr v1, .bool false] from rfl) rfl rfl ?_
    refine oM rfl rfl ?_
    iterate 2 refine oQ (Q_extract rfl rfl) rfl rfl ?_
    refine oAlloc rfl rfl rfl rfl rfl rfl rfl ?_
    first | refine oSw rfl rfl rfl rfl ?_ | refine oSa rfl rfl rfl rfl ?_
    refine oA rfl rfl ?_
    refine oN ?_
    refine CW_seq ?_
    refine cR ?_
    refine oM rfl rfl ?_
    refine oQ (Q_not rfl) rfl rfl ?_
    refine oN ?_
    first | refine cT rfl ?_ | refine cF rfl ?_ | refine CW_cond rfl (fun hc => ?_) (fun hc => ?_)
    all_goals try simp only [s1, s2, s3, s4, s5, s6, s7, s8, s9, s10, s11, s12] at hc
    all_goals try (exfalso; (cases hc; done); done)
    all_goals first
      | (
       refine CW_skip ?_)
      | (
       refine cR ?_
       refine oQ (Q_build rfl rfl rfl rfl rfl rfl rfl rfl) rfl rfl ?_
       first | refine oSw rfl rfl rfl rfl ?_ | refine oSa rfl rfl rfl rfl ?_
       refine oA rfl rfl ?_
       refine oN ?_
       refine CW_ret ?_)
    all_goals first
      | with_reducible refine tR ?_
      | with_reducible refine tE ?_
      | (
       with_reducible refine tN ?_
       refine cR ?_
       first | refine oQ (Lw rfl rfl rfl rfl) rfl rfl ?_ | refine oQ (La rfl rfl rfl rfl rfl) rfl rfl ?_
       refine oM rfl rfl ?_
       first | refine oQ (Lw rfl rfl rfl rfl) rfl rfl ?_ | refine oQ (La rfl rfl rfl rfl rfl) rfl rfl ?_
       (exfalso; simp_all; done)
       fail "call of (loop.example/g01310/impl.Cubic).third at slot 29"
       iterate 2 refine oQ (Q_extract rfl rfl) rfl rfl ?_
       first | refine oSw rfl rfl rfl rfl ?_ | refine oSa rfl rfl rfl rfl ?_
       refine oA rfl rfl ?_
       refine oN ?_
       refine CW_ret ?_)
    all_goals (
     first | ((refine exitQ (.inr rfl) 0 (.cons (.arr rfl rfl rfl rfl (by first | omega | (dsimp only; omega) | (simp; omega) | (simp; done))) (.cons (.tmp rfl rfl) .nil)) ?_ rfl (vHc rfl vHn) rfl rfl); rfl) | (exfalso; simp_all; done))
theorem l06Add_con (p : Int) (c o a b : List Int) (hp : primeB p = true) (hcl : c.length = 10) (qc : smN 12 c) (ho : o ∈ allPts p) (ha : a ∈ allPts p) (hb : b ∈ allPts p) : ConQ Tryd.prog [] 66 [.int p, .arr c, .arr o, .arr a, .arr b] [] (.tuple [.arr (smO p c o a b).1, .bool (smO p c o a b).2]) := by
  have hol := allPts_three ho
  have hal := allPts_three ha
  have hbl := allPts_three hb
  have h1 := l06Third_con p c a b hp hcl qc ha hb
  have hvl := thV_len p c a b
  cases hK : thK p c a b with
  | true =>
    have h2 := l06Third_con p c o (thV p c a b) hp hcl qc ho (thV_mem hK)
    have hvl2 := thV_len p c o (thV p c a b)
    have hs : smO p c o a b = (thV p c o (thV p c a b), thK p c o (thV p c a b)) := by unfold smO; rw [if_pos hK]
    rw [hK] at h1
    rw [hs]
    dsimp only
    generalize thK p c o (thV p c a b) = k2 at *
    generalize thV p c o (thV p c a b) = v2 at *
    generalize thV p c a b = v1 at *
    refine conW tab_ok [(0, .int p), (1, .arr c), (2, .arr o), (3, .arr a), (4, .arr b)] 0 [] [] Tryd.func66 rfl rfl rfl rfl rfl rfl rfl rfl rfl ?_
    refine cR ?_
    iterate 4 refine oBox rfl rfl rfl rfl rfl rfl ?_
    refine oAlloc rfl rfl rfl rfl rfl rfl rfl ?_
    refine oA rfl rfl ?_
    refine oN ?_
    refine cR ?_
    refine oM rfl rfl ?_
    first | refine oQ (Lw rfl rfl rfl rfl) rfl rfl ?_ | refine oQ (La rfl rfl rfl rfl rfl) rfl rfl ?_
    first | refine oQ (Lw rfl rfl rfl rfl) rfl rfl ?_ | refine oQ (La rfl rfl rfl rfl rfl) rfl rfl ?_
    first | refine oQ (Lw rfl rfl rfl rfl) rfl rfl ?_ | refine oQ (La rfl rfl rfl rfl rfl) rfl rfl ?_
    refine oQe (Q_call (h1) [] rfl rfl (Fits.mk' vHn rfl rfl (by first | (simp; done) | exact glOk rfl rfl rfl)) rfl rfl) (show _ = .tuple [.arr v1, .bool true] from rfl) rfl rfl ?_
    refine oM rfl rfl ?_
    iterate 2 refine oQ (Q_extract rfl rfl) rfl rfl ?_
    refine oAlloc rfl rfl rfl rfl rfl rfl rfl ?_
    first | refine oSw rfl rfl rfl rfl ?_ | refine oSa rfl rfl rfl rfl ?_
    refine oA rfl rfl ?_
    refine oN ?_
    refine CW_seq ?_
    refine cR ?_
    refine oM rfl rfl ?_
    refine oQ (Q_not rfl) rfl rfl ?_
    refine oN ?_
    first | refine cT rfl ?_ | refine cF rfl ?_ | refine CW_cond rfl (fun hc => ?_) (fun hc => ?_)
    all_goals try simp only [s1, s2, s3, s4, s5, s6, s7, s8, s9, s10, s11, s12] at hc
    all_goals try (exfalso; (cases hc; done); done)
    all_goals first
      | (
       refine CW_skip ?_)
      | (
       refine cR ?_
       refine oQ (Q_build rfl rfl rfl rfl rfl rfl rfl rfl) rfl rfl ?_
       first | refine oSw rfl rfl rfl rfl ?_ | refine oSa rfl rfl rfl rfl ?_
       refine oA rfl rfl ?_
       refine oN ?_
       refine CW_ret ?_)
    all_goals first
      | with_reducible refine tR ?_
      | with_reducible refine tE ?_
      | (
       with_reducible refine tN ?_
       refine cR ?_
       refine oM rfl rfl ?_
       first | refine oQ (Lw rfl rfl rfl rfl) rfl rfl ?_ | refine oQ (La rfl rfl rfl rfl rfl) rfl rfl ?_
       first | refine oQ (Lw rfl rfl rfl rfl) rfl rfl ?_ | refine oQ (La rfl rfl rfl rfl rfl) rfl rfl ?_
       first | refine oQ (Lw rfl rfl rfl rfl) rfl rfl ?_ | refine oQ (La rfl rfl rfl rfl rfl) rfl rfl ?_
       refine oQe (Q_call (h2) [] rfl rfl (Fits.mk' vHn rfl rfl (by first | (simp; done) | exact glOk rfl rfl rfl)) rfl rfl) (show _ = .tuple [.arr v2, .bool k2] from rfl) rfl rfl ?_
       iterate 2 refine oQ (Q_extract rfl rfl) rfl rfl ?_
       first | refine oSw rfl rfl rfl rfl ?_ | refine oSa rfl rfl rfl rfl ?_
       refine oA rfl rfl ?_
       refine oN ?_
       refine CW_ret ?_)
    all_goals (
     first | ((refine exitQ (.inr rfl) 0 (.cons (.arr rfl rfl rfl rfl (by first | omega | (dsimp only; omega) | (simp; omega) | (simp; done))) (.cons (.tmp rfl rfl) .nil)) ?_ rfl vHn rfl rfl); rfl) | (exfalso; simp_all; done))
  | false =>
    have hs : smO p c o a b = ([0, 0, 0], false) := by unfold smO; rw [if_neg (by rw [hK]; decide)]
    rw [hK] at h1
    rw [hs]
    generalize thV p c a b = v1 at *
    refine conW tab_ok [(0, .int p), (1, .arr c), (2, .arr o), (3, .arr a), (4, .arr b)] 0 [] [] Tryd.func66 rfl rfl rfl rfl rfl rfl rfl rfl rfl ?_
    refine cR ?_
    iterate 4 refine oBox rfl rfl rfl rfl rfl rfl ?_
    refine oAlloc rfl rfl rfl rfl rfl rfl rfl ?_
    refine oA rfl rfl ?_
    refine oN ?_
    refine cR ?_
    refine oM rfl rfl ?_
    first | refine oQ (Lw rfl rfl rfl rfl) rfl rfl ?_ | refine oQ (La rfl rfl rfl rfl rfl) rfl rfl ?_
    first | refine oQ (Lw rfl rfl rfl rfl) rfl rfl ?_ | refine oQ (La rfl rfl rfl rfl rfl) rfl rfl ?_
    first | refine oQ (Lw rfl rfl rfl rfl) rfl rfl ?_ | refine oQ (La rfl rfl rfl rfl rfl) rfl rfl ?_
    refine oQe (Q_call (h1) [] rfl rfl (Fits.mk' vHn rfl rfl (by first | (simp; done) | exact glOk rfl rfl rfl)) rfl rfl) (show _ = .tuple [.arr v1, .bool false] from rfl) rfl rfl ?_
    refine oM rfl rfl ?_
    iterate 2 refine oQ (Q_extract rfl rfl) rfl rfl ?_
    refine oAlloc rfl rfl rfl rfl rfl rfl rfl ?_
    first | refine oSw rfl rfl rfl rfl ?_ | refine oSa rfl rfl rfl rfl ?_
    refine oA rfl rfl ?_
    refine oN ?_
    refine CW_seq ?_
    refine cR ?_
    refine oM rfl rfl ?_
    refine oQ (Q_not rfl) rfl rfl ?_
    refine oN ?_
    first | refine cT rfl ?_ | refine cF rfl ?_ | refine CW_cond rfl (fun hc => ?_) (fun hc => ?_)
    all_goals try simp only [s1, s2, s3, s4, s5, s6, s7, s8, s9, s10, s11, s12] at hc
    all_goals try (exfalso; (cases hc; done); done)
    all_goals first
      | (
       refine CW_skip ?_)
      | (
       refine cR ?_
       refine oQ (Q_build rfl rfl rfl rfl rfl rfl rfl rfl) rfl rfl ?_
       first | refine oSw rfl rfl rfl rfl ?_ | refine oSa rfl rfl rfl rfl ?_
       refine oA rfl rfl ?_
       refine oN ?_
       refine CW_ret ?_)
    all_goals first
      | with_reducible refine tR ?_
      | with_reducible refine tE ?_
      | (
       with_reducible refine tN ?_
       refine cR ?_
       refine oM rfl rfl ?_
       first | refine oQ (Lw rfl rfl rfl rfl) rfl rfl ?_ | refine oQ (La rfl rfl rfl rfl rfl) rfl rfl ?_
       first | refine oQ (Lw rfl rfl rfl rfl) rfl rfl ?_ | refine oQ (La rfl rfl rfl rfl rfl) rfl rfl ?_
       (exfalso; simp_all; done)
       fail "call of loop.example/g01310/spec.l06Third at slot 29"
       iterate 2 refine oQ (Q_extract rfl rfl) rfl rfl ?_
       first | refine oSw rfl rfl rfl rfl ?_ | refine oSa rfl rfl rfl rfl ?_
       refine oA rfl rfl ?_
       refine oN ?_
       refine CW_ret ?_)
    all_goals (
     first | ((refine exitQ (.inr rfl) 0 (.cons (.arr rfl rfl rfl rfl (by first | omega | (dsimp only; omega) | (simp; omega) | (simp; done))) (.cons (.tmp rfl rfl) .nil)) ?_ rfl vHn rfl rfl); rfl) | (exfalso; simp_all; done))
end Go.Proofs.YtcklfkblhmlbbaaDoor
namespace Go.Proofs.YtcklfkblhmlbbaaDoor
set_option linter.unusedVariables false
set_option linter.unusedSimpArgs false
set_option linter.unusedSectionVars false
open Lean.Grind
section
variable {n : Nat} [NeZero n]
def eF (n : Nat) [NeZero n] (c a b : List Int) (j : Nat) : Fin n := ic (cuS c a b j 80)
theorem e_lin (c : List Int) {a b u v : List Int} {s t x y : Fin n} (ha : ∀ k, k < 3 → icL a k = s * icL u k + t * icL v k) (hb : ∀ k, k < 3 → icL b k = x * icL u k + y * icL v k) :
    eF n c a b 0 = cf0 (eF n c u v 0) (eF n c u v 1) (eF n c u v 2) (eF n c u v 3) s t x y ∧ eF n c a b 1 = cf1 (eF n c u v 0) (eF n c u v 1) (eF n c u v 2) (eF n c u v 3) s t x y ∧
    eF n c a b 2 = cf2 (eF n c u v 0) (eF n c u v 1) (eF n c u v 2) (eF n c u v 3) s t x y ∧ eF n c a b 3 = cf3 (eF n c u v 0) (eF n c u v 1) (eF n c u v 2) (eF n c u v 3) s t x y := al_lin c ha hb
theorem e_al (c a b : List Int) {j : Nat} (hj : j < 4) : (ic ((alV (n : Int) c a b 80).getD j 0) : Fin n) = eF n c a b j ∧ ((alV (n : Int) c a b 80).getD j 0 = 0 ↔ eF n c a b j = 0) := by
  have e : (alV (n : Int) c a b 80).getD j 0 = cuS c a b j 80 % (n : Int) := by
    have h : j = 0 ∨ j = 1 ∨ j = 2 ∨ j = 3 := by omega
    rcases h with rfl | rfl | rfl | rfl <;> rfl
  rw [e]
  exact ⟨ic_mod n _, (ic_z (R := Fin n) n).symm⟩
theorem al_zero (c a b : List Int) : alV (n : Int) c a b 80 = [0, 0, 0, 0] ↔ eF n c a b 0 = 0 ∧ eF n c a b 1 = 0 ∧ eF n c a b 2 = 0 ∧ eF n c a b 3 = 0 := by
  have h0 := (e_al (n := n) c a b (j := 0) (by decide)).2
  have h1 := (e_al (n := n) c a b (j := 1) (by decide)).2
  have h2 := (e_al (n := n) c a b (j := 2) (by decide)).2
  have h3 := (e_al (n := n) c a b (j := 3) (by decide)).2
  rw [← h0, ← h1, ← h2, ← h3]
  simp only [alV, List.getD_cons_zero, List.getD_cons_succ, List.cons.injEq, and_true]
theorem D_nz2 (hp : primeB (n : Int) = true) {u v a b : List Int} (ha : a ∈ allPts (n : Int)) (hb : b ∈ allPts (n : Int)) (hne : a ≠ b) {s t x y : Fin n}
    (hA : ∀ k, k < 3 → (icL a k : Fin n) = s * icL u k + t * icL v k) (hB : ∀ k, k < 3 → (icL b k : Fin n) = x * icL u k + y * icL v k) : t * x - s * y ≠ (0 : Fin n) := by
  intro e
  obtain ⟨m, hm, hm0⟩ := cross_nz hp ha hb hne
  refine (nz_iff (n := n)).1 hm0 ?_
  have a0 := hA 0 (by decide)
  have a1 := hA 1 (by decide)
  have a2 := hA 2 (by decide)
  have b0 := hB 0 (by decide)
  have b1 := hB 1 (by decide)
  have b2 := hB 2 (by decide)
  simp only [icL] at a0 a1 a2 b0 b1 b2
  simp only [List.mem_cons, List.not_mem_nil, or_false] at hm
  rcases hm with rfl | rfl | rfl <;> simp only [ic_sub, ic_mul, a0, a1, a2, b0, b1, b2] <;> grind
theorem dec (hd : Dom (Fin n)) (hp : primeB (n : Int) = true) {l : List Int} (hl : l ∈ allPts (n : Int)) {u v a : List Int} (hu : u ∈ lnV (n : Int) l) (hv : v ∈ lnV (n : Int) l) (ha : a ∈ lnV (n : Int) l) (hne : u ≠ v) :
    ∃ s t : Fin n, (∀ k, k < 3 → icL a k = s * icL u k + t * icL v k) ∧ (a ≠ u → t ≠ 0) ∧ (a ≠ v → s ≠ 0) := by
  obtain ⟨s, t, _, _, hm⟩ := ln_parts hd hp hl hu hv ha hne
  obtain ⟨f, hf, _, hA⟩ := ptM_ic hm hd hp
  have hA' : ∀ k, k < 3 → (icL a k : Fin n) = (ic f * ic (s : Int)) * icL u k + (ic f * ic (t : Int)) * icL v k := fun k hk => by rw [hA k hk]; grind
  refine ⟨_, _, hA', fun h e => ?_, fun h e => ?_⟩
  · exact D_nz2 hp (lnV_mem ha).1 (lnV_mem hu).1 h hA' (x := 1) (y := 0) (fun k hk => by grind) (by rw [e]; grind)
  · exact D_nz2 hp (lnV_mem ha).1 (lnV_mem hv).1 h hA' (x := 0) (y := 1) (fun k hk => by grind) (by rw [e]; grind)
/-- a line on which the cubic is 0 everywhere -/
theorem all_zero (hd : Dom (Fin n)) (hp : primeB (n : Int) = true) (c : List Int) {l : List Int} (hl : l ∈ allPts (n : Int)) {u v a b : List Int} (hu : u ∈ lnV (n : Int) l) (hv : v ∈ lnV (n : Int) l) (ha : a ∈ lnV (n : Int) l) (hb : b ∈ lnV (n : Int) l) (hne : u ≠ v)
    (h0 : eF n c u v 0 = 0) (h1 : eF n c u v 1 = 0) (h2 : eF n c u v 2 = 0) (h3 : eF n c u v 3 = 0) : eF n c a b 0 = 0 ∧ eF n c a b 1 = 0 ∧ eF n c a b 2 = 0 ∧ eF n c a b 3 = 0 := by
  obtain ⟨s, t, hA, _, _⟩ := dec hd hp hl hu hv ha hne
  obtain ⟨x, y, hB, _, _⟩ := dec hd hp hl hu hv hb hne
  obtain ⟨e0, e1, e2, e3⟩ := e_lin c hA hB
  rw [e0, e1, e2, e3, h0, h1, h2, h3]
  unfold cf0 cf1 cf2 cf3 cf1 cf0
  refine ⟨?_, ?_, ?_, ?_⟩ <;> grind
theorem two_pts (hp : primeB (n : Int) = true) {l : List Int} (hl : l ∈ allPts (n : Int)) : (lnV (n : Int) l).getD 0 [] ∈ lnV (n : Int) l ∧ (lnV (n : Int) l).getD 1 [] ∈ lnV (n : Int) l ∧ (lnV (n : Int) l).getD 0 [] ≠ (lnV (n : Int) l).getD 1 [] := by
  have hlen := lnV_len hp hl
  have hb := prime_bd hp
  exact ⟨lnV_get (by omega), lnV_get (by omega), lnV_ne hp (by omega) (by omega) (by decide)⟩
theorem me_true (hd : Dom (Fin n)) (hp : primeB (n : Int) = true) (c : List Int) {l : List Int} (hl : l ∈ allPts (n : Int)) {u v : List Int} (hu : u ∈ lnV (n : Int) l) (hv : v ∈ lnV (n : Int) l) (hne : u ≠ v)
    (h0 : eF n c u v 0 = 0) (h1 : eF n c u v 1 = 0) (h2 : eF n c u v 2 = 0) (h3 : eF n c u v 3 = 0) : meB (n : Int) c l = true := by
  obtain ⟨k0, k1, _⟩ := two_pts hp hl
  have h := all_zero hd hp c hl hu hv k0 k1 hne h0 h1 h2 h3
  unfold meB prB
  rw [beq_iff_eq]
  exact (al_zero c _ _).2 h
theorem me_zero (hd : Dom (Fin n)) (hp : primeB (n : Int) = true) (c : List Int) {l : List Int} (hl : l ∈ allPts (n : Int)) (hm : meB (n : Int) c l = true) {a b : List Int} (ha : a ∈ lnV (n : Int) l) (hb : b ∈ lnV (n : Int) l) : eF n c a b 0 = 0 ∧ eF n c a b 1 = 0 ∧ eF n c a b 2 = 0 ∧ eF n c a b 3 = 0 := by
  obtain ⟨k0, k1, k2⟩ := two_pts hp hl
  unfold meB prB at hm
  rw [beq_iff_eq] at hm
  obtain ⟨z0, z1, z2, z3⟩ := (al_zero c _ _).1 hm
  exact all_zero hd hp c hl k0 k1 ha hb k2 z0 z1 z2 z3
/-! ### values and derivatives -/
theorem on_cub (c : List Int) {a : List Int} (ha : a.length = 3) (b : List Int) : cuG (n : Int) c a = true ↔ eF n c a b 0 = 0 := by
  rw [← (e_al (n := n) c a b (j := 0) (by decide)).2, alV_at (n : Int) c a b ha]
  simp [cuG]
theorem e_der (c a b : List Int) : eF n c a b 1 = icL b 0 * eF n c a (unitL 0) 1 + icL b 1 * eF n c a (unitL 1) 1 + icL b 2 * eF n c a (unitL 2) 1 := by
  have e := fun (w : List Int) => cuS_ic (R := Fin n) c a w (j := 1) (by decide) 10
  unfold eF
  rw [show (80 : Nat) = 10 * 8 from rfl, e b, e (unitL 0), e (unitL 1), e (unitL 2)]
  have hB : ∀ f, f < 3 → (icL b f : Fin n) = icL b 0 * icL (unitL 0) f + icL b 1 * icL (unitL 1) f + icL b 2 * icL (unitL 2) f := fun f hf => by
    have i1 : (ic 1 : Fin n) = 1 := Ring.intCast_one
    have i0 : (ic 0 : Fin n) = 0 := ic_zero
    have h : f = 0 ∨ f = 1 ∨ f = 2 := by omega
    rcases h with rfl | rfl | rfl
    · have a1 : (icL (unitL 0) 0 : Fin n) = 1 := i1
      have a2 : (icL (unitL 1) 0 : Fin n) = 0 := i0
      have a3 : (icL (unitL 2) 0 : Fin n) = 0 := i0
      rw [a1, a2, a3]; grind
    · have a1 : (icL (unitL 0) 1 : Fin n) = 0 := i0
      have a2 : (icL (unitL 1) 1 : Fin n) = 1 := i1
      have a3 : (icL (unitL 2) 1 : Fin n) = 0 := i0
      rw [a1, a2, a3]; grind
    · have a1 : (icL (unitL 0) 2 : Fin n) = 0 := i0
      have a2 : (icL (unitL 1) 2 : Fin n) = 0 := i0
      have a3 : (icL (unitL 2) 2 : Fin n) = 1 := i1
      rw [a1, a2, a3]; grind
  have h := sR_lin (C := icL c) (e := eR 1 (icL a) (icL b)) (e0 := eR 1 (icL a) (icL (unitL 0))) (e1 := eR 1 (icL a) (icL (unitL 1))) (e2 := eR 1 (icL a) (icL (unitL 2))) (e3 := eR 1 (icL a) (icL (unitL 2))) (k0 := (icL b 0 : Fin n)) (k1 := icL b 1) (k2 := icL b 2) (k3 := 0) (fun m hm => by
    have f0 := hB _ (cu_lt hm (show 0 < 3 by decide))
    have f1 := hB _ (cu_lt hm (show 1 < 3 by decide))
    have f2 := hB _ (cu_lt hm (show 2 < 3 by decide))
    simp only [eR, tr1]
    rw [f0, f1, f2]
    grind) 10 (Nat.le_refl _)
  rw [h]
  grind
theorem e_unit (c : List Int) {a : List Int} (ha : a.length = 3) {w : Nat} (hw : w < 3) : eF n c a (unitL w) 1 = ic (cuD (n : Int) c a w) := by
  rw [← alV_d (n : Int) c a w hw ha]
  exact (e_al c a (unitL w) (by decide)).1.symm
theorem e_der2 (c : List Int) {a : List Int} (ha : a.length = 3) (b : List Int) : eF n c a b 1 = icL b 0 * ic (cuD (n : Int) c a 0) + icL b 1 * ic (cuD (n : Int) c a 1) + icL b 2 * ic (cuD (n : Int) c a 2) := by
  rw [e_der, e_unit c ha (by decide), e_unit c ha (by decide), e_unit c ha (by decide)]
/-- on the tangent -/
theorem on_tan (hp : primeB (n : Int) = true) (c : List Int) {a b : List Int} (ha : a.length = 3) (hb : b.length = 3) (hk : okT (n : Int) c a = true) : onB (n : Int) b (tgL (n : Int) c a) = true ↔ eF n c a b 1 = 0 := by
  simp only [okT, Bool.and_eq_true, bne_iff_ne] at hk
  have hz : fnz ((slL (n : Int) c a).map (· % (n : Int))) ≠ 0 := fun e => hk.1 ((fac_zero hp _).2 e)
  match b, hb with
  | [b0, b1, b2], _ =>
    unfold tgL slL
    rw [on_norm (fac_inv hp hz), e_der2 c ha, ← ic_z (R := Fin n) n]
    simp only [icL, List.getD_cons_zero, List.getD_cons_succ, ic_add, ic_mul]
theorem flat_der (c : List Int) {a : List Int} (ha : a.length = 3) (h : facP (n : Int) (slL (n : Int) c a) = 0) (hp : primeB (n : Int) = true) (b : List Int) : eF n c a b 1 = 0 := by
  have h1 := sl_zero hp c a
  rw [h] at h1
  have h2 : slL (n : Int) c a = [0, 0, 0] := by simpa using h1.symm
  simp only [slL, List.cons.injEq, and_true] at h2
  rw [e_der2 c ha, h2.1, h2.2.1, h2.2.2, ic_zero]
  grind
/-! ### counts -/
theorem cn_pos (c : List Int) {L : List (List Int)} {i : Nat} (h : eF n c (L.getD i []) (L.getD ((i + 1) % L.length) []) 0 = 0) : 1 ≤ cnF (n : Int) c L i := by
  have h0 := (e_al (n := n) c (L.getD i []) (L.getD ((i + 1) % L.length) []) (j := 0) (by decide)).2.2 h
  unfold cnF
  rcases lead_cases (alV (n : Int) c (L.getD i []) (L.getD ((i + 1) % L.length) []) 80) with ⟨a, e⟩ | ⟨a, b, e⟩ | ⟨a, b, d, e⟩ | ⟨a, b, d, e⟩ <;> first | omega | exact absurd h0 a
theorem cn_two (c : List Int) {L : List (List Int)} {i : Nat} (h : eF n c (L.getD i []) (L.getD ((i + 1) % L.length) []) 0 = 0) (h' : eF n c (L.getD i []) (L.getD ((i + 1) % L.length) []) 1 = 0) : 2 ≤ cnF (n : Int) c L i := by
  have h0 := (e_al (n := n) c (L.getD i []) (L.getD ((i + 1) % L.length) []) (j := 0) (by decide)).2.2 h
  have h1 := (e_al (n := n) c (L.getD i []) (L.getD ((i + 1) % L.length) []) (j := 1) (by decide)).2.2 h'
  unfold cnF
  rcases lead_cases (alV (n : Int) c (L.getD i []) (L.getD ((i + 1) % L.length) []) 80) with ⟨a, e⟩ | ⟨a, b, e⟩ | ⟨a, b, d, e⟩ | ⟨a, b, d, e⟩ <;> first | omega | exact absurd h0 a | exact absurd h1 b
theorem cn_thr (c : List Int) {L : List (List Int)} {i : Nat} (h : eF n c (L.getD i []) (L.getD ((i + 1) % L.length) []) 0 = 0) (h' : eF n c (L.getD i []) (L.getD ((i + 1) % L.length) []) 1 = 0) (h'' : eF n c (L.getD i []) (L.getD ((i + 1) % L.length) []) 2 = 0) : 3 ≤ cnF (n : Int) c L i := by
  have h0 := (e_al (n := n) c (L.getD i []) (L.getD ((i + 1) % L.length) []) (j := 0) (by decide)).2.2 h
  have h1 := (e_al (n := n) c (L.getD i []) (L.getD ((i + 1) % L.length) []) (j := 1) (by decide)).2.2 h'
  have h2 := (e_al (n := n) c (L.getD i []) (L.getD ((i + 1) % L.length) []) (j := 2) (by decide)).2.2 h''
  unfold cnF
  rcases lead_cases (alV (n : Int) c (L.getD i []) (L.getD ((i + 1) % L.length) []) 80) with ⟨a, e⟩ | ⟨a, b, e⟩ | ⟨a, b, d, e⟩ | ⟨a, b, d, e⟩ <;> first | omega | exact absurd h0 a | exact absurd h1 b | exact absurd h2 d
theorem cn_on (c : List Int) {L : List (List Int)} {i : Nat} (h3 : (L.getD i []).length = 3) (h : 0 < cnF (n : Int) c L i) : cuG (n : Int) c (L.getD i []) = true := by
  rw [on_cub c h3 (L.getD ((i + 1) % L.length) []), ← (e_al (n := n) c (L.getD i []) (L.getD ((i + 1) % L.length) []) (j := 0) (by decide)).2]
  unfold cnF at h
  rcases lead_cases (alV (n : Int) c (L.getD i []) (L.getD ((i + 1) % L.length) []) 80) with ⟨a, e⟩ | ⟨a, b, e⟩ | ⟨a, b, d, e⟩ | ⟨a, b, d, e⟩ <;> first | omega | exact a
theorem m_idx {p : Int} {c : List Int} {L : List (List Int)} {j : Nat} (h0 : 0 < cnF p c L j) : ∀ {m : Nat}, j < m → ∃ q, q < (mPts p c L m).length ∧ (mPts p c L m).getD q [] = L.getD j [] ∧ (mCts p c L m).getD q 0 = (cnF p c L j : Int)
  | 0, h => by omega
  | m + 1, hj => by
    have hl := mCts_len p c L m
    by_cases e : j = m
    · subst e
      refine ⟨(mPts p c L j).length, ?_, ?_, ?_⟩
      · rw [mPts, if_pos h0]; simp
      · rw [mPts, if_pos h0]; simp [List.getD]
      · rw [mCts, if_pos h0, ← hl]; simp [List.getD]
    · obtain ⟨q, h1, h2, h3⟩ := m_idx h0 (m := m) (by omega)
      refine ⟨q, ?_, ?_, ?_⟩
      · rw [mPts, List.length_append]; omega
      · rw [← h2, mPts]; simp [List.getD, List.getElem?_append, h1]
      · rw [← h3, mCts]; simp [List.getD, List.getElem?_append, show q < (mCts p c L m).length by omega]
theorem ln_ix {p : Int} {l a : List Int} (h : a ∈ lnV p l) : ∃ i, i < (lnV p l).length ∧ (lnV p l).getD i [] = a := by
  obtain ⟨i, hi, rfl⟩ := List.getElem_of_mem h
  exact ⟨i, hi, by simp [List.getD, hi]⟩
theorem onB_comm (p : Int) {a b : List Int} (ha : a.length = 3) (hb : b.length = 3) : onB p a b = onB p b a := by
  match a, ha, b, hb with
  | [a0, a1, a2], _, [b0, b1, b2], _ =>
    rw [Bool.eq_iff_iff, onB_iff, onB_iff]
    have e : a0 * b0 + a1 * b1 + a2 * b2 = b0 * a0 + b1 * a1 + b2 * a2 := by grind
    rw [e]
theorem det_self1 (a b : List Int) : detT a a b = 0 := by unfold detT; grind
theorem det_self2 (a b : List Int) : detT b a b = 0 := by unfold detT; grind
/-- no line through a cubic that has a flex is part of it -/
theorem no_line (hd : Dom (Fin n)) (hp : primeB (n : Int) = true) (c : List Int) {o l : List Int} (ho : o ∈ allPts (n : Int)) (hf : flB (n : Int) c o = true) (hl : l ∈ allPts (n : Int)) : meB (n : Int) c l = false := by
  simp only [flB, Bool.and_eq_true, Bool.not_eq_true', decide_eq_true_eq] at hf
  obtain ⟨⟨⟨hk, hz⟩, hP⟩, hC⟩ := hf
  have ht := tgL_mem hp hk
  rw [Bool.eq_false_iff]
  intro hm
  have hlt : l ≠ tgL (n : Int) c o := fun e => by rw [e, hz] at hm; cases hm
  have hfc : facP (n : Int) (crossT l (tgL (n : Int) c o)) ≠ 0 := fun e => fnz_ne (l := crossT l (tgL (n : Int) c o)) (cross_nz hp hl ht hlt) ((fac_zero hp _).1 e)
  have hq := norm_mem hp (l := crossT l (tgL (n : Int) c o)) rfl hfc
  have hl3 := allPts_three hl
  have ht3 := allPts_three ht
  have hq3 := allPts_three hq
  have q1 : onB (n : Int) (normL (n : Int) (crossT l (tgL (n : Int) c o))) l = true := by
    rw [onB_comm _ hq3 hl3]
    exact (join_on hp hl ht hlt hl3).2 (by rw [det_self1]; simp)
  have q2 : onB (n : Int) (normL (n : Int) (crossT l (tgL (n : Int) c o))) (tgL (n : Int) c o) = true := by
    rw [onB_comm _ hq3 ht3]
    exact (join_on hp hl ht hlt ht3).2 (by rw [det_self2]; simp)
  generalize normL (n : Int) (crossT l (tgL (n : Int) c o)) = q at *
  have ql : q ∈ lnV (n : Int) l := List.mem_filter.2 ⟨hq, q1⟩
  have qt : q ∈ lnV (n : Int) (tgL (n : Int) c o) := List.mem_filter.2 ⟨hq, q2⟩
  -- q is o
  have hqc := (me_zero hd hp c hl hm ql ql).1
  have hqo : q = o := by
    obtain ⟨i, hi, he⟩ := ln_ix qt
    have h1 : 1 ≤ cnF (n : Int) c (lnV (n : Int) (tgL (n : Int) c o)) i := by
      refine cn_pos c ?_
      rw [he]
      exact (on_cub c hq3 _).1 ((on_cub c hq3 q).2 hqc)
    obtain ⟨k, k1, k2, _⟩ := m_idx (show 0 < cnF (n : Int) c (lnV (n : Int) (tgL (n : Int) c o)) i from h1) hi
    have h2 : (mePts (n : Int) c (tgL (n : Int) c o)).getD k [] = q := by rw [← he]; exact k2
    have h3 : k < (mePts (n : Int) c (tgL (n : Int) c o)).length := k1
    rw [hP] at h2 h3
    have : k = 0 := by simpa using h3
    subst this
    exact h2.symm
  subst hqo
  -- the line's points lie on the tangent
  obtain ⟨k0, k1, kne⟩ := two_pts hp hl
  have onT : ∀ b, b ∈ lnV (n : Int) l → b ∈ lnV (n : Int) (tgL (n : Int) c q) := fun b hb =>
    List.mem_filter.2 ⟨(lnV_mem hb).1, (on_tan hp c hq3 (allPts_three (lnV_mem hb).1) hk).2 (me_zero hd hp c hl hm ql hb).2.1⟩
  obtain ⟨z0, z1, z2, z3⟩ := me_zero hd hp c hl hm k0 k1
  have := me_true hd hp c ht (onT _ k0) (onT _ k1) kne z0 z1 z2 z3
  rw [hz] at this
  cases this
end
end Go.Proofs.YtcklfkblhmlbbaaDoor
namespace Go.Proofs.YtcklfkblhmlbbaaDoor
set_option linter.unusedVariables false
set_option linter.unusedSimpArgs false
set_option linter.unusedSectionVars false
open Lean.Grind
section
variable {n : Nat} [NeZero n]
theorem ic_neg {R : Type} [CommRing R] (x : Int) : (ic (-x) : R) = -ic x := Ring.intCast_neg x
theorem cub_val (c : List Int) {u v a b : List Int} {s t x y : Fin n} (ha : ∀ k, k < 3 → icL a k = s * icL u k + t * icL v k) (hb : ∀ k, k < 3 → icL b k = x * icL u k + y * icL v k) :
    eF n c a b 0 = eF n c u v 0 * s ^ 3 + eF n c u v 1 * (s ^ 2 * t) + eF n c u v 2 * (s * t ^ 2) + eF n c u v 3 * t ^ 3 := by
  rw [(e_lin c ha hb).1]; rfl
theorem e_swap (c : List Int) (u v : List Int) : eF n c v u 0 = eF n c u v 3 ∧ eF n c v u 1 = eF n c u v 2 ∧ eF n c v u 2 = eF n c u v 1 ∧ eF n c v u 3 = eF n c u v 0 := by
  obtain ⟨e0, e1, e2, e3⟩ := e_lin (n := n) c (a := v) (b := u) (u := u) (v := v) (s := 0) (t := 1) (x := 1) (y := 0) (fun k hk => by grind) (fun k hk => by grind)
  rw [e0, e1, e2, e3]
  unfold cf2 cf3 cf1 cf0
  refine ⟨?_, ?_, ?_, ?_⟩ <;> grind
theorem e_self (c : List Int) (u : List Int) : eF n c u u 1 = 3 * eF n c u u 0 := by
  obtain ⟨e0, e1, e2, e3⟩ := e_lin (n := n) c (a := u) (b := u) (u := u) (v := u) (s := 1) (t := 0) (x := 1) (y := 0) (fun k hk => by grind) (fun k hk => by grind)
  rw [e1]; unfold cf1; grind
theorem indep (hd : Dom (Fin n)) (hp : primeB (n : Int) = true) {u v : List Int} (hu : u ∈ allPts (n : Int)) (hv : v ∈ allPts (n : Int)) (hne : u ≠ v) {s t : Fin n} (h : ∀ k, k < 3 → (icL u k : Fin n) = s * icL u k + t * icL v k) : t = 0 := by
  obtain ⟨m, hm, hm0⟩ := cross_nz hp hu hv hne
  have h0 := (nz_iff (n := n)).1 hm0
  have a0 := h 0 (by decide)
  have a1 := h 1 (by decide)
  have a2 := h 2 (by decide)
  simp only [icL] at a0 a1 a2
  have e : t * (ic m : Fin n) = 0 := by
    simp only [List.mem_cons, List.not_mem_nil, or_false] at hm
    rcases hm with rfl | rfl | rfl <;> simp only [ic_sub, ic_mul] <;> grind
  rcases hd.2 _ _ e with h1 | h1
  · exact h1
  · exact absurd h1 h0
/-- a point of the line out of its parts -/
theorem pt_of (hd : Dom (Fin n)) (hp : primeB (n : Int) = true) {l : List Int} (hl : l ∈ allPts (n : Int)) {u v : List Int} (hu : u ∈ lnV (n : Int) l) (hv : v ∈ lnV (n : Int) l) (hne : u ≠ v) (s t : Int) (ht : (ic t : Fin n) ≠ 0) :
    ∃ d, d ∈ lnV (n : Int) l ∧ d ≠ u ∧ ((ic s : Fin n) ≠ 0 → d ≠ v) ∧ ∃ f : Fin n, f ≠ 0 ∧ ∀ k, k < 3 → (icL d k : Fin n) = (f * ic s) * icL u k + (f * ic t) * icL v k := by
  have hU := (lnV_mem hu).1
  have hV := (lnV_mem hv).1
  obtain ⟨e1, e2⟩ := smL_fac (n : Int) s t u v
  have hn : facP (n : Int) (smL (n : Int) s t u v 3) ≠ 0 := by
    intro e
    rw [e1] at e
    have hz := (fac_zero hp _).1 e
    have hall : ∀ x ∈ [s * u.getD 0 0 + t * v.getD 0 0, s * u.getD 1 0 + t * v.getD 1 0, s * u.getD 2 0 + t * v.getD 2 0], x % (n : Int) = 0 := by
      intro x hx
      by_cases h : x % (n : Int) = 0
      · exact h
      · exact absurd hz (fnz_ne ⟨x, hx, h⟩)
    have z := fun (x : Int) (hx : x ∈ [s * u.getD 0 0 + t * v.getD 0 0, s * u.getD 1 0 + t * v.getD 1 0, s * u.getD 2 0 + t * v.getD 2 0]) => (ic_z (R := Fin n) n).2 (hall x hx)
    have z0 := z _ (List.mem_cons_self)
    have z1 := z _ (List.mem_cons_of_mem _ List.mem_cons_self)
    have z2 := z _ (List.mem_cons_of_mem _ (List.mem_cons_of_mem _ List.mem_cons_self))
    simp only [ic_add, ic_mul] at z0 z1 z2
    refine ht (indep hd hp hU hV hne (s := 1 + ic s) (t := ic t) (fun k hk => ?_))
    have h : k = 0 ∨ k = 1 ∨ k = 2 := by omega
    rcases h with rfl | rfl | rfl <;> simp only [icL] <;> grind
  have hm : ptM (n : Int) u v (normL (n : Int) (smL (n : Int) s t u v 3)) s t := ⟨hn, rfl⟩
  obtain ⟨f, hf, hst, hA⟩ := ptM_ic hm hd hp
  have hA' : ∀ k, k < 3 → (icL (normL (n : Int) (smL (n : Int) s t u v 3)) k : Fin n) = (ic f * ic s) * icL u k + (ic f * ic t) * icL v k := fun k hk => by rw [hA k hk]; grind
  have hmem : normL (n : Int) (smL (n : Int) s t u v 3) ∈ allPts (n : Int) := by
    rw [e2]
    rw [e1] at hn
    exact norm_mem hp rfl hn
  have hon : onB (n : Int) (normL (n : Int) (smL (n : Int) s t u v 3)) l = true := by
    have hu' := (lnV_mem hu).2
    have hv' := (lnV_mem hv).2
    have hU3 := allPts_three hU
    have hV3 := allPts_three hV
    have hl3 := allPts_three hl
    have hd3 := allPts_three hmem
    generalize normL (n : Int) (smL (n : Int) s t u v 3) = d at *
    match u, hU3, v, hV3, l, hl3, d, hd3 with
    | [u0, u1, u2], _, [v0, v1, v2], _, [l0, l1, l2], _, [d0, d1, d2], _ =>
      rw [onB_iff, ← ic_z (R := Fin n) n] at hu' hv' ⊢
      have a0 := hA' 0 (by decide)
      have a1 := hA' 1 (by decide)
      have a2 := hA' 2 (by decide)
      simp only [icL, List.getD_cons_zero, List.getD_cons_succ] at a0 a1 a2
      simp only [ic_add, ic_mul] at hu' hv' ⊢
      grind
  refine ⟨_, List.mem_filter.2 ⟨hmem, hon⟩, ?_, ?_, ic f, hf, hA'⟩
  · intro e
    rw [e] at hA'
    have := indep hd hp hU hV hne hA'
    rcases hd.2 _ _ this with h | h
    · exact hf h
    · exact ht h
  · intro hs e
    rw [e] at hA'
    have := indep hd hp hV hU (fun x => hne x.symm) (s := ic f * ic t) (t := ic f * ic s) (fun k hk => by rw [hA' k hk]; grind)
    rcases hd.2 _ _ this with h | h
    · exact hf h
    · exact hs h
/-- how often a point of the line counts -/
theorem cnt (hd : Dom (Fin n)) (hp : primeB (n : Int) = true) (c : List Int) {l : List Int} (hl : l ∈ allPts (n : Int)) {a v : List Int} (ha : a ∈ lnV (n : Int) l) (hv : v ∈ lnV (n : Int) l) (hne : a ≠ v) (h0 : eF n c a v 0 = 0) :
    ∃ q, q < (mePts (n : Int) c l).length ∧ (mePts (n : Int) c l).getD q [] = a ∧ 1 ≤ (meCts (n : Int) c l).getD q 0 ∧ (eF n c a v 1 = 0 → 2 ≤ (meCts (n : Int) c l).getD q 0) ∧ (eF n c a v 1 = 0 → eF n c a v 2 = 0 → 3 ≤ (meCts (n : Int) c l).getD q 0) := by
  obtain ⟨i, hi, he⟩ := ln_ix ha
  have hb : (lnV (n : Int) l).getD ((i + 1) % (lnV (n : Int) l).length) [] ∈ lnV (n : Int) l := lnV_get (Nat.mod_lt _ (by omega))
  obtain ⟨s, t, hB, _, _⟩ := dec hd hp hl ha hv hb hne
  obtain ⟨e0, e1, e2, e3⟩ := e_lin c (a := a) (b := (lnV (n : Int) l).getD ((i + 1) % (lnV (n : Int) l).length) []) (u := a) (v := v) (s := 1) (t := 0) (x := s) (y := t) (fun k hk => by grind) hB
  have g0 : eF n c ((lnV (n : Int) l).getD i []) ((lnV (n : Int) l).getD ((i + 1) % (lnV (n : Int) l).length) []) 0 = 0 := by rw [he, e0, h0]; unfold cf0; grind
  have h1 := cn_pos c g0
  obtain ⟨q, q1, q2, q3⟩ := m_idx (show 0 < cnF (n : Int) c (lnV (n : Int) l) i from h1) hi
  have q3' : (meCts (n : Int) c l).getD q 0 = (cnF (n : Int) c (lnV (n : Int) l) i : Int) := q3
  refine ⟨q, q1, (show (mePts (n : Int) c l).getD q [] = _ from q2).trans he, by omega, fun x1 => ?_, fun x1 x2 => ?_⟩
  · have := cn_two c g0 (by rw [he, e1, h0, x1]; unfold cf1; grind)
    omega
  · have := cn_thr c g0 (by rw [he, e1, h0, x1]; unfold cf1; grind) (by rw [he, e2, h0, x1, x2]; unfold cf2 cf1; grind)
    omega
theorem lf_ex {a b : List Int} {P : List (List Int)} {C : List Int} {q : Nat} (hq : q < P.length) (h : 0 < lf a b P C q) : ∃ i, i < P.length ∧ 0 < lf a b P C i ∧ thF a b P C = some i := by
  cases e : thF a b P C with
  | none =>
    unfold thF at e
    rw [List.find?_eq_none] at e
    have := e q (by simpa using hq)
    simp at this
    omega
  | some i =>
    have h1 := thF_lt e
    have h2 := List.find?_some e
    exact ⟨i, h1, by simpa using h2, rfl⟩
theorem ok_on {p : Int} {c a : List Int} (h : okT p c a = true) : cuG p c a = true := by
  simp only [okT, Bool.and_eq_true] at h; exact h.2
/-- the line of two regular points, which it contains -/
theorem th_line (hd : Dom (Fin n)) (hp : primeB (n : Int) = true) (c : List Int) {x y : List Int} (hx : x ∈ allPts (n : Int)) (hy : y ∈ allPts (n : Int)) (kx : okT (n : Int) c x = true) : x ∈ lnV (n : Int) (thL (n : Int) c x y) ∧ y ∈ lnV (n : Int) (thL (n : Int) c x y) := by
  have hx3 := allPts_three hx
  have hy3 := allPts_three hy
  unfold thL
  split
  · rename_i e
    subst e
    have h : onB (n : Int) x (tgL (n : Int) c x) = true := by
      rw [on_tan hp c hx3 hx3 kx, e_self, (on_cub c hx3 x).1 (ok_on kx)]
      grind
    exact ⟨List.mem_filter.2 ⟨hx, h⟩, List.mem_filter.2 ⟨hx, h⟩⟩
  · rename_i hne
    exact ⟨List.mem_filter.2 ⟨hx, (join_on hp hx hy hne hx3).2 (by rw [det_self1]; simp)⟩, List.mem_filter.2 ⟨hy, (join_on hp hx hy hne hy3).2 (by rw [det_self2]; simp)⟩⟩
theorem tot (hd : Dom (Fin n)) (hp : primeB (n : Int) = true) (c : List Int) {o x y : List Int} (ho : o ∈ allPts (n : Int)) (hf : flB (n : Int) c o = true) (hx : x ∈ allPts (n : Int)) (hy : y ∈ allPts (n : Int)) (kx : okT (n : Int) c x = true) (ky : okT (n : Int) c y = true) :
    ∃ d, thO (n : Int) c x y = some d ∧ okT (n : Int) c d = true := by
  have hx3 := allPts_three hx
  have hy3 := allPts_three hy
  have hl := thL_mem hp hx hy kx
  obtain ⟨xl, yl⟩ := th_line hd hp c hx hy kx
  have hm := no_line hd hp c ho hf hl
  have cx := fun b => (on_cub (n := n) c hx3 b).1 (ok_on kx)
  have cy := fun b => (on_cub (n := n) c hy3 b).1 (ok_on ky)
  have hex : ∃ q, q < (mePts (n : Int) c (thL (n : Int) c x y)).length ∧ 0 < lf x y (mePts (n : Int) c (thL (n : Int) c x y)) (meCts (n : Int) c (thL (n : Int) c x y)) q := by
    by_cases hxy : x = y
    · subst hxy
      have htl : thL (n : Int) c x x = tgL (n : Int) c x := by unfold thL; rw [if_pos rfl]
      obtain ⟨b, bl, hbx⟩ : ∃ b, b ∈ lnV (n : Int) (thL (n : Int) c x x) ∧ x ≠ b := by
        obtain ⟨k0, k1, k2⟩ := two_pts hp hl
        by_cases e : x = (lnV (n : Int) (thL (n : Int) c x x)).getD 0 []
        · exact ⟨_, k1, fun h => k2 (e.symm.trans h)⟩
        · exact ⟨_, k0, e⟩
      have z0 := cx b
      have z1 : eF n c x b 1 = 0 := (on_tan hp c hx3 (allPts_three (lnV_mem bl).1) kx).1 (by rw [← htl]; exact (lnV_mem bl).2)
      by_cases z2 : eF n c x b 2 = 0
      · obtain ⟨q, q1, q2, _, _, q5⟩ := cnt hd hp c hl xl bl hbx z0
        have := q5 z1 z2
        refine ⟨q, q1, ?_⟩
        unfold lf
        rw [q2, if_pos rfl, if_pos rfl]; omega
      · obtain ⟨d, dl, dx, _, f, hf0, hD⟩ := pt_of hd hp hl xl bl hbx (-(cuS c x b 3 80)) (cuS c x b 2 80) z2
        have dv : eF n c d x 0 = 0 := by
          rw [cub_val c hD (x := 1) (y := 0) (fun k hk => by grind), z0, z1]
          rw [show (ic (-(cuS c x b 3 80)) : Fin n) = -(eF n c x b 3) from by unfold eF; exact ic_neg _, show (ic (cuS c x b 2 80) : Fin n) = eF n c x b 2 from rfl]
          grind
        obtain ⟨q, q1, q2, q3, _, _⟩ := cnt hd hp c hl dl xl dx dv
        refine ⟨q, q1, ?_⟩
        unfold lf
        rw [q2, if_neg dx, if_neg dx]; omega
    · have z0 := cx y
      have z3 : eF n c x y 3 = 0 := by rw [← (e_swap c x y).1]; exact cy x
      by_cases z1 : eF n c x y 1 = 0
      · obtain ⟨q, q1, q2, _, q4, _⟩ := cnt hd hp c hl xl yl hxy z0
        have := q4 z1
        refine ⟨q, q1, ?_⟩
        unfold lf
        rw [q2, if_neg hxy, if_pos rfl]; omega
      · by_cases z2 : eF n c x y 2 = 0
        · obtain ⟨q, q1, q2, _, q4, _⟩ := cnt hd hp c hl yl xl (fun h => hxy h.symm) (cy x)
          have := q4 (by rw [(e_swap c x y).2.1]; exact z2)
          refine ⟨q, q1, ?_⟩
          unfold lf
          rw [q2, if_pos rfl, if_neg (fun h => hxy h.symm)]; omega
        · have hneg : (ic (-(cuS c x y 2 80)) : Fin n) = -(eF n c x y 2) := by unfold eF; exact ic_neg _
          obtain ⟨d, dl, dx, dy, f, hf0, hD⟩ := pt_of hd hp hl xl yl hxy (-(cuS c x y 2 80)) (cuS c x y 1 80) z1
          have dy' : d ≠ y := dy (by rw [hneg]; intro e; exact z2 (by grind))
          have dv : eF n c d x 0 = 0 := by
            rw [cub_val c hD (x := 1) (y := 0) (fun k hk => by grind), z0, z3, hneg, show (ic (cuS c x y 1 80) : Fin n) = eF n c x y 1 from rfl]
            grind
          obtain ⟨q, q1, q2, q3, _, _⟩ := cnt hd hp c hl dl xl dx dv
          refine ⟨q, q1, ?_⟩
          unfold lf
          rw [q2, if_neg dx, if_neg dy']; omega
  obtain ⟨q, q1, q2⟩ := hex
  obtain ⟨i, i1, i2, i3⟩ := lf_ex q1 q2
  refine ⟨(mePts (n : Int) c (thL (n : Int) c x y)).getD i [], ?_, ?_⟩
  · unfold thO
    rw [if_pos ⟨kx, ky, hm⟩, i3]
    rfl
  · obtain ⟨j, j1, j2, j3, j4⟩ := m_pos (p := (n : Int)) (c := c) (L := lnV (n : Int) (thL (n : Int) c x y)) i1
    have dl : (lnV (n : Int) (thL (n : Int) c x y)).getD j [] ∈ lnV (n : Int) (thL (n : Int) c x y) := lnV_get j1
    have j2' : (mePts (n : Int) c (thL (n : Int) c x y)).getD i [] = (lnV (n : Int) (thL (n : Int) c x y)).getD j [] := j2
    have dc : cuG (n : Int) c ((lnV (n : Int) (thL (n : Int) c x y)).getD j []) = true := cn_on c (allPts_three (lnV_mem dl).1) j4
    rw [j2']
    generalize (lnV (n : Int) (thL (n : Int) c x y)).getD j [] = d at dl dc
    have hd3 := allPts_three (lnV_mem dl).1
    by_cases ex : d = x
    · rw [ex]; exact kx
    by_cases ey : d = y
    · rw [ey]; exact ky
    unfold okT
    rw [dc, Bool.and_true, bne_iff_ne]
    intro hflat
    have fl := flat_der (n := n) c hd3 hflat hp
    have z0 : eF n c d x 0 = 0 := (on_cub c hd3 x).1 dc
    have z1 := fl x
    have z3 : eF n c d x 3 = 0 := by rw [← (e_swap c d x).1]; exact cx d
    have z2 : eF n c d x 2 = 0 := by
      by_cases hxy : x = y
      · subst hxy
        have htl : thL (n : Int) c x x = tgL (n : Int) c x := by unfold thL; rw [if_pos rfl]
        rw [← (e_swap c d x).2.1]
        exact (on_tan hp c hx3 hd3 kx).1 (by rw [← htl]; exact (lnV_mem dl).2)
      · obtain ⟨s, t, hY, ht, hs⟩ := dec hd hp hl dl xl yl ex
        have ht' := ht (fun h => ey h.symm)
        have hs' := hs (fun h => hxy h.symm)
        have v := cub_val (n := n) c hY (b := d) (x := 1) (y := 0) (fun k hk => by grind)
        rw [cy d, z0, z1, z3] at v
        have v' : eF n c d x 2 * (s * t ^ 2) = 0 := by grind
        rcases hd.2 _ _ v' with h | h
        · exact h
        · rcases hd.2 _ _ h with h | h
          · exact absurd h hs'
          · exact absurd h (hd.pw ht' 2)
    have := me_true hd hp c hl dl xl ex z0 z1 z2 z3
    rw [hm] at this
    cases this
end
end Go.Proofs.YtcklfkblhmlbbaaDoor
namespace Go.Proofs.YtcklfkblhmlbbaaDoor
set_option maxRecDepth 10000
set_option linter.unusedSimpArgs false
set_option linter.unusedVariables false
def nowF (p : Int) (c o a : List Int) : Nat → List Int
  | 0 => a
  | m + 1 => (smO p c o (nowF p c o a m) a).1
def ordR (w : Nat → List Int) (o : List Int) : Int × Int := match (List.range 60).find? (fun m => decide (w m = o)) with
  | some m => ((m : Int) + 1, 0)
  | none => (0, 4)
def ordV (p : Int) (c o a : List Int) : Int × Int := if flB p c o = true ∧ okT p c a = true then ordR (nowF p c o a) o else (0, 5)
def ordN (cd : Int) (x : Int × Int) : V := .tuple [.int (if cd = 0 then x.1 else 0), .int (if cd = 0 then x.2 else cd)]
theorem ordN_no {cd : Int} {x : Int × Int} (h : ¬ cd = 0) : ordN cd x = .tuple [.int 0, .int cd] := by unfold ordN; rw [if_neg h, if_neg h]
theorem ordN_0 {cd : Int} {x : Int × Int} (h : cd = 0) : ordN cd x = .tuple [.int x.1, .int x.2] := by unfold ordN; rw [if_pos h, if_pos h]
theorem ordR_hit {w : Nat → List Int} {o : List Int} {m : Nat} (hm : m < 60) (h0 : ∀ j, j < m → ¬ w j = o) (h : w m = o) : ordR w o = ((m : Int) + 1, 0) := by
  have e : (List.range 60).find? (fun m => decide (w m = o)) = some m := by
    rw [List.find?_eq_some_iff_getElem]
    refine ⟨by simpa using h, m, by simpa using hm, by simp, fun j hj => ?_⟩
    have := h0 j hj
    simpa using this
  unfold ordR; rw [e]
theorem ordR_miss {w : Nat → List Int} {o : List Int} (h0 : ∀ j, j < 60 → ¬ w j = o) : ordR w o = (0, 4) := by
  have e : (List.range 60).find? (fun m => decide (w m = o)) = none := by
    rw [List.find?_eq_none]
    intro j hj
    have := h0 j (by simpa using hj)
    simpa using this
  unfold ordR; rw [e]
theorem ordV_no {p : Int} {c o a : List Int} (h : ¬ (flB p c o = true ∧ okT p c a = true)) : ordV p c o a = (0, 5) := by unfold ordV; rw [if_neg h]
theorem ordV_yes {p : Int} {c o a : List Int} (h : flB p c o = true ∧ okT p c a = true) : ordV p c o a = ordR (nowF p c o a) o := by unfold ordV; rw [if_pos h]
theorem thK_no {p : Int} {c x a : List Int} (h : okT p c a = false) : thK p c x a = false := by
  unfold thK thO
  rw [if_neg (fun e => by rw [h] at e; cases e.2.1)]
  rfl
theorem fl_ok {p : Int} {c o : List Int} (h : flB p c o = true) : okT p c o = true := by
  simp only [flB, Bool.and_eq_true] at h
  exact h.1.1.1
theorem sm_no {p : Int} {c o x a : List Int} (h : okT p c a = false) : smO p c o x a = ([0, 0, 0], false) := by
  unfold smO; rw [thK_no h]; rfl
/-- sums of regular points, over a flex -/
theorem tot_i {p : Int} (hp : primeB p = true) (c : List Int) {o x y : List Int} (ho : o ∈ allPts p) (hf : flB p c o = true) (hx : x ∈ allPts p) (hy : y ∈ allPts p) (kx : okT p c x = true) (ky : okT p c y = true) : ∃ d, thO p c x y = some d ∧ okT p c d = true := by
  obtain ⟨n, _, rfl, hd⟩ := dom_of hp
  exact tot hd hp c ho hf hx hy kx ky
theorem sm_reg {p : Int} (hp : primeB p = true) (c : List Int) {o x y : List Int} (ho : o ∈ allPts p) (hf : flB p c o = true) (hx : x ∈ allPts p) (hy : y ∈ allPts p) (kx : okT p c x = true) (ky : okT p c y = true) :
    (smO p c o x y).2 = true ∧ (smO p c o x y).1 ∈ allPts p ∧ okT p c (smO p c o x y).1 = true := by
  obtain ⟨d, h1, h2⟩ := tot_i hp c ho hf hx hy kx ky
  obtain ⟨e, h3, h4⟩ := tot_i hp c ho hf ho (thO_mem h1) (fl_ok hf) h2
  have hs : smO p c o x y = (e, true) := by
    unfold smO
    rw [if_pos (th_yes h1).2, (th_yes h1).1, (th_yes h3).1, (th_yes h3).2]
  rw [hs]
  exact ⟨rfl, thO_mem h3, h4⟩
theorem now_reg {p : Int} (hp : primeB p = true) (c : List Int) {o a : List Int} (ho : o ∈ allPts p) (hf : flB p c o = true) (ha : a ∈ allPts p) (ka : okT p c a = true) : ∀ m, nowF p c o a m ∈ allPts p ∧ okT p c (nowF p c o a m) = true ∧ (smO p c o (nowF p c o a m) a).2 = true
  | 0 => ⟨ha, ka, (sm_reg hp c ho hf ha ha ka ka).1⟩
  | m + 1 => by
    obtain ⟨h1, h2, _⟩ := now_reg hp c ho hf ha ka m
    obtain ⟨g1, g2, g3⟩ := sm_reg hp c ho hf h1 ha h2 ka
    exact ⟨g2, g3, (sm_reg hp c ho hf g2 ha g3 ka).1⟩
attribute [local irreducible] CW OW QW QOp Con thenP inBlockP AW QX RW AX
theorem impl_OrderOnCubic_con (p : Int) (c o a : List Int) (hcl : c.length = 10) (hol : o.length = 3) (hal : a.length = 3) : ConQ Tryd.prog [(0, 2000)] 41 [.int p, .arr c, .arr o, .arr a] [(2000, .ro 0 cuT)] (ordN (codeB p (allF (pointB p) 3 (o ++ a) 2 && pointB p c)) (ordV p c o a)) := by
  by_cases hcd : codeB p (allF (pointB p) 3 (o ++ a) 2 && pointB p c) = 0
  · have hcc := (codeB_zero.1 hcd).2
    have hp := (codeB_zero.1 hcd).1
    rw [allF2 hol hal] at hcc
    simp only [Bool.and_eq_true] at hcc
    obtain ⟨⟨hpo, hpa⟩, hpc⟩ := hcc
    have hq := smN_point hpc
    have hmo := point_mem hol hpo
    have hma := point_mem hal hpa
    have h2 := isFlex_con p c o hp hcl hq hmo
    cases hF : flB p c o with
    | false =>
      rw [hF] at h2
      refine conW tab_ok [(0, .int p), (1, .arr c), (2, .arr o), (3, .arr a)] 0 [2000] [] Tryd.func41 rfl rfl rfl rfl rfl rfl rfl rfl rfl ?_
      refine cR ?_
      iterate 3 refine oBox rfl rfl rfl rfl rfl rfl ?_
      iterate 2 refine oA rfl rfl ?_
      refine oN ?_
      iterate 2 refine CW_seq ?_
      refine CW_any (fun _ => false) 9 rfl lateOk (by decide +kernel) (fun hst => ?_)
      refine aP 0 hst rfl rfl (by decide +kernel) (PX_move rfl rfl) rfl rfl ?_
      first | refine aQ 1 hst rfl rfl (by decide +kernel) (QX_of (Lw rfl rfl rfl rfl) NE_load) rfl rfl ?_ | refine aQ 1 hst rfl rfl (by decide +kernel) (QX_of (La rfl rfl rfl rfl rfl) NE_load) rfl rfl ?_
      refine aP 2 hst rfl rfl (by decide +kernel) (PX_move rfl rfl) rfl rfl ?_
      first | refine aQ 3 hst rfl rfl (by decide +kernel) (QX_of (Lw rfl rfl rfl rfl) NE_load) rfl rfl ?_ | refine aQ 3 hst rfl rfl (by decide +kernel) (QX_of (La rfl rfl rfl rfl rfl) NE_load) rfl rfl ?_
      first | refine aQ 4 hst rfl rfl (by decide +kernel) (QX_of (Lw rfl rfl rfl rfl) NE_load) rfl rfl ?_ | refine aQ 4 hst rfl rfl (by decide +kernel) (QX_of (La rfl rfl rfl rfl rfl) NE_load) rfl rfl ?_
      refine AW_one (i := 5) (by decide +kernel) ?_
      refine gBsl (zl := [0, 0, 0]) rfl rfl rfl rfl rfl rfl (.inr ⟨rfl, rfl, by decide⟩) rfl (fill2 hol hal) (okp2 hol hal) rfl rfl rfl ?_
      refine aQ 6 hst rfl rfl (by decide +kernel) (QX_call (arePoints_con p 29 (o ++ a) 2 2 (by simp; omega) (by omega)) [(0, 3)] rfl rfl (Fits.mk' (vHc rfl vHn) rfl rfl (by first | (simp; done) | exact glOk rfl rfl rfl)) rfl rfl rfl) rfl rfl ?_
      refine aQ 7 hst rfl rfl (by decide +kernel) (QX_call0 (cubicCode_con p (allF (pointB p) 3 (o ++ a) 2) c hcl) rfl rfl rfl) rfl rfl ?_
      refine aQ 8 hst rfl rfl (by decide +kernel) (QX_of (Q_assign rfl rfl) NE_assign) rfl rfl ?_
      refine AW_done (by decide +kernel) ?_
      all_goals with_reducible refine tN ?_
      all_goals (
       refine cR ?_
       refine oM rfl rfl ?_
       refine oQ (Q_bin rfl rfl rfl) rfl rfl ?_
       refine oN ?_
       first | refine cT rfl ?_ | refine cF rfl ?_ | refine CW_cond rfl (fun hc => ?_) (fun hc => ?_)
       all_goals try simp only [s1, s2, s3, s4, s5, s6, s7, s8, s9, s10, s11, s12] at hc
       all_goals try (exfalso; first | exact absurd hcd hc | exact absurd hc hcd | exact absurd (Eq.symm hc) (by decide) | (cases hc; done); done)
       all_goals first
         | (
          refine CW_skip ?_)
         | (
          refine cR ?_
          refine oM rfl rfl ?_
          iterate 2 refine oA rfl rfl ?_
          refine oN ?_
          refine CW_ret ?_))
      all_goals first
        | with_reducible refine tR ?_
        | with_reducible refine tE ?_
        | (
         with_reducible refine tN ?_
         refine CW_seq ?_
         refine cR ?_
         first | refine oQ (Lw rfl rfl rfl rfl) rfl rfl ?_ | refine oQ (La rfl rfl rfl rfl rfl) rfl rfl ?_
         refine oM rfl rfl ?_
         first | refine oQ (Lw rfl rfl rfl rfl) rfl rfl ?_ | refine oQ (La rfl rfl rfl rfl rfl) rfl rfl ?_
         refine oQe (Q_call (h2) [] rfl rfl (Fits.mk' (vHc rfl vHn) rfl rfl (by first | (simp; done) | exact glOk rfl rfl rfl)) rfl rfl) (show _ = .bool false from rfl) rfl rfl ?_
         refine oQe (Q_not rfl) (show _ = V.bool true from rfl) rfl rfl ?_
         refine oN ?_
         first | refine cT rfl ?_ | refine cF rfl ?_ | refine CW_cond rfl (fun hc => ?_) (fun hc => ?_)
         all_goals try simp only [s1, s2, s3, s4, s5, s6, s7, s8, s9, s10, s11, s12] at hc
         all_goals try (exfalso; first | exact absurd hcd hc | exact absurd hc hcd | exact absurd (Eq.symm hc) (by decide) | (cases hc; done); done)
         all_goals first
           | (
            refine CW_skip ?_)
           | (
            refine cR ?_
            iterate 2 refine oA rfl rfl ?_
            refine oN ?_
            refine CW_ret ?_)
         all_goals first
           | with_reducible refine tR ?_
           | with_reducible refine tE ?_
           | (
            with_reducible refine tN ?_
            refine cR ?_
            first | refine oQ (Lw rfl rfl rfl rfl) rfl rfl ?_ | refine oQ (La rfl rfl rfl rfl rfl) rfl rfl ?_
            refine oAlloc rfl rfl rfl rfl rfl rfl rfl ?_
            first | refine oSw rfl rfl rfl rfl ?_ | refine oSa rfl rfl rfl rfl ?_
            refine oN ?_
            refine CW_seq ?_
            refine cR ?_
            refine oA rfl rfl ?_
            refine oN ?_
            refine CW_block ?_
            exfalso; first | (cases hc; done) | (simp_all; done)
            · first | trivial | omega | (simp; done) | (simp; omega)
            · refine View.mk' [] rfl rfl rfl ?_ ?_
              repeat' first | exact vFn | refine vFc rfl ?_ | exact vHn | refine vHc rfl ?_ | refine vFc (congrArg (fun z => some (V.int z)) ?_) ?_ | refine vHc (congrArg (fun z => some (Blk.ints _ z)) ?_) ?_ | refine vFc (congrArg (fun z => some (V.bool z)) ?_) ?_ | refine vFs rfl rfl ?_ ?_
            intro i hi
            refine CW_seq ?_
            refine cR ?_
            refine oM rfl rfl ?_
            refine oQ (Q_bin rfl rfl rfl) rfl rfl ?_
            refine oN ?_
            first | refine cT rfl ?_ | refine cF rfl ?_ | refine CW_cond rfl (fun hc => ?_) (fun hc => ?_)
            all_goals try simp only [s1, s2, s3, s4, s5, s6, s7, s8, s9, s10, s11, s12] at hc
            all_goals try (exfalso; first | exact absurd hcd hc | exact absurd hc hcd | exact absurd (Eq.symm hc) (by decide) | (cases hc; done); done)
            all_goals first
              | (
               refine CW_skip ?_)
              | (
               refine CW_exit ?_)
            all_goals first
              | with_reducible refine tR ?_
              | with_reducible refine tE ?_
              | (
               with_reducible refine tN ?_
               refine CW_seq ?_
               refine CW_block ?_
               refine CW_seq ?_
               refine cR ?_
               first | refine oQ (Lw rfl rfl rfl rfl) rfl rfl ?_ | refine oQ (La rfl rfl rfl rfl rfl) rfl rfl ?_
               first | refine oQ (Lw rfl rfl rfl rfl) rfl rfl ?_ | refine oQ (La rfl rfl rfl rfl rfl) rfl rfl ?_
               refine oQ (Q_arrb rfl rfl rfl rfl rfl rfl rfl rfl rfl (by first | omega | (dsimp only; omega) | (simp; omega) | (simp; done)) (by first | omega | (dsimp only; omega) | (simp; omega) | (simp; done))) rfl rfl ?_
               refine oN ?_
               first | refine cT rfl ?_ | refine cF rfl ?_ | refine CW_cond rfl (fun hc => ?_) (fun hc => ?_)
               all_goals try simp only [s1, s2, s3, s4, s5, s6, s7, s8, s9, s10, s11, s12] at hc
               all_goals try (exfalso; first | exact absurd hcd hc | exact absurd hc hcd | exact absurd (Eq.symm hc) (by decide) | (cases hc; done); done)
               all_goals first
                 | (
                  refine CW_skip ?_)
                 | (
                  refine cR ?_
                  refine oM rfl rfl ?_
                  iterate 2 refine oA rfl rfl ?_
                  refine oN ?_
                  refine CW_ret ?_)
               all_goals first
                 | with_reducible refine tR ?_
                 | with_reducible refine tE ?_
                 | (
                  with_reducible refine tN ?_
                  refine cR ?_
                  first | refine oQ (Lw rfl rfl rfl rfl) rfl rfl ?_ | refine oQ (La rfl rfl rfl rfl rfl) rfl rfl ?_
                  refine oM rfl rfl ?_
                  first | refine oQ (Lw rfl rfl rfl rfl) rfl rfl ?_ | refine oQ (La rfl rfl rfl rfl rfl) rfl rfl ?_
                  first | refine oQ (Lw rfl rfl rfl rfl) rfl rfl ?_ | refine oQ (La rfl rfl rfl rfl rfl) rfl rfl ?_
                  first | refine oQ (Lw rfl rfl rfl rfl) rfl rfl ?_ | refine oQ (La rfl rfl rfl rfl rfl) rfl rfl ?_
                  fail "call of (loop.example/g01310/impl.Cubic).sum at slot 46"
                  refine oM rfl rfl ?_
                  iterate 2 refine oQ (Q_extract rfl rfl) rfl rfl ?_
                  refine oAlloc rfl rfl rfl rfl rfl rfl rfl ?_
                  first | refine oSw rfl rfl rfl rfl ?_ | refine oSa rfl rfl rfl rfl ?_
                  refine oA rfl rfl ?_
                  refine oN ?_
                  refine CW_seq ?_
                  refine cR ?_
                  refine oM rfl rfl ?_
                  refine oQ (Q_not rfl) rfl rfl ?_
                  refine oM rfl rfl ?_
                  all_goals first | refine oT rfl rfl ?_ | refine o1 rfl rfl rfl ?_ | refine o0 rfl rfl rfl ?_ | refine ogP1 rfl rfl rfl (fun hg => ?_) (fun hg => ?_) | refine ogP0 rfl rfl rfl (fun hg => ?_) (fun hg => ?_)
                  all_goals try simp only [s1, s2, s3, s4, s5, s6, s7, s8, s9, s10, s11, s12] at hg
                  all_goals first | (refine oM rfl rfl ?_) | skip
                  all_goals first | refine oT rfl rfl ?_ | refine o1 rfl rfl rfl ?_ | refine o0 rfl rfl rfl ?_ | refine ogP1 rfl rfl rfl (fun hg => ?_) (fun hg => ?_) | refine ogP0 rfl rfl rfl (fun hg => ?_) (fun hg => ?_)
                  all_goals try simp only [s1, s2, s3, s4, s5, s6, s7, s8, s9, s10, s11, s12] at hg
                  all_goals first | (refine oQ (Q_bin rfl rfl rfl) rfl rfl ?_) | skip
                  all_goals first | refine oQ (Q_pick_t rfl (by with_reducible rfl) rfl rfl) rfl rfl ?_ | refine oQ (Q_pick_f rfl (by with_reducible rfl) rfl rfl) rfl rfl ?_
                  all_goals refine oN ?_
                  all_goals (
                   first | refine cT rfl ?_ | refine cF rfl ?_ | refine CW_cond rfl (fun hc => ?_) (fun hc => ?_)
                   all_goals try simp only [s1, s2, s3, s4, s5, s6, s7, s8, s9, s10, s11, s12] at hc
                   all_goals try (exfalso; first | exact absurd hcd hc | exact absurd hc hcd | exact absurd (Eq.symm hc) (by decide) | (cases hc; done); done)
                   all_goals first
                     | (
                      refine CW_skip ?_)
                     | (
                      refine cR ?_
                      iterate 2 refine oA rfl rfl ?_
                      refine oN ?_
                      refine CW_ret ?_))
                  all_goals first
                    | with_reducible refine tR ?_
                    | with_reducible refine tE ?_
                    | (
                     with_reducible refine tN ?_
                     refine CW_region ?_
                     first | refine oQ (Lw rfl rfl rfl rfl) rfl rfl ?_ | refine oQ (La rfl rfl rfl rfl rfl) rfl rfl ?_
                     first | refine oSw rfl rfl rfl rfl ?_ | refine oSa rfl rfl rfl rfl ?_
                     refine OW_nil ?_))
               all_goals first | with_reducible refine bN ?_ | with_reducible refine bE ?_ | with_reducible refine bR ?_ | refine bX rfl ?_
               all_goals first
                 | with_reducible refine tR ?_
                 | with_reducible refine tE ?_
                 | (
                  with_reducible refine tN ?_
                  refine CW_region ?_
                  refine oM rfl rfl ?_
                  first | refine oQ (Q_binu rfl rfl rfl (by omega)) rfl rfl ?_ | refine oQ (Q_bin rfl rfl rfl) rfl rfl ?_
                  refine oA rfl rfl ?_
                  refine OW_nil ?_))
            all_goals first
              | with_reducible refine tR ?_
              | with_reducible refine tE ?_
              | (
               with_reducible refine tN ?_
               fail "again 0")
            all_goals first | with_reducible refine bN ?_ | with_reducible refine bE ?_ | with_reducible refine bR ?_ | refine bX rfl ?_
            all_goals first
              | with_reducible refine tR ?_
              | with_reducible refine tE ?_
              | (
               with_reducible refine tN ?_
               refine cR ?_
               iterate 2 refine oA rfl rfl ?_
               refine oN ?_
               refine CW_ret ?_)))
      all_goals (
       refine exitQ (.inr rfl) 0 (.cons (.tmp rfl rfl) (.cons (.tmp rfl rfl) .nil)) ?_ rfl (vHc rfl vHn) rfl rfl
       rw [ordN_0 hcd, ordV_no (fun e => by rw [hF] at e; cases e.1)]
       rfl)
    | true =>
      rw [hF] at h2
      cases hK : okT p c a with
      | false =>
        have h3 := sum_con p c o a a hp hcl hq hmo hma hma
        rw [sm_no hK] at h3
        dsimp only at h3
        have hne : ¬ a = o := fun e => by rw [e, fl_ok hF] at hK; cases hK
        refine conW tab_ok [(0, .int p), (1, .arr c), (2, .arr o), (3, .arr a)] 0 [2000] [] Tryd.func41 rfl rfl rfl rfl rfl rfl rfl rfl rfl ?_
        refine cR ?_
        iterate 3 refine oBox rfl rfl rfl rfl rfl rfl ?_
        iterate 2 refine oA rfl rfl ?_
        refine oN ?_
        iterate 2 refine CW_seq ?_
        refine CW_any (fun _ => false) 9 rfl lateOk (by decide +kernel) (fun hst => ?_)
        refine aP 0 hst rfl rfl (by decide +kernel) (PX_move rfl rfl) rfl rfl ?_
        first | refine aQ 1 hst rfl rfl (by decide +kernel) (QX_of (Lw rfl rfl rfl rfl) NE_load) rfl rfl ?_ | refine aQ 1 hst rfl rfl (by decide +kernel) (QX_of (La rfl rfl rfl rfl rfl) NE_load) rfl rfl ?_
        refine aP 2 hst rfl rfl (by decide +kernel) (PX_move rfl rfl) rfl rfl ?_
        first | refine aQ 3 hst rfl rfl (by decide +kernel) (QX_of (Lw rfl rfl rfl rfl) NE_load) rfl rfl ?_ | refine aQ 3 hst rfl rfl (by decide +kernel) (QX_of (La rfl rfl rfl rfl rfl) NE_load) rfl rfl ?_
        first | refine aQ 4 hst rfl rfl (by decide +kernel) (QX_of (Lw rfl rfl rfl rfl) NE_load) rfl rfl ?_ | refine aQ 4 hst rfl rfl (by decide +kernel) (QX_of (La rfl rfl rfl rfl rfl) NE_load) rfl rfl ?_
        refine AW_one (i := 5) (by decide +kernel) ?_
        refine gBsl (zl := [0, 0, 0]) rfl rfl rfl rfl rfl rfl (.inr ⟨rfl, rfl, by decide⟩) rfl (fill2 hol hal) (okp2 hol hal) rfl rfl rfl ?_
        refine aQ 6 hst rfl rfl (by decide +kernel) (QX_call (arePoints_con p 29 (o ++ a) 2 2 (by simp; omega) (by omega)) [(0, 3)] rfl rfl (Fits.mk' (vHc rfl vHn) rfl rfl (by first | (simp; done) | exact glOk rfl rfl rfl)) rfl rfl rfl) rfl rfl ?_
        refine aQ 7 hst rfl rfl (by decide +kernel) (QX_call0 (cubicCode_con p (allF (pointB p) 3 (o ++ a) 2) c hcl) rfl rfl rfl) rfl rfl ?_
        refine aQ 8 hst rfl rfl (by decide +kernel) (QX_of (Q_assign rfl rfl) NE_assign) rfl rfl ?_
        refine AW_done (by decide +kernel) ?_
        all_goals with_reducible refine tN ?_
        all_goals (
         refine cR ?_
         refine oM rfl rfl ?_
         refine oQ (Q_bin rfl rfl rfl) rfl rfl ?_
         refine oN ?_
         first | refine cT rfl ?_ | refine cF rfl ?_ | refine CW_cond rfl (fun hc => ?_) (fun hc => ?_)
         all_goals try simp only [s1, s2, s3, s4, s5, s6, s7, s8, s9, s10, s11, s12] at hc
         all_goals try (exfalso; first | exact absurd hcd hc | exact absurd hc hcd | exact absurd (Eq.symm hc) (by decide) | (cases hc; done); done)
         all_goals first
           | (
            refine CW_skip ?_)
           | (
            refine cR ?_
            refine oM rfl rfl ?_
            iterate 2 refine oA rfl rfl ?_
            refine oN ?_
            refine CW_ret ?_))
        all_goals first
          | with_reducible refine tR ?_
          | with_reducible refine tE ?_
          | (
           with_reducible refine tN ?_
           refine CW_seq ?_
           refine cR ?_
           first | refine oQ (Lw rfl rfl rfl rfl) rfl rfl ?_ | refine oQ (La rfl rfl rfl rfl rfl) rfl rfl ?_
           refine oM rfl rfl ?_
           first | refine oQ (Lw rfl rfl rfl rfl) rfl rfl ?_ | refine oQ (La rfl rfl rfl rfl rfl) rfl rfl ?_
           refine oQe (Q_call (h2) [] rfl rfl (Fits.mk' (vHc rfl vHn) rfl rfl (by first | (simp; done) | exact glOk rfl rfl rfl)) rfl rfl) (show _ = .bool true from rfl) rfl rfl ?_
           refine oQe (Q_not rfl) (show _ = V.bool false from rfl) rfl rfl ?_
           refine oN ?_
           first | refine cT rfl ?_ | refine cF rfl ?_ | refine CW_cond rfl (fun hc => ?_) (fun hc => ?_)
           all_goals try simp only [s1, s2, s3, s4, s5, s6, s7, s8, s9, s10, s11, s12] at hc
           all_goals try (exfalso; first | exact absurd hcd hc | exact absurd hc hcd | exact absurd (Eq.symm hc) (by decide) | (cases hc; done); done)
           all_goals first
             | (
              refine CW_skip ?_)
             | (
              refine cR ?_
              iterate 2 refine oA rfl rfl ?_
              refine oN ?_
              refine CW_ret ?_)
           all_goals first
             | with_reducible refine tR ?_
             | with_reducible refine tE ?_
             | (
              with_reducible refine tN ?_
              refine cR ?_
              first | refine oQ (Lw rfl rfl rfl rfl) rfl rfl ?_ | refine oQ (La rfl rfl rfl rfl rfl) rfl rfl ?_
              refine oAlloc rfl rfl rfl rfl rfl rfl rfl ?_
              first | refine oSw rfl rfl rfl rfl ?_ | refine oSa rfl rfl rfl rfl ?_
              refine oN ?_
              refine CW_seq ?_
              refine cR ?_
              refine oA rfl rfl ?_
              refine oN ?_
              refine CW_block ?_
              refine CW_rounds 1 ?_
              refine RW_succ ?_
              refine CW_seq ?_
              refine cR ?_
              refine oM rfl rfl ?_
              refine oQ (Q_bin rfl rfl rfl) rfl rfl ?_
              refine oN ?_
              first | refine cT rfl ?_ | refine cF rfl ?_ | refine CW_cond rfl (fun hc => ?_) (fun hc => ?_)
              all_goals try simp only [s1, s2, s3, s4, s5, s6, s7, s8, s9, s10, s11, s12] at hc
              all_goals try (exfalso; first | exact absurd hcd hc | exact absurd hc hcd | exact absurd (Eq.symm hc) (by decide) | (cases hc; done); done)
              all_goals first
                | (
                 refine CW_skip ?_)
                | (
                 refine CW_exit ?_)
              all_goals first
                | with_reducible refine tR ?_
                | with_reducible refine tE ?_
                | (
                 with_reducible refine tN ?_
                 refine CW_seq ?_
                 refine CW_block ?_
                 refine CW_seq ?_
                 refine cR ?_
                 first | refine oQ (Lw rfl rfl rfl rfl) rfl rfl ?_ | refine oQ (La rfl rfl rfl rfl rfl) rfl rfl ?_
                 first | refine oQ (Lw rfl rfl rfl rfl) rfl rfl ?_ | refine oQ (La rfl rfl rfl rfl rfl) rfl rfl ?_
                 refine oQ (Q_arrb rfl rfl rfl rfl rfl rfl rfl rfl rfl (by first | omega | (dsimp only; omega) | (simp; omega) | (simp; done)) (by first | omega | (dsimp only; omega) | (simp; omega) | (simp; done))) rfl rfl ?_
                 refine oN ?_
                 first | refine cT rfl ?_ | refine cF rfl ?_ | refine CW_cond rfl (fun hc => ?_) (fun hc => ?_)
                 all_goals try simp only [s1, s2, s3, s4, s5, s6, s7, s8, s9, s10, s11, s12] at hc
                 all_goals try (exfalso; first | exact absurd hcd hc | exact absurd hc hcd | exact absurd (Eq.symm hc) (by decide) | (cases hc; done); done)
                 all_goals first
                   | (
                    refine CW_skip ?_)
                   | (
                    refine cR ?_
                    refine oM rfl rfl ?_
                    iterate 2 refine oA rfl rfl ?_
                    refine oN ?_
                    refine CW_ret ?_)
                 all_goals first
                   | with_reducible refine tR ?_
                   | with_reducible refine tE ?_
                   | (
                    with_reducible refine tN ?_
                    refine cR ?_
                    first | refine oQ (Lw rfl rfl rfl rfl) rfl rfl ?_ | refine oQ (La rfl rfl rfl rfl rfl) rfl rfl ?_
                    refine oM rfl rfl ?_
                    first | refine oQ (Lw rfl rfl rfl rfl) rfl rfl ?_ | refine oQ (La rfl rfl rfl rfl rfl) rfl rfl ?_
                    first | refine oQ (Lw rfl rfl rfl rfl) rfl rfl ?_ | refine oQ (La rfl rfl rfl rfl rfl) rfl rfl ?_
                    first | refine oQ (Lw rfl rfl rfl rfl) rfl rfl ?_ | refine oQ (La rfl rfl rfl rfl rfl) rfl rfl ?_
                    refine oQe (Q_call (h3) [] rfl rfl (Fits.mk' (vHc rfl vHn) rfl rfl (by first | (simp; done) | exact glOk rfl rfl rfl)) rfl rfl) (show _ = .tuple [.arr [0, 0, 0], .bool false] from rfl) rfl rfl ?_
                    refine oM rfl rfl ?_
                    iterate 2 refine oQ (Q_extract rfl rfl) rfl rfl ?_
                    refine oAlloc rfl rfl rfl rfl rfl rfl rfl ?_
                    first | refine oSw rfl rfl rfl rfl ?_ | refine oSa rfl rfl rfl rfl ?_
                    refine oA rfl rfl ?_
                    refine oN ?_
                    refine CW_seq ?_
                    refine cR ?_
                    refine oM rfl rfl ?_
                    refine oQe (Q_not rfl) (show _ = V.bool true from rfl) rfl rfl ?_
                    refine oM rfl rfl ?_
                    all_goals first | refine oT rfl rfl ?_ | refine o1 rfl rfl rfl ?_ | refine o0 rfl rfl rfl ?_ | refine ogP1 rfl rfl rfl (fun hg => ?_) (fun hg => ?_) | refine ogP0 rfl rfl rfl (fun hg => ?_) (fun hg => ?_)
                    all_goals try simp only [s1, s2, s3, s4, s5, s6, s7, s8, s9, s10, s11, s12] at hg
                    all_goals first | (refine oM rfl rfl ?_) | skip
                    all_goals first | refine oT rfl rfl ?_ | refine o1 rfl rfl rfl ?_ | refine o0 rfl rfl rfl ?_ | refine ogP1 rfl rfl rfl (fun hg => ?_) (fun hg => ?_) | refine ogP0 rfl rfl rfl (fun hg => ?_) (fun hg => ?_)
                    all_goals try simp only [s1, s2, s3, s4, s5, s6, s7, s8, s9, s10, s11, s12] at hg
                    all_goals first | (refine oQ (Q_bin rfl rfl rfl) rfl rfl ?_) | skip
                    all_goals first | refine oQ (Q_pick_t rfl (by with_reducible rfl) rfl rfl) rfl rfl ?_ | refine oQ (Q_pick_f rfl (by with_reducible rfl) rfl rfl) rfl rfl ?_
                    all_goals refine oN ?_
                    all_goals (
                     first | refine cT rfl ?_ | refine cF rfl ?_ | refine CW_cond rfl (fun hc => ?_) (fun hc => ?_)
                     all_goals try simp only [s1, s2, s3, s4, s5, s6, s7, s8, s9, s10, s11, s12] at hc
                     all_goals try (exfalso; first | exact absurd hcd hc | exact absurd hc hcd | exact absurd (Eq.symm hc) (by decide) | (cases hc; done); done)
                     all_goals first
                       | (
                        refine CW_skip ?_)
                       | (
                        refine cR ?_
                        iterate 2 refine oA rfl rfl ?_
                        refine oN ?_
                        refine CW_ret ?_))
                    all_goals first
                      | with_reducible refine tR ?_
                      | with_reducible refine tE ?_
                      | (
                       with_reducible refine tN ?_
                       refine CW_region ?_
                       first | refine oQ (Lw rfl rfl rfl rfl) rfl rfl ?_ | refine oQ (La rfl rfl rfl rfl rfl) rfl rfl ?_
                       first | refine oSw rfl rfl rfl rfl ?_ | refine oSa rfl rfl rfl rfl ?_
                       refine OW_nil ?_))
                 all_goals first | with_reducible refine bN ?_ | with_reducible refine bE ?_ | with_reducible refine bR ?_ | refine bX rfl ?_
                 all_goals first
                   | with_reducible refine tR ?_
                   | with_reducible refine tE ?_
                   | (
                    with_reducible refine tN ?_
                    refine CW_region ?_
                    refine oM rfl rfl ?_
                    first | refine oQ (Q_binu rfl rfl rfl (by omega)) rfl rfl ?_ | refine oQ (Q_bin rfl rfl rfl) rfl rfl ?_
                    refine oA rfl rfl ?_
                    refine OW_nil ?_))
              all_goals first
                | with_reducible refine tR ?_
                | with_reducible refine tE ?_
                | (
                 with_reducible refine tN ?_
                 exfalso; first | omega | (simp at hc; done) | (simp_all; done))
              all_goals first | with_reducible refine bN ?_ | with_reducible refine bE ?_ | with_reducible refine bR ?_ | refine bX rfl ?_
              all_goals first
                | with_reducible refine tR ?_
                | with_reducible refine tE ?_
                | (
                 with_reducible refine tN ?_
                 refine cR ?_
                 iterate 2 refine oA rfl rfl ?_
                 refine oN ?_
                 refine CW_ret ?_)))
        all_goals (
         first
           | (exfalso; exact hne hc; done)
           | (refine exitQ (.inr rfl) 0 (.cons (.tmp rfl rfl) (.cons (.tmp rfl rfl) .nil)) ?_ rfl (vHc rfl vHn) rfl rfl
              rw [ordN_0 hcd, ordV_no (fun e => by rw [hK] at e; cases e.2)]
              rfl)
           | (exfalso; simp_all; done))
      | true =>
        have hreg := now_reg hp c hmo hF hma hK
        have hw3 : ∀ m, (nowF p c o a m).length = 3 := fun m => allPts_three (hreg m).1
        have hs : ∀ m, ConQ Tryd.prog [(0, 2000)] 67 [.arr c, .int p, .arr o, .arr (nowF p c o a m), .arr a] [(2000, .ro 0 cuT)] (.tuple [.arr (nowF p c o a (m + 1)), .bool true]) := fun m => by
          have := sum_con p c o (nowF p c o a m) a hp hcl hq hmo (hreg m).1 hma
          rw [(hreg m).2.2] at this
          exact this
        rw [ordN_0 hcd, ordV_yes ⟨hF, hK⟩]
        have hw0 : nowF p c o a 0 = a := rfl
        generalize nowF p c o a = w at *
        refine conW tab_ok [(0, .int p), (1, .arr c), (2, .arr o), (3, .arr a)] 0 [2000] [] Tryd.func41 rfl rfl rfl rfl rfl rfl rfl rfl rfl ?_
        refine cR ?_
        iterate 3 refine oBox rfl rfl rfl rfl rfl rfl ?_
        iterate 2 refine oA rfl rfl ?_
        refine oN ?_
        iterate 2 refine CW_seq ?_
        refine CW_any (fun _ => false) 9 rfl lateOk (by decide +kernel) (fun hst => ?_)
        refine aP 0 hst rfl rfl (by decide +kernel) (PX_move rfl rfl) rfl rfl ?_
        first | refine aQ 1 hst rfl rfl (by decide +kernel) (QX_of (Lw rfl rfl rfl rfl) NE_load) rfl rfl ?_ | refine aQ 1 hst rfl rfl (by decide +kernel) (QX_of (La rfl rfl rfl rfl rfl) NE_load) rfl rfl ?_
        refine aP 2 hst rfl rfl (by decide +kernel) (PX_move rfl rfl) rfl rfl ?_
        first | refine aQ 3 hst rfl rfl (by decide +kernel) (QX_of (Lw rfl rfl rfl rfl) NE_load) rfl rfl ?_ | refine aQ 3 hst rfl rfl (by decide +kernel) (QX_of (La rfl rfl rfl rfl rfl) NE_load) rfl rfl ?_
        first | refine aQ 4 hst rfl rfl (by decide +kernel) (QX_of (Lw rfl rfl rfl rfl) NE_load) rfl rfl ?_ | refine aQ 4 hst rfl rfl (by decide +kernel) (QX_of (La rfl rfl rfl rfl rfl) NE_load) rfl rfl ?_
        refine AW_one (i := 5) (by decide +kernel) ?_
        refine gBsl (zl := [0, 0, 0]) rfl rfl rfl rfl rfl rfl (.inr ⟨rfl, rfl, by decide⟩) rfl (fill2 hol hal) (okp2 hol hal) rfl rfl rfl ?_
        refine aQ 6 hst rfl rfl (by decide +kernel) (QX_call (arePoints_con p 29 (o ++ a) 2 2 (by simp; omega) (by omega)) [(0, 3)] rfl rfl (Fits.mk' (vHc rfl vHn) rfl rfl (by first | (simp; done) | exact glOk rfl rfl rfl)) rfl rfl rfl) rfl rfl ?_
        refine aQ 7 hst rfl rfl (by decide +kernel) (QX_call0 (cubicCode_con p (allF (pointB p) 3 (o ++ a) 2) c hcl) rfl rfl rfl) rfl rfl ?_
        refine aQ 8 hst rfl rfl (by decide +kernel) (QX_of (Q_assign rfl rfl) NE_assign) rfl rfl ?_
        refine AW_done (by decide +kernel) ?_
        all_goals with_reducible refine tN ?_
        all_goals (
         refine cR ?_
         refine oM rfl rfl ?_
         refine oQ (Q_bin rfl rfl rfl) rfl rfl ?_
         refine oN ?_
         first | refine cT rfl ?_ | refine cF rfl ?_ | refine CW_cond rfl (fun hc => ?_) (fun hc => ?_)
         all_goals try simp only [s1, s2, s3, s4, s5, s6, s7, s8, s9, s10, s11, s12] at hc
         all_goals try (exfalso; first | exact absurd hcd hc | exact absurd hc hcd | exact absurd (Eq.symm hc) (by decide) | (cases hc; done); done)
         all_goals first
           | (
            refine CW_skip ?_)
           | (
            refine cR ?_
            refine oM rfl rfl ?_
            iterate 2 refine oA rfl rfl ?_
            refine oN ?_
            refine CW_ret ?_))
        all_goals first
          | with_reducible refine tR ?_
          | with_reducible refine tE ?_
          | (
           with_reducible refine tN ?_
           refine CW_seq ?_
           refine cR ?_
           first | refine oQ (Lw rfl rfl rfl rfl) rfl rfl ?_ | refine oQ (La rfl rfl rfl rfl rfl) rfl rfl ?_
           refine oM rfl rfl ?_
           first | refine oQ (Lw rfl rfl rfl rfl) rfl rfl ?_ | refine oQ (La rfl rfl rfl rfl rfl) rfl rfl ?_
           refine oQe (Q_call (h2) [] rfl rfl (Fits.mk' (vHc rfl vHn) rfl rfl (by first | (simp; done) | exact glOk rfl rfl rfl)) rfl rfl) (show _ = .bool true from rfl) rfl rfl ?_
           refine oQe (Q_not rfl) (show _ = V.bool false from rfl) rfl rfl ?_
           refine oN ?_
           first | refine cT rfl ?_ | refine cF rfl ?_ | refine CW_cond rfl (fun hc => ?_) (fun hc => ?_)
           all_goals try simp only [s1, s2, s3, s4, s5, s6, s7, s8, s9, s10, s11, s12] at hc
           all_goals try (exfalso; first | exact absurd hcd hc | exact absurd hc hcd | exact absurd (Eq.symm hc) (by decide) | (cases hc; done); done)
           all_goals first
             | (
              refine CW_skip ?_)
             | (
              refine cR ?_
              iterate 2 refine oA rfl rfl ?_
              refine oN ?_
              refine CW_ret ?_)
           all_goals first
             | with_reducible refine tR ?_
             | with_reducible refine tE ?_
             | (
              with_reducible refine tN ?_
              refine cR ?_
              first | refine oQ (Lw rfl rfl rfl rfl) rfl rfl ?_ | refine oQ (La rfl rfl rfl rfl rfl) rfl rfl ?_
              refine oAlloc rfl rfl rfl rfl rfl rfl rfl ?_
              first | refine oSw rfl rfl rfl rfl ?_ | refine oSa rfl rfl rfl rfl ?_
              refine oN ?_
              refine CW_seq ?_
              refine cR ?_
              refine oA rfl rfl ?_
              refine oN ?_
              refine CW_block ?_
              refine CW_loop (ι := Nat) (fun m => m ≤ 60 ∧ ∀ j, j < m → ¬ w j = o) (fun m => ⟨[(0, .int p), (5, .ptr 0 0), (6, .ptr 1 0), (7, .ptr 2 0), (11, .ptr 4 0), (12, .int ((m : Int) + 1))], [(0, .ints 27 c), (1, .ints 29 o), (2, .ints 29 a), (4, .ints 29 (w m)), (2000, .ro 0 cuT)], 5⟩) (fun m => 60 - m) 0 ?_ ?_ ?_
              · exact ⟨Nat.zero_le _, fun j h => absurd h (Nat.not_lt_zero _)⟩
              · refine View.mk' [] rfl rfl rfl ?_ ?_
                repeat' first | exact vFn | refine vFc rfl ?_ | exact vHn | refine vHc rfl ?_ | refine vFc (congrArg (fun z => some (V.int z)) ?_) ?_ | refine vHc (congrArg (fun z => some (Blk.ints _ z)) ?_) ?_ | refine vFc (congrArg (fun z => some (V.bool z)) ?_) ?_ | refine vFs rfl rfl ?_ ?_
                exact hw0.symm
              rintro m ⟨hm, hm2⟩
              have hwm := hw3 m
              have hwn := hw3 (m + 1)
              refine CW_seq ?_
              refine cR ?_
              refine oM rfl rfl ?_
              refine oQ (Q_bin rfl rfl rfl) rfl rfl ?_
              refine oN ?_
              first | refine cT rfl ?_ | refine cF rfl ?_ | refine CW_cond rfl (fun hc => ?_) (fun hc => ?_)
              all_goals try simp only [s1, s2, s3, s4, s5, s6, s7, s8, s9, s10, s11, s12] at hc
              all_goals try (exfalso; first | exact absurd hcd hc | exact absurd hc hcd | exact absurd (Eq.symm hc) (by decide) | (cases hc; done); done)
              all_goals first
                | (
                 refine CW_skip ?_)
                | (
                 refine CW_exit ?_)
              all_goals first
                | with_reducible refine tR ?_
                | with_reducible refine tE ?_
                | (
                 with_reducible refine tN ?_
                 refine CW_seq ?_
                 refine CW_block ?_
                 refine CW_seq ?_
                 refine cR ?_
                 first | refine oQ (Lw rfl rfl rfl rfl) rfl rfl ?_ | refine oQ (La rfl rfl rfl rfl rfl) rfl rfl ?_
                 first | refine oQ (Lw rfl rfl rfl rfl) rfl rfl ?_ | refine oQ (La rfl rfl rfl rfl rfl) rfl rfl ?_
                 refine oQ (Q_arrb rfl rfl rfl rfl rfl rfl rfl rfl rfl (by first | omega | (dsimp only; omega) | (simp; omega) | (simp; done)) (by first | omega | (dsimp only; omega) | (simp; omega) | (simp; done))) rfl rfl ?_
                 refine oN ?_
                 first | refine cT rfl ?_ | refine cF rfl ?_ | refine CW_cond rfl (fun hc => ?_) (fun hc => ?_)
                 all_goals try simp only [s1, s2, s3, s4, s5, s6, s7, s8, s9, s10, s11, s12] at hc
                 all_goals try (exfalso; first | exact absurd hcd hc | exact absurd hc hcd | exact absurd (Eq.symm hc) (by decide) | (cases hc; done); done)
                 all_goals first
                   | (
                    refine CW_skip ?_)
                   | (
                    refine cR ?_
                    refine oM rfl rfl ?_
                    iterate 2 refine oA rfl rfl ?_
                    refine oN ?_
                    refine CW_ret ?_)
                 all_goals first
                   | with_reducible refine tR ?_
                   | with_reducible refine tE ?_
                   | (
                    with_reducible refine tN ?_
                    refine cR ?_
                    first | refine oQ (Lw rfl rfl rfl rfl) rfl rfl ?_ | refine oQ (La rfl rfl rfl rfl rfl) rfl rfl ?_
                    refine oM rfl rfl ?_
                    first | refine oQ (Lw rfl rfl rfl rfl) rfl rfl ?_ | refine oQ (La rfl rfl rfl rfl rfl) rfl rfl ?_
                    first | refine oQ (Lw rfl rfl rfl rfl) rfl rfl ?_ | refine oQ (La rfl rfl rfl rfl rfl) rfl rfl ?_
                    first | refine oQ (Lw rfl rfl rfl rfl) rfl rfl ?_ | refine oQ (La rfl rfl rfl rfl rfl) rfl rfl ?_
                    refine oQe (Q_call (hs m) [] rfl rfl (Fits.mk' (vHc rfl vHn) rfl rfl (by first | (simp; done) | exact glOk rfl rfl rfl)) rfl rfl) (show _ = .tuple [.arr (w (m + 1)), .bool true] from rfl) rfl rfl ?_
                    refine oM rfl rfl ?_
                    iterate 2 refine oQ (Q_extract rfl rfl) rfl rfl ?_
                    refine oAlloc rfl rfl rfl rfl rfl rfl rfl ?_
                    first | refine oSw rfl rfl rfl rfl ?_ | refine oSa rfl rfl rfl rfl ?_
                    refine oA rfl rfl ?_
                    refine oN ?_
                    refine CW_seq ?_
                    refine cR ?_
                    refine oM rfl rfl ?_
                    refine oQe (Q_not rfl) (show _ = V.bool false from rfl) rfl rfl ?_
                    refine oM rfl rfl ?_
                    all_goals first | refine oT rfl rfl ?_ | refine o1 rfl rfl rfl ?_ | refine o0 rfl rfl rfl ?_ | refine ogP1 rfl rfl rfl (fun hg => ?_) (fun hg => ?_) | refine ogP0 rfl rfl rfl (fun hg => ?_) (fun hg => ?_)
                    all_goals try simp only [s1, s2, s3, s4, s5, s6, s7, s8, s9, s10, s11, s12] at hg
                    all_goals first | (refine oM rfl rfl ?_) | skip
                    all_goals first | refine oT rfl rfl ?_ | refine o1 rfl rfl rfl ?_ | refine o0 rfl rfl rfl ?_ | refine ogP1 rfl rfl rfl (fun hg => ?_) (fun hg => ?_) | refine ogP0 rfl rfl rfl (fun hg => ?_) (fun hg => ?_)
                    all_goals try simp only [s1, s2, s3, s4, s5, s6, s7, s8, s9, s10, s11, s12] at hg
                    all_goals first | (refine oQ (Q_bin rfl rfl rfl) rfl rfl ?_) | skip
                    all_goals first | refine oQ (Q_pick_t rfl (by with_reducible rfl) rfl rfl) rfl rfl ?_ | refine oQ (Q_pick_f rfl (by with_reducible rfl) rfl rfl) rfl rfl ?_
                    all_goals refine oN ?_
                    all_goals (
                     first | refine cT rfl ?_ | refine cF rfl ?_ | refine CW_cond rfl (fun hc => ?_) (fun hc => ?_)
                     all_goals try simp only [s1, s2, s3, s4, s5, s6, s7, s8, s9, s10, s11, s12] at hc
                     all_goals try (exfalso; first | exact absurd hcd hc | exact absurd hc hcd | exact absurd (Eq.symm hc) (by decide) | (cases hc; done); done)
                     all_goals first
                       | (
                        refine CW_skip ?_)
                       | (
                        refine cR ?_
                        iterate 2 refine oA rfl rfl ?_
                        refine oN ?_
                        refine CW_ret ?_))
                    all_goals first
                      | with_reducible refine tR ?_
                      | with_reducible refine tE ?_
                      | (
                       with_reducible refine tN ?_
                       refine CW_region ?_
                       first | refine oQ (Lw rfl rfl rfl rfl) rfl rfl ?_ | refine oQ (La rfl rfl rfl rfl rfl) rfl rfl ?_
                       first | refine oSw rfl rfl rfl rfl ?_ | refine oSa rfl rfl rfl rfl ?_
                       refine OW_nil ?_))
                 all_goals first | with_reducible refine bN ?_ | with_reducible refine bE ?_ | with_reducible refine bR ?_ | refine bX rfl ?_
                 all_goals first
                   | with_reducible refine tR ?_
                   | with_reducible refine tE ?_
                   | (
                    with_reducible refine tN ?_
                    refine CW_region ?_
                    refine oM rfl rfl ?_
                    first | refine oQ (Q_binu rfl rfl rfl (by omega)) rfl rfl ?_ | refine oQ (Q_bin rfl rfl rfl) rfl rfl ?_
                    refine oA rfl rfl ?_
                    refine OW_nil ?_))
              all_goals first
                | with_reducible refine tR ?_
                | with_reducible refine tE ?_
                | (
                 with_reducible refine tN ?_
                 refine ⟨m + 1, ?_, ?_, View.mk' [] rfl rfl rfl ?_ ?_⟩
                 · refine ⟨by omega, fun j hj => ?_⟩
                   by_cases e : j = m
                   · subst e; exact hc
                   · exact hm2 j (by omega)
                 · omega
                 all_goals (repeat' first | exact vFn | refine vFc rfl ?_ | exact vHn | refine vHc rfl ?_ | refine vFc (congrArg (fun z => some (V.int z)) ?_) ?_ | refine vHc (congrArg (fun z => some (Blk.ints _ z)) ?_) ?_ | refine vFc (congrArg (fun z => some (V.bool z)) ?_) ?_ | refine vFs rfl rfl ?_ ?_))
              all_goals first | with_reducible refine bN ?_ | with_reducible refine bE ?_ | with_reducible refine bR ?_ | refine bX rfl ?_
              all_goals first
                | with_reducible refine tR ?_
                | with_reducible refine tE ?_
                | (
                 with_reducible refine tN ?_
                 refine cR ?_
                 iterate 2 refine oA rfl rfl ?_
                 refine oN ?_
                 refine CW_ret ?_)))
        all_goals (
         refine exitQ (.inr rfl) 0 (.cons (.tmp rfl rfl) (.cons (.tmp rfl rfl) .nil)) ?_ rfl (vHc rfl vHn) rfl rfl
         first
           | (rw [ordR_hit (by omega) hm2 hc]; rfl)
           | (rw [ordR_miss (fun j hj => hm2 j (by omega))]; rfl)
           | (exfalso; simp_all; done))
  · rw [ordN_no hcd]
    refine conW tab_ok [(0, .int p), (1, .arr c), (2, .arr o), (3, .arr a)] 0 [2000] [] Tryd.func41 rfl rfl rfl rfl rfl rfl rfl rfl rfl ?_
    refine cR ?_
    iterate 3 refine oBox rfl rfl rfl rfl rfl rfl ?_
    iterate 2 refine oA rfl rfl ?_
    refine oN ?_
    iterate 2 refine CW_seq ?_
    refine CW_any (fun _ => false) 9 rfl lateOk (by decide +kernel) (fun hst => ?_)
    refine aP 0 hst rfl rfl (by decide +kernel) (PX_move rfl rfl) rfl rfl ?_
    first | refine aQ 1 hst rfl rfl (by decide +kernel) (QX_of (Lw rfl rfl rfl rfl) NE_load) rfl rfl ?_ | refine aQ 1 hst rfl rfl (by decide +kernel) (QX_of (La rfl rfl rfl rfl rfl) NE_load) rfl rfl ?_
    refine aP 2 hst rfl rfl (by decide +kernel) (PX_move rfl rfl) rfl rfl ?_
    first | refine aQ 3 hst rfl rfl (by decide +kernel) (QX_of (Lw rfl rfl rfl rfl) NE_load) rfl rfl ?_ | refine aQ 3 hst rfl rfl (by decide +kernel) (QX_of (La rfl rfl rfl rfl rfl) NE_load) rfl rfl ?_
    first | refine aQ 4 hst rfl rfl (by decide +kernel) (QX_of (Lw rfl rfl rfl rfl) NE_load) rfl rfl ?_ | refine aQ 4 hst rfl rfl (by decide +kernel) (QX_of (La rfl rfl rfl rfl rfl) NE_load) rfl rfl ?_
    refine AW_one (i := 5) (by decide +kernel) ?_
    refine gBsl (zl := [0, 0, 0]) rfl rfl rfl rfl rfl rfl (.inr ⟨rfl, rfl, by decide⟩) rfl (fill2 hol hal) (okp2 hol hal) rfl rfl rfl ?_
    refine aQ 6 hst rfl rfl (by decide +kernel) (QX_call (arePoints_con p 29 (o ++ a) 2 2 (by simp; omega) (by omega)) [(0, 3)] rfl rfl (Fits.mk' (vHc rfl vHn) rfl rfl (by first | (simp; done) | exact glOk rfl rfl rfl)) rfl rfl rfl) rfl rfl ?_
    refine aQ 7 hst rfl rfl (by decide +kernel) (QX_call0 (cubicCode_con p (allF (pointB p) 3 (o ++ a) 2) c hcl) rfl rfl rfl) rfl rfl ?_
    refine aQ 8 hst rfl rfl (by decide +kernel) (QX_of (Q_assign rfl rfl) NE_assign) rfl rfl ?_
    refine AW_done (by decide +kernel) ?_
    all_goals with_reducible refine tN ?_
    all_goals (
     refine cR ?_
     refine oM rfl rfl ?_
     refine oQ (Q_bin rfl rfl rfl) rfl rfl ?_
     refine oN ?_
     first | refine cT rfl ?_ | refine cF rfl ?_ | refine CW_cond rfl (fun hc => ?_) (fun hc => ?_)
     all_goals try simp only [s1, s2, s3, s4, s5, s6, s7, s8, s9, s10, s11, s12] at hc
     all_goals try (exfalso; first | exact absurd hcd hc | exact absurd hc hcd; done)
     all_goals first
       | (
        refine CW_skip ?_)
       | (
        refine cR ?_
        refine oM rfl rfl ?_
        iterate 2 refine oA rfl rfl ?_
        refine oN ?_
        refine CW_ret ?_))
    all_goals first
      | with_reducible refine tR ?_
      | with_reducible refine tE ?_
      | (
       with_reducible refine tN ?_
       refine CW_seq ?_
       refine cR ?_
       first | refine oQ (Lw rfl rfl rfl rfl) rfl rfl ?_ | refine oQ (La rfl rfl rfl rfl rfl) rfl rfl ?_
       refine oM rfl rfl ?_
       first | refine oQ (Lw rfl rfl rfl rfl) rfl rfl ?_ | refine oQ (La rfl rfl rfl rfl rfl) rfl rfl ?_
       (exfalso; first | exact hc hcd | exact hcd hc)
       refine oQ (Q_not rfl) rfl rfl ?_
       refine oN ?_
       first | refine cT rfl ?_ | refine cF rfl ?_ | refine CW_cond rfl (fun hc => ?_) (fun hc => ?_)
       all_goals try simp only [s1, s2, s3, s4, s5, s6, s7, s8, s9, s10, s11, s12] at hc
       all_goals try (exfalso; first | exact absurd hcd hc | exact absurd hc hcd; done)
       all_goals first
         | (
          refine CW_skip ?_)
         | (
          refine cR ?_
          iterate 2 refine oA rfl rfl ?_
          refine oN ?_
          refine CW_ret ?_)
       all_goals first
         | with_reducible refine tR ?_
         | with_reducible refine tE ?_
         | (
          with_reducible refine tN ?_
          refine cR ?_
          first | refine oQ (Lw rfl rfl rfl rfl) rfl rfl ?_ | refine oQ (La rfl rfl rfl rfl rfl) rfl rfl ?_
          refine oAlloc rfl rfl rfl rfl rfl rfl rfl ?_
          first | refine oSw rfl rfl rfl rfl ?_ | refine oSa rfl rfl rfl rfl ?_
          refine oN ?_
          refine CW_seq ?_
          refine cR ?_
          refine oA rfl rfl ?_
          refine oN ?_
          refine CW_block ?_
          exfalso; first | exact hc hcd | exact hcd hc
          · first | trivial | omega | (simp; done) | (simp; omega)
          · refine View.mk' [] rfl rfl rfl ?_ ?_
            repeat' first | exact vFn | refine vFc rfl ?_ | exact vHn | refine vHc rfl ?_ | refine vFc (congrArg (fun z => some (V.int z)) ?_) ?_ | refine vHc (congrArg (fun z => some (Blk.ints _ z)) ?_) ?_ | refine vFc (congrArg (fun z => some (V.bool z)) ?_) ?_ | refine vFs rfl rfl ?_ ?_
          intro i hi
          refine CW_seq ?_
          refine cR ?_
          refine oM rfl rfl ?_
          refine oQ (Q_bin rfl rfl rfl) rfl rfl ?_
          refine oN ?_
          first | refine cT rfl ?_ | refine cF rfl ?_ | refine CW_cond rfl (fun hc => ?_) (fun hc => ?_)
          all_goals try simp only [s1, s2, s3, s4, s5, s6, s7, s8, s9, s10, s11, s12] at hc
          all_goals try (exfalso; first | exact absurd hcd hc | exact absurd hc hcd; done)
          all_goals first
            | (
             refine CW_skip ?_)
            | (
             refine CW_exit ?_)
          all_goals first
            | with_reducible refine tR ?_
            | with_reducible refine tE ?_
            | (
             with_reducible refine tN ?_
             refine CW_seq ?_
             refine CW_block ?_
             refine CW_seq ?_
             refine cR ?_
             first | refine oQ (Lw rfl rfl rfl rfl) rfl rfl ?_ | refine oQ (La rfl rfl rfl rfl rfl) rfl rfl ?_
             first | refine oQ (Lw rfl rfl rfl rfl) rfl rfl ?_ | refine oQ (La rfl rfl rfl rfl rfl) rfl rfl ?_
             refine oQ (Q_arrb rfl rfl rfl rfl rfl rfl rfl rfl rfl (by first | omega | (dsimp only; omega) | (simp; omega) | (simp; done)) (by first | omega | (dsimp only; omega) | (simp; omega) | (simp; done))) rfl rfl ?_
             refine oN ?_
             first | refine cT rfl ?_ | refine cF rfl ?_ | refine CW_cond rfl (fun hc => ?_) (fun hc => ?_)
             all_goals try simp only [s1, s2, s3, s4, s5, s6, s7, s8, s9, s10, s11, s12] at hc
             all_goals try (exfalso; first | exact absurd hcd hc | exact absurd hc hcd; done)
             all_goals first
               | (
                refine CW_skip ?_)
               | (
                refine cR ?_
                refine oM rfl rfl ?_
                iterate 2 refine oA rfl rfl ?_
                refine oN ?_
                refine CW_ret ?_)
             all_goals first
               | with_reducible refine tR ?_
               | with_reducible refine tE ?_
               | (
                with_reducible refine tN ?_
                refine cR ?_
                first | refine oQ (Lw rfl rfl rfl rfl) rfl rfl ?_ | refine oQ (La rfl rfl rfl rfl rfl) rfl rfl ?_
                refine oM rfl rfl ?_
                first | refine oQ (Lw rfl rfl rfl rfl) rfl rfl ?_ | refine oQ (La rfl rfl rfl rfl rfl) rfl rfl ?_
                first | refine oQ (Lw rfl rfl rfl rfl) rfl rfl ?_ | refine oQ (La rfl rfl rfl rfl rfl) rfl rfl ?_
                first | refine oQ (Lw rfl rfl rfl rfl) rfl rfl ?_ | refine oQ (La rfl rfl rfl rfl rfl) rfl rfl ?_
                fail "call of (loop.example/g01310/impl.Cubic).sum at slot 46"
                refine oM rfl rfl ?_
                iterate 2 refine oQ (Q_extract rfl rfl) rfl rfl ?_
                refine oAlloc rfl rfl rfl rfl rfl rfl rfl ?_
                first | refine oSw rfl rfl rfl rfl ?_ | refine oSa rfl rfl rfl rfl ?_
                refine oA rfl rfl ?_
                refine oN ?_
                refine CW_seq ?_
                refine cR ?_
                refine oM rfl rfl ?_
                refine oQ (Q_not rfl) rfl rfl ?_
                refine oM rfl rfl ?_
                all_goals first | refine oT rfl rfl ?_ | refine o1 rfl rfl rfl ?_ | refine o0 rfl rfl rfl ?_ | refine ogP1 rfl rfl rfl (fun hg => ?_) (fun hg => ?_) | refine ogP0 rfl rfl rfl (fun hg => ?_) (fun hg => ?_)
                all_goals try simp only [s1, s2, s3, s4, s5, s6, s7, s8, s9, s10, s11, s12] at hg
                all_goals first | (refine oM rfl rfl ?_) | skip
                all_goals first | refine oT rfl rfl ?_ | refine o1 rfl rfl rfl ?_ | refine o0 rfl rfl rfl ?_ | refine ogP1 rfl rfl rfl (fun hg => ?_) (fun hg => ?_) | refine ogP0 rfl rfl rfl (fun hg => ?_) (fun hg => ?_)
                all_goals try simp only [s1, s2, s3, s4, s5, s6, s7, s8, s9, s10, s11, s12] at hg
                all_goals first | (refine oQ (Q_bin rfl rfl rfl) rfl rfl ?_) | skip
                all_goals first | refine oQ (Q_pick_t rfl (by with_reducible rfl) rfl rfl) rfl rfl ?_ | refine oQ (Q_pick_f rfl (by with_reducible rfl) rfl rfl) rfl rfl ?_
                all_goals refine oN ?_
                all_goals (
                 first | refine cT rfl ?_ | refine cF rfl ?_ | refine CW_cond rfl (fun hc => ?_) (fun hc => ?_)
                 all_goals try simp only [s1, s2, s3, s4, s5, s6, s7, s8, s9, s10, s11, s12] at hc
                 all_goals try (exfalso; first | exact absurd hcd hc | exact absurd hc hcd; done)
                 all_goals first
                   | (
                    refine CW_skip ?_)
                   | (
                    refine cR ?_
                    iterate 2 refine oA rfl rfl ?_
                    refine oN ?_
                    refine CW_ret ?_))
                all_goals first
                  | with_reducible refine tR ?_
                  | with_reducible refine tE ?_
                  | (
                   with_reducible refine tN ?_
                   refine CW_region ?_
                   first | refine oQ (Lw rfl rfl rfl rfl) rfl rfl ?_ | refine oQ (La rfl rfl rfl rfl rfl) rfl rfl ?_
                   first | refine oSw rfl rfl rfl rfl ?_ | refine oSa rfl rfl rfl rfl ?_
                   refine OW_nil ?_))
             all_goals first | with_reducible refine bN ?_ | with_reducible refine bE ?_ | with_reducible refine bR ?_ | refine bX rfl ?_
             all_goals first
               | with_reducible refine tR ?_
               | with_reducible refine tE ?_
               | (
                with_reducible refine tN ?_
                refine CW_region ?_
                refine oM rfl rfl ?_
                first | refine oQ (Q_binu rfl rfl rfl (by omega)) rfl rfl ?_ | refine oQ (Q_bin rfl rfl rfl) rfl rfl ?_
                refine oA rfl rfl ?_
                refine OW_nil ?_))
          all_goals first
            | with_reducible refine tR ?_
            | with_reducible refine tE ?_
            | (
             with_reducible refine tN ?_
             fail "again 0")
          all_goals first | with_reducible refine bN ?_ | with_reducible refine bE ?_ | with_reducible refine bR ?_ | refine bX rfl ?_
          all_goals first
            | with_reducible refine tR ?_
            | with_reducible refine tE ?_
            | (
             with_reducible refine tN ?_
             refine cR ?_
             iterate 2 refine oA rfl rfl ?_
             refine oN ?_
             refine CW_ret ?_)))
    all_goals (
     first
       | (exfalso; first | exact hc hcd | exact hcd hc; done)
       | (refine exitQ (.inr rfl) 0 (.cons (.tmp rfl rfl) (.cons (.tmp rfl rfl) .nil)) ?_ rfl (vHc rfl vHn) rfl rfl
          rfl))
theorem spec_OrderOnCubic_con (p : Int) (c o a : List Int) (hcl : c.length = 10) (hol : o.length = 3) (hal : a.length = 3) : ConQ Tryd.prog [] 40 [.int p, .arr c, .arr o, .arr a] [] (ordN (codeB p (allF (pointB p) 3 (o ++ a) 2 && pointB p c)) (ordV p c o a)) := by
  by_cases hcd : codeB p (allF (pointB p) 3 (o ++ a) 2 && pointB p c) = 0
  · have hcc := (codeB_zero.1 hcd).2
    have hp := (codeB_zero.1 hcd).1
    rw [allF2 hol hal] at hcc
    simp only [Bool.and_eq_true] at hcc
    obtain ⟨⟨hpo, hpa⟩, hpc⟩ := hcc
    have hq := smN_point hpc
    have hmo := point_mem hol hpo
    have hma := point_mem hal hpa
    have h1 := l06Third_con p c o a hp hcl hq hmo hma
    have hvl := thV_len p c o a
    have h2 := l06Flex_con p c o hp hcl hq hmo
    by_cases hFK : flB p c o = true ∧ okT p c a = true
    · obtain ⟨hF, hK⟩ := hFK
      obtain ⟨d, hd1, hd2⟩ := tot_i hp c hmo hF hmo hma (fl_ok hF) hK
      rw [hF] at h2
      rw [(th_yes hd1).2] at h1
      have hreg := now_reg hp c hmo hF hma hK
      have hw3 : ∀ m, (nowF p c o a m).length = 3 := fun m => allPts_three (hreg m).1
      have hs : ∀ m, ConQ Tryd.prog [] 66 [.int p, .arr c, .arr o, .arr (nowF p c o a m), .arr a] [] (.tuple [.arr (nowF p c o a (m + 1)), .bool true]) := fun m => by
        have := l06Add_con p c o (nowF p c o a m) a hp hcl hq hmo (hreg m).1 hma
        rw [(hreg m).2.2] at this
        exact this
      rw [ordN_0 hcd, ordV_yes ⟨hF, hK⟩]
      have hw0 : nowF p c o a 0 = a := rfl
      generalize thV p c o a = v1 at *
      generalize nowF p c o a = w at *
      refine conW tab_ok [(0, .int p), (1, .arr c), (2, .arr o), (3, .arr a)] 0 [] [] Tryd.func40 rfl rfl rfl rfl rfl rfl rfl rfl rfl ?_
      refine cR ?_
      iterate 3 refine oBox rfl rfl rfl rfl rfl rfl ?_
      iterate 2 refine oA rfl rfl ?_
      refine oN ?_
      refine CW_seq ?_
      refine cR ?_
      refine oM rfl rfl ?_
      first | refine oQ (Lw rfl rfl rfl rfl) rfl rfl ?_ | refine oQ (La rfl rfl rfl rfl rfl) rfl rfl ?_
      first | refine oQ (Lw rfl rfl rfl rfl) rfl rfl ?_ | refine oQ (La rfl rfl rfl rfl rfl) rfl rfl ?_
      first | refine oQ (Lw rfl rfl rfl rfl) rfl rfl ?_ | refine oQ (La rfl rfl rfl rfl rfl) rfl rfl ?_
      refine oBsl (zl := [0, 0, 0]) rfl rfl rfl rfl (.inr ⟨rfl, rfl, by decide⟩) rfl (fill2 hol hal) (okp2 hol hal) rfl rfl rfl ?_
      refine oQ (Q_call (l06Code_row p c hcl 29 (o ++ a) 2 2 (by simp; omega) (by omega)) [(0, 3)] rfl rfl (Fits.mk' (vHc rfl vHn) rfl rfl (by first | (simp; done) | exact glOk rfl rfl rfl)) rfl rfl) rfl rfl ?_
      refine oA rfl rfl ?_
      refine oN ?_
      refine cR ?_
      refine oM rfl rfl ?_
      refine oQ (Q_bin rfl rfl rfl) rfl rfl ?_
      refine oN ?_
      first | refine cT rfl ?_ | refine cF rfl ?_ | refine CW_cond rfl (fun hc => ?_) (fun hc => ?_)
      all_goals try simp only [s1, s2, s3, s4, s5, s6, s7, s8, s9, s10, s11, s12] at hc
      all_goals try (exfalso; first | exact absurd hcd hc | exact absurd hc hcd | exact absurd (Eq.symm hc) (by decide) | (cases hc; done); done)
      all_goals first
        | (
         refine CW_skip ?_)
        | (
         refine cR ?_
         refine oM rfl rfl ?_
         iterate 2 refine oA rfl rfl ?_
         refine oN ?_
         refine CW_ret ?_)
      all_goals first
        | with_reducible refine tR ?_
        | with_reducible refine tE ?_
        | (
         with_reducible refine tN ?_
         refine CW_seq ?_
         refine cR ?_
         refine oM rfl rfl ?_
         first | refine oQ (Lw rfl rfl rfl rfl) rfl rfl ?_ | refine oQ (La rfl rfl rfl rfl rfl) rfl rfl ?_
         first | refine oQ (Lw rfl rfl rfl rfl) rfl rfl ?_ | refine oQ (La rfl rfl rfl rfl rfl) rfl rfl ?_
         first | refine oQ (Lw rfl rfl rfl rfl) rfl rfl ?_ | refine oQ (La rfl rfl rfl rfl rfl) rfl rfl ?_
         refine oQe (Q_call (h1) [] rfl rfl (Fits.mk' vHn rfl rfl (by first | (simp; done) | exact glOk rfl rfl rfl)) rfl rfl) (show _ = .tuple [.arr v1, .bool true] from rfl) rfl rfl ?_
         refine oM rfl rfl ?_
         iterate 2 refine oQ (Q_extract rfl rfl) rfl rfl ?_
         refine oAlloc rfl rfl rfl rfl rfl rfl rfl ?_
         first | refine oSw rfl rfl rfl rfl ?_ | refine oSa rfl rfl rfl rfl ?_
         refine oA rfl rfl ?_
         refine oN ?_
         refine cR ?_
         refine oM rfl rfl ?_
         refine oQe (Q_not rfl) (show _ = V.bool false from rfl) rfl rfl ?_
         refine oM rfl rfl ?_
         all_goals first | refine oT rfl rfl ?_ | refine o1 rfl rfl rfl ?_ | refine o0 rfl rfl rfl ?_ | refine ogP1 rfl rfl rfl (fun hg => ?_) (fun hg => ?_) | refine ogP0 rfl rfl rfl (fun hg => ?_) (fun hg => ?_)
         all_goals try simp only [s1, s2, s3, s4, s5, s6, s7, s8, s9, s10, s11, s12] at hg
         all_goals first | (refine oM rfl rfl ?_) | skip
         all_goals first | refine oT rfl rfl ?_ | refine o1 rfl rfl rfl ?_ | refine o0 rfl rfl rfl ?_ | refine ogP1 rfl rfl rfl (fun hg => ?_) (fun hg => ?_) | refine ogP0 rfl rfl rfl (fun hg => ?_) (fun hg => ?_)
         all_goals try simp only [s1, s2, s3, s4, s5, s6, s7, s8, s9, s10, s11, s12] at hg
         all_goals first | refine oQ (Lw rfl rfl rfl rfl) rfl rfl ?_ | refine oQ (La rfl rfl rfl rfl rfl) rfl rfl ?_ | skip
         all_goals first | refine oT rfl rfl ?_ | refine o1 rfl rfl rfl ?_ | refine o0 rfl rfl rfl ?_ | refine ogP1 rfl rfl rfl (fun hg => ?_) (fun hg => ?_) | refine ogP0 rfl rfl rfl (fun hg => ?_) (fun hg => ?_)
         all_goals try simp only [s1, s2, s3, s4, s5, s6, s7, s8, s9, s10, s11, s12] at hg
         all_goals first | refine oQ (Lw rfl rfl rfl rfl) rfl rfl ?_ | refine oQ (La rfl rfl rfl rfl rfl) rfl rfl ?_ | skip
         all_goals first | refine oT rfl rfl ?_ | refine o1 rfl rfl rfl ?_ | refine o0 rfl rfl rfl ?_ | refine ogP1 rfl rfl rfl (fun hg => ?_) (fun hg => ?_) | refine ogP0 rfl rfl rfl (fun hg => ?_) (fun hg => ?_)
         all_goals try simp only [s1, s2, s3, s4, s5, s6, s7, s8, s9, s10, s11, s12] at hg
         all_goals first | (refine oQe (Q_call (h2) [] rfl rfl (Fits.mk' vHn rfl rfl (by first | (simp; done) | exact glOk rfl rfl rfl)) rfl rfl) (show _ = .bool true from rfl) rfl rfl ?_) | skip
         all_goals first | refine oT rfl rfl ?_ | refine o1 rfl rfl rfl ?_ | refine o0 rfl rfl rfl ?_ | refine ogP1 rfl rfl rfl (fun hg => ?_) (fun hg => ?_) | refine ogP0 rfl rfl rfl (fun hg => ?_) (fun hg => ?_)
         all_goals try simp only [s1, s2, s3, s4, s5, s6, s7, s8, s9, s10, s11, s12] at hg
         all_goals first | (refine oQe (Q_not rfl) (show _ = V.bool false from rfl) rfl rfl ?_) | skip
         all_goals first | refine oQ (Q_pick_t rfl (by with_reducible rfl) rfl rfl) rfl rfl ?_ | refine oQ (Q_pick_f rfl (by with_reducible rfl) rfl rfl) rfl rfl ?_
         all_goals refine oN ?_
         all_goals (
          first | refine cT rfl ?_ | refine cF rfl ?_ | refine CW_cond rfl (fun hc => ?_) (fun hc => ?_)
          all_goals try simp only [s1, s2, s3, s4, s5, s6, s7, s8, s9, s10, s11, s12] at hc
          all_goals try (exfalso; first | exact absurd hcd hc | exact absurd hc hcd | exact absurd (Eq.symm hc) (by decide) | (cases hc; done); done)
          all_goals first
            | (
             refine CW_skip ?_)
            | (
             refine cR ?_
             iterate 2 refine oA rfl rfl ?_
             refine oN ?_
             refine CW_ret ?_))
         all_goals first
           | with_reducible refine tR ?_
           | with_reducible refine tE ?_
           | (
            with_reducible refine tN ?_
            refine cR ?_
            first | refine oQ (Lw rfl rfl rfl rfl) rfl rfl ?_ | refine oQ (La rfl rfl rfl rfl rfl) rfl rfl ?_
            refine oAlloc rfl rfl rfl rfl rfl rfl rfl ?_
            first | refine oSw rfl rfl rfl rfl ?_ | refine oSa rfl rfl rfl rfl ?_
            refine oN ?_
            refine CW_seq ?_
            refine cR ?_
            refine oA rfl rfl ?_
            refine oN ?_
            refine CW_block ?_
            refine CW_loop (ι := Nat) (fun m => m ≤ 60 ∧ ∀ j, j < m → ¬ w j = o) (fun m => ⟨[(0, .int p), (5, .ptr 0 0), (6, .ptr 1 0), (7, .ptr 2 0), (13, .ptr 5 0), (14, .int ((m : Int) + 1))], [(0, .ints 27 c), (1, .ints 29 o), (2, .ints 29 a), (5, .ints 29 (w m))], 6⟩) (fun m => 60 - m) 0 ?_ ?_ ?_
            · exact ⟨Nat.zero_le _, fun j h => absurd h (Nat.not_lt_zero _)⟩
            · refine View.mk' [] rfl rfl rfl ?_ ?_
              repeat' first | exact vFn | refine vFc rfl ?_ | exact vHn | refine vHc rfl ?_ | refine vFc (congrArg (fun z => some (V.int z)) ?_) ?_ | refine vHc (congrArg (fun z => some (Blk.ints _ z)) ?_) ?_ | refine vFc (congrArg (fun z => some (V.bool z)) ?_) ?_ | refine vFs rfl rfl ?_ ?_
              exact hw0.symm
            rintro m ⟨hm, hm2⟩
            have hwm := hw3 m
            have hwn := hw3 (m + 1)
            refine CW_seq ?_
            refine cR ?_
            refine oM rfl rfl ?_
            refine oQ (Q_bin rfl rfl rfl) rfl rfl ?_
            refine oN ?_
            first | refine cT rfl ?_ | refine cF rfl ?_ | refine CW_cond rfl (fun hc => ?_) (fun hc => ?_)
            all_goals try simp only [s1, s2, s3, s4, s5, s6, s7, s8, s9, s10, s11, s12] at hc
            all_goals try (exfalso; first | exact absurd hcd hc | exact absurd hc hcd | exact absurd (Eq.symm hc) (by decide) | (cases hc; done); done)
            all_goals first
              | (
               refine CW_skip ?_)
              | (
               refine CW_exit ?_)
            all_goals first
              | with_reducible refine tR ?_
              | with_reducible refine tE ?_
              | (
               with_reducible refine tN ?_
               refine CW_seq ?_
               refine CW_block ?_
               refine CW_seq ?_
               refine cR ?_
               first | refine oQ (Lw rfl rfl rfl rfl) rfl rfl ?_ | refine oQ (La rfl rfl rfl rfl rfl) rfl rfl ?_
               first | refine oQ (Lw rfl rfl rfl rfl) rfl rfl ?_ | refine oQ (La rfl rfl rfl rfl rfl) rfl rfl ?_
               refine oQ (Q_arrb rfl rfl rfl rfl rfl rfl rfl rfl rfl (by first | omega | (dsimp only; omega) | (simp; omega) | (simp; done)) (by first | omega | (dsimp only; omega) | (simp; omega) | (simp; done))) rfl rfl ?_
               refine oN ?_
               first | refine cT rfl ?_ | refine cF rfl ?_ | refine CW_cond rfl (fun hc => ?_) (fun hc => ?_)
               all_goals try simp only [s1, s2, s3, s4, s5, s6, s7, s8, s9, s10, s11, s12] at hc
               all_goals try (exfalso; first | exact absurd hcd hc | exact absurd hc hcd | exact absurd (Eq.symm hc) (by decide) | (cases hc; done); done)
               all_goals first
                 | (
                  refine CW_skip ?_)
                 | (
                  refine cR ?_
                  refine oM rfl rfl ?_
                  iterate 2 refine oA rfl rfl ?_
                  refine oN ?_
                  refine CW_ret ?_)
               all_goals first
                 | with_reducible refine tR ?_
                 | with_reducible refine tE ?_
                 | (
                  with_reducible refine tN ?_
                  refine cR ?_
                  refine oM rfl rfl ?_
                  first | refine oQ (Lw rfl rfl rfl rfl) rfl rfl ?_ | refine oQ (La rfl rfl rfl rfl rfl) rfl rfl ?_
                  first | refine oQ (Lw rfl rfl rfl rfl) rfl rfl ?_ | refine oQ (La rfl rfl rfl rfl rfl) rfl rfl ?_
                  first | refine oQ (Lw rfl rfl rfl rfl) rfl rfl ?_ | refine oQ (La rfl rfl rfl rfl rfl) rfl rfl ?_
                  first | refine oQ (Lw rfl rfl rfl rfl) rfl rfl ?_ | refine oQ (La rfl rfl rfl rfl rfl) rfl rfl ?_
                  refine oQe (Q_call (hs m) [] rfl rfl (Fits.mk' vHn rfl rfl (by first | (simp; done) | exact glOk rfl rfl rfl)) rfl rfl) (show _ = .tuple [.arr (w (m + 1)), .bool true] from rfl) rfl rfl ?_
                  refine oM rfl rfl ?_
                  iterate 2 refine oQ (Q_extract rfl rfl) rfl rfl ?_
                  refine oAlloc rfl rfl rfl rfl rfl rfl rfl ?_
                  first | refine oSw rfl rfl rfl rfl ?_ | refine oSa rfl rfl rfl rfl ?_
                  refine oA rfl rfl ?_
                  refine oN ?_
                  refine CW_seq ?_
                  refine cR ?_
                  refine oM rfl rfl ?_
                  refine oQe (Q_not rfl) (show _ = V.bool false from rfl) rfl rfl ?_
                  refine oN ?_
                  first | refine cT rfl ?_ | refine cF rfl ?_ | refine CW_cond rfl (fun hc => ?_) (fun hc => ?_)
                  all_goals try simp only [s1, s2, s3, s4, s5, s6, s7, s8, s9, s10, s11, s12] at hc
                  all_goals try (exfalso; first | exact absurd hcd hc | exact absurd hc hcd | exact absurd (Eq.symm hc) (by decide) | (cases hc; done); done)
                  all_goals first
                    | (
                     refine CW_skip ?_)
                    | (
                     refine cR ?_
                     iterate 2 refine oA rfl rfl ?_
                     refine oN ?_
                     refine CW_ret ?_)
                  all_goals first
                    | with_reducible refine tR ?_
                    | with_reducible refine tE ?_
                    | (
                     with_reducible refine tN ?_
                     refine CW_region ?_
                     first | refine oQ (Lw rfl rfl rfl rfl) rfl rfl ?_ | refine oQ (La rfl rfl rfl rfl rfl) rfl rfl ?_
                     first | refine oSw rfl rfl rfl rfl ?_ | refine oSa rfl rfl rfl rfl ?_
                     refine OW_nil ?_))
               all_goals first | with_reducible refine bN ?_ | with_reducible refine bE ?_ | with_reducible refine bR ?_ | refine bX rfl ?_
               all_goals first
                 | with_reducible refine tR ?_
                 | with_reducible refine tE ?_
                 | (
                  with_reducible refine tN ?_
                  refine CW_region ?_
                  refine oM rfl rfl ?_
                  first | refine oQ (Q_binu rfl rfl rfl (by omega)) rfl rfl ?_ | refine oQ (Q_bin rfl rfl rfl) rfl rfl ?_
                  refine oA rfl rfl ?_
                  refine OW_nil ?_))
            all_goals first
              | with_reducible refine tR ?_
              | with_reducible refine tE ?_
              | (
               with_reducible refine tN ?_
               refine ⟨m + 1, ?_, ?_, View.mk' [] rfl rfl rfl ?_ ?_⟩
               · refine ⟨by omega, fun j hj => ?_⟩
                 by_cases e : j = m
                 · subst e; exact hc
                 · exact hm2 j (by omega)
               · omega
               all_goals (repeat' first | exact vFn | refine vFc rfl ?_ | exact vHn | refine vHc rfl ?_ | refine vFc (congrArg (fun z => some (V.int z)) ?_) ?_ | refine vHc (congrArg (fun z => some (Blk.ints _ z)) ?_) ?_ | refine vFc (congrArg (fun z => some (V.bool z)) ?_) ?_ | refine vFs rfl rfl ?_ ?_))
            all_goals first | with_reducible refine bN ?_ | with_reducible refine bE ?_ | with_reducible refine bR ?_ | refine bX rfl ?_
            all_goals first
              | with_reducible refine tR ?_
              | with_reducible refine tE ?_
              | (
               with_reducible refine tN ?_
               refine cR ?_
               iterate 2 refine oA rfl rfl ?_
               refine oN ?_
               refine CW_ret ?_)))
      all_goals (
       refine exitQ (.inr rfl) 0 (.cons (.tmp rfl rfl) (.cons (.tmp rfl rfl) .nil)) ?_ rfl vHn rfl rfl
       first
         | (rw [ordR_hit (by omega) hm2 hc]; rfl)
         | (rw [ordR_miss (fun j hj => hm2 j (by omega))]; rfl)
         | (exfalso; simp_all; done))
    · have hbb : thK p c o a = false ∨ flB p c o = false := by
        cases hF : flB p c o with
        | false => exact .inr rfl
        | true => exact .inl (thK_no (Bool.eq_false_iff.2 fun e => hFK ⟨hF, e⟩))
      rw [ordN_0 hcd, ordV_no hFK]
      generalize thK p c o a = b1 at *
      generalize flB p c o = b2 at *
      generalize thV p c o a = v1 at *
      refine conW tab_ok [(0, .int p), (1, .arr c), (2, .arr o), (3, .arr a)] 0 [] [] Tryd.func40 rfl rfl rfl rfl rfl rfl rfl rfl rfl ?_
      refine cR ?_
      iterate 3 refine oBox rfl rfl rfl rfl rfl rfl ?_
      iterate 2 refine oA rfl rfl ?_
      refine oN ?_
      refine CW_seq ?_
      refine cR ?_
      refine oM rfl rfl ?_
      first | refine oQ (Lw rfl rfl rfl rfl) rfl rfl ?_ | refine oQ (La rfl rfl rfl rfl rfl) rfl rfl ?_
      first | refine oQ (Lw rfl rfl rfl rfl) rfl rfl ?_ | refine oQ (La rfl rfl rfl rfl rfl) rfl rfl ?_
      first | refine oQ (Lw rfl rfl rfl rfl) rfl rfl ?_ | refine oQ (La rfl rfl rfl rfl rfl) rfl rfl ?_
      refine oBsl (zl := [0, 0, 0]) rfl rfl rfl rfl (.inr ⟨rfl, rfl, by decide⟩) rfl (fill2 hol hal) (okp2 hol hal) rfl rfl rfl ?_
      refine oQ (Q_call (l06Code_row p c hcl 29 (o ++ a) 2 2 (by simp; omega) (by omega)) [(0, 3)] rfl rfl (Fits.mk' (vHc rfl vHn) rfl rfl (by first | (simp; done) | exact glOk rfl rfl rfl)) rfl rfl) rfl rfl ?_
      refine oA rfl rfl ?_
      refine oN ?_
      refine cR ?_
      refine oM rfl rfl ?_
      refine oQ (Q_bin rfl rfl rfl) rfl rfl ?_
      refine oN ?_
      first | refine cT rfl ?_ | refine cF rfl ?_ | refine CW_cond rfl (fun hc => ?_) (fun hc => ?_)
      all_goals try simp only [s1, s2, s3, s4, s5, s6, s7, s8, s9, s10, s11, s12] at hc
      all_goals try (exfalso; first | exact absurd hcd hc | exact absurd hc hcd | exact absurd (Eq.symm hc) (by decide) | (cases hc; done) | (rcases hbb with h | h <;> simp_all; done); done)
      all_goals first
        | (
         refine CW_skip ?_)
        | (
         refine cR ?_
         refine oM rfl rfl ?_
         iterate 2 refine oA rfl rfl ?_
         refine oN ?_
         refine CW_ret ?_)
      all_goals first
        | with_reducible refine tR ?_
        | with_reducible refine tE ?_
        | (
         with_reducible refine tN ?_
         refine CW_seq ?_
         refine cR ?_
         refine oM rfl rfl ?_
         first | refine oQ (Lw rfl rfl rfl rfl) rfl rfl ?_ | refine oQ (La rfl rfl rfl rfl rfl) rfl rfl ?_
         first | refine oQ (Lw rfl rfl rfl rfl) rfl rfl ?_ | refine oQ (La rfl rfl rfl rfl rfl) rfl rfl ?_
         first | refine oQ (Lw rfl rfl rfl rfl) rfl rfl ?_ | refine oQ (La rfl rfl rfl rfl rfl) rfl rfl ?_
         refine oQe (Q_call (h1) [] rfl rfl (Fits.mk' vHn rfl rfl (by first | (simp; done) | exact glOk rfl rfl rfl)) rfl rfl) (show _ = .tuple [.arr v1, .bool b1] from rfl) rfl rfl ?_
         refine oM rfl rfl ?_
         iterate 2 refine oQ (Q_extract rfl rfl) rfl rfl ?_
         refine oAlloc rfl rfl rfl rfl rfl rfl rfl ?_
         first | refine oSw rfl rfl rfl rfl ?_ | refine oSa rfl rfl rfl rfl ?_
         refine oA rfl rfl ?_
         refine oN ?_
         refine cR ?_
         refine oM rfl rfl ?_
         refine oQ (Q_not rfl) rfl rfl ?_
         refine oM rfl rfl ?_
         all_goals first | refine oT rfl rfl ?_ | refine o1 rfl rfl rfl ?_ | refine o0 rfl rfl rfl ?_ | refine ogP1 rfl rfl rfl (fun hg => ?_) (fun hg => ?_) | refine ogP0 rfl rfl rfl (fun hg => ?_) (fun hg => ?_)
         all_goals try simp only [s1, s2, s3, s4, s5, s6, s7, s8, s9, s10, s11, s12] at hg
         all_goals first | (refine oM rfl rfl ?_) | skip
         all_goals first | refine oT rfl rfl ?_ | refine o1 rfl rfl rfl ?_ | refine o0 rfl rfl rfl ?_ | refine ogP1 rfl rfl rfl (fun hg => ?_) (fun hg => ?_) | refine ogP0 rfl rfl rfl (fun hg => ?_) (fun hg => ?_)
         all_goals try simp only [s1, s2, s3, s4, s5, s6, s7, s8, s9, s10, s11, s12] at hg
         all_goals first | refine oQ (Lw rfl rfl rfl rfl) rfl rfl ?_ | refine oQ (La rfl rfl rfl rfl rfl) rfl rfl ?_ | skip
         all_goals first | refine oT rfl rfl ?_ | refine o1 rfl rfl rfl ?_ | refine o0 rfl rfl rfl ?_ | refine ogP1 rfl rfl rfl (fun hg => ?_) (fun hg => ?_) | refine ogP0 rfl rfl rfl (fun hg => ?_) (fun hg => ?_)
         all_goals try simp only [s1, s2, s3, s4, s5, s6, s7, s8, s9, s10, s11, s12] at hg
         all_goals first | refine oQ (Lw rfl rfl rfl rfl) rfl rfl ?_ | refine oQ (La rfl rfl rfl rfl rfl) rfl rfl ?_ | skip
         all_goals first | refine oT rfl rfl ?_ | refine o1 rfl rfl rfl ?_ | refine o0 rfl rfl rfl ?_ | refine ogP1 rfl rfl rfl (fun hg => ?_) (fun hg => ?_) | refine ogP0 rfl rfl rfl (fun hg => ?_) (fun hg => ?_)
         all_goals try simp only [s1, s2, s3, s4, s5, s6, s7, s8, s9, s10, s11, s12] at hg
         all_goals first | (refine oQ (Q_call0 (h2) rfl rfl rfl) rfl rfl ?_) | skip
         all_goals first | refine oT rfl rfl ?_ | refine o1 rfl rfl rfl ?_ | refine o0 rfl rfl rfl ?_ | refine ogP1 rfl rfl rfl (fun hg => ?_) (fun hg => ?_) | refine ogP0 rfl rfl rfl (fun hg => ?_) (fun hg => ?_)
         all_goals try simp only [s1, s2, s3, s4, s5, s6, s7, s8, s9, s10, s11, s12] at hg
         all_goals first | (refine oQ (Q_not rfl) rfl rfl ?_) | skip
         all_goals first | refine oQ (Q_pick_t rfl (by with_reducible rfl) rfl rfl) rfl rfl ?_ | refine oQ (Q_pick_f rfl (by with_reducible rfl) rfl rfl) rfl rfl ?_
         all_goals refine oN ?_
         all_goals (
          first | refine cT rfl ?_ | refine cF rfl ?_ | refine CW_cond rfl (fun hc => ?_) (fun hc => ?_)
          all_goals try simp only [s1, s2, s3, s4, s5, s6, s7, s8, s9, s10, s11, s12] at hc
          all_goals try (exfalso; first | exact absurd hcd hc | exact absurd hc hcd | exact absurd (Eq.symm hc) (by decide) | (cases hc; done) | (rcases hbb with h | h <;> simp_all; done); done)
          all_goals first
            | (
             refine CW_skip ?_)
            | (
             refine cR ?_
             iterate 2 refine oA rfl rfl ?_
             refine oN ?_
             refine CW_ret ?_))
         all_goals first
           | with_reducible refine tR ?_
           | with_reducible refine tE ?_
           | (
            with_reducible refine tN ?_
            refine cR ?_
            first | refine oQ (Lw rfl rfl rfl rfl) rfl rfl ?_ | refine oQ (La rfl rfl rfl rfl rfl) rfl rfl ?_
            refine oAlloc rfl rfl rfl rfl rfl rfl rfl ?_
            first | refine oSw rfl rfl rfl rfl ?_ | refine oSa rfl rfl rfl rfl ?_
            refine oN ?_
            refine CW_seq ?_
            refine cR ?_
            refine oA rfl rfl ?_
            refine oN ?_
            refine CW_block ?_
            exfalso; first | (cases hc; done) | (rcases hbb with h | h <;> simp_all; done)
            · first | trivial | omega | (simp; done) | (simp; omega)
            · refine View.mk' [] rfl rfl rfl ?_ ?_
              repeat' first | exact vFn | refine vFc rfl ?_ | exact vHn | refine vHc rfl ?_ | refine vFc (congrArg (fun z => some (V.int z)) ?_) ?_ | refine vHc (congrArg (fun z => some (Blk.ints _ z)) ?_) ?_ | refine vFc (congrArg (fun z => some (V.bool z)) ?_) ?_ | refine vFs rfl rfl ?_ ?_
            intro i hi
            refine CW_seq ?_
            refine cR ?_
            refine oM rfl rfl ?_
            refine oQ (Q_bin rfl rfl rfl) rfl rfl ?_
            refine oN ?_
            first | refine cT rfl ?_ | refine cF rfl ?_ | refine CW_cond rfl (fun hc => ?_) (fun hc => ?_)
            all_goals try simp only [s1, s2, s3, s4, s5, s6, s7, s8, s9, s10, s11, s12] at hc
            all_goals try (exfalso; first | exact absurd hcd hc | exact absurd hc hcd | exact absurd (Eq.symm hc) (by decide) | (cases hc; done) | (rcases hbb with h | h <;> simp_all; done); done)
            all_goals first
              | (
               refine CW_skip ?_)
              | (
               refine CW_exit ?_)
            all_goals first
              | with_reducible refine tR ?_
              | with_reducible refine tE ?_
              | (
               with_reducible refine tN ?_
               refine CW_seq ?_
               refine CW_block ?_
               refine CW_seq ?_
               refine cR ?_
               first | refine oQ (Lw rfl rfl rfl rfl) rfl rfl ?_ | refine oQ (La rfl rfl rfl rfl rfl) rfl rfl ?_
               first | refine oQ (Lw rfl rfl rfl rfl) rfl rfl ?_ | refine oQ (La rfl rfl rfl rfl rfl) rfl rfl ?_
               refine oQ (Q_arrb rfl rfl rfl rfl rfl rfl rfl rfl rfl (by first | omega | (dsimp only; omega) | (simp; omega) | (simp; done)) (by first | omega | (dsimp only; omega) | (simp; omega) | (simp; done))) rfl rfl ?_
               refine oN ?_
               first | refine cT rfl ?_ | refine cF rfl ?_ | refine CW_cond rfl (fun hc => ?_) (fun hc => ?_)
               all_goals try simp only [s1, s2, s3, s4, s5, s6, s7, s8, s9, s10, s11, s12] at hc
               all_goals try (exfalso; first | exact absurd hcd hc | exact absurd hc hcd | exact absurd (Eq.symm hc) (by decide) | (cases hc; done) | (rcases hbb with h | h <;> simp_all; done); done)
               all_goals first
                 | (
                  refine CW_skip ?_)
                 | (
                  refine cR ?_
                  refine oM rfl rfl ?_
                  iterate 2 refine oA rfl rfl ?_
                  refine oN ?_
                  refine CW_ret ?_)
               all_goals first
                 | with_reducible refine tR ?_
                 | with_reducible refine tE ?_
                 | (
                  with_reducible refine tN ?_
                  refine cR ?_
                  refine oM rfl rfl ?_
                  first | refine oQ (Lw rfl rfl rfl rfl) rfl rfl ?_ | refine oQ (La rfl rfl rfl rfl rfl) rfl rfl ?_
                  first | refine oQ (Lw rfl rfl rfl rfl) rfl rfl ?_ | refine oQ (La rfl rfl rfl rfl rfl) rfl rfl ?_
                  first | refine oQ (Lw rfl rfl rfl rfl) rfl rfl ?_ | refine oQ (La rfl rfl rfl rfl rfl) rfl rfl ?_
                  first | refine oQ (Lw rfl rfl rfl rfl) rfl rfl ?_ | refine oQ (La rfl rfl rfl rfl rfl) rfl rfl ?_
                  fail "call of loop.example/g01310/spec.l06Add at slot 58"
                  refine oM rfl rfl ?_
                  iterate 2 refine oQ (Q_extract rfl rfl) rfl rfl ?_
                  refine oAlloc rfl rfl rfl rfl rfl rfl rfl ?_
                  first | refine oSw rfl rfl rfl rfl ?_ | refine oSa rfl rfl rfl rfl ?_
                  refine oA rfl rfl ?_
                  refine oN ?_
                  refine CW_seq ?_
                  refine cR ?_
                  refine oM rfl rfl ?_
                  refine oQ (Q_not rfl) rfl rfl ?_
                  refine oN ?_
                  first | refine cT rfl ?_ | refine cF rfl ?_ | refine CW_cond rfl (fun hc => ?_) (fun hc => ?_)
                  all_goals try simp only [s1, s2, s3, s4, s5, s6, s7, s8, s9, s10, s11, s12] at hc
                  all_goals try (exfalso; first | exact absurd hcd hc | exact absurd hc hcd | exact absurd (Eq.symm hc) (by decide) | (cases hc; done) | (rcases hbb with h | h <;> simp_all; done); done)
                  all_goals first
                    | (
                     refine CW_skip ?_)
                    | (
                     refine cR ?_
                     iterate 2 refine oA rfl rfl ?_
                     refine oN ?_
                     refine CW_ret ?_)
                  all_goals first
                    | with_reducible refine tR ?_
                    | with_reducible refine tE ?_
                    | (
                     with_reducible refine tN ?_
                     refine CW_region ?_
                     first | refine oQ (Lw rfl rfl rfl rfl) rfl rfl ?_ | refine oQ (La rfl rfl rfl rfl rfl) rfl rfl ?_
                     first | refine oSw rfl rfl rfl rfl ?_ | refine oSa rfl rfl rfl rfl ?_
                     refine OW_nil ?_))
               all_goals first | with_reducible refine bN ?_ | with_reducible refine bE ?_ | with_reducible refine bR ?_ | refine bX rfl ?_
               all_goals first
                 | with_reducible refine tR ?_
                 | with_reducible refine tE ?_
                 | (
                  with_reducible refine tN ?_
                  refine CW_region ?_
                  refine oM rfl rfl ?_
                  first | refine oQ (Q_binu rfl rfl rfl (by omega)) rfl rfl ?_ | refine oQ (Q_bin rfl rfl rfl) rfl rfl ?_
                  refine oA rfl rfl ?_
                  refine OW_nil ?_))
            all_goals first
              | with_reducible refine tR ?_
              | with_reducible refine tE ?_
              | (
               with_reducible refine tN ?_
               fail "again 0")
            all_goals first | with_reducible refine bN ?_ | with_reducible refine bE ?_ | with_reducible refine bR ?_ | refine bX rfl ?_
            all_goals first
              | with_reducible refine tR ?_
              | with_reducible refine tE ?_
              | (
               with_reducible refine tN ?_
               refine cR ?_
               iterate 2 refine oA rfl rfl ?_
               refine oN ?_
               refine CW_ret ?_)))
      all_goals (
       refine exitQ (.inr rfl) 0 (.cons (.tmp rfl rfl) (.cons (.tmp rfl rfl) .nil)) ?_ rfl vHn rfl rfl
       first
         | rfl
         | (exfalso; rcases hbb with h | h <;> simp_all; done))
  · rw [ordN_no hcd]
    refine conW tab_ok [(0, .int p), (1, .arr c), (2, .arr o), (3, .arr a)] 0 [] [] Tryd.func40 rfl rfl rfl rfl rfl rfl rfl rfl rfl ?_
    refine cR ?_
    iterate 3 refine oBox rfl rfl rfl rfl rfl rfl ?_
    iterate 2 refine oA rfl rfl ?_
    refine oN ?_
    refine CW_seq ?_
    refine cR ?_
    refine oM rfl rfl ?_
    first | refine oQ (Lw rfl rfl rfl rfl) rfl rfl ?_ | refine oQ (La rfl rfl rfl rfl rfl) rfl rfl ?_
    first | refine oQ (Lw rfl rfl rfl rfl) rfl rfl ?_ | refine oQ (La rfl rfl rfl rfl rfl) rfl rfl ?_
    first | refine oQ (Lw rfl rfl rfl rfl) rfl rfl ?_ | refine oQ (La rfl rfl rfl rfl rfl) rfl rfl ?_
    refine oBsl (zl := [0, 0, 0]) rfl rfl rfl rfl (.inr ⟨rfl, rfl, by decide⟩) rfl (fill2 hol hal) (okp2 hol hal) rfl rfl rfl ?_
    refine oQ (Q_call (l06Code_row p c hcl 29 (o ++ a) 2 2 (by simp; omega) (by omega)) [(0, 3)] rfl rfl (Fits.mk' (vHc rfl vHn) rfl rfl (by first | (simp; done) | exact glOk rfl rfl rfl)) rfl rfl) rfl rfl ?_
    refine oA rfl rfl ?_
    refine oN ?_
    refine cR ?_
    refine oM rfl rfl ?_
    refine oQ (Q_bin rfl rfl rfl) rfl rfl ?_
    refine oN ?_
    first | refine cT rfl ?_ | refine cF rfl ?_ | refine CW_cond rfl (fun hc => ?_) (fun hc => ?_)
    all_goals try simp only [s1, s2, s3, s4, s5, s6, s7, s8, s9, s10, s11, s12] at hc
    all_goals try (exfalso; first | exact absurd hcd hc | exact absurd hc hcd; done)
    all_goals first
      | (
       refine CW_skip ?_)
      | (
       refine cR ?_
       refine oM rfl rfl ?_
       iterate 2 refine oA rfl rfl ?_
       refine oN ?_
       refine CW_ret ?_)
    all_goals first
      | with_reducible refine tR ?_
      | with_reducible refine tE ?_
      | (
       with_reducible refine tN ?_
       refine CW_seq ?_
       refine cR ?_
       refine oM rfl rfl ?_
       first | refine oQ (Lw rfl rfl rfl rfl) rfl rfl ?_ | refine oQ (La rfl rfl rfl rfl rfl) rfl rfl ?_
       first | refine oQ (Lw rfl rfl rfl rfl) rfl rfl ?_ | refine oQ (La rfl rfl rfl rfl rfl) rfl rfl ?_
       first | refine oQ (Lw rfl rfl rfl rfl) rfl rfl ?_ | refine oQ (La rfl rfl rfl rfl rfl) rfl rfl ?_
       (exfalso; first | exact hc hcd | exact hcd hc)
       refine oM rfl rfl ?_
       iterate 2 refine oQ (Q_extract rfl rfl) rfl rfl ?_
       refine oAlloc rfl rfl rfl rfl rfl rfl rfl ?_
       first | refine oSw rfl rfl rfl rfl ?_ | refine oSa rfl rfl rfl rfl ?_
       refine oA rfl rfl ?_
       refine oN ?_
       refine cR ?_
       refine oM rfl rfl ?_
       refine oQ (Q_not rfl) rfl rfl ?_
       refine oM rfl rfl ?_
       all_goals first | refine oT rfl rfl ?_ | refine o1 rfl rfl rfl ?_ | refine o0 rfl rfl rfl ?_ | refine ogP1 rfl rfl rfl (fun hg => ?_) (fun hg => ?_) | refine ogP0 rfl rfl rfl (fun hg => ?_) (fun hg => ?_)
       all_goals try simp only [s1, s2, s3, s4, s5, s6, s7, s8, s9, s10, s11, s12] at hg
       all_goals first | (refine oM rfl rfl ?_) | skip
       all_goals first | refine oT rfl rfl ?_ | refine o1 rfl rfl rfl ?_ | refine o0 rfl rfl rfl ?_ | refine ogP1 rfl rfl rfl (fun hg => ?_) (fun hg => ?_) | refine ogP0 rfl rfl rfl (fun hg => ?_) (fun hg => ?_)
       all_goals try simp only [s1, s2, s3, s4, s5, s6, s7, s8, s9, s10, s11, s12] at hg
       all_goals first | refine oQ (Lw rfl rfl rfl rfl) rfl rfl ?_ | refine oQ (La rfl rfl rfl rfl rfl) rfl rfl ?_ | skip
       all_goals first | refine oT rfl rfl ?_ | refine o1 rfl rfl rfl ?_ | refine o0 rfl rfl rfl ?_ | refine ogP1 rfl rfl rfl (fun hg => ?_) (fun hg => ?_) | refine ogP0 rfl rfl rfl (fun hg => ?_) (fun hg => ?_)
       all_goals try simp only [s1, s2, s3, s4, s5, s6, s7, s8, s9, s10, s11, s12] at hg
       all_goals first | refine oQ (Lw rfl rfl rfl rfl) rfl rfl ?_ | refine oQ (La rfl rfl rfl rfl rfl) rfl rfl ?_ | skip
       all_goals first | refine oT rfl rfl ?_ | refine o1 rfl rfl rfl ?_ | refine o0 rfl rfl rfl ?_ | refine ogP1 rfl rfl rfl (fun hg => ?_) (fun hg => ?_) | refine ogP0 rfl rfl rfl (fun hg => ?_) (fun hg => ?_)
       all_goals try simp only [s1, s2, s3, s4, s5, s6, s7, s8, s9, s10, s11, s12] at hg
       all_goals first | ((exfalso; first | exact hc hcd | exact hcd hc)) | skip
       all_goals first | refine oT rfl rfl ?_ | refine o1 rfl rfl rfl ?_ | refine o0 rfl rfl rfl ?_ | refine ogP1 rfl rfl rfl (fun hg => ?_) (fun hg => ?_) | refine ogP0 rfl rfl rfl (fun hg => ?_) (fun hg => ?_)
       all_goals try simp only [s1, s2, s3, s4, s5, s6, s7, s8, s9, s10, s11, s12] at hg
       all_goals first | (refine oQ (Q_not rfl) rfl rfl ?_) | skip
       all_goals first | refine oQ (Q_pick_t rfl (by with_reducible rfl) rfl rfl) rfl rfl ?_ | refine oQ (Q_pick_f rfl (by with_reducible rfl) rfl rfl) rfl rfl ?_
       all_goals refine oN ?_
       all_goals (
        first | refine cT rfl ?_ | refine cF rfl ?_ | refine CW_cond rfl (fun hc => ?_) (fun hc => ?_)
        all_goals try simp only [s1, s2, s3, s4, s5, s6, s7, s8, s9, s10, s11, s12] at hc
        all_goals try (exfalso; first | exact absurd hcd hc | exact absurd hc hcd; done)
        all_goals first
          | (
           refine CW_skip ?_)
          | (
           refine cR ?_
           iterate 2 refine oA rfl rfl ?_
           refine oN ?_
           refine CW_ret ?_))
       all_goals first
         | with_reducible refine tR ?_
         | with_reducible refine tE ?_
         | (
          with_reducible refine tN ?_
          refine cR ?_
          first | refine oQ (Lw rfl rfl rfl rfl) rfl rfl ?_ | refine oQ (La rfl rfl rfl rfl rfl) rfl rfl ?_
          refine oAlloc rfl rfl rfl rfl rfl rfl rfl ?_
          first | refine oSw rfl rfl rfl rfl ?_ | refine oSa rfl rfl rfl rfl ?_
          refine oN ?_
          refine CW_seq ?_
          refine cR ?_
          refine oA rfl rfl ?_
          refine oN ?_
          refine CW_block ?_
          exfalso; first | exact hc hcd | exact hcd hc
          · first | trivial | omega | (simp; done) | (simp; omega)
          · refine View.mk' [] rfl rfl rfl ?_ ?_
            repeat' first | exact vFn | refine vFc rfl ?_ | exact vHn | refine vHc rfl ?_ | refine vFc (congrArg (fun z => some (V.int z)) ?_) ?_ | refine vHc (congrArg (fun z => some (Blk.ints _ z)) ?_) ?_ | refine vFc (congrArg (fun z => some (V.bool z)) ?_) ?_ | refine vFs rfl rfl ?_ ?_
          intro i hi
          refine CW_seq ?_
          refine cR ?_
          refine oM rfl rfl ?_
          refine oQ (Q_bin rfl rfl rfl) rfl rfl ?_
          refine oN ?_
          first | refine cT rfl ?_ | refine cF rfl ?_ | refine CW_cond rfl (fun hc => ?_) (fun hc => ?_)
          all_goals try simp only [s1, s2, s3, s4, s5, s6, s7, s8, s9, s10, s11, s12] at hc
          all_goals try (exfalso; first | exact absurd hcd hc | exact absurd hc hcd; done)
          all_goals first
            | (
             refine CW_skip ?_)
            | (
             refine CW_exit ?_)
          all_goals first
            | with_reducible refine tR ?_
            | with_reducible refine tE ?_
            | (
             with_reducible refine tN ?_
             refine CW_seq ?_
             refine CW_block ?_
             refine CW_seq ?_
             refine cR ?_
             first | refine oQ (Lw rfl rfl rfl rfl) rfl rfl ?_ | refine oQ (La rfl rfl rfl rfl rfl) rfl rfl ?_
             first | refine oQ (Lw rfl rfl rfl rfl) rfl rfl ?_ | refine oQ (La rfl rfl rfl rfl rfl) rfl rfl ?_
             refine oQ (Q_arrb rfl rfl rfl rfl rfl rfl rfl rfl rfl (by first | omega | (dsimp only; omega) | (simp; omega) | (simp; done)) (by first | omega | (dsimp only; omega) | (simp; omega) | (simp; done))) rfl rfl ?_
             refine oN ?_
             first | refine cT rfl ?_ | refine cF rfl ?_ | refine CW_cond rfl (fun hc => ?_) (fun hc => ?_)
             all_goals try simp only [s1, s2, s3, s4, s5, s6, s7, s8, s9, s10, s11, s12] at hc
             all_goals try (exfalso; first | exact absurd hcd hc | exact absurd hc hcd; done)
             all_goals first
               | (
                refine CW_skip ?_)
               | (
                refine cR ?_
                refine oM rfl rfl ?_
                iterate 2 refine oA rfl rfl ?_
                refine oN ?_
                refine CW_ret ?_)
             all_goals first
               | with_reducible refine tR ?_
               | with_reducible refine tE ?_
               | (
                with_reducible refine tN ?_
                refine cR ?_
                refine oM rfl rfl ?_
                first | refine oQ (Lw rfl rfl rfl rfl) rfl rfl ?_ | refine oQ (La rfl rfl rfl rfl rfl) rfl rfl ?_
                first | refine oQ (Lw rfl rfl rfl rfl) rfl rfl ?_ | refine oQ (La rfl rfl rfl rfl rfl) rfl rfl ?_
                first | refine oQ (Lw rfl rfl rfl rfl) rfl rfl ?_ | refine oQ (La rfl rfl rfl rfl rfl) rfl rfl ?_
                first | refine oQ (Lw rfl rfl rfl rfl) rfl rfl ?_ | refine oQ (La rfl rfl rfl rfl rfl) rfl rfl ?_
                fail "call of loop.example/g01310/spec.l06Add at slot 58"
                refine oM rfl rfl ?_
                iterate 2 refine oQ (Q_extract rfl rfl) rfl rfl ?_
                refine oAlloc rfl rfl rfl rfl rfl rfl rfl ?_
                first | refine oSw rfl rfl rfl rfl ?_ | refine oSa rfl rfl rfl rfl ?_
                refine oA rfl rfl ?_
                refine oN ?_
                refine CW_seq ?_
                refine cR ?_
                refine oM rfl rfl ?_
                refine oQ (Q_not rfl) rfl rfl ?_
                refine oN ?_
                first | refine cT rfl ?_ | refine cF rfl ?_ | refine CW_cond rfl (fun hc => ?_) (fun hc => ?_)
                all_goals try simp only [s1, s2, s3, s4, s5, s6, s7, s8, s9, s10, s11, s12] at hc
                all_goals try (exfalso; first | exact absurd hcd hc | exact absurd hc hcd; done)
                all_goals first
                  | (
                   refine CW_skip ?_)
                  | (
                   refine cR ?_
                   iterate 2 refine oA rfl rfl ?_
                   refine oN ?_
                   refine CW_ret ?_)
                all_goals first
                  | with_reducible refine tR ?_
                  | with_reducible refine tE ?_
                  | (
                   with_reducible refine tN ?_
                   refine CW_region ?_
                   first | refine oQ (Lw rfl rfl rfl rfl) rfl rfl ?_ | refine oQ (La rfl rfl rfl rfl rfl) rfl rfl ?_
                   first | refine oSw rfl rfl rfl rfl ?_ | refine oSa rfl rfl rfl rfl ?_
                   refine OW_nil ?_))
             all_goals first | with_reducible refine bN ?_ | with_reducible refine bE ?_ | with_reducible refine bR ?_ | refine bX rfl ?_
             all_goals first
               | with_reducible refine tR ?_
               | with_reducible refine tE ?_
               | (
                with_reducible refine tN ?_
                refine CW_region ?_
                refine oM rfl rfl ?_
                first | refine oQ (Q_binu rfl rfl rfl (by omega)) rfl rfl ?_ | refine oQ (Q_bin rfl rfl rfl) rfl rfl ?_
                refine oA rfl rfl ?_
                refine OW_nil ?_))
          all_goals first
            | with_reducible refine tR ?_
            | with_reducible refine tE ?_
            | (
             with_reducible refine tN ?_
             fail "again 0")
          all_goals first | with_reducible refine bN ?_ | with_reducible refine bE ?_ | with_reducible refine bR ?_ | refine bX rfl ?_
          all_goals first
            | with_reducible refine tR ?_
            | with_reducible refine tE ?_
            | (
             with_reducible refine tN ?_
             refine cR ?_
             iterate 2 refine oA rfl rfl ?_
             refine oN ?_
             refine CW_ret ?_)))
    all_goals (
     first
       | (exfalso; first | exact hc hcd | exact hcd hc; done)
       | (refine exitQ (.inr rfl) 0 (.cons (.tmp rfl rfl) (.cons (.tmp rfl rfl) .nil)) ?_ rfl vHn rfl rfl
          rfl))
end Go.Proofs.YtcklfkblhmlbbaaDoor
namespace Go.Proofs.YtcklfkblhmlbbaaDoor
attribute [local irreducible] CW OW QW QOp Con thenP inBlockP
set_option maxRecDepth 10000
set_option linter.unusedSimpArgs false
set_option linter.unusedVariables false
theorem toPoint_con (l : List Int) (hl : l.length = 3) : ConQ Tryd.prog [] 15 [.arr l] [] (.arr l) := by
  refine conW tab_ok [(0, .arr l)] 0 [] [] Tryd.func15 rfl rfl rfl rfl rfl rfl rfl rfl rfl ?_
  refine cR ?_
  refine oBox rfl rfl rfl rfl rfl rfl ?_
  refine oAlloc rfl rfl rfl rfl rfl rfl rfl ?_
  refine oN ?_
  refine cR ?_
  refine oAlloc rfl rfl rfl rfl rfl rfl rfl ?_
  refine oN ?_
  refine CW_seq ?_
  refine cR ?_
  refine oA rfl rfl ?_
  refine oN ?_
  refine CW_block ?_
  refine CW_loop (ι := Nat) (fun i => i ≤ 3) (fun i => ⟨[(1, .ptr 0 0), (2, .ptr 1 0), (3, .ptr 2 0), (4, .int i)], [(0, .ints 23 l), (1, .ints 29 [0, 0, 0]), (2, .ints 29 (l.take i ++ List.replicate (3 - i) 0))], 3⟩) (fun i => 3 - i) 0 ?_ ?_ ?_
  · first | trivial | omega | (simp; done) | (simp; omega)
  · refine View.mk' [] rfl rfl rfl ?_ ?_
    repeat' first | exact vFn | refine vFc rfl ?_ | exact vHn | refine vHc rfl ?_ | refine vFc (congrArg (fun z => some (V.int z)) ?_) ?_ | refine vHc (congrArg (fun z => some (Blk.ints _ z)) ?_) ?_ | refine vFc (congrArg (fun z => some (V.bool z)) ?_) ?_ | refine vFs rfl rfl ?_ ?_
  intro i hi
  refine CW_seq ?_
  refine cR ?_
  refine oM rfl rfl ?_
  refine oQ (Q_bin rfl rfl rfl) rfl rfl ?_
  refine oN ?_
  first | refine cT rfl ?_ | refine cF rfl ?_ | refine CW_cond rfl (fun hc => ?_) (fun hc => ?_)
  all_goals try simp only [s1, s2, s3, s4, s5, s6, s7, s8, s9, s10, s11, s12] at hc
  all_goals first
    | (
     refine CW_skip ?_)
    | (
     refine CW_exit ?_)
  all_goals first
    | with_reducible refine tR ?_
    | with_reducible refine tE ?_
    | (
     with_reducible refine tN ?_
     refine CW_seq ?_
     refine CW_block ?_
     refine CW_region ?_
     iterate 2 refine oM rfl rfl ?_
     first | refine oQ (Ia0 rfl rfl rfl rfl rfl rfl) rfl rfl ?_ | refine oQ (Ia1 rfl rfl rfl rfl rfl rfl) rfl rfl ?_
     refine oQ (Ld rfl rfl rfl rfl) rfl rfl ?_
     first | refine oQ (Ia0 rfl rfl rfl rfl rfl rfl) rfl rfl ?_ | refine oQ (Ia1 rfl rfl rfl rfl rfl rfl) rfl rfl ?_
     refine oS rfl rfl rfl rfl rfl ?_
     refine OW_nil ?_
     all_goals first | with_reducible refine bN ?_ | with_reducible refine bE ?_ | with_reducible refine bR ?_ | refine bX rfl ?_
     all_goals with_reducible refine tN ?_
     all_goals (
      refine CW_region ?_
      refine oM rfl rfl ?_
      first | refine oQ (Q_binu rfl rfl rfl (by omega)) rfl rfl ?_ | refine oQ (Q_bin rfl rfl rfl) rfl rfl ?_
      refine oA rfl rfl ?_
      refine OW_nil ?_))
  all_goals first
    | with_reducible refine tR ?_
    | with_reducible refine tE ?_
    | (
     with_reducible refine tN ?_
     refine ⟨i + 1, ?_, ?_, View.mk' [] rfl rfl rfl ?_ ?_⟩
     · omega
     · omega
     all_goals (repeat' first | exact vFn | refine vFc rfl ?_ | exact vHn | refine vHc rfl ?_ | refine vFc (congrArg (fun z => some (V.int z)) ?_) ?_ | refine vHc (congrArg (fun z => some (Blk.ints _ z)) ?_) ?_ | refine vFc (congrArg (fun z => some (V.bool z)) ?_) ?_ | refine vFs rfl rfl ?_ ?_)
     all_goals exact fill_set (by omega) hl)
  all_goals first | with_reducible refine bN ?_ | with_reducible refine bE ?_ | with_reducible refine bR ?_ | refine bX rfl ?_
  all_goals with_reducible refine tN ?_
  all_goals (
   refine cR ?_
   first | refine oQ (Lw rfl rfl rfl rfl) rfl rfl ?_ | refine oQ (La rfl rfl rfl rfl rfl) rfl rfl ?_
   first | refine oSw rfl rfl rfl rfl ?_ | refine oSa rfl rfl rfl rfl ?_
   refine oN ?_
   refine CW_ret ?_)
  all_goals (
   have e : i = 3 := by omega
   subst e
   refine exitQ (.inr rfl) 0 (.cons (.arr rfl rfl rfl rfl (by simp [hl])) .nil) ?_ rfl vHn rfl rfl
   simp [resV, ← hl])
end Go.Proofs.YtcklfkblhmlbbaaDoor
namespace Go.Proofs.YtcklfkblhmlbbaaDoor
attribute [local irreducible] CW OW QW QOp Con thenP inBlockP AW QX RW
set_option maxRecDepth 10000
set_option linter.unusedSimpArgs false
set_option linter.unusedVariables false
theorem law_FnExactOrderOnCubic (p : Int) (c : List Int) (o : List Int) (a : List Int) (qlc : c.length = 10) (qlo : o.length = 3) (qla : a.length = 3) : ConQ Tryd.prog [(0, 2000)] 11 [.int p, .arr c, .arr o, .arr a] [(2000, .ro 0 cuT)] (.bool true) := by
  have hsp := spec_OrderOnCubic_con p c o a qlc qlo qla
  have him := impl_OrderOnCubic_con p c o a qlc qlo qla
  generalize codeB p (allF (pointB p) 3 (o ++ a) 2 && pointB p c) = cd at *
  unfold ordN at hsp him
  generalize (if cd = 0 then (ordV p c o a).1 else 0) = vv at *
  generalize (if cd = 0 then (ordV p c o a).2 else cd) = cc at *
  refine conW tab_ok [(0, .int p), (1, .arr c), (2, .arr o), (3, .arr a)] 0 [2000] [] Tryd.func11 rfl rfl rfl rfl rfl rfl rfl rfl rfl ?_
  refine cR ?_
  iterate 3 refine oBox rfl rfl rfl rfl rfl rfl ?_
  refine oA rfl rfl ?_
  refine oN ?_
  refine CW_seq ?_
  refine CW_draw lateOk (by decide +kernel) ?_
  refine qM rfl rfl ?_
  first | refine qQ (Lw rfl rfl rfl rfl) rfl rfl ?_ | refine qQ (La rfl rfl rfl rfl rfl) rfl rfl ?_
  refine qQ (Q_call0 (toCubic_con _ qlc) rfl rfl rfl) rfl rfl ?_
  first | refine qQ (Lw rfl rfl rfl rfl) rfl rfl ?_ | refine qQ (La rfl rfl rfl rfl rfl) rfl rfl ?_
  refine qQ (Q_call0 (toPoint_con _ qlo) rfl rfl rfl) rfl rfl ?_
  first | refine qQ (Lw rfl rfl rfl rfl) rfl rfl ?_ | refine qQ (La rfl rfl rfl rfl rfl) rfl rfl ?_
  refine qQ (Q_call0 (toPoint_con _ qla) rfl rfl rfl) rfl rfl ?_
  refine qQ (Q_call0 (hsp) rfl rfl rfl) rfl rfl ?_
  refine qM rfl rfl ?_
  iterate 2 refine qQ (Q_extract rfl rfl) rfl rfl ?_
  iterate 2 refine qA rfl rfl ?_
  refine QW_nil ?_
  all_goals with_reducible refine tN ?_
  all_goals (
   refine CW_seq ?_
   refine CW_draw lateOk (by decide +kernel) ?_
   refine qM rfl rfl ?_
   first | refine qQ (Lw rfl rfl rfl rfl) rfl rfl ?_ | refine qQ (La rfl rfl rfl rfl rfl) rfl rfl ?_
   refine qQ (Q_call0 (toCubic_con _ qlc) rfl rfl rfl) rfl rfl ?_
   first | refine qQ (Lw rfl rfl rfl rfl) rfl rfl ?_ | refine qQ (La rfl rfl rfl rfl rfl) rfl rfl ?_
   refine qQ (Q_call0 (toPoint_con _ qlo) rfl rfl rfl) rfl rfl ?_
   first | refine qQ (Lw rfl rfl rfl rfl) rfl rfl ?_ | refine qQ (La rfl rfl rfl rfl rfl) rfl rfl ?_
   refine qQ (Q_call0 (toPoint_con _ qla) rfl rfl rfl) rfl rfl ?_
   refine qQ (Q_call (him) [] rfl rfl (Fits.mk' (vHc rfl vHn) rfl rfl (by first | (simp; done) | exact glOk rfl rfl rfl)) rfl rfl) rfl rfl ?_
   refine qM rfl rfl ?_
   iterate 2 refine qQ (Q_extract rfl rfl) rfl rfl ?_
   iterate 2 refine qA rfl rfl ?_
   refine QW_nil ?_
   all_goals with_reducible refine tN ?_
   all_goals (
    refine CW_seq ?_
    refine cR ?_
    iterate 2 refine oM rfl rfl ?_
    refine oQ (Q_bin rfl rfl rfl) rfl rfl ?_
    refine oM rfl rfl ?_
    all_goals first | refine oT rfl rfl ?_ | refine o1 rfl rfl rfl ?_ | refine o0 rfl rfl rfl ?_ | refine ogP1 rfl rfl rfl (fun hg => ?_) (fun hg => ?_) | refine ogP0 rfl rfl rfl (fun hg => ?_) (fun hg => ?_)
    all_goals try simp only [s1, s2, s3, s4, s5, s6, s7, s8, s9, s10, s11, s12] at hg
    all_goals first | (refine oM rfl rfl ?_) | skip
    all_goals first | refine oT rfl rfl ?_ | refine o1 rfl rfl rfl ?_ | refine o0 rfl rfl rfl ?_ | refine ogP1 rfl rfl rfl (fun hg => ?_) (fun hg => ?_) | refine ogP0 rfl rfl rfl (fun hg => ?_) (fun hg => ?_)
    all_goals try simp only [s1, s2, s3, s4, s5, s6, s7, s8, s9, s10, s11, s12] at hg
    all_goals first | (refine oM rfl rfl ?_) | skip
    all_goals first | refine oT rfl rfl ?_ | refine o1 rfl rfl rfl ?_ | refine o0 rfl rfl rfl ?_ | refine ogP1 rfl rfl rfl (fun hg => ?_) (fun hg => ?_) | refine ogP0 rfl rfl rfl (fun hg => ?_) (fun hg => ?_)
    all_goals try simp only [s1, s2, s3, s4, s5, s6, s7, s8, s9, s10, s11, s12] at hg
    all_goals first | (refine oQ (Q_bin rfl rfl rfl) rfl rfl ?_) | skip
    all_goals first | refine oQ (Q_pick_t rfl (by with_reducible rfl) rfl rfl) rfl rfl ?_ | refine oQ (Q_pick_f rfl (by with_reducible rfl) rfl rfl) rfl rfl ?_
    all_goals refine oN ?_
    all_goals (
     first | refine cT rfl ?_ | refine cF rfl ?_ | refine CW_cond rfl (fun hc => ?_) (fun hc => ?_)
     all_goals try simp only [s1, s2, s3, s4, s5, s6, s7, s8, s9, s10, s11, s12] at hc
     all_goals try (exfalso; first | omega | (simp at hc; done); done)
     all_goals first
       | (
        refine CW_skip ?_)
       | (
        refine cR ?_
        refine oA rfl rfl ?_
        refine oN ?_
        refine CW_ret ?_))
    all_goals first
      | with_reducible refine tR ?_
      | with_reducible refine tE ?_
      | (
       with_reducible refine tN ?_
       refine cR ?_
       refine oA rfl rfl ?_
       refine oN ?_
       refine CW_ret ?_)))
  all_goals (
   first | ((refine exitQ (.inr rfl) 0 (.cons (.tmp rfl rfl) .nil) ?_ rfl (vHc rfl vHn) rfl rfl); rfl) | (exfalso; simp at hg; done) | (exfalso; simp_all; done))
end Go.Proofs.YtcklfkblhmlbbaaDoor
