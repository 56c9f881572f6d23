/- Contracts of DiscriminantOf of both sides. -/
import Derived.Test.YtkjbfdjbbgbgdaaA3
namespace Go.Proofs.Ytkjbfdjbbgbgdaa
attribute [local irreducible] CW OW QW QOp Con thenP inBlockP
set_option maxRecDepth 10000
set_option linter.unusedSimpArgs false
set_option linter.unusedVariables false
/-- five numbers modulo a prime -/
def fiveB (p : Int) (l : List Int) : Bool := primeB p && (l.length == 5) && modB p l
theorem five_list {p : Int} {l : List Int} (h : fiveB p l = true) : ∃ a b c d e, l = [a, b, c, d, e] ∧ (0 ≤ a ∧ a < p) ∧ (0 ≤ b ∧ b < p) ∧ (0 ≤ c ∧ c < p) ∧ (0 ≤ d ∧ d < p) ∧ (0 ≤ e ∧ e < p) := by
  simp only [fiveB, Bool.and_eq_true, beq_iff_eq] at h
  obtain ⟨⟨_, h1⟩, h2⟩ := h
  match l, h1 with
  | [a, b, c, d, e], _ =>
    simp [modB] at h2
    exact ⟨a, b, c, d, e, rfl, by omega, by omega, by omega, by omega, by omega⟩
def Cg (p a b : Int) : Prop := a % p = b % p
theorem Cg.refl {p a : Int} : Cg p a a := rfl
theorem Cg.mod {p a : Int} : Cg p (a % p) a := Int.emod_emod_of_dvd a (Int.dvd_refl p)
theorem Cg.mul {p a b c d : Int} (h1 : Cg p a c) (h2 : Cg p b d) : Cg p (a * b) (c * d) := by
  unfold Cg at *
  rw [Int.mul_emod, h1, h2, ← Int.mul_emod]
theorem Cg.add {p a b c d : Int} (h1 : Cg p a c) (h2 : Cg p b d) : Cg p (a + b) (c + d) := by
  unfold Cg at *
  rw [Int.add_emod, h1, h2, ← Int.add_emod]
theorem Cg.sub {p a b c d : Int} (h1 : Cg p a c) (h2 : Cg p b d) : Cg p (a - b) (c - d) := by
  unfold Cg at *
  rw [Int.sub_emod, h1, h2, ← Int.sub_emod]
def discD (k l m n : Int) : Int := 9 * k * l * m - k * k * n - 8 * l * l * l - 27 * m * m
theorem discD_mod (p k l m n : Int) : discD (k % p) (l % p) (m % p) (n % p) % p = discD k l m n % p := by
  unfold discD
  exact Cg.sub (Cg.sub (Cg.sub (Cg.mul (Cg.mul (Cg.mul Cg.refl Cg.mod) Cg.mod) Cg.mod) (Cg.mul (Cg.mul Cg.mod Cg.mod) Cg.mod)) (Cg.mul (Cg.mul (Cg.mul Cg.refl Cg.mod) Cg.mod) Cg.mod)) (Cg.mul (Cg.mul Cg.refl Cg.mod) Cg.mod)
def discL (p : Int) : List Int → Int
  | [a, b, c, d, e] => discD (a * a + 4 * b) (2 * d + a * c) (c * c + 4 * e) (a * a * e + 4 * b * e - a * c * d + b * c * c - d * d) % p
  | _ => 0
def discV (p : Int) (l : List Int) : Int := if fiveB p l = true then discL p l else 0
def discC (p : Int) (l : List Int) : Int := if fiveB p l = true then 0 else 2
theorem five_prime {p : Int} {l : List Int} (h : fiveB p l = true) : primeB p = true := by simp only [fiveB, Bool.and_eq_true] at h; exact h.1.1
theorem five_len {p : Int} {l : List Int} (h : fiveB p l = true) : l.length = 5 := by simp only [fiveB, Bool.and_eq_true, beq_iff_eq] at h; exact h.1.2
theorem five_of {p : Int} {l : List Int} {n : Nat} (h : l.length = n) : fiveB p l = (primeB p && ((n : Int) == 5) && modB p l) := by
  subst h
  unfold fiveB
  congr 2
  rw [Bool.eq_iff_iff]
  simp
  omega
theorem areFive_con (p : Int) (t : TypeId) (L : List Int) (n k : Nat) (hn : n ≤ L.length) (hL : n ≤ 1000000000) : ConQ Try.prog [] 36 [.int p, .slice 0 0 n k] [(0, .ints t L)] (.bool (fiveB p (L.take n))) := by
  have hlen : (L.take n).length = n := by simp; try omega
  refine conW tab_ok [(0, .int p), (1, .slice 0 0 n k)] 1 [0] [0] Try.func36 rfl rfl rfl rfl rfl rfl rfl rfl rfl ?_
  refine CW_seq ?_
  refine CW_region ?_
  refine oQ (Q_assign rfl rfl) rfl rfl ?_
  refine OW_nil ?_
  all_goals with_reducible refine tN ?_
  all_goals (
      refine CW_seq ?_
      refine CW_region ?_
      refine oQ (Q_move rfl rfl) rfl rfl ?_
      refine oQ (Q_call0 (isPrime_con _) rfl rfl rfl) rfl rfl ?_
      refine oQ (Q_move rfl rfl) rfl rfl ?_
      all_goals first | refine ogT rfl rfl (by with_reducible rfl) ?_ | refine og1 rfl rfl (by with_reducible rfl) rfl ?_ | refine og0 rfl rfl (by with_reducible rfl) rfl ?_ | refine ogP1 rfl rfl rfl (fun hg => ?_) (fun hg => ?_) | refine ogP0 rfl rfl rfl (fun hg => ?_) (fun hg => ?_)
      all_goals try simp only [decide_eq_true_eq, decide_eq_false_iff_not, beq_iff_eq, beq_eq_false_iff_ne, bne_iff_ne, bne_eq_false_iff_eq, Bool.not_eq_true', Bool.not_eq_false', Int.not_lt, Int.not_le, ne_eq, not_false_eq_true] at hg
      all_goals first | (refine oQ (Q_move rfl rfl) rfl rfl ?_) | skip
      all_goals first | refine ogT rfl rfl (by with_reducible rfl) ?_ | refine og1 rfl rfl (by with_reducible rfl) rfl ?_ | refine og0 rfl rfl (by with_reducible rfl) rfl ?_ | refine ogP1 rfl rfl rfl (fun hg => ?_) (fun hg => ?_) | refine ogP0 rfl rfl rfl (fun hg => ?_) (fun hg => ?_)
      all_goals try simp only [decide_eq_true_eq, decide_eq_false_iff_not, beq_iff_eq, beq_eq_false_iff_ne, bne_iff_ne, bne_eq_false_iff_eq, Bool.not_eq_true', Bool.not_eq_false', Int.not_lt, Int.not_le, ne_eq, not_false_eq_true] at hg
      all_goals first | refine oQ (Q_len rfl rfl rfl rfl) rfl rfl ?_ | refine oQ (Q_len0 rfl rfl rfl rfl) rfl rfl ?_ | skip
      all_goals first | refine ogT rfl rfl (by with_reducible rfl) ?_ | refine og1 rfl rfl (by with_reducible rfl) rfl ?_ | refine og0 rfl rfl (by with_reducible rfl) rfl ?_ | refine ogP1 rfl rfl rfl (fun hg => ?_) (fun hg => ?_) | refine ogP0 rfl rfl rfl (fun hg => ?_) (fun hg => ?_)
      all_goals try simp only [decide_eq_true_eq, decide_eq_false_iff_not, beq_iff_eq, beq_eq_false_iff_ne, bne_iff_ne, bne_eq_false_iff_eq, Bool.not_eq_true', Bool.not_eq_false', Int.not_lt, Int.not_le, ne_eq, not_false_eq_true] at hg
      all_goals first | (refine oQ (Q_bin rfl rfl rfl) rfl rfl ?_) | skip
      all_goals first | refine oQ (Q_pick_t rfl (by with_reducible rfl) rfl rfl) rfl rfl ?_ | refine oQ (Q_pick_f rfl (by with_reducible rfl) rfl rfl) rfl rfl ?_
      all_goals first | (refine oQ (Q_move rfl rfl) rfl rfl ?_)
      all_goals first | refine ogT rfl rfl (by with_reducible rfl) ?_ | refine og1 rfl rfl (by with_reducible rfl) rfl ?_ | refine og0 rfl rfl (by with_reducible rfl) rfl ?_ | refine ogP1 rfl rfl rfl (fun hg => ?_) (fun hg => ?_) | refine ogP0 rfl rfl rfl (fun hg => ?_) (fun hg => ?_)
      all_goals try simp only [decide_eq_true_eq, decide_eq_false_iff_not, beq_iff_eq, beq_eq_false_iff_ne, bne_iff_ne, bne_eq_false_iff_eq, Bool.not_eq_true', Bool.not_eq_false', Int.not_lt, Int.not_le, ne_eq, not_false_eq_true] at hg
      all_goals first | (refine oQ (Q_move rfl rfl) rfl rfl ?_) | skip
      all_goals first | refine ogT rfl rfl (by with_reducible rfl) ?_ | refine og1 rfl rfl (by with_reducible rfl) rfl ?_ | refine og0 rfl rfl (by with_reducible rfl) rfl ?_ | refine ogP1 rfl rfl rfl (fun hg => ?_) (fun hg => ?_) | refine ogP0 rfl rfl rfl (fun hg => ?_) (fun hg => ?_)
      all_goals try simp only [decide_eq_true_eq, decide_eq_false_iff_not, beq_iff_eq, beq_eq_false_iff_ne, bne_iff_ne, bne_eq_false_iff_eq, Bool.not_eq_true', Bool.not_eq_false', Int.not_lt, Int.not_le, ne_eq, not_false_eq_true] at hg
      all_goals first | (refine oQ (Q_move rfl rfl) rfl rfl ?_) | skip
      all_goals first | refine ogT rfl rfl (by with_reducible rfl) ?_ | refine og1 rfl rfl (by with_reducible rfl) rfl ?_ | refine og0 rfl rfl (by with_reducible rfl) rfl ?_ | refine ogP1 rfl rfl rfl (fun hg => ?_) (fun hg => ?_) | refine ogP0 rfl rfl rfl (fun hg => ?_) (fun hg => ?_)
      all_goals try simp only [decide_eq_true_eq, decide_eq_false_iff_not, beq_iff_eq, beq_eq_false_iff_ne, bne_iff_ne, bne_eq_false_iff_eq, Bool.not_eq_true', Bool.not_eq_false', Int.not_lt, Int.not_le, ne_eq, not_false_eq_true] at hg
      all_goals first | (exfalso; simp at hg; done) | ((have hb : 0 ≤ p ∧ p ≤ 1000 := by (have := prime_bd (p := p) (by simp_all)); omega); refine oQ (Q_call (areNumbers_con p t L n k hn hb (by omega)) [] rfl rfl (Fits.mk' (vHc rfl vHn) rfl rfl (by simp)) rfl rfl) rfl rfl ?_) | skip
      all_goals first | refine oQ (Q_pick_t rfl (by with_reducible rfl) rfl rfl) rfl rfl ?_ | refine oQ (Q_pick_f rfl (by with_reducible rfl) rfl rfl) rfl rfl ?_
      all_goals first | (refine oQ (Q_assign rfl rfl) rfl rfl ?_)
      all_goals refine OW_nil ?_
      all_goals with_reducible refine tN ?_
      all_goals (
          refine CW_ret ?_))
  all_goals (
      refine exitQ (.inr rfl) 1 (.cons (.tmp rfl rfl) .nil) ?_ rfl (vHc rfl vHn) rfl rfl
      simp only [resV, ren, V.bool.injEq]
      rw [five_of hlen]
      simp [*])
theorem areFive_nil (p : Int)  : ConQ Try.prog [] 36 [.int p, .nilsl] [] (.bool (fiveB p (([] : List Int)))) := by
  have hlen : (([] : List Int)).length = 0 := by simp; try omega
  refine conW tab_ok [(0, .int p), (1, .nilsl)] 1 [] [] Try.func36 rfl rfl rfl rfl rfl rfl rfl rfl rfl ?_
  refine CW_seq ?_
  refine CW_region ?_
  refine oQ (Q_assign rfl rfl) rfl rfl ?_
  refine OW_nil ?_
  all_goals with_reducible refine tN ?_
  all_goals (
      refine CW_seq ?_
      refine CW_region ?_
      refine oQ (Q_move rfl rfl) rfl rfl ?_
      refine oQ (Q_call0 (isPrime_con _) rfl rfl rfl) rfl rfl ?_
      refine oQ (Q_move rfl rfl) rfl rfl ?_
      all_goals first | refine ogT rfl rfl (by with_reducible rfl) ?_ | refine og1 rfl rfl (by with_reducible rfl) rfl ?_ | refine og0 rfl rfl (by with_reducible rfl) rfl ?_ | refine ogP1 rfl rfl rfl (fun hg => ?_) (fun hg => ?_) | refine ogP0 rfl rfl rfl (fun hg => ?_) (fun hg => ?_)
      all_goals try simp only [decide_eq_true_eq, decide_eq_false_iff_not, beq_iff_eq, beq_eq_false_iff_ne, bne_iff_ne, bne_eq_false_iff_eq, Bool.not_eq_true', Bool.not_eq_false', Int.not_lt, Int.not_le, ne_eq, not_false_eq_true] at hg
      all_goals first | (refine oQ (Q_move rfl rfl) rfl rfl ?_) | skip
      all_goals first | refine ogT rfl rfl (by with_reducible rfl) ?_ | refine og1 rfl rfl (by with_reducible rfl) rfl ?_ | refine og0 rfl rfl (by with_reducible rfl) rfl ?_ | refine ogP1 rfl rfl rfl (fun hg => ?_) (fun hg => ?_) | refine ogP0 rfl rfl rfl (fun hg => ?_) (fun hg => ?_)
      all_goals try simp only [decide_eq_true_eq, decide_eq_false_iff_not, beq_iff_eq, beq_eq_false_iff_ne, bne_iff_ne, bne_eq_false_iff_eq, Bool.not_eq_true', Bool.not_eq_false', Int.not_lt, Int.not_le, ne_eq, not_false_eq_true] at hg
      all_goals first | refine oQ (Q_len rfl rfl rfl rfl) rfl rfl ?_ | refine oQ (Q_len0 rfl rfl rfl rfl) rfl rfl ?_ | skip
      all_goals first | refine ogT rfl rfl (by with_reducible rfl) ?_ | refine og1 rfl rfl (by with_reducible rfl) rfl ?_ | refine og0 rfl rfl (by with_reducible rfl) rfl ?_ | refine ogP1 rfl rfl rfl (fun hg => ?_) (fun hg => ?_) | refine ogP0 rfl rfl rfl (fun hg => ?_) (fun hg => ?_)
      all_goals try simp only [decide_eq_true_eq, decide_eq_false_iff_not, beq_iff_eq, beq_eq_false_iff_ne, bne_iff_ne, bne_eq_false_iff_eq, Bool.not_eq_true', Bool.not_eq_false', Int.not_lt, Int.not_le, ne_eq, not_false_eq_true] at hg
      all_goals first | (refine oQ (Q_bin rfl rfl rfl) rfl rfl ?_) | skip
      all_goals first | refine oQ (Q_pick_t rfl (by with_reducible rfl) rfl rfl) rfl rfl ?_ | refine oQ (Q_pick_f rfl (by with_reducible rfl) rfl rfl) rfl rfl ?_
      all_goals first | (refine oQ (Q_move rfl rfl) rfl rfl ?_)
      all_goals first | refine ogT rfl rfl (by with_reducible rfl) ?_ | refine og1 rfl rfl (by with_reducible rfl) rfl ?_ | refine og0 rfl rfl (by with_reducible rfl) rfl ?_ | refine ogP1 rfl rfl rfl (fun hg => ?_) (fun hg => ?_) | refine ogP0 rfl rfl rfl (fun hg => ?_) (fun hg => ?_)
      all_goals try simp only [decide_eq_true_eq, decide_eq_false_iff_not, beq_iff_eq, beq_eq_false_iff_ne, bne_iff_ne, bne_eq_false_iff_eq, Bool.not_eq_true', Bool.not_eq_false', Int.not_lt, Int.not_le, ne_eq, not_false_eq_true] at hg
      all_goals first | (refine oQ (Q_move rfl rfl) rfl rfl ?_) | skip
      all_goals first | refine ogT rfl rfl (by with_reducible rfl) ?_ | refine og1 rfl rfl (by with_reducible rfl) rfl ?_ | refine og0 rfl rfl (by with_reducible rfl) rfl ?_ | refine ogP1 rfl rfl rfl (fun hg => ?_) (fun hg => ?_) | refine ogP0 rfl rfl rfl (fun hg => ?_) (fun hg => ?_)
      all_goals try simp only [decide_eq_true_eq, decide_eq_false_iff_not, beq_iff_eq, beq_eq_false_iff_ne, bne_iff_ne, bne_eq_false_iff_eq, Bool.not_eq_true', Bool.not_eq_false', Int.not_lt, Int.not_le, ne_eq, not_false_eq_true] at hg
      all_goals first | (refine oQ (Q_move rfl rfl) rfl rfl ?_) | skip
      all_goals first | refine ogT rfl rfl (by with_reducible rfl) ?_ | refine og1 rfl rfl (by with_reducible rfl) rfl ?_ | refine og0 rfl rfl (by with_reducible rfl) rfl ?_ | refine ogP1 rfl rfl rfl (fun hg => ?_) (fun hg => ?_) | refine ogP0 rfl rfl rfl (fun hg => ?_) (fun hg => ?_)
      all_goals try simp only [decide_eq_true_eq, decide_eq_false_iff_not, beq_iff_eq, beq_eq_false_iff_ne, bne_iff_ne, bne_eq_false_iff_eq, Bool.not_eq_true', Bool.not_eq_false', Int.not_lt, Int.not_le, ne_eq, not_false_eq_true] at hg
      all_goals first | (exfalso; simp at hg; done) | ((have hb : 0 ≤ p ∧ p ≤ 1000 := by (have := prime_bd (p := p) (by simp_all)); omega); refine oQ (Q_call (areNumbers_nil p hb (by omega)) [] rfl rfl (Fits.mk' vHn rfl rfl (by simp)) rfl rfl) rfl rfl ?_) | skip
      all_goals first | refine oQ (Q_pick_t rfl (by with_reducible rfl) rfl rfl) rfl rfl ?_ | refine oQ (Q_pick_f rfl (by with_reducible rfl) rfl rfl) rfl rfl ?_
      all_goals first | (refine oQ (Q_assign rfl rfl) rfl rfl ?_)
      all_goals refine OW_nil ?_
      all_goals with_reducible refine tN ?_
      all_goals (
          refine CW_ret ?_))
  all_goals (
      refine exitQ (.inr rfl) 1 (.cons (.tmp rfl rfl) .nil) ?_ rfl vHn rfl rfl
      simp only [resV, ren, V.bool.injEq]
      rw [five_of hlen]
      simp [*])
theorem l06Five_con (p : Int) (t : TypeId) (L : List Int) (n k : Nat) (hn : n ≤ L.length) (hL : n ≤ 1000000000) : ConQ Try.prog [] 33 [.int p, .slice 0 0 n k] [(0, .ints t L)] (.bool (fiveB p (L.take n))) := by
  have hlen : (L.take n).length = n := by simp; try omega
  refine conW tab_ok [(0, .int p), (1, .slice 0 0 n k)] 1 [0] [0] Try.func33 rfl rfl rfl rfl rfl rfl rfl rfl rfl ?_
  refine CW_seq ?_
  refine CW_region ?_
  refine oQ (Q_assign rfl rfl) rfl rfl ?_
  refine OW_nil ?_
  all_goals with_reducible refine tN ?_
  all_goals (
      refine CW_seq ?_
      refine CW_seq ?_
      refine CW_region ?_
      refine oQ (Q_move rfl rfl) rfl rfl ?_
      refine oQ (Q_call0 (l01Prime_con _) rfl rfl rfl) rfl rfl ?_
      refine oQ (Q_not rfl) rfl rfl ?_
      refine oQ (Q_move rfl rfl) rfl rfl ?_
      all_goals first | refine ogT rfl rfl (by with_reducible rfl) ?_ | refine og1 rfl rfl (by with_reducible rfl) rfl ?_ | refine og0 rfl rfl (by with_reducible rfl) rfl ?_ | refine ogP1 rfl rfl rfl (fun hg => ?_) (fun hg => ?_) | refine ogP0 rfl rfl rfl (fun hg => ?_) (fun hg => ?_)
      all_goals try simp only [decide_eq_true_eq, decide_eq_false_iff_not, beq_iff_eq, beq_eq_false_iff_ne, bne_iff_ne, bne_eq_false_iff_eq, Bool.not_eq_true', Bool.not_eq_false', Int.not_lt, Int.not_le, ne_eq, not_false_eq_true] at hg
      all_goals first | (refine oQ (Q_move rfl rfl) rfl rfl ?_) | skip
      all_goals first | refine ogT rfl rfl (by with_reducible rfl) ?_ | refine og1 rfl rfl (by with_reducible rfl) rfl ?_ | refine og0 rfl rfl (by with_reducible rfl) rfl ?_ | refine ogP1 rfl rfl rfl (fun hg => ?_) (fun hg => ?_) | refine ogP0 rfl rfl rfl (fun hg => ?_) (fun hg => ?_)
      all_goals try simp only [decide_eq_true_eq, decide_eq_false_iff_not, beq_iff_eq, beq_eq_false_iff_ne, bne_iff_ne, bne_eq_false_iff_eq, Bool.not_eq_true', Bool.not_eq_false', Int.not_lt, Int.not_le, ne_eq, not_false_eq_true] at hg
      all_goals first | refine oQ (Q_len rfl rfl rfl rfl) rfl rfl ?_ | refine oQ (Q_len0 rfl rfl rfl rfl) rfl rfl ?_ | skip
      all_goals first | refine ogT rfl rfl (by with_reducible rfl) ?_ | refine og1 rfl rfl (by with_reducible rfl) rfl ?_ | refine og0 rfl rfl (by with_reducible rfl) rfl ?_ | refine ogP1 rfl rfl rfl (fun hg => ?_) (fun hg => ?_) | refine ogP0 rfl rfl rfl (fun hg => ?_) (fun hg => ?_)
      all_goals try simp only [decide_eq_true_eq, decide_eq_false_iff_not, beq_iff_eq, beq_eq_false_iff_ne, bne_iff_ne, bne_eq_false_iff_eq, Bool.not_eq_true', Bool.not_eq_false', Int.not_lt, Int.not_le, ne_eq, not_false_eq_true] at hg
      all_goals first | (refine oQ (Q_bin rfl rfl rfl) rfl rfl ?_) | skip
      all_goals first | refine oQ (Q_pick_t rfl (by with_reducible rfl) rfl rfl) rfl rfl ?_ | refine oQ (Q_pick_f rfl (by with_reducible rfl) rfl rfl) rfl rfl ?_
      all_goals refine OW_nil ?_
      all_goals with_reducible refine tN ?_
      all_goals (
          first | refine CW_cond_t rfl (by with_reducible rfl) ?_ | refine CW_cond_f rfl (by with_reducible rfl) ?_ | refine CW_cond rfl (fun hc => ?_) (fun hc => ?_)
          all_goals try simp only [decide_eq_true_eq, decide_eq_false_iff_not, beq_iff_eq, beq_eq_false_iff_ne, bne_iff_ne, bne_eq_false_iff_eq, Bool.not_eq_true', Bool.not_eq_false', Int.not_lt, Int.not_le, ne_eq, not_false_eq_true] at hc
          all_goals first
            | (
              refine CW_skip ?_)
            | (
              refine CW_seq ?_
              refine CW_region ?_
              refine oQ (Q_assign rfl rfl) rfl rfl ?_
              refine OW_nil ?_
              all_goals with_reducible refine tN ?_
              all_goals (
                  refine CW_ret ?_)))
      all_goals first
        | with_reducible refine tR ?_
        | with_reducible refine tE ?_
        | (
          with_reducible refine tN ?_
          refine CW_seq ?_
          refine CW_seq ?_
          refine CW_region ?_
          refine oQ (Q_assign rfl rfl) rfl rfl ?_
          refine OW_nil ?_
          all_goals with_reducible refine tN ?_
          all_goals (
              refine CW_block ?_
              (have hb := prime_bd hg)
              refine CW_loop (ι := Nat) (fun i => i ≤ 5 ∧ modB p (L.take i) = true) (fun i => ⟨[(0, .int p), (1, .slice 0 0 n k), (5, .int i)], [(0, .ints t L)], 1⟩) (fun i => 5 - i) 0 ?_ ?_ ?_
              · exact ⟨Nat.zero_le _, rfl⟩
              · refine View.mk' [] rfl rfl rfl ?_ ?_
                repeat' first | exact vFn | refine vFc rfl ?_ | exact vHn | refine vHc rfl ?_ | refine vFc (congrArg (fun z => some (V.int z)) ?_) ?_ | refine vHc (congrArg (fun z => some (Blk.ints _ z)) ?_) ?_ | refine vFc (congrArg (fun z => some (V.bool z)) ?_) ?_
              intro i hi
              obtain ⟨hi1, hi2⟩ := hi
              refine CW_seq ?_
              refine CW_seq ?_
              refine CW_region ?_
              refine oQ (Q_move rfl rfl) rfl rfl ?_
              refine oQ (Q_bin rfl rfl rfl) rfl rfl ?_
              refine OW_nil ?_
              all_goals with_reducible refine tN ?_
              all_goals (
                  first | refine CW_cond_t rfl (by with_reducible rfl) ?_ | refine CW_cond_f rfl (by with_reducible rfl) ?_ | refine CW_cond rfl (fun hc => ?_) (fun hc => ?_)
                  all_goals try simp only [decide_eq_true_eq, decide_eq_false_iff_not, beq_iff_eq, beq_eq_false_iff_ne, bne_iff_ne, bne_eq_false_iff_eq, Bool.not_eq_true', Bool.not_eq_false', Int.not_lt, Int.not_le, ne_eq, not_false_eq_true] at hc
                  all_goals first
                    | (
                      refine CW_skip ?_)
                    | (
                      refine CW_exit ?_))
              all_goals first
                | with_reducible refine tR ?_
                | with_reducible refine tE ?_
                | (
                  with_reducible refine tN ?_
                  refine CW_seq ?_
                  refine CW_block ?_
                  refine CW_seq ?_
                  refine CW_region ?_
                  refine oQ (Q_move rfl rfl) rfl rfl ?_
                  refine oQ (Q_move rfl rfl) rfl rfl ?_
                  first | refine oQ (Q_ixs0 rfl rfl rfl rfl rfl rfl (by first | omega | (dsimp only; omega) | (simp; omega) | (simp; done))) rfl rfl ?_ | refine oQ (Q_ixs1 rfl rfl rfl rfl rfl rfl (by first | omega | (dsimp only; omega) | (simp; omega) | (simp; done))) rfl rfl ?_
                  refine oQ (Q_ld rfl rfl rfl rfl (by first | omega | (dsimp only; omega) | (simp; omega) | (simp; done))) rfl rfl ?_
                  refine oQ (Q_move rfl rfl) rfl rfl ?_
                  first | refine oQ (Q_binu rfl rfl rfl (by omega)) rfl rfl ?_ | refine oQ (Q_bin rfl rfl rfl) rfl rfl ?_
                  refine oQ (Q_call0 (l01In_con _ _ _) rfl rfl rfl) rfl rfl ?_
                  refine oQ (Q_not rfl) rfl rfl ?_
                  refine OW_nil ?_
                  all_goals with_reducible refine tN ?_
                  all_goals (
                      first | refine CW_cond_t rfl (by with_reducible rfl) ?_ | refine CW_cond_f rfl (by with_reducible rfl) ?_ | refine CW_cond rfl (fun hc => ?_) (fun hc => ?_)
                      all_goals try simp only [decide_eq_true_eq, decide_eq_false_iff_not, beq_iff_eq, beq_eq_false_iff_ne, bne_iff_ne, bne_eq_false_iff_eq, Bool.not_eq_true', Bool.not_eq_false', Int.not_lt, Int.not_le, ne_eq, not_false_eq_true] at hc
                      all_goals first
                        | (
                          refine CW_skip ?_)
                        | (
                          refine CW_seq ?_
                          refine CW_region ?_
                          refine oQ (Q_assign rfl rfl) rfl rfl ?_
                          refine OW_nil ?_
                          all_goals with_reducible refine tN ?_
                          all_goals (
                              refine CW_ret ?_)))
                  all_goals first | with_reducible refine bN ?_ | with_reducible refine bE ?_ | with_reducible refine bR ?_ | refine bX rfl ?_
                  all_goals first
                    | with_reducible refine tR ?_
                    | with_reducible refine tE ?_
                    | (
                      with_reducible refine tN ?_
                      refine CW_region ?_
                      refine oQ (Q_move rfl rfl) rfl rfl ?_
                      first | refine oQ (Q_binu rfl rfl rfl (by omega)) rfl rfl ?_ | refine oQ (Q_bin rfl rfl rfl) rfl rfl ?_
                      refine oQ (Q_assign rfl rfl) rfl rfl ?_
                      refine OW_nil ?_))
              all_goals first
                | with_reducible refine tR ?_
                | with_reducible refine tE ?_
                | (
                  with_reducible refine tN ?_
                  refine ⟨i + 1, ?_, ?_, View.mk' [] rfl rfl rfl ?_ ?_⟩
                  · exact ⟨by omega, modB_snoc (by omega) hi2 (by simp_all) (by simp_all)⟩
                  · omega
                  all_goals (repeat' first | exact vFn | refine vFc rfl ?_ | exact vHn | refine vHc rfl ?_ | refine vFc (congrArg (fun z => some (V.int z)) ?_) ?_ | refine vHc (congrArg (fun z => some (Blk.ints _ z)) ?_) ?_ | refine vFc (congrArg (fun z => some (V.bool z)) ?_) ?_))
              all_goals first | with_reducible refine bN ?_ | with_reducible refine bE ?_ | with_reducible refine bR ?_ | refine bX rfl ?_)
          all_goals first
            | with_reducible refine tR ?_
            | with_reducible refine tE ?_
            | (
              with_reducible refine tN ?_
              refine CW_seq ?_
              refine CW_region ?_
              refine oQ (Q_assign rfl rfl) rfl rfl ?_
              refine OW_nil ?_
              all_goals with_reducible refine tN ?_
              all_goals (
                  refine CW_ret ?_))))
  all_goals (
      refine exitQ (.inr rfl) 1 (.cons (.tmp rfl rfl) .nil) ?_ rfl (vHc rfl vHn) rfl rfl
      simp only [resV, V.bool.injEq]
      rw [five_of hlen]
      first
        | (simp [*]; done)
        | (rw [modB_fail (by omega) (by omega) hc]; simp; done)
        | (have e : i = n := (by omega); subst e; simp [*]; try omega))
theorem l06Discriminant_con (p : Int) (t : TypeId) (a b c d e : Int) (sp : List Int) (k : Nat) (hp : primeB p = true) (ha : 0 ≤ a ∧ a < p) (hb : 0 ≤ b ∧ b < p) (hc : 0 ≤ c ∧ c < p) (hd : 0 ≤ d ∧ d < p) (he : 0 ≤ e ∧ e < p) :
    ConQ Try.prog [] 34 [.int p, .slice 0 0 5 k] [(0, .ints t (a :: b :: c :: d :: e :: sp))] (.int (discL p [a, b, c, d, e])) := by
  have hpb := prime_bd hp
  refine conW tab_ok [(0, .int p), (1, .slice 0 0 5 k)] 1 [0] [0] Try.func34 rfl rfl rfl rfl rfl rfl rfl rfl rfl ?_
  refine CW_seq ?_
  refine CW_region ?_
  refine oQ (Q_assign rfl rfl) rfl rfl ?_
  refine OW_nil ?_
  all_goals with_reducible refine tN ?_
  all_goals (
      refine CW_seq ?_
      refine CW_draw lateOk (by decide +kernel) ?_
      refine qQ (Q_move rfl rfl) rfl rfl ?_
      first | refine qQ (Q_ixs0 rfl rfl rfl rfl rfl rfl (by first | omega | (dsimp only; omega) | (simp; omega) | (simp; done))) rfl rfl ?_ | refine qQ (Q_ixs1 rfl rfl rfl rfl rfl rfl (by first | omega | (dsimp only; omega) | (simp; omega) | (simp; done))) rfl rfl ?_
      first | refine qQ (Q_ldc rfl rfl rfl rfl rfl) rfl rfl ?_ | refine qQ (Q_ld rfl rfl rfl rfl (by first | omega | (dsimp only; omega) | (simp; omega) | (simp; done))) rfl rfl ?_
      refine qQ (Q_move rfl rfl) rfl rfl ?_
      first | refine qQ (Q_ixs0 rfl rfl rfl rfl rfl rfl (by first | omega | (dsimp only; omega) | (simp; omega) | (simp; done))) rfl rfl ?_ | refine qQ (Q_ixs1 rfl rfl rfl rfl rfl rfl (by first | omega | (dsimp only; omega) | (simp; omega) | (simp; done))) rfl rfl ?_
      first | refine qQ (Q_ldc rfl rfl rfl rfl rfl) rfl rfl ?_ | refine qQ (Q_ld rfl rfl rfl rfl (by first | omega | (dsimp only; omega) | (simp; omega) | (simp; done))) rfl rfl ?_
      refine qQ (Q_move rfl rfl) rfl rfl ?_
      first | refine qQ (Q_ixs0 rfl rfl rfl rfl rfl rfl (by first | omega | (dsimp only; omega) | (simp; omega) | (simp; done))) rfl rfl ?_ | refine qQ (Q_ixs1 rfl rfl rfl rfl rfl rfl (by first | omega | (dsimp only; omega) | (simp; omega) | (simp; done))) rfl rfl ?_
      first | refine qQ (Q_ldc rfl rfl rfl rfl rfl) rfl rfl ?_ | refine qQ (Q_ld rfl rfl rfl rfl (by first | omega | (dsimp only; omega) | (simp; omega) | (simp; done))) rfl rfl ?_
      refine qQ (Q_move rfl rfl) rfl rfl ?_
      first | refine qQ (Q_ixs0 rfl rfl rfl rfl rfl rfl (by first | omega | (dsimp only; omega) | (simp; omega) | (simp; done))) rfl rfl ?_ | refine qQ (Q_ixs1 rfl rfl rfl rfl rfl rfl (by first | omega | (dsimp only; omega) | (simp; omega) | (simp; done))) rfl rfl ?_
      first | refine qQ (Q_ldc rfl rfl rfl rfl rfl) rfl rfl ?_ | refine qQ (Q_ld rfl rfl rfl rfl (by first | omega | (dsimp only; omega) | (simp; omega) | (simp; done))) rfl rfl ?_
      refine qQ (Q_move rfl rfl) rfl rfl ?_
      first | refine qQ (Q_ixs0 rfl rfl rfl rfl rfl rfl (by first | omega | (dsimp only; omega) | (simp; omega) | (simp; done))) rfl rfl ?_ | refine qQ (Q_ixs1 rfl rfl rfl rfl rfl rfl (by first | omega | (dsimp only; omega) | (simp; omega) | (simp; done))) rfl rfl ?_
      first | refine qQ (Q_ldc rfl rfl rfl rfl rfl) rfl rfl ?_ | refine qQ (Q_ld rfl rfl rfl rfl (by first | omega | (dsimp only; omega) | (simp; omega) | (simp; done))) rfl rfl ?_
      refine qQ (Q_assign rfl rfl) rfl rfl ?_
      refine qQ (Q_assign rfl rfl) rfl rfl ?_
      refine qQ (Q_assign rfl rfl) rfl rfl ?_
      refine qQ (Q_assign rfl rfl) rfl rfl ?_
      refine qQ (Q_assign rfl rfl) rfl rfl ?_
      refine QW_nil ?_
      all_goals with_reducible refine tN ?_
      all_goals (
          refine CW_seq ?_
          refine CW_draw lateOk (by decide +kernel) ?_
          refine qQ (Q_move rfl rfl) rfl rfl ?_
          refine qQ (Q_move rfl rfl) rfl rfl ?_
          refine qMul 12 12 rfl rfl (by omega) (by omega) (by decide) rfl (fun z31 hz31 hl31 hu31 => ?_)
          refine qQ (Q_move rfl rfl) rfl rfl ?_
          first | refine qQ (Q_binu rfl rfl rfl (by omega)) rfl rfl ?_ | refine qQ (Q_bin rfl rfl rfl) rfl rfl ?_
          first | refine qQ (Q_binu rfl rfl rfl (by omega)) rfl rfl ?_ | refine qQ (Q_bin rfl rfl rfl) rfl rfl ?_
          refine qQ (Q_move rfl rfl) rfl rfl ?_
          refine qRem rfl rfl (by omega) rfl (fun z36 hz36 hl36 hu36 => ?_)
          refine qQ (Q_move rfl rfl) rfl rfl ?_
          first | refine qQ (Q_binu rfl rfl rfl (by omega)) rfl rfl ?_ | refine qQ (Q_bin rfl rfl rfl) rfl rfl ?_
          refine qQ (Q_move rfl rfl) rfl rfl ?_
          refine qQ (Q_move rfl rfl) rfl rfl ?_
          refine qMul 12 12 rfl rfl (by omega) (by omega) (by decide) rfl (fun z41 hz41 hl41 hu41 => ?_)
          first | refine qQ (Q_binu rfl rfl rfl (by omega)) rfl rfl ?_ | refine qQ (Q_bin rfl rfl rfl) rfl rfl ?_
          refine qQ (Q_move rfl rfl) rfl rfl ?_
          refine qRem rfl rfl (by omega) rfl (fun z44 hz44 hl44 hu44 => ?_)
          refine qQ (Q_move rfl rfl) rfl rfl ?_
          refine qQ (Q_move rfl rfl) rfl rfl ?_
          refine qMul 12 12 rfl rfl (by omega) (by omega) (by decide) rfl (fun z47 hz47 hl47 hu47 => ?_)
          refine qQ (Q_move rfl rfl) rfl rfl ?_
          first | refine qQ (Q_binu rfl rfl rfl (by omega)) rfl rfl ?_ | refine qQ (Q_bin rfl rfl rfl) rfl rfl ?_
          first | refine qQ (Q_binu rfl rfl rfl (by omega)) rfl rfl ?_ | refine qQ (Q_bin rfl rfl rfl) rfl rfl ?_
          refine qQ (Q_move rfl rfl) rfl rfl ?_
          refine qRem rfl rfl (by omega) rfl (fun z52 hz52 hl52 hu52 => ?_)
          refine qQ (Q_assign rfl rfl) rfl rfl ?_
          refine qQ (Q_assign rfl rfl) rfl rfl ?_
          refine qQ (Q_assign rfl rfl) rfl rfl ?_
          refine QW_nil ?_
          all_goals with_reducible refine tN ?_
          all_goals (
              refine CW_seq ?_
              refine CW_region ?_
              refine oQ (Q_move rfl rfl) rfl rfl ?_
              refine oQ (Q_move rfl rfl) rfl rfl ?_
              refine oQ (Q_move rfl rfl) rfl rfl ?_
              refine oMul 12 12 rfl rfl (by omega) (by omega) (by decide) rfl (fun z56 hz56 hl56 hu56 => ?_)
              refine oQ (Q_move rfl rfl) rfl rfl ?_
              refine oMul 144 12 rfl rfl (by omega) (by omega) (by decide) rfl (fun z58 hz58 hl58 hu58 => ?_)
              refine oQ (Q_move rfl rfl) rfl rfl ?_
              first | refine oQ (Q_binu rfl rfl rfl (by omega)) rfl rfl ?_ | refine oQ (Q_bin rfl rfl rfl) rfl rfl ?_
              refine oQ (Q_move rfl rfl) rfl rfl ?_
              refine oMul 48 12 rfl rfl (by omega) (by omega) (by decide) rfl (fun z62 hz62 hl62 hu62 => ?_)
              first | refine oQ (Q_binu rfl rfl rfl (by omega)) rfl rfl ?_ | refine oQ (Q_bin rfl rfl rfl) rfl rfl ?_
              refine oQ (Q_move rfl rfl) rfl rfl ?_
              refine oQ (Q_move rfl rfl) rfl rfl ?_
              refine oMul 12 12 rfl rfl (by omega) (by omega) (by decide) rfl (fun z66 hz66 hl66 hu66 => ?_)
              refine oQ (Q_move rfl rfl) rfl rfl ?_
              refine oMul 144 12 rfl rfl (by omega) (by omega) (by decide) rfl (fun z68 hz68 hl68 hu68 => ?_)
              first | refine oQ (Q_binu rfl rfl rfl (by omega)) rfl rfl ?_ | refine oQ (Q_bin rfl rfl rfl) rfl rfl ?_
              refine oQ (Q_move rfl rfl) rfl rfl ?_
              refine oQ (Q_move rfl rfl) rfl rfl ?_
              refine oMul 12 12 rfl rfl (by omega) (by omega) (by decide) rfl (fun z72 hz72 hl72 hu72 => ?_)
              refine oQ (Q_move rfl rfl) rfl rfl ?_
              refine oMul 144 12 rfl rfl (by omega) (by omega) (by decide) rfl (fun z74 hz74 hl74 hu74 => ?_)
              first | refine oQ (Q_binu rfl rfl rfl (by omega)) rfl rfl ?_ | refine oQ (Q_bin rfl rfl rfl) rfl rfl ?_
              refine oQ (Q_move rfl rfl) rfl rfl ?_
              refine oQ (Q_move rfl rfl) rfl rfl ?_
              refine oMul 12 12 rfl rfl (by omega) (by omega) (by decide) rfl (fun z78 hz78 hl78 hu78 => ?_)
              first | refine oQ (Q_binu rfl rfl rfl (by omega)) rfl rfl ?_ | refine oQ (Q_bin rfl rfl rfl) rfl rfl ?_
              refine oQ (Q_call0 (l01Mod_con _ _ (by omega) (by omega)) rfl rfl rfl) rfl rfl ?_
              refine oName (fun z80 hz80 => ?_)
              (have hb80 := emod_bd hz80 (by omega))
              refine oQ (Q_assign rfl rfl) rfl rfl ?_
              refine OW_nil ?_
              all_goals with_reducible refine tN ?_
              all_goals (
                  refine CW_seq ?_
                  refine CW_region ?_
                  refine oQ (Q_move rfl rfl) rfl rfl ?_
                  refine oQ (Q_move rfl rfl) rfl rfl ?_
                  first | refine oQ (Q_binu rfl rfl rfl (by omega)) rfl rfl ?_ | refine oQ (Q_bin rfl rfl rfl) rfl rfl ?_
                  refine oQ (Q_move rfl rfl) rfl rfl ?_
                  refine oMul 108 12 rfl rfl (by omega) (by omega) (by decide) rfl (fun z85 hz85 hl85 hu85 => ?_)
                  refine oQ (Q_move rfl rfl) rfl rfl ?_
                  refine oMul 1296 12 rfl rfl (by omega) (by omega) (by decide) rfl (fun z87 hz87 hl87 hu87 => ?_)
                  refine oQ (Q_move rfl rfl) rfl rfl ?_
                  refine oQ (Q_move rfl rfl) rfl rfl ?_
                  refine oMul 12 12 rfl rfl (by omega) (by omega) (by decide) rfl (fun z90 hz90 hl90 hu90 => ?_)
                  refine oQ (Q_move rfl rfl) rfl rfl ?_
                  refine oMul 144 12 rfl rfl (by omega) (by omega) (by decide) rfl (fun z92 hz92 hl92 hu92 => ?_)
                  first | refine oQ (Q_binu rfl rfl rfl (by omega)) rfl rfl ?_ | refine oQ (Q_bin rfl rfl rfl) rfl rfl ?_
                  refine oQ (Q_move rfl rfl) rfl rfl ?_
                  first | refine oQ (Q_binu rfl rfl rfl (by omega)) rfl rfl ?_ | refine oQ (Q_bin rfl rfl rfl) rfl rfl ?_
                  refine oQ (Q_move rfl rfl) rfl rfl ?_
                  refine oMul 96 12 rfl rfl (by omega) (by omega) (by decide) rfl (fun z97 hz97 hl97 hu97 => ?_)
                  refine oQ (Q_move rfl rfl) rfl rfl ?_
                  refine oMul 1152 12 rfl rfl (by omega) (by omega) (by decide) rfl (fun z99 hz99 hl99 hu99 => ?_)
                  first | refine oQ (Q_binu rfl rfl rfl (by omega)) rfl rfl ?_ | refine oQ (Q_bin rfl rfl rfl) rfl rfl ?_
                  refine oQ (Q_move rfl rfl) rfl rfl ?_
                  first | refine oQ (Q_binu rfl rfl rfl (by omega)) rfl rfl ?_ | refine oQ (Q_bin rfl rfl rfl) rfl rfl ?_
                  refine oQ (Q_move rfl rfl) rfl rfl ?_
                  refine oMul 324 12 rfl rfl (by omega) (by omega) (by decide) rfl (fun z104 hz104 hl104 hu104 => ?_)
                  first | refine oQ (Q_binu rfl rfl rfl (by omega)) rfl rfl ?_ | refine oQ (Q_bin rfl rfl rfl) rfl rfl ?_
                  refine oQ (Q_call0 (l01Mod_con _ _ (by omega) (by omega)) rfl rfl rfl) rfl rfl ?_
                  refine oName (fun z106 hz106 => ?_)
                  (have hb106 := emod_bd hz106 (by omega))
                  refine oQ (Q_assign rfl rfl) rfl rfl ?_
                  refine OW_nil ?_
                  all_goals with_reducible refine tN ?_
                  all_goals (
                      refine CW_ret ?_)))))
  all_goals (
      have g1 := Int.mul_nonneg ha.1 ha.1
      have g2 := Int.mul_nonneg ha.1 hc.1
      have g3 := Int.mul_nonneg hc.1 hc.1
      have e36 : z36 = (a * a + 4 * b) % p := by rw [hz36, hz31, Int.tmod_eq_emod_of_nonneg (by omega)]
      have e44 : z44 = (2 * d + a * c) % p := by rw [hz44, hz41, Int.tmod_eq_emod_of_nonneg (by omega)]
      have e52 : z52 = (c * c + 4 * e) % p := by rw [hz52, hz47, Int.tmod_eq_emod_of_nonneg (by omega)]
      refine exitQ (.inr rfl) 1 (.cons (.tmp rfl rfl) .nil) ?_ rfl (vHc rfl vHn) rfl rfl
      subst hz58 hz62 hz68 hz74 hz78 hz56 hz66 hz72
      show V.int z106 = V.int (discD (a * a + 4 * b) (2 * d + a * c) (c * c + 4 * e) (a * a * e + 4 * b * e - a * c * d + b * c * c - d * d) % p)
      rw [← discD_mod, ← e36, ← e44, ← e52, ← hz80, hz106, hz87, hz85, hz92, hz90, hz99, hz97, hz104]
      rfl)
theorem spec_DiscriminantOf_con (p : Int) (t : TypeId) (L : List Int) (n k : Nat) (hn : n ≤ L.length) (hL : n ≤ 1000000000) : ConQ Try.prog [] 18 [.int p, .slice 0 0 n k] [(0, .ints t L)] (.tuple [.int (discV p (L.take n)), .int (discC p (L.take n))]) := by
  have hlen : (L.take n).length = n := by simp; try omega
  refine conW tab_ok [(0, .int p), (1, .slice 0 0 n k)] 1 [0] [0] Try.func18 rfl rfl rfl rfl rfl rfl rfl rfl rfl ?_
  refine CW_seq ?_
  refine CW_region ?_
  refine oQ (Q_assign rfl rfl) rfl rfl ?_
  refine oQ (Q_assign rfl rfl) rfl rfl ?_
  refine OW_nil ?_
  all_goals with_reducible refine tN ?_
  all_goals (
      refine CW_seq ?_
      refine CW_seq ?_
      refine CW_region ?_
      refine oQ (Q_move rfl rfl) rfl rfl ?_
      refine oQ (Q_move rfl rfl) rfl rfl ?_
      refine oQ (Q_call (l06Five_con p t L n k hn hL) [] rfl rfl (Fits.mk' (vHc rfl vHn) rfl rfl (by simp)) rfl rfl) rfl rfl ?_
      refine oQ (Q_not rfl) rfl rfl ?_
      refine OW_nil ?_
      all_goals with_reducible refine tN ?_
      all_goals (
          first | refine CW_cond_t rfl (by with_reducible rfl) ?_ | refine CW_cond_f rfl (by with_reducible rfl) ?_ | refine CW_cond rfl (fun hc => ?_) (fun hc => ?_)
          all_goals try simp only [decide_eq_true_eq, decide_eq_false_iff_not, beq_iff_eq, beq_eq_false_iff_ne, bne_iff_ne, bne_eq_false_iff_eq, Bool.not_eq_true', Bool.not_eq_false', Int.not_lt, Int.not_le, ne_eq, not_false_eq_true] at hc
          all_goals first
            | (
              refine CW_skip ?_)
            | (
              refine CW_seq ?_
              refine CW_region ?_
              refine oQ (Q_assign rfl rfl) rfl rfl ?_
              refine oQ (Q_assign rfl rfl) rfl rfl ?_
              refine OW_nil ?_
              all_goals with_reducible refine tN ?_
              all_goals (
                  refine CW_ret ?_)))
      all_goals first
        | with_reducible refine tR ?_
        | with_reducible refine tE ?_
        | (
          with_reducible refine tN ?_
          refine CW_seq ?_
          refine CW_region ?_
          refine oQ (Q_move rfl rfl) rfl rfl ?_
          refine oQ (Q_move rfl rfl) rfl rfl ?_
          (have h5 : n = 5 := by have := five_len hc; omega)
          (subst h5)
          (obtain ⟨a, b, c, d, e, el, ha, hb, hc', hd, he⟩ := five_list hc)
          (have eL : L = a :: b :: c :: d :: e :: L.drop 5 := by rw [← List.take_append_drop 5 L, el]; simp)
          (generalize L.drop 5 = sp at eL)
          (subst eL)
          (have hp := five_prime hc)
          refine oQ (Q_call (l06Discriminant_con p t a b c d e sp k hp ha hb hc' hd he) [] rfl rfl (Fits.mk' (vHc rfl vHn) rfl rfl (by simp)) rfl rfl) rfl rfl ?_
          refine oQ (Q_assign rfl rfl) rfl rfl ?_
          refine oQ (Q_assign rfl rfl) rfl rfl ?_
          refine OW_nil ?_
          all_goals with_reducible refine tN ?_
          all_goals (
              refine CW_ret ?_)))
  all_goals (
      refine exitQ (.inr rfl) 1 (.cons (.tmp rfl rfl) (.cons (.tmp rfl rfl) .nil)) ?_ rfl (vHc rfl vHn) rfl rfl
      first
        | (simp only [resV, discV, discC, hc]; rfl)
        | (simp only [resV, discV, discC, if_pos hc]; rfl))
theorem impl_DiscriminantOf_con (p : Int) (t : TypeId) (L : List Int) (n k : Nat) (hn : n ≤ L.length) (hL : n ≤ 1000000000) : ConQ Try.prog [] 20 [.int p, .slice 0 0 n k] [(0, .ints t L)] (.tuple [.int (discV p (L.take n)), .int (discC p (L.take n))]) := by
  have hlen : (L.take n).length = n := by simp; try omega
  refine conW tab_ok [(0, .int p), (1, .slice 0 0 n k)] 1 [0] [0] Try.func20 rfl rfl rfl rfl rfl rfl rfl rfl rfl ?_
  refine CW_seq ?_
  refine CW_region ?_
  refine oQ (Q_assign rfl rfl) rfl rfl ?_
  refine oQ (Q_assign rfl rfl) rfl rfl ?_
  refine OW_nil ?_
  all_goals with_reducible refine tN ?_
  all_goals (
      refine CW_seq ?_
      refine CW_seq ?_
      refine CW_region ?_
      refine oQ (Q_move rfl rfl) rfl rfl ?_
      refine oQ (Q_move rfl rfl) rfl rfl ?_
      refine oQ (Q_call (areFive_con p t L n k hn (by omega)) [] rfl rfl (Fits.mk' (vHc rfl vHn) rfl rfl (by simp)) rfl rfl) rfl rfl ?_
      refine oQ (Q_not rfl) rfl rfl ?_
      refine OW_nil ?_
      all_goals with_reducible refine tN ?_
      all_goals (
          first | refine CW_cond_t rfl (by with_reducible rfl) ?_ | refine CW_cond_f rfl (by with_reducible rfl) ?_ | refine CW_cond rfl (fun hc => ?_) (fun hc => ?_)
          all_goals try simp only [decide_eq_true_eq, decide_eq_false_iff_not, beq_iff_eq, beq_eq_false_iff_ne, bne_iff_ne, bne_eq_false_iff_eq, Bool.not_eq_true', Bool.not_eq_false', Int.not_lt, Int.not_le, ne_eq, not_false_eq_true] at hc
          all_goals first
            | (
              refine CW_skip ?_)
            | (
              refine CW_seq ?_
              refine CW_region ?_
              refine oQ (Q_assign rfl rfl) rfl rfl ?_
              refine oQ (Q_assign rfl rfl) rfl rfl ?_
              refine OW_nil ?_
              all_goals with_reducible refine tN ?_
              all_goals (
                  refine CW_ret ?_)))
      all_goals first
        | with_reducible refine tR ?_
        | with_reducible refine tE ?_
        | (
          with_reducible refine tN ?_
          refine CW_seq ?_
          refine CW_draw lateOk (by decide +kernel) ?_
          (have h5 : n = 5 := by have := five_len hc; omega)
          (have hp := five_prime hc)
          (have hpb := prime_bd hp)
          (obtain ⟨a, b, c, d, e, el, ha, hb, hc', hd, he⟩ := five_list hc)
          (subst h5)
          (have eL : L = a :: b :: c :: d :: e :: L.drop 5 := by rw [← List.take_append_drop 5 L, el]; simp)
          (generalize L.drop 5 = sp at eL)
          (subst eL)
          refine qQ (Q_move rfl rfl) rfl rfl ?_
          first | refine qQ (Q_ixs0 rfl rfl rfl rfl rfl rfl (by first | omega | (dsimp only; omega) | (simp; omega) | (simp; done))) rfl rfl ?_ | refine qQ (Q_ixs1 rfl rfl rfl rfl rfl rfl (by first | omega | (dsimp only; omega) | (simp; omega) | (simp; done))) rfl rfl ?_
          first | refine qQ (Q_ldc rfl rfl rfl rfl rfl) rfl rfl ?_ | refine qQ (Q_ld rfl rfl rfl rfl (by first | omega | (dsimp only; omega) | (simp; omega) | (simp; done))) rfl rfl ?_
          refine qQ (Q_move rfl rfl) rfl rfl ?_
          first | refine qQ (Q_ixs0 rfl rfl rfl rfl rfl rfl (by first | omega | (dsimp only; omega) | (simp; omega) | (simp; done))) rfl rfl ?_ | refine qQ (Q_ixs1 rfl rfl rfl rfl rfl rfl (by first | omega | (dsimp only; omega) | (simp; omega) | (simp; done))) rfl rfl ?_
          first | refine qQ (Q_ldc rfl rfl rfl rfl rfl) rfl rfl ?_ | refine qQ (Q_ld rfl rfl rfl rfl (by first | omega | (dsimp only; omega) | (simp; omega) | (simp; done))) rfl rfl ?_
          refine qQ (Q_move rfl rfl) rfl rfl ?_
          first | refine qQ (Q_ixs0 rfl rfl rfl rfl rfl rfl (by first | omega | (dsimp only; omega) | (simp; omega) | (simp; done))) rfl rfl ?_ | refine qQ (Q_ixs1 rfl rfl rfl rfl rfl rfl (by first | omega | (dsimp only; omega) | (simp; omega) | (simp; done))) rfl rfl ?_
          first | refine qQ (Q_ldc rfl rfl rfl rfl rfl) rfl rfl ?_ | refine qQ (Q_ld rfl rfl rfl rfl (by first | omega | (dsimp only; omega) | (simp; omega) | (simp; done))) rfl rfl ?_
          refine qQ (Q_move rfl rfl) rfl rfl ?_
          first | refine qQ (Q_ixs0 rfl rfl rfl rfl rfl rfl (by first | omega | (dsimp only; omega) | (simp; omega) | (simp; done))) rfl rfl ?_ | refine qQ (Q_ixs1 rfl rfl rfl rfl rfl rfl (by first | omega | (dsimp only; omega) | (simp; omega) | (simp; done))) rfl rfl ?_
          first | refine qQ (Q_ldc rfl rfl rfl rfl rfl) rfl rfl ?_ | refine qQ (Q_ld rfl rfl rfl rfl (by first | omega | (dsimp only; omega) | (simp; omega) | (simp; done))) rfl rfl ?_
          refine qQ (Q_move rfl rfl) rfl rfl ?_
          first | refine qQ (Q_ixs0 rfl rfl rfl rfl rfl rfl (by first | omega | (dsimp only; omega) | (simp; omega) | (simp; done))) rfl rfl ?_ | refine qQ (Q_ixs1 rfl rfl rfl rfl rfl rfl (by first | omega | (dsimp only; omega) | (simp; omega) | (simp; done))) rfl rfl ?_
          first | refine qQ (Q_ldc rfl rfl rfl rfl rfl) rfl rfl ?_ | refine qQ (Q_ld rfl rfl rfl rfl (by first | omega | (dsimp only; omega) | (simp; omega) | (simp; done))) rfl rfl ?_
          refine qQ (Q_assign rfl rfl) rfl rfl ?_
          refine qQ (Q_assign rfl rfl) rfl rfl ?_
          refine qQ (Q_assign rfl rfl) rfl rfl ?_
          refine qQ (Q_assign rfl rfl) rfl rfl ?_
          refine qQ (Q_assign rfl rfl) rfl rfl ?_
          refine QW_nil ?_
          all_goals with_reducible refine tN ?_
          all_goals (
              refine CW_seq ?_
              refine CW_region ?_
              refine oQ (Q_move rfl rfl) rfl rfl ?_
              refine oQ (Q_move rfl rfl) rfl rfl ?_
              refine oMul 12 12 rfl rfl (by omega) (by omega) (by decide) rfl (fun z36 hz36 hl36 hu36 => ?_)
              refine oQ (Q_move rfl rfl) rfl rfl ?_
              first | refine oQ (Q_binu rfl rfl rfl (by omega)) rfl rfl ?_ | refine oQ (Q_bin rfl rfl rfl) rfl rfl ?_
              first | refine oQ (Q_binu rfl rfl rfl (by omega)) rfl rfl ?_ | refine oQ (Q_bin rfl rfl rfl) rfl rfl ?_
              refine oQ (Q_assign rfl rfl) rfl rfl ?_
              refine OW_nil ?_
              all_goals with_reducible refine tN ?_
              all_goals (
                  refine CW_seq ?_
                  refine CW_region ?_
                  refine oQ (Q_move rfl rfl) rfl rfl ?_
                  first | refine oQ (Q_binu rfl rfl rfl (by omega)) rfl rfl ?_ | refine oQ (Q_bin rfl rfl rfl) rfl rfl ?_
                  refine oQ (Q_move rfl rfl) rfl rfl ?_
                  refine oQ (Q_move rfl rfl) rfl rfl ?_
                  refine oMul 12 12 rfl rfl (by omega) (by omega) (by decide) rfl (fun z44 hz44 hl44 hu44 => ?_)
                  first | refine oQ (Q_binu rfl rfl rfl (by omega)) rfl rfl ?_ | refine oQ (Q_bin rfl rfl rfl) rfl rfl ?_
                  refine oQ (Q_assign rfl rfl) rfl rfl ?_
                  refine OW_nil ?_
                  all_goals with_reducible refine tN ?_
                  all_goals (
                      refine CW_seq ?_
                      refine CW_region ?_
                      refine oQ (Q_move rfl rfl) rfl rfl ?_
                      refine oQ (Q_move rfl rfl) rfl rfl ?_
                      refine oMul 12 12 rfl rfl (by omega) (by omega) (by decide) rfl (fun z48 hz48 hl48 hu48 => ?_)
                      refine oQ (Q_move rfl rfl) rfl rfl ?_
                      first | refine oQ (Q_binu rfl rfl rfl (by omega)) rfl rfl ?_ | refine oQ (Q_bin rfl rfl rfl) rfl rfl ?_
                      first | refine oQ (Q_binu rfl rfl rfl (by omega)) rfl rfl ?_ | refine oQ (Q_bin rfl rfl rfl) rfl rfl ?_
                      refine oQ (Q_assign rfl rfl) rfl rfl ?_
                      refine OW_nil ?_
                      all_goals with_reducible refine tN ?_
                      all_goals (
                          refine CW_seq ?_
                          refine CW_region ?_
                          refine oQ (Q_move rfl rfl) rfl rfl ?_
                          refine oQ (Q_move rfl rfl) rfl rfl ?_
                          refine oMul 12 12 rfl rfl (by omega) (by omega) (by decide) rfl (fun z54 hz54 hl54 hu54 => ?_)
                          refine oQ (Q_move rfl rfl) rfl rfl ?_
                          refine oMul 144 12 rfl rfl (by omega) (by omega) (by decide) rfl (fun z56 hz56 hl56 hu56 => ?_)
                          refine oQ (Q_move rfl rfl) rfl rfl ?_
                          first | refine oQ (Q_binu rfl rfl rfl (by omega)) rfl rfl ?_ | refine oQ (Q_bin rfl rfl rfl) rfl rfl ?_
                          refine oQ (Q_move rfl rfl) rfl rfl ?_
                          refine oMul 48 12 rfl rfl (by omega) (by omega) (by decide) rfl (fun z60 hz60 hl60 hu60 => ?_)
                          first | refine oQ (Q_binu rfl rfl rfl (by omega)) rfl rfl ?_ | refine oQ (Q_bin rfl rfl rfl) rfl rfl ?_
                          refine oQ (Q_move rfl rfl) rfl rfl ?_
                          refine oQ (Q_move rfl rfl) rfl rfl ?_
                          refine oMul 12 12 rfl rfl (by omega) (by omega) (by decide) rfl (fun z64 hz64 hl64 hu64 => ?_)
                          refine oQ (Q_move rfl rfl) rfl rfl ?_
                          refine oMul 144 12 rfl rfl (by omega) (by omega) (by decide) rfl (fun z66 hz66 hl66 hu66 => ?_)
                          first | refine oQ (Q_binu rfl rfl rfl (by omega)) rfl rfl ?_ | refine oQ (Q_bin rfl rfl rfl) rfl rfl ?_
                          refine oQ (Q_move rfl rfl) rfl rfl ?_
                          refine oQ (Q_move rfl rfl) rfl rfl ?_
                          refine oMul 12 12 rfl rfl (by omega) (by omega) (by decide) rfl (fun z70 hz70 hl70 hu70 => ?_)
                          refine oQ (Q_move rfl rfl) rfl rfl ?_
                          refine oMul 144 12 rfl rfl (by omega) (by omega) (by decide) rfl (fun z72 hz72 hl72 hu72 => ?_)
                          first | refine oQ (Q_binu rfl rfl rfl (by omega)) rfl rfl ?_ | refine oQ (Q_bin rfl rfl rfl) rfl rfl ?_
                          refine oQ (Q_move rfl rfl) rfl rfl ?_
                          refine oQ (Q_move rfl rfl) rfl rfl ?_
                          refine oMul 12 12 rfl rfl (by omega) (by omega) (by decide) rfl (fun z76 hz76 hl76 hu76 => ?_)
                          first | refine oQ (Q_binu rfl rfl rfl (by omega)) rfl rfl ?_ | refine oQ (Q_bin rfl rfl rfl) rfl rfl ?_
                          refine oQ (Q_assign rfl rfl) rfl rfl ?_
                          refine OW_nil ?_
                          all_goals with_reducible refine tN ?_
                          all_goals (
                              refine CW_seq ?_
                              refine CW_region ?_
                              refine oQ (Q_move rfl rfl) rfl rfl ?_
                              first | refine oQ (Q_binu rfl rfl rfl (by omega)) rfl rfl ?_ | refine oQ (Q_bin rfl rfl rfl) rfl rfl ?_
                              refine oQ (Q_move rfl rfl) rfl rfl ?_
                              refine oMul 1728 168 rfl rfl (by omega) (by omega) (by decide) rfl (fun z81 hz81 hl81 hu81 => ?_)
                              refine oQ (Q_move rfl rfl) rfl rfl ?_
                              refine oMul 290304 192 rfl rfl (by omega) (by omega) (by decide) rfl (fun z83 hz83 hl83 hu83 => ?_)
                              refine oQ (Q_move rfl rfl) rfl rfl ?_
                              refine oQ (Q_move rfl rfl) rfl rfl ?_
                              refine oMul 192 192 rfl rfl (by omega) (by omega) (by decide) rfl (fun z86 hz86 hl86 hu86 => ?_)
                              refine oQ (Q_move rfl rfl) rfl rfl ?_
                              refine oMul 36864 5904 rfl rfl (by omega) (by omega) (by decide) rfl (fun z88 hz88 hl88 hu88 => ?_)
                              first | refine oQ (Q_binu rfl rfl rfl (by omega)) rfl rfl ?_ | refine oQ (Q_bin rfl rfl rfl) rfl rfl ?_
                              refine oQ (Q_move rfl rfl) rfl rfl ?_
                              first | refine oQ (Q_binu rfl rfl rfl (by omega)) rfl rfl ?_ | refine oQ (Q_bin rfl rfl rfl) rfl rfl ?_
                              refine oQ (Q_move rfl rfl) rfl rfl ?_
                              refine oMul 1344 168 rfl rfl (by omega) (by omega) (by decide) rfl (fun z93 hz93 hl93 hu93 => ?_)
                              refine oQ (Q_move rfl rfl) rfl rfl ?_
                              refine oMul 225792 168 rfl rfl (by omega) (by omega) (by decide) rfl (fun z95 hz95 hl95 hu95 => ?_)
                              first | refine oQ (Q_binu rfl rfl rfl (by omega)) rfl rfl ?_ | refine oQ (Q_bin rfl rfl rfl) rfl rfl ?_
                              refine oQ (Q_move rfl rfl) rfl rfl ?_
                              first | refine oQ (Q_binu rfl rfl rfl (by omega)) rfl rfl ?_ | refine oQ (Q_bin rfl rfl rfl) rfl rfl ?_
                              refine oQ (Q_move rfl rfl) rfl rfl ?_
                              refine oMul 5184 192 rfl rfl (by omega) (by omega) (by decide) rfl (fun z100 hz100 hl100 hu100 => ?_)
                              first | refine oQ (Q_binu rfl rfl rfl (by omega)) rfl rfl ?_ | refine oQ (Q_bin rfl rfl rfl) rfl rfl ?_
                              refine oQ (Q_move rfl rfl) rfl rfl ?_
                              refine oQ (Q_call0 (mod_con _ _ (by omega) (by omega)) rfl rfl rfl) rfl rfl ?_
                              refine oQ (Q_assign rfl rfl) rfl rfl ?_
                              refine oQ (Q_assign rfl rfl) rfl rfl ?_
                              refine OW_nil ?_
                              all_goals with_reducible refine tN ?_
                              all_goals (
                                  refine CW_ret ?_))))))))
  all_goals (
      refine exitQ (.inr rfl) 1 (.cons (.tmp rfl rfl) (.cons (.tmp rfl rfl) .nil)) ?_ rfl (vHc rfl vHn) rfl rfl
      first
        | (simp only [resV, discV, discC, hc]; rfl)
        | (rw [el] at hc; simp only [resV, discV, discC, el, if_pos hc]; subst hz83 hz81 hz88 hz86 hz95 hz93 hz100 hz76 hz72 hz70 hz66 hz64 hz60 hz56 hz54 hz48 hz44 hz36; rfl))
theorem impl_DiscriminantOf_nil (p : Int)  : ConQ Try.prog [] 20 [.int p, .nilsl] [] (.tuple [.int (discV p (([] : List Int))), .int (discC p (([] : List Int)))]) := by
  have hlen : (([] : List Int)).length = 0 := by simp; try omega
  refine conW tab_ok [(0, .int p), (1, .nilsl)] 1 [] [] Try.func20 rfl rfl rfl rfl rfl rfl rfl rfl rfl ?_
  refine CW_seq ?_
  refine CW_region ?_
  refine oQ (Q_assign rfl rfl) rfl rfl ?_
  refine oQ (Q_assign rfl rfl) rfl rfl ?_
  refine OW_nil ?_
  all_goals with_reducible refine tN ?_
  all_goals (
      refine CW_seq ?_
      refine CW_seq ?_
      refine CW_region ?_
      refine oQ (Q_move rfl rfl) rfl rfl ?_
      refine oQ (Q_move rfl rfl) rfl rfl ?_
      refine oQ (Q_call (areFive_nil p) [] rfl rfl (Fits.mk' vHn rfl rfl (by simp)) rfl rfl) rfl rfl ?_
      refine oQ (Q_not rfl) rfl rfl ?_
      refine OW_nil ?_
      all_goals with_reducible refine tN ?_
      all_goals (
          first | refine CW_cond_t rfl (by with_reducible rfl) ?_ | refine CW_cond_f rfl (by with_reducible rfl) ?_ | refine CW_cond rfl (fun hc => ?_) (fun hc => ?_)
          all_goals try simp only [decide_eq_true_eq, decide_eq_false_iff_not, beq_iff_eq, beq_eq_false_iff_ne, bne_iff_ne, bne_eq_false_iff_eq, Bool.not_eq_true', Bool.not_eq_false', Int.not_lt, Int.not_le, ne_eq, not_false_eq_true] at hc
          all_goals try (exfalso; first | omega | (simp [fiveB] at hc); done)
          all_goals first
            | (
              refine CW_skip ?_)
            | (
              refine CW_seq ?_
              refine CW_region ?_
              refine oQ (Q_assign rfl rfl) rfl rfl ?_
              refine oQ (Q_assign rfl rfl) rfl rfl ?_
              refine OW_nil ?_
              all_goals with_reducible refine tN ?_
              all_goals (
                  refine CW_ret ?_)))
      all_goals first
        | with_reducible refine tR ?_
        | with_reducible refine tE ?_
        | (
          with_reducible refine tN ?_
          refine CW_seq ?_
          refine CW_draw lateOk (by decide +kernel) ?_
          (have h5 : 0 = 5 := by have := five_len hc; omega)
          (have hp := five_prime hc)
          (have hpb := prime_bd hp)
          (obtain ⟨a, b, c, d, e, el, ha, hb, hc', hd, he⟩ := five_list hc)
          (subst h5)
          (have eL : ([] : List Int) = a :: b :: c :: d :: e :: ([] : List Int).drop 5 := by rw [← List.take_append_drop 5 ([] : List Int), el]; simp)
          (generalize ([] : List Int).drop 5 = sp at eL)
          (subst eL)
          refine qQ (Q_move rfl rfl) rfl rfl ?_
          first | refine qQ (Q_ixs0 rfl rfl rfl rfl rfl rfl (by first | omega | (dsimp only; omega) | (simp; omega) | (simp; done))) rfl rfl ?_ | refine qQ (Q_ixs1 rfl rfl rfl rfl rfl rfl (by first | omega | (dsimp only; omega) | (simp; omega) | (simp; done))) rfl rfl ?_
          first | refine qQ (Q_ldc rfl rfl rfl rfl rfl) rfl rfl ?_ | refine qQ (Q_ld rfl rfl rfl rfl (by first | omega | (dsimp only; omega) | (simp; omega) | (simp; done))) rfl rfl ?_
          refine qQ (Q_move rfl rfl) rfl rfl ?_
          first | refine qQ (Q_ixs0 rfl rfl rfl rfl rfl rfl (by first | omega | (dsimp only; omega) | (simp; omega) | (simp; done))) rfl rfl ?_ | refine qQ (Q_ixs1 rfl rfl rfl rfl rfl rfl (by first | omega | (dsimp only; omega) | (simp; omega) | (simp; done))) rfl rfl ?_
          first | refine qQ (Q_ldc rfl rfl rfl rfl rfl) rfl rfl ?_ | refine qQ (Q_ld rfl rfl rfl rfl (by first | omega | (dsimp only; omega) | (simp; omega) | (simp; done))) rfl rfl ?_
          refine qQ (Q_move rfl rfl) rfl rfl ?_
          first | refine qQ (Q_ixs0 rfl rfl rfl rfl rfl rfl (by first | omega | (dsimp only; omega) | (simp; omega) | (simp; done))) rfl rfl ?_ | refine qQ (Q_ixs1 rfl rfl rfl rfl rfl rfl (by first | omega | (dsimp only; omega) | (simp; omega) | (simp; done))) rfl rfl ?_
          first | refine qQ (Q_ldc rfl rfl rfl rfl rfl) rfl rfl ?_ | refine qQ (Q_ld rfl rfl rfl rfl (by first | omega | (dsimp only; omega) | (simp; omega) | (simp; done))) rfl rfl ?_
          refine qQ (Q_move rfl rfl) rfl rfl ?_
          first | refine qQ (Q_ixs0 rfl rfl rfl rfl rfl rfl (by first | omega | (dsimp only; omega) | (simp; omega) | (simp; done))) rfl rfl ?_ | refine qQ (Q_ixs1 rfl rfl rfl rfl rfl rfl (by first | omega | (dsimp only; omega) | (simp; omega) | (simp; done))) rfl rfl ?_
          first | refine qQ (Q_ldc rfl rfl rfl rfl rfl) rfl rfl ?_ | refine qQ (Q_ld rfl rfl rfl rfl (by first | omega | (dsimp only; omega) | (simp; omega) | (simp; done))) rfl rfl ?_
          refine qQ (Q_move rfl rfl) rfl rfl ?_
          first | refine qQ (Q_ixs0 rfl rfl rfl rfl rfl rfl (by first | omega | (dsimp only; omega) | (simp; omega) | (simp; done))) rfl rfl ?_ | refine qQ (Q_ixs1 rfl rfl rfl rfl rfl rfl (by first | omega | (dsimp only; omega) | (simp; omega) | (simp; done))) rfl rfl ?_
          first | refine qQ (Q_ldc rfl rfl rfl rfl rfl) rfl rfl ?_ | refine qQ (Q_ld rfl rfl rfl rfl (by first | omega | (dsimp only; omega) | (simp; omega) | (simp; done))) rfl rfl ?_
          refine qQ (Q_assign rfl rfl) rfl rfl ?_
          refine qQ (Q_assign rfl rfl) rfl rfl ?_
          refine qQ (Q_assign rfl rfl) rfl rfl ?_
          refine qQ (Q_assign rfl rfl) rfl rfl ?_
          refine qQ (Q_assign rfl rfl) rfl rfl ?_
          refine QW_nil ?_
          all_goals with_reducible refine tN ?_
          all_goals (
              refine CW_seq ?_
              refine CW_region ?_
              refine oQ (Q_move rfl rfl) rfl rfl ?_
              refine oQ (Q_move rfl rfl) rfl rfl ?_
              refine oMul 12 12 rfl rfl (by omega) (by omega) (by decide) rfl (fun z36 hz36 hl36 hu36 => ?_)
              refine oQ (Q_move rfl rfl) rfl rfl ?_
              first | refine oQ (Q_binu rfl rfl rfl (by omega)) rfl rfl ?_ | refine oQ (Q_bin rfl rfl rfl) rfl rfl ?_
              first | refine oQ (Q_binu rfl rfl rfl (by omega)) rfl rfl ?_ | refine oQ (Q_bin rfl rfl rfl) rfl rfl ?_
              refine oQ (Q_assign rfl rfl) rfl rfl ?_
              refine OW_nil ?_
              all_goals with_reducible refine tN ?_
              all_goals (
                  refine CW_seq ?_
                  refine CW_region ?_
                  refine oQ (Q_move rfl rfl) rfl rfl ?_
                  first | refine oQ (Q_binu rfl rfl rfl (by omega)) rfl rfl ?_ | refine oQ (Q_bin rfl rfl rfl) rfl rfl ?_
                  refine oQ (Q_move rfl rfl) rfl rfl ?_
                  refine oQ (Q_move rfl rfl) rfl rfl ?_
                  refine oMul 12 12 rfl rfl (by omega) (by omega) (by decide) rfl (fun z44 hz44 hl44 hu44 => ?_)
                  first | refine oQ (Q_binu rfl rfl rfl (by omega)) rfl rfl ?_ | refine oQ (Q_bin rfl rfl rfl) rfl rfl ?_
                  refine oQ (Q_assign rfl rfl) rfl rfl ?_
                  refine OW_nil ?_
                  all_goals with_reducible refine tN ?_
                  all_goals (
                      refine CW_seq ?_
                      refine CW_region ?_
                      refine oQ (Q_move rfl rfl) rfl rfl ?_
                      refine oQ (Q_move rfl rfl) rfl rfl ?_
                      refine oMul 12 12 rfl rfl (by omega) (by omega) (by decide) rfl (fun z48 hz48 hl48 hu48 => ?_)
                      refine oQ (Q_move rfl rfl) rfl rfl ?_
                      first | refine oQ (Q_binu rfl rfl rfl (by omega)) rfl rfl ?_ | refine oQ (Q_bin rfl rfl rfl) rfl rfl ?_
                      first | refine oQ (Q_binu rfl rfl rfl (by omega)) rfl rfl ?_ | refine oQ (Q_bin rfl rfl rfl) rfl rfl ?_
                      refine oQ (Q_assign rfl rfl) rfl rfl ?_
                      refine OW_nil ?_
                      all_goals with_reducible refine tN ?_
                      all_goals (
                          refine CW_seq ?_
                          refine CW_region ?_
                          refine oQ (Q_move rfl rfl) rfl rfl ?_
                          refine oQ (Q_move rfl rfl) rfl rfl ?_
                          refine oMul 12 12 rfl rfl (by omega) (by omega) (by decide) rfl (fun z54 hz54 hl54 hu54 => ?_)
                          refine oQ (Q_move rfl rfl) rfl rfl ?_
                          refine oMul 144 12 rfl rfl (by omega) (by omega) (by decide) rfl (fun z56 hz56 hl56 hu56 => ?_)
                          refine oQ (Q_move rfl rfl) rfl rfl ?_
                          first | refine oQ (Q_binu rfl rfl rfl (by omega)) rfl rfl ?_ | refine oQ (Q_bin rfl rfl rfl) rfl rfl ?_
                          refine oQ (Q_move rfl rfl) rfl rfl ?_
                          refine oMul 48 12 rfl rfl (by omega) (by omega) (by decide) rfl (fun z60 hz60 hl60 hu60 => ?_)
                          first | refine oQ (Q_binu rfl rfl rfl (by omega)) rfl rfl ?_ | refine oQ (Q_bin rfl rfl rfl) rfl rfl ?_
                          refine oQ (Q_move rfl rfl) rfl rfl ?_
                          refine oQ (Q_move rfl rfl) rfl rfl ?_
                          refine oMul 12 12 rfl rfl (by omega) (by omega) (by decide) rfl (fun z64 hz64 hl64 hu64 => ?_)
                          refine oQ (Q_move rfl rfl) rfl rfl ?_
                          refine oMul 144 12 rfl rfl (by omega) (by omega) (by decide) rfl (fun z66 hz66 hl66 hu66 => ?_)
                          first | refine oQ (Q_binu rfl rfl rfl (by omega)) rfl rfl ?_ | refine oQ (Q_bin rfl rfl rfl) rfl rfl ?_
                          refine oQ (Q_move rfl rfl) rfl rfl ?_
                          refine oQ (Q_move rfl rfl) rfl rfl ?_
                          refine oMul 12 12 rfl rfl (by omega) (by omega) (by decide) rfl (fun z70 hz70 hl70 hu70 => ?_)
                          refine oQ (Q_move rfl rfl) rfl rfl ?_
                          refine oMul 144 12 rfl rfl (by omega) (by omega) (by decide) rfl (fun z72 hz72 hl72 hu72 => ?_)
                          first | refine oQ (Q_binu rfl rfl rfl (by omega)) rfl rfl ?_ | refine oQ (Q_bin rfl rfl rfl) rfl rfl ?_
                          refine oQ (Q_move rfl rfl) rfl rfl ?_
                          refine oQ (Q_move rfl rfl) rfl rfl ?_
                          refine oMul 12 12 rfl rfl (by omega) (by omega) (by decide) rfl (fun z76 hz76 hl76 hu76 => ?_)
                          first | refine oQ (Q_binu rfl rfl rfl (by omega)) rfl rfl ?_ | refine oQ (Q_bin rfl rfl rfl) rfl rfl ?_
                          refine oQ (Q_assign rfl rfl) rfl rfl ?_
                          refine OW_nil ?_
                          all_goals with_reducible refine tN ?_
                          all_goals (
                              refine CW_seq ?_
                              refine CW_region ?_
                              refine oQ (Q_move rfl rfl) rfl rfl ?_
                              first | refine oQ (Q_binu rfl rfl rfl (by omega)) rfl rfl ?_ | refine oQ (Q_bin rfl rfl rfl) rfl rfl ?_
                              refine oQ (Q_move rfl rfl) rfl rfl ?_
                              refine oMul 1728 168 rfl rfl (by omega) (by omega) (by decide) rfl (fun z81 hz81 hl81 hu81 => ?_)
                              refine oQ (Q_move rfl rfl) rfl rfl ?_
                              refine oMul 290304 192 rfl rfl (by omega) (by omega) (by decide) rfl (fun z83 hz83 hl83 hu83 => ?_)
                              refine oQ (Q_move rfl rfl) rfl rfl ?_
                              refine oQ (Q_move rfl rfl) rfl rfl ?_
                              refine oMul 192 192 rfl rfl (by omega) (by omega) (by decide) rfl (fun z86 hz86 hl86 hu86 => ?_)
                              refine oQ (Q_move rfl rfl) rfl rfl ?_
                              refine oMul 36864 5904 rfl rfl (by omega) (by omega) (by decide) rfl (fun z88 hz88 hl88 hu88 => ?_)
                              first | refine oQ (Q_binu rfl rfl rfl (by omega)) rfl rfl ?_ | refine oQ (Q_bin rfl rfl rfl) rfl rfl ?_
                              refine oQ (Q_move rfl rfl) rfl rfl ?_
                              first | refine oQ (Q_binu rfl rfl rfl (by omega)) rfl rfl ?_ | refine oQ (Q_bin rfl rfl rfl) rfl rfl ?_
                              refine oQ (Q_move rfl rfl) rfl rfl ?_
                              refine oMul 1344 168 rfl rfl (by omega) (by omega) (by decide) rfl (fun z93 hz93 hl93 hu93 => ?_)
                              refine oQ (Q_move rfl rfl) rfl rfl ?_
                              refine oMul 225792 168 rfl rfl (by omega) (by omega) (by decide) rfl (fun z95 hz95 hl95 hu95 => ?_)
                              first | refine oQ (Q_binu rfl rfl rfl (by omega)) rfl rfl ?_ | refine oQ (Q_bin rfl rfl rfl) rfl rfl ?_
                              refine oQ (Q_move rfl rfl) rfl rfl ?_
                              first | refine oQ (Q_binu rfl rfl rfl (by omega)) rfl rfl ?_ | refine oQ (Q_bin rfl rfl rfl) rfl rfl ?_
                              refine oQ (Q_move rfl rfl) rfl rfl ?_
                              refine oMul 5184 192 rfl rfl (by omega) (by omega) (by decide) rfl (fun z100 hz100 hl100 hu100 => ?_)
                              first | refine oQ (Q_binu rfl rfl rfl (by omega)) rfl rfl ?_ | refine oQ (Q_bin rfl rfl rfl) rfl rfl ?_
                              refine oQ (Q_move rfl rfl) rfl rfl ?_
                              refine oQ (Q_call0 (mod_con _ _ (by omega) (by omega)) rfl rfl rfl) rfl rfl ?_
                              refine oQ (Q_assign rfl rfl) rfl rfl ?_
                              refine oQ (Q_assign rfl rfl) rfl rfl ?_
                              refine OW_nil ?_
                              all_goals with_reducible refine tN ?_
                              all_goals (
                                  refine CW_ret ?_))))))))
  all_goals (
      refine exitQ (.inr rfl) 1 (.cons (.tmp rfl rfl) (.cons (.tmp rfl rfl) .nil)) ?_ rfl vHn rfl rfl
      first
        | (simp only [resV, discV, discC, hc]; rfl)
        | (rw [el] at hc; simp only [resV, discV, discC, el, if_pos hc]; subst hz83 hz81 hz88 hz86 hz95 hz93 hz100 hz76 hz72 hz70 hz66 hz64 hz60 hz56 hz54 hz48 hz44 hz36; rfl))
end Go.Proofs.Ytkjbfdjbbgbgdaa
