/- Codes of conics; points on conics, of both sides. Printed by gen_q4.py. -/
import Derived.Test.YtlhlnaehfjojiaaDoorQ3
import Derived.Test.YtlhlnaehfjojiaaDoorEngJ
namespace Go.Proofs.YtlhlnaehfjojiaaDoor
attribute [local irreducible] CW OW QW QOp Con thenP inBlockP AW QX
set_option maxRecDepth 10000
set_option linter.unusedSimpArgs false
set_option linter.unusedVariables false
/-- the code of a prime, and of what has to be valid -/
def codeB (p : Int) (b : Bool) : Int := if primeB p = true then (if b = true then 0 else 1) else 2
theorem codeB_zero {p : Int} {b : Bool} : codeB p b = 0 ↔ primeB p = true ∧ b = true := by
  unfold codeB
  cases primeB p <;> cases b <;> simp
theorem not_any {g : List Int → Bool} {sz : Nat} {M : List Int} {k : Nat} : (!(anyF (fun m => !g m) sz M k)) = allF g sz M k := by
  unfold anyF allF
  rw [List.not_any_eq_all_not]
  congr 1
  funext i
  simp
theorem allF_one {g : List Int → Bool} {sz : Nat} {M : List Int} (h : M.length = sz) : allF g sz M 1 = g M := by
  subst h
  simp [allF, elemAt]
theorem allF_two {g : List Int → Bool} {sz : Nat} {A B : List Int} (ha : A.length = sz) (hb : B.length = sz) : allF g sz (A ++ B) 2 = (g A && g B) := by
  subst ha
  simp [allF, elemAt, List.range_succ, ← hb]
theorem pointB_prime {p : Int} {l : List Int} (h : pointB p l = true) : primeB p = true := by
  simp only [pointB, Bool.and_eq_true] at h; exact h.1
theorem pointB_mod {p : Int} {l : List Int} (h : pointB p l = true) : modB p l = true := by
  simp only [pointB, normB, Bool.and_eq_true] at h; exact h.2.1
theorem l01Code_nil (p : Int) : ConQ Tryd.prog [] 79 [.int p, .nilsl] [] (.int (codeB p true)) := by
  refine conW tab_ok [(0, .int p), (1, .nilsl)] 0 [] [] Tryd.func79 rfl rfl rfl rfl rfl rfl rfl rfl rfl ?_
  refine cR ?_
  refine oA rfl rfl ?_
  refine oN ?_
  refine CW_seq ?_
  refine cR ?_
  refine oM rfl rfl ?_
  refine oQ (Q_call0 (l01Prime_con _) rfl rfl rfl) rfl rfl ?_
  refine oQ (Q_not rfl) rfl rfl ?_
  refine oN ?_
  first | refine cT rfl ?_ | refine cF rfl ?_ | refine CW_cond rfl (fun hc => ?_) (fun hc => ?_)
  all_goals try simp only [s1, s2, s3, s4, s5, s6, s7, s8, s9, s10, s11, s12] at hc
  all_goals try (exfalso; first | omega | (simp at hc); done)
  all_goals first
    | (
     refine CW_skip ?_)
    | (
     refine cR ?_
     refine oA rfl rfl ?_
     refine oN ?_
     refine CW_ret ?_)
  all_goals first
    | with_reducible refine tR ?_
    | with_reducible refine tE ?_
    | (
     with_reducible refine tN ?_
     refine CW_seq ?_
     refine cR ?_
     refine oA rfl rfl ?_
     refine oN ?_
     refine CW_block ?_
     (have hp : primeB p = true := hc)
     refine CW_loop (ι := Nat) (fun i => i = 0) (fun i => ⟨[(0, .int p), (1, .nilsl), (5, .int i)], [], 0⟩) (fun i => 0) 0 ?_ ?_ ?_
     · first | trivial | omega | (simp; done) | (simp; omega)
     · refine View.mk' [] rfl rfl rfl ?_ ?_
       repeat' first | exact vFn | refine vFc rfl ?_ | exact vHn | refine vHc rfl ?_ | refine vFc (congrArg (fun z => some (V.int z)) ?_) ?_ | refine vHc (congrArg (fun z => some (Blk.ints _ z)) ?_) ?_ | refine vFc (congrArg (fun z => some (V.bool z)) ?_) ?_ | refine vFs rfl rfl ?_ ?_
     intro i hi
     refine CW_seq ?_
     refine cR ?_
     iterate 2 refine oM rfl rfl ?_
     first | refine oQ (Q_len rfl rfl rfl rfl) rfl rfl ?_ | refine oQ (Q_len0 rfl rfl rfl rfl) rfl rfl ?_
     refine oQ (Q_bin rfl rfl rfl) rfl rfl ?_
     refine oN ?_
     first | refine cT rfl ?_ | refine cF rfl ?_ | refine CW_cond rfl (fun hc => ?_) (fun hc => ?_)
     all_goals try simp only [s1, s2, s3, s4, s5, s6, s7, s8, s9, s10, s11, s12] at hc
     all_goals try (exfalso; first | omega | (simp at hc); done)
     all_goals first
       | (
        refine CW_skip ?_)
       | (
        refine CW_exit ?_)
     all_goals first
       | with_reducible refine tR ?_
       | with_reducible refine tE ?_
       | (
        with_reducible refine tN ?_
        refine CW_seq ?_
        refine CW_block ?_
        refine cR ?_
        iterate 3 refine oM rfl rfl ?_
        first | refine oQ (Q_ixs0z 3 rfl rfl rfl rfl rfl rfl (by first | omega | (dsimp only; omega) | (simp; omega) | (simp; done))) rfl rfl ?_ | refine oQ (Q_ixsz 3 rfl rfl rfl rfl rfl rfl (by first | omega | (dsimp only; omega) | (simp; omega) | (simp; done))) rfl rfl ?_
        first | refine oQ (Lw rfl rfl rfl rfl) rfl rfl ?_ | refine oQ (La rfl rfl rfl rfl rfl) rfl rfl ?_
        fail "call of loop.example/g01310/spec.l01Point at slot 20"
        refine oQ (Q_not rfl) rfl rfl ?_
        refine oN ?_
        first | refine cT rfl ?_ | refine cF rfl ?_ | refine CW_cond rfl (fun hc => ?_) (fun hc => ?_)
        all_goals try simp only [s1, s2, s3, s4, s5, s6, s7, s8, s9, s10, s11, s12] at hc
        all_goals try (exfalso; first | omega | (simp at hc); done)
        all_goals first
          | (
           refine CW_skip ?_)
          | (
           refine cR ?_
           refine oA rfl rfl ?_
           refine oN ?_
           refine CW_ret ?_)
        all_goals first | with_reducible refine bN ?_ | with_reducible refine bE ?_ | with_reducible refine bR ?_ | refine bX rfl ?_
        all_goals first
          | with_reducible refine tR ?_
          | with_reducible refine tE ?_
          | (
           with_reducible refine tN ?_
           refine CW_region ?_
           refine oM rfl rfl ?_
           first | refine oQ (Q_binu rfl rfl rfl (by omega)) rfl rfl ?_ | refine oQ (Q_bin rfl rfl rfl) rfl rfl ?_
           refine oA rfl rfl ?_
           refine OW_nil ?_))
     all_goals first
       | with_reducible refine tR ?_
       | with_reducible refine tE ?_
       | (
        with_reducible refine tN ?_
        refine ⟨i + 1, ?_, ?_, View.mk' [] rfl rfl rfl ?_ ?_⟩
        · omega
        · omega
        all_goals (repeat' first | exact vFn | refine vFc rfl ?_ | exact vHn | refine vHc rfl ?_ | refine vFc (congrArg (fun z => some (V.int z)) ?_) ?_ | refine vHc (congrArg (fun z => some (Blk.ints _ z)) ?_) ?_ | refine vFc (congrArg (fun z => some (V.bool z)) ?_) ?_ | refine vFs rfl rfl ?_ ?_))
     all_goals first | with_reducible refine bN ?_ | with_reducible refine bE ?_ | with_reducible refine bR ?_ | refine bX rfl ?_
     all_goals first
       | with_reducible refine tR ?_
       | with_reducible refine tE ?_
       | (
        with_reducible refine tN ?_
        refine cR ?_
        refine oA rfl rfl ?_
        refine oN ?_
        refine CW_ret ?_))
  all_goals (
   refine exitQ (.inr rfl) 0 (.cons (.tmp rfl rfl) .nil) ?_ rfl vHn rfl rfl
   first
     | (simp [resV, codeB, hc]; done)
     | (simp [resV, codeB, hp]; done))
/-- a list and a code: the list where the code is 0, and nil else -/
def listR (sz : Nat) (T : TypeId) (H0 : Hp) (b : Nat) (code : Int) (L : List (List Int)) (r : V) (H' : Hp) : Prop :=
  if code = 0 then ∃ (k : Nat) (sp : List Int), L.length ≤ k ∧ k * sz ≤ L.length * sz + sp.length ∧ r = .tuple [.slice b 0 L.length k, .int 0] ∧ H' = H0 ++ [(b, .ints T (L.flatten ++ sp))]
  else r = .tuple [.nilsl, .int code] ∧ H' = H0
theorem listR_ok {sz : Nat} {T : TypeId} {H0 : Hp} {b : Nat} {code : Int} {L : List (List Int)} {r : V} {H' : Hp} (hc : code = 0) {k : Nat} {sp : List Int} (h1 : L.length ≤ k) (h2 : k * sz ≤ L.length * sz + sp.length) (h3 : r = .tuple [.slice b 0 L.length k, .int 0]) (h4 : H' = H0 ++ [(b, .ints T (L.flatten ++ sp))]) : listR sz T H0 b code L r H' := by
  unfold listR
  rw [if_pos hc]
  exact ⟨k, sp, h1, h2, h3, h4⟩
theorem listR_no {sz : Nat} {T : TypeId} {H0 : Hp} {b : Nat} {code : Int} {L : List (List Int)} {r : V} {H' : Hp} (hc : ¬ code = 0) (h3 : r = .tuple [.nilsl, .int code]) (h4 : H' = H0) : listR sz T H0 b code L r H' := by
  unfold listR
  rw [if_neg hc]
  exact ⟨h3, h4⟩

theorem areLines_one (p : Int) (l : List Int) (hl : l.length = 3) : ConQ Tryd.prog [] 59 [.int p, .slice 0 0 1 1] [(0, .ints 32 l)] (.bool (pointB p l)) := by
  have := areLines_con p 32 l 1 1 (by omega) (by omega)
  rwa [allF_one hl] at this
theorem arePoints_one (p : Int) (l : List Int) (hl : l.length = 3) : ConQ Tryd.prog [] 54 [.int p, .slice 0 0 1 1] [(0, .ints 35 l)] (.bool (pointB p l)) := by
  have := arePoints_con p 35 l 1 1 (by omega) (by omega)
  rwa [allF_one hl] at this
end Go.Proofs.YtlhlnaehfjojiaaDoor
