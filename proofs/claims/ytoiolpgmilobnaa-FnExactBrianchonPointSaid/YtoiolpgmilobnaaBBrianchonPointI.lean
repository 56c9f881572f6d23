/- What the last text of BrianchonPoint needs, part 9: contracts of functions and plain mathematics. No conditions beyond those each theorem states. -/
import Derived.Test.YtoiolpgmilobnaaBBrianchonPointH
namespace Go.Proofs.Ytoiolpgmilobnaa
attribute [local irreducible] CW OW QW QOp Con thenP inBlockP AW QX
set_option maxRecDepth 10000
set_option linter.unusedSimpArgs false
set_option linter.unusedVariables false
/-- the code of a prime, and of what has to be valid -/
def codeB (p : Int) (b : Bool) : Int := if primeB p = true then (if b = true then 0 else 1) else 2
theorem codeB_zero {p : Int} {b : Bool} : codeB p b = 0 ↔ primeB p = true ∧ b = true := by
  unfold codeB
  cases primeB p <;> cases b <;> simp
theorem not_any {g : List Int → Bool} {sz : Nat} {M : List Int} {k : Nat} : (!(anyF (fun m => !g m) sz M k)) = allF g sz M k := by
  unfold anyF allF
  rw [List.not_any_eq_all_not]
  congr 1
  funext i
  simp
theorem allF_one {g : List Int → Bool} {sz : Nat} {M : List Int} (h : M.length = sz) : allF g sz M 1 = g M := by
  subst h
  simp [allF, elemAt]
theorem pointB_prime {p : Int} {l : List Int} (h : pointB p l = true) : primeB p = true := by
  simp only [pointB, Bool.and_eq_true] at h; exact h.1
theorem pointB_mod {p : Int} {l : List Int} (h : pointB p l = true) : modB p l = true := by
  simp only [pointB, normB, Bool.and_eq_true] at h; exact h.2.1
theorem conicsCode11_con (p : Int) (m : List Int) (hm : m.length = 6) : ConQ Try.prog [] 83 [.arr m, .ptr 1 0] [(1, .ints 2 [p])] (.bool (!pointB p m)) := by
  refine conW tab_ok [(0, .arr m), (1, .ptr 1 0)] 2 [1] [1] Try.func83 rfl rfl rfl rfl rfl rfl rfl rfl rfl ?_
  refine cR ?_
  refine oBox rfl rfl rfl rfl rfl rfl ?_
  refine oA rfl rfl ?_
  refine oN ?_
  refine cR ?_
  first | refine oQ (Q_ldc rfl rfl rfl rfl rfl) rfl rfl ?_ | refine oQ (Ld rfl rfl rfl rfl) rfl rfl ?_
  refine oQ (Q_ldw rfl rfl rfl rfl hm) rfl rfl ?_
  refine oQ (Q_call0 (impl_IsConic_con p m hm) rfl rfl rfl) rfl rfl ?_
  refine oQ (Q_not rfl) rfl rfl ?_
  refine oA rfl rfl ?_
  refine oN ?_
  refine CW_ret ?_
  all_goals (
   ((refine exitQ (.inr rfl) 2 (.cons (.tmp rfl rfl) .nil) ?_ rfl (vHc rfl vHn) rfl rfl); rfl))
theorem conicsCode1_con (p : Int) (v : Bool) (M : List Int) (k ck : Nat) (hM : k * 6 ≤ M.length) (hk : k ≤ 1000000000) : ConQ Try.prog [] 81 [.ptr 0 0, .ptr 1 0, .ptr 2 0] [(0, .vals 4 [.bool v]), (1, .vals 98 [.slice 3 0 k ck]), (2, .ints 2 [p]), (3, .ints 25 M)] (.bool (v && allF (pointB p) 6 M k)) := by
  refine conW tab_ok [(0, .ptr 0 0), (1, .ptr 1 0), (2, .ptr 2 0)] 4 [0, 1, 2, 3] [0, 1, 2, 3] Try.func81 rfl rfl rfl rfl rfl rfl rfl rfl rfl ?_
  refine cR ?_
  refine oA rfl rfl ?_
  refine oN ?_
  refine cR ?_
  refine oQ (Q_ldv rfl rfl rfl rfl rfl rfl) rfl rfl ?_
  refine oM rfl rfl ?_
  all_goals first | refine oT rfl rfl ?_ | refine o1 rfl rfl rfl ?_ | refine o0 rfl rfl rfl ?_ | refine ogP1 rfl rfl rfl (fun hg => ?_) (fun hg => ?_) | refine ogP0 rfl rfl rfl (fun hg => ?_) (fun hg => ?_)
  all_goals try simp only [s1, s2, s3, s4, s5, s6, s7, s8, s9, s10, s11, s12] at hg
  all_goals first | (refine oQ (Q_ldv rfl rfl rfl rfl rfl rfl) rfl rfl ?_) | skip
  all_goals first | refine oT rfl rfl ?_ | refine o1 rfl rfl rfl ?_ | refine o0 rfl rfl rfl ?_ | refine ogP1 rfl rfl rfl (fun hg => ?_) (fun hg => ?_) | refine ogP0 rfl rfl rfl (fun hg => ?_) (fun hg => ?_)
  all_goals try simp only [s1, s2, s3, s4, s5, s6, s7, s8, s9, s10, s11, s12] at hg
  all_goals first | (refine oQ (Q_makeFunc rfl rfl) rfl rfl ?_) | skip
  all_goals first | refine oT rfl rfl ?_ | refine o1 rfl rfl rfl ?_ | refine o0 rfl rfl rfl ?_ | refine ogP1 rfl rfl rfl (fun hg => ?_) (fun hg => ?_) | refine ogP0 rfl rfl rfl (fun hg => ?_) (fun hg => ?_)
  all_goals try simp only [s1, s2, s3, s4, s5, s6, s7, s8, s9, s10, s11, s12] at hg
  all_goals first | (refine oQ (Q_call (containsConic_con 83 (fun m => !pointB p m) p 25 2 M k ck hM hk (fun m hm => conicsCode11_con p m hm)) [(0, 3), (1, 2)] rfl rfl (Fits.mk' (vHc rfl (vHc rfl vHn)) rfl rfl (by first | (simp; done) | exact glOk rfl rfl rfl)) rfl rfl) rfl rfl ?_) | skip
  all_goals first | refine oT rfl rfl ?_ | refine o1 rfl rfl rfl ?_ | refine o0 rfl rfl rfl ?_ | refine ogP1 rfl rfl rfl (fun hg => ?_) (fun hg => ?_) | refine ogP0 rfl rfl rfl (fun hg => ?_) (fun hg => ?_)
  all_goals try simp only [s1, s2, s3, s4, s5, s6, s7, s8, s9, s10, s11, s12] at hg
  all_goals first | (refine oQ (Q_not rfl) rfl rfl ?_) | skip
  all_goals first | refine oQ (Q_pick_t rfl (by with_reducible rfl) rfl rfl) rfl rfl ?_ | refine oQ (Q_pick_f rfl (by with_reducible rfl) rfl rfl) rfl rfl ?_
  all_goals first | (refine oA rfl rfl ?_)
  all_goals refine oN ?_
  all_goals (
   refine CW_ret ?_)
  all_goals (
   refine exitQ (.inr rfl) 4 (.cons (.tmp rfl rfl) .nil) ?_ rfl (vHc rfl (vHc rfl (vHc rfl (vHc rfl vHn)))) rfl rfl
   simp only [resV, V.bool.injEq]
   first
     | (rw [not_any, hg]; rfl)
     | (rw [hg]; rfl))
theorem conicsCode_con (p : Int) (v : Bool) (M : List Int) (k ck : Nat) (hM : k * 6 ≤ M.length) (hk : k ≤ 1000000000) : ConQ Try.prog [] 41 [.int p, .bool v, .slice 0 0 k ck] [(0, .ints 25 M)] (.int (codeB p (v && allF (pointB p) 6 M k))) := by
  refine conW tab_ok [(0, .int p), (1, .bool v), (2, .slice 0 0 k ck)] 1 [0] [0] Try.func41 rfl rfl rfl rfl rfl rfl rfl rfl rfl ?_
  refine cR ?_
  iterate 3 refine oBox rfl rfl rfl rfl rfl rfl ?_
  refine oA rfl rfl ?_
  refine oN ?_
  refine cR ?_
  first | refine oQ (Q_ldc rfl rfl rfl rfl rfl) rfl rfl ?_ | refine oQ (Ld rfl rfl rfl rfl) rfl rfl ?_
  refine oQ (Q_makeFunc rfl rfl) rfl rfl ?_
  refine oQ (Q_call (planeCode_gen p 81 (v && allF (pointB p) 6 M k) [.ptr 0 0, .ptr 1 0, .ptr 2 0] [(0, .vals 4 [.bool v]), (1, .vals 98 [.slice 3 0 k ck]), (2, .ints 2 [p]), (3, .ints 25 M)] 4 (vHc rfl (vHc rfl (vHc rfl (vHc rfl vHn)))) rfl rfl rfl rfl (fun _ => conicsCode1_con p v M k ck hM hk)) [(0, 2), (1, 3), (2, 1), (3, 0)] rfl rfl (Fits.mk' (vHc rfl (vHc rfl (vHc rfl (vHc rfl vHn)))) rfl rfl (by first | (simp; done) | exact glOk rfl rfl rfl)) rfl rfl) rfl rfl ?_
  refine oA rfl rfl ?_
  refine oN ?_
  refine CW_ret ?_
  all_goals (
   ((refine exitQ (.inr rfl) 1 (.cons (.tmp rfl rfl) .nil) ?_ rfl (vHc rfl vHn) rfl rfl); rfl))
theorem conicsCode_one (p : Int) (v : Bool) (c : List Int) (hc : c.length = 6) : ConQ Try.prog [] 41 [.int p, .bool v, .slice 0 0 1 1] [(0, .ints 25 c)] (.int (codeB p (v && pointB p c))) := by
  have := conicsCode_con p v c 1 1 (by omega) (by omega)
  rwa [allF_one hc] at this
theorem l03Is_con6 (p a b c d e f : Int) : ConQ Try.prog [] 76 [.int p, .arr [a, b, c, d, e, f]] [] (.bool (pointB p [a, b, c, d, e, f])) := by
  refine conW tab_ok [(0, .int p), (1, .arr [a, b, c, d, e, f])] 0 [] [] Try.func76 rfl rfl rfl rfl rfl rfl rfl rfl rfl ?_
  refine cR ?_
  refine oBox rfl rfl rfl rfl rfl rfl ?_
  refine oA rfl rfl ?_
  refine oN ?_
  refine cR ?_
  refine oM rfl rfl ?_
  refine oQ (Q_call0 (l01Prime_con _) rfl rfl rfl) rfl rfl ?_
  refine oM rfl rfl ?_
  all_goals first | refine oT rfl rfl ?_ | refine o1 rfl rfl rfl ?_ | refine o0 rfl rfl rfl ?_ | refine ogP1 rfl rfl rfl (fun hg => ?_) (fun hg => ?_) | refine ogP0 rfl rfl rfl (fun hg => ?_) (fun hg => ?_)
  all_goals try simp only [s1, s2, s3, s4, s5, s6, s7, s8, s9, s10, s11, s12] at hg
  all_goals first | (refine oM rfl rfl ?_) | skip
  all_goals first | refine oT rfl rfl ?_ | refine o1 rfl rfl rfl ?_ | refine o0 rfl rfl rfl ?_ | refine ogP1 rfl rfl rfl (fun hg => ?_) (fun hg => ?_) | refine ogP0 rfl rfl rfl (fun hg => ?_) (fun hg => ?_)
  all_goals try simp only [s1, s2, s3, s4, s5, s6, s7, s8, s9, s10, s11, s12] at hg
  all_goals first | refine oQ (Ia0 rfl rfl rfl rfl rfl rfl) rfl rfl ?_ | refine oQ (Ia1 rfl rfl rfl rfl rfl rfl) rfl rfl ?_ | skip
  all_goals first | refine oT rfl rfl ?_ | refine o1 rfl rfl rfl ?_ | refine o0 rfl rfl rfl ?_ | refine ogP1 rfl rfl rfl (fun hg => ?_) (fun hg => ?_) | refine ogP0 rfl rfl rfl (fun hg => ?_) (fun hg => ?_)
  all_goals try simp only [s1, s2, s3, s4, s5, s6, s7, s8, s9, s10, s11, s12] at hg
  all_goals first | refine oQ (Q_ldc rfl rfl rfl rfl rfl) rfl rfl ?_ | refine oQ (Ld rfl rfl rfl rfl) rfl rfl ?_ | skip
  all_goals first | refine oT rfl rfl ?_ | refine o1 rfl rfl rfl ?_ | refine o0 rfl rfl rfl ?_ | refine ogP1 rfl rfl rfl (fun hg => ?_) (fun hg => ?_) | refine ogP0 rfl rfl rfl (fun hg => ?_) (fun hg => ?_)
  all_goals try simp only [s1, s2, s3, s4, s5, s6, s7, s8, s9, s10, s11, s12] at hg
  all_goals first | refine oQ (Ia0 rfl rfl rfl rfl rfl rfl) rfl rfl ?_ | refine oQ (Ia1 rfl rfl rfl rfl rfl rfl) rfl rfl ?_ | skip
  all_goals first | refine oT rfl rfl ?_ | refine o1 rfl rfl rfl ?_ | refine o0 rfl rfl rfl ?_ | refine ogP1 rfl rfl rfl (fun hg => ?_) (fun hg => ?_) | refine ogP0 rfl rfl rfl (fun hg => ?_) (fun hg => ?_)
  all_goals try simp only [s1, s2, s3, s4, s5, s6, s7, s8, s9, s10, s11, s12] at hg
  all_goals first | refine oQ (Q_ldc rfl rfl rfl rfl rfl) rfl rfl ?_ | refine oQ (Ld rfl rfl rfl rfl) rfl rfl ?_ | skip
  all_goals first | refine oT rfl rfl ?_ | refine o1 rfl rfl rfl ?_ | refine o0 rfl rfl rfl ?_ | refine ogP1 rfl rfl rfl (fun hg => ?_) (fun hg => ?_) | refine ogP0 rfl rfl rfl (fun hg => ?_) (fun hg => ?_)
  all_goals try simp only [s1, s2, s3, s4, s5, s6, s7, s8, s9, s10, s11, s12] at hg
  all_goals first | refine oQ (Ia0 rfl rfl rfl rfl rfl rfl) rfl rfl ?_ | refine oQ (Ia1 rfl rfl rfl rfl rfl rfl) rfl rfl ?_ | skip
  all_goals first | refine oT rfl rfl ?_ | refine o1 rfl rfl rfl ?_ | refine o0 rfl rfl rfl ?_ | refine ogP1 rfl rfl rfl (fun hg => ?_) (fun hg => ?_) | refine ogP0 rfl rfl rfl (fun hg => ?_) (fun hg => ?_)
  all_goals try simp only [s1, s2, s3, s4, s5, s6, s7, s8, s9, s10, s11, s12] at hg
  all_goals first | refine oQ (Q_ldc rfl rfl rfl rfl rfl) rfl rfl ?_ | refine oQ (Ld rfl rfl rfl rfl) rfl rfl ?_ | skip
  all_goals first | refine oT rfl rfl ?_ | refine o1 rfl rfl rfl ?_ | refine o0 rfl rfl rfl ?_ | refine ogP1 rfl rfl rfl (fun hg => ?_) (fun hg => ?_) | refine ogP0 rfl rfl rfl (fun hg => ?_) (fun hg => ?_)
  all_goals try simp only [s1, s2, s3, s4, s5, s6, s7, s8, s9, s10, s11, s12] at hg
  all_goals first | refine oQ (Ia0 rfl rfl rfl rfl rfl rfl) rfl rfl ?_ | refine oQ (Ia1 rfl rfl rfl rfl rfl rfl) rfl rfl ?_ | skip
  all_goals first | refine oT rfl rfl ?_ | refine o1 rfl rfl rfl ?_ | refine o0 rfl rfl rfl ?_ | refine ogP1 rfl rfl rfl (fun hg => ?_) (fun hg => ?_) | refine ogP0 rfl rfl rfl (fun hg => ?_) (fun hg => ?_)
  all_goals try simp only [s1, s2, s3, s4, s5, s6, s7, s8, s9, s10, s11, s12] at hg
  all_goals first | refine oQ (Q_ldc rfl rfl rfl rfl rfl) rfl rfl ?_ | refine oQ (Ld rfl rfl rfl rfl) rfl rfl ?_ | skip
  all_goals first | refine oT rfl rfl ?_ | refine o1 rfl rfl rfl ?_ | refine o0 rfl rfl rfl ?_ | refine ogP1 rfl rfl rfl (fun hg => ?_) (fun hg => ?_) | refine ogP0 rfl rfl rfl (fun hg => ?_) (fun hg => ?_)
  all_goals try simp only [s1, s2, s3, s4, s5, s6, s7, s8, s9, s10, s11, s12] at hg
  all_goals first | refine oQ (Ia0 rfl rfl rfl rfl rfl rfl) rfl rfl ?_ | refine oQ (Ia1 rfl rfl rfl rfl rfl rfl) rfl rfl ?_ | skip
  all_goals first | refine oT rfl rfl ?_ | refine o1 rfl rfl rfl ?_ | refine o0 rfl rfl rfl ?_ | refine ogP1 rfl rfl rfl (fun hg => ?_) (fun hg => ?_) | refine ogP0 rfl rfl rfl (fun hg => ?_) (fun hg => ?_)
  all_goals try simp only [s1, s2, s3, s4, s5, s6, s7, s8, s9, s10, s11, s12] at hg
  all_goals first | refine oQ (Q_ldc rfl rfl rfl rfl rfl) rfl rfl ?_ | refine oQ (Ld rfl rfl rfl rfl) rfl rfl ?_ | skip
  all_goals first | refine oT rfl rfl ?_ | refine o1 rfl rfl rfl ?_ | refine o0 rfl rfl rfl ?_ | refine ogP1 rfl rfl rfl (fun hg => ?_) (fun hg => ?_) | refine ogP0 rfl rfl rfl (fun hg => ?_) (fun hg => ?_)
  all_goals try simp only [s1, s2, s3, s4, s5, s6, s7, s8, s9, s10, s11, s12] at hg
  all_goals first | refine oQ (Ia0 rfl rfl rfl rfl rfl rfl) rfl rfl ?_ | refine oQ (Ia1 rfl rfl rfl rfl rfl rfl) rfl rfl ?_ | skip
  all_goals first | refine oT rfl rfl ?_ | refine o1 rfl rfl rfl ?_ | refine o0 rfl rfl rfl ?_ | refine ogP1 rfl rfl rfl (fun hg => ?_) (fun hg => ?_) | refine ogP0 rfl rfl rfl (fun hg => ?_) (fun hg => ?_)
  all_goals try simp only [s1, s2, s3, s4, s5, s6, s7, s8, s9, s10, s11, s12] at hg
  all_goals first | refine oQ (Q_ldc rfl rfl rfl rfl rfl) rfl rfl ?_ | refine oQ (Ld rfl rfl rfl rfl) rfl rfl ?_ | skip
  all_goals first | refine oT rfl rfl ?_ | refine o1 rfl rfl rfl ?_ | refine o0 rfl rfl rfl ?_ | refine ogP1 rfl rfl rfl (fun hg => ?_) (fun hg => ?_) | refine ogP0 rfl rfl rfl (fun hg => ?_) (fun hg => ?_)
  all_goals try simp only [s1, s2, s3, s4, s5, s6, s7, s8, s9, s10, s11, s12] at hg
  all_goals first | (refine oBsl (zl := []) rfl rfl rfl rfl (.inl ⟨rfl, rfl⟩) rfl rfl rfl rfl rfl rfl ?_) | skip
  all_goals first | refine oT rfl rfl ?_ | refine o1 rfl rfl rfl ?_ | refine o0 rfl rfl rfl ?_ | refine ogP1 rfl rfl rfl (fun hg => ?_) (fun hg => ?_) | refine ogP0 rfl rfl rfl (fun hg => ?_) (fun hg => ?_)
  all_goals try simp only [s1, s2, s3, s4, s5, s6, s7, s8, s9, s10, s11, s12] at hg
  all_goals first | ((have hb := prime_bd hg); refine oQ (Q_call (l01Normal_con p 2 [a, b, c, d, e, f] 6 6 (Nat.le_refl _) (by omega) (by decide)) [(0, 1)] rfl rfl (Fits.mk' (vHc rfl vHn) rfl rfl (by first | (simp; done) | exact glOk rfl rfl rfl)) rfl rfl) rfl rfl ?_) | skip
  all_goals first | refine oQ (Q_pick_t rfl (by with_reducible rfl) rfl rfl) rfl rfl ?_ | refine oQ (Q_pick_f rfl (by with_reducible rfl) rfl rfl) rfl rfl ?_
  all_goals first | (refine oA rfl rfl ?_)
  all_goals refine oN ?_
  all_goals (
   refine CW_ret ?_)
  all_goals (
   refine exitQ (.inr rfl) 0 (.cons (.tmp rfl rfl) .nil) ?_ rfl vHn rfl rfl
   simp only [resV, ren, pointB, V.bool.injEq, hg, Bool.true_and, Bool.false_and]
   try rfl)
theorem l03Is_con (p : Int) (c : List Int) (hc : c.length = 6) : ConQ Try.prog [] 76 [.int p, .arr c] [] (.bool (pointB p c)) := by
  match c, hc with
  | [a, b, c, d, e, f], _ => exact l03Is_con6 p a b c d e f
theorem l03Code_row (p : Int) (c : List Int) (hc6 : c.length = 6) (tM : TypeId) (M : List Int) (k ck : Nat) (hM : k * 3 ≤ M.length) (hk : k ≤ 1000000000) : ConQ Try.prog [] 39 [.int p, .arr c, .slice 0 0 k ck] [(0, .ints tM M)] (.int (codeB p (allF (pointB p) 3 M k && pointB p c))) := by
  refine conW tab_ok [(0, .int p), (1, .arr c), (2, .slice 0 0 k ck)] 1 [0] [0] Try.func39 rfl rfl rfl rfl rfl rfl rfl rfl rfl ?_
  refine cR ?_
  refine oBox rfl rfl rfl rfl rfl rfl ?_
  refine oA rfl rfl ?_
  refine oN ?_
  refine cR ?_
  iterate 2 refine oM rfl rfl ?_
  refine oQ (Q_call (l01Code_con p tM M k ck hM hk) [] rfl rfl (Fits.mk' (vHc rfl vHn) rfl rfl (by first | (simp; done) | exact glOk rfl rfl rfl)) rfl rfl) rfl rfl ?_
  refine oA rfl rfl ?_
  refine oN ?_
  refine CW_seq ?_
  refine cR ?_
  refine oM rfl rfl ?_
  refine oQ (Q_bin rfl rfl rfl) rfl rfl ?_
  refine oM rfl rfl ?_
  all_goals first | refine oT rfl rfl ?_ | refine o1 rfl rfl rfl ?_ | refine o0 rfl rfl rfl ?_ | refine ogP1 rfl rfl rfl (fun hg => ?_) (fun hg => ?_) | refine ogP0 rfl rfl rfl (fun hg => ?_) (fun hg => ?_)
  all_goals try simp only [s1, s2, s3, s4, s5, s6, s7, s8, s9, s10, s11, s12] at hg
  all_goals first | (refine oM rfl rfl ?_) | skip
  all_goals first | refine oT rfl rfl ?_ | refine o1 rfl rfl rfl ?_ | refine o0 rfl rfl rfl ?_ | refine ogP1 rfl rfl rfl (fun hg => ?_) (fun hg => ?_) | refine ogP0 rfl rfl rfl (fun hg => ?_) (fun hg => ?_)
  all_goals try simp only [s1, s2, s3, s4, s5, s6, s7, s8, s9, s10, s11, s12] at hg
  all_goals first | (refine oQ (Q_ldw rfl rfl rfl rfl hc6) rfl rfl ?_) | skip
  all_goals first | refine oT rfl rfl ?_ | refine o1 rfl rfl rfl ?_ | refine o0 rfl rfl rfl ?_ | refine ogP1 rfl rfl rfl (fun hg => ?_) (fun hg => ?_) | refine ogP0 rfl rfl rfl (fun hg => ?_) (fun hg => ?_)
  all_goals try simp only [s1, s2, s3, s4, s5, s6, s7, s8, s9, s10, s11, s12] at hg
  all_goals first | (refine oQ (Q_call0 (l03Is_con p c hc6) rfl rfl rfl) rfl rfl ?_) | skip
  all_goals first | refine oT rfl rfl ?_ | refine o1 rfl rfl rfl ?_ | refine o0 rfl rfl rfl ?_ | refine ogP1 rfl rfl rfl (fun hg => ?_) (fun hg => ?_) | refine ogP0 rfl rfl rfl (fun hg => ?_) (fun hg => ?_)
  all_goals try simp only [s1, s2, s3, s4, s5, s6, s7, s8, s9, s10, s11, s12] at hg
  all_goals first | (refine oQ (Q_not rfl) rfl rfl ?_) | skip
  all_goals first | refine oQ (Q_pick_t rfl (by with_reducible rfl) rfl rfl) rfl rfl ?_ | refine oQ (Q_pick_f rfl (by with_reducible rfl) rfl rfl) rfl rfl ?_
  all_goals refine oN ?_
  all_goals (
   first | refine cT rfl ?_ | refine cF rfl ?_ | refine CW_cond rfl (fun hc => ?_) (fun hc => ?_)
   all_goals try simp only [s1, s2, s3, s4, s5, s6, s7, s8, s9, s10, s11, s12] at hc
   all_goals first
     | (
      refine CW_skip ?_)
     | (
      refine CW_region ?_
      refine oA rfl rfl ?_
      refine OW_nil ?_))
  all_goals with_reducible refine tN ?_
  all_goals (
   refine cR ?_
   refine oM rfl rfl ?_
   refine oA rfl rfl ?_
   refine oN ?_
   refine CW_ret ?_)
  all_goals (
   refine exitQ (.inr rfl) 1 (.cons (.tmp rfl rfl) .nil) ?_ rfl (vHc rfl vHn) rfl rfl
   have hpp := pointB_prime (p := p) (l := c)
   simp only [resV, codeB]
   cases hp : primeB p <;> cases ha : allF (pointB p) 3 M k <;> cases hb : pointB p c <;> simp_all [ren])
end Go.Proofs.Ytoiolpgmilobnaa
namespace Go.Proofs.Ytoiolpgmilobnaa
/-- the matrix of a conic, row by row -/
def matV (p : Int) : List Int → List Int
  | [a, b, c, d, e, f] => [2 * a % p, d % p, e % p, d % p, 2 * b % p, f % p, e % p, f % p, 2 * c % p]
  | _ => []
def matRaw : List Int → List Int
  | [a, b, c, d, e, f] => [2 * a, d, e, d, 2 * b, f, e, f, 2 * c]
  | _ => []
/-- what the matrix makes of a point -/
def polX (p : Int) (c a : List Int) : List Int := [dotV ((matV p c).take 3) a, dotV (((matV p c).drop 3).take 3) a, dotV (((matV p c).drop 6).take 3) a]
def zero3 : List Int := [0, 0, 0]
end Go.Proofs.Ytoiolpgmilobnaa
namespace Go.Proofs.Ytoiolpgmilobnaa
attribute [local irreducible] CW OW QW QOp Con thenP inBlockP AW QX RW
set_option maxRecDepth 10000
set_option linter.unusedSimpArgs false
set_option linter.unusedVariables false
theorem l01Made_con (p x y z : Int) (hp : primeB p = true) : ConQ Try.prog [] 94 [.int p, .int x, .int y, .int z] [] (.tuple [.arr (normL p [x, y, z]), .bool (facP p [x, y, z] != 0)]) := by
  have hb := prime_bd hp
  have hnl := normL_length p [x, y, z]
  have hzz := fun h => normL_zero (p := p) (l := [x, y, z]) h
  have hno := l01Norm_con p 2 [x, y, z] 3 3 (by simp) hp (by omega)
  simp only [List.take_of_length_le (show [x, y, z].length ≤ 3 from Nat.le_refl _)] at hno
  generalize hNN : normL p [x, y, z] = NN at *
  generalize hff : facP p [x, y, z] = ff at *
  match NN, hnl with
  | [n0, n1, n2], _ =>
    refine conW tab_ok [(0, .int p), (1, .int x), (2, .int y), (3, .int z)] 0 [] [] Try.func94 rfl rfl rfl rfl rfl rfl rfl rfl rfl ?_
    refine cR ?_
    refine oAlloc rfl rfl rfl rfl rfl rfl rfl ?_
    refine oA rfl rfl ?_
    refine oN ?_
    refine cR ?_
    iterate 4 refine oM rfl rfl ?_
    refine oBsl (r := [x, y, z]) (zl := []) rfl rfl rfl rfl (.inl ⟨rfl, rfl⟩) rfl rfl rfl rfl rfl rfl ?_
    refine oCall (hno) [(0, 1)] 2 rfl rfl (Fits.mk' (vHc rfl vHn) rfl rfl (by first | (simp; done) | exact glOk rfl rfl rfl)) rfl rfl ?_
    rintro r H1 ⟨k', sp, hk1, hk2, rfl, rfl⟩
    refine ⟨.tuple [.slice 3 0 3 k', .bool (ff != 0)], [(1, .ints 2 [x, y, z]), (3, .ints 2 ([n0, n1, n2] ++ sp))], rfl, rfl, rfl, ?_⟩
    refine oM rfl rfl ?_
    iterate 2 refine oQ (Q_extract rfl rfl) rfl rfl ?_
    iterate 2 refine oA rfl rfl ?_
    refine oN ?_
    refine CW_seq ?_
    refine cR ?_
    refine oM rfl rfl ?_
    refine oQ (Q_not rfl) rfl rfl ?_
    refine oN ?_
    first | refine cT rfl ?_ | refine cF rfl ?_ | refine CW_cond rfl (fun hc => ?_) (fun hc => ?_)
    all_goals try simp only [s1, s2, s3, s4, s5, s6, s7, s8, s9, s10, s11, s12] at hc
    all_goals first
      | (
       refine CW_skip ?_)
      | (
       refine cR ?_
       refine oQ (Q_build rfl rfl rfl rfl rfl rfl rfl rfl) rfl rfl ?_
       first | refine oSw rfl rfl rfl rfl ?_ | refine oSa rfl rfl rfl rfl ?_
       refine oA rfl rfl ?_
       refine oN ?_
       refine CW_ret ?_)
    all_goals first
      | with_reducible refine tR ?_
      | with_reducible refine tE ?_
      | (
       with_reducible refine tN ?_
       refine CW_seq ?_
       refine CW_any (fun i => List.elem i [10, 11]) 12 rfl lateOk (by decide +kernel) (fun hst => ?_)
       refine aP 0 hst rfl rfl (by decide +kernel) (PX_move rfl rfl) rfl rfl ?_
       first | refine aQ 1 hst rfl rfl (by decide +kernel) (QX_of (Is0 rfl rfl rfl rfl rfl rfl) NE_ix) rfl rfl ?_ | refine aQ 1 hst rfl rfl (by decide +kernel) (QX_of (Is1 rfl rfl rfl rfl rfl rfl) NE_ix) rfl rfl ?_
       first | refine aQ 2 hst rfl rfl (by decide +kernel) (QX_of (Q_ldc rfl rfl rfl rfl rfl) NE_load) rfl rfl ?_ | refine aQ 2 hst rfl rfl (by decide +kernel) (QX_of (Ld rfl rfl rfl rfl) NE_load) rfl rfl ?_
       refine aP 3 hst rfl rfl (by decide +kernel) (PX_move rfl rfl) rfl rfl ?_
       first | refine aQ 4 hst rfl rfl (by decide +kernel) (QX_of (Is0 rfl rfl rfl rfl rfl rfl) NE_ix) rfl rfl ?_ | refine aQ 4 hst rfl rfl (by decide +kernel) (QX_of (Is1 rfl rfl rfl rfl rfl rfl) NE_ix) rfl rfl ?_
       first | refine aQ 5 hst rfl rfl (by decide +kernel) (QX_of (Q_ldc rfl rfl rfl rfl rfl) NE_load) rfl rfl ?_ | refine aQ 5 hst rfl rfl (by decide +kernel) (QX_of (Ld rfl rfl rfl rfl) NE_load) rfl rfl ?_
       refine aP 6 hst rfl rfl (by decide +kernel) (PX_move rfl rfl) rfl rfl ?_
       first | refine aQ 7 hst rfl rfl (by decide +kernel) (QX_of (Is0 rfl rfl rfl rfl rfl rfl) NE_ix) rfl rfl ?_ | refine aQ 7 hst rfl rfl (by decide +kernel) (QX_of (Is1 rfl rfl rfl rfl rfl rfl) NE_ix) rfl rfl ?_
       first | refine aQ 8 hst rfl rfl (by decide +kernel) (QX_of (Q_ldc rfl rfl rfl rfl rfl) NE_load) rfl rfl ?_ | refine aQ 8 hst rfl rfl (by decide +kernel) (QX_of (Ld rfl rfl rfl rfl) NE_load) rfl rfl ?_
       refine aQ 9 hst rfl rfl (by decide +kernel) (QX_of (Q_build rfl rfl rfl rfl rfl rfl rfl rfl) NE_build) rfl rfl ?_
       refine AW_last [10, 11] rfl (by decide +kernel) rfl ?_
       first | refine oSw rfl rfl rfl rfl ?_ | refine oSa rfl rfl rfl rfl ?_
       refine oA rfl rfl ?_
       refine OW_nil (npN ?_)
       all_goals with_reducible refine tN ?_
       all_goals (
        refine CW_ret ?_))
    all_goals (
     refine exitQ (.inr rfl) 0 (.cons (.arr rfl rfl rfl rfl (by first | omega | (dsimp only; omega) | (simp; omega) | (simp; done))) (.cons (.tmp rfl rfl) .nil)) ?_ rfl vHn rfl rfl
     first
       | (have hf : ff = 0 := hc
          simp only [resV, hf]
          rw [hzz hf]
          rfl)
       | (have hf : ¬ ff = 0 := hc
          simp only [resV]
          rw [show (ff != 0) = true by simpa using hf]
          rfl))
theorem matrix_con6 (p a b c d e f : Int) (hp : primeB p = true) (h1 : sm 13 [a, b, c, d, e, f]) : ConQ Try.prog [] 46 [.arr [a, b, c, d, e, f], .int p] [] (.arr (matV p [a, b, c, d, e, f])) := by
  have hpb := prime_bd hp
  have hA := h1 a (by simp)
  have hB := h1 b (by simp)
  have hC := h1 c (by simp)
  have hrl : (matRaw [a, b, c, d, e, f]).length = 9 := rfl
  refine conW tab_ok [(0, .arr [a, b, c, d, e, f]), (1, .int p)] 0 [] [] Try.func46 rfl rfl rfl rfl rfl rfl rfl rfl rfl ?_
  refine cR ?_
  refine oBox rfl rfl rfl rfl rfl rfl ?_
  refine oAlloc rfl rfl rfl rfl rfl rfl rfl ?_
  refine oN ?_
  refine cR ?_
  first | refine oQ (Ia0 rfl rfl rfl rfl rfl rfl) rfl rfl ?_ | refine oQ (Ia1 rfl rfl rfl rfl rfl rfl) rfl rfl ?_
  first | refine oQ (Q_ldc rfl rfl rfl rfl rfl) rfl rfl ?_ | refine oQ (Ld rfl rfl rfl rfl) rfl rfl ?_
  first | refine oQ (Q_binu rfl rfl rfl (by omega)) rfl rfl ?_ | refine oQ (Q_bin rfl rfl rfl) rfl rfl ?_
  first | refine oQ (Ia0 rfl rfl rfl rfl rfl rfl) rfl rfl ?_ | refine oQ (Ia1 rfl rfl rfl rfl rfl rfl) rfl rfl ?_
  first | refine oQ (Q_ldc rfl rfl rfl rfl rfl) rfl rfl ?_ | refine oQ (Ld rfl rfl rfl rfl) rfl rfl ?_
  first | refine oQ (Ia0 rfl rfl rfl rfl rfl rfl) rfl rfl ?_ | refine oQ (Ia1 rfl rfl rfl rfl rfl rfl) rfl rfl ?_
  first | refine oQ (Q_ldc rfl rfl rfl rfl rfl) rfl rfl ?_ | refine oQ (Ld rfl rfl rfl rfl) rfl rfl ?_
  refine oQ (Q_build (r := [2 * a, d, e]) rfl rfl rfl rfl rfl rfl rfl rfl) rfl rfl ?_
  first | refine oQ (Ia0 rfl rfl rfl rfl rfl rfl) rfl rfl ?_ | refine oQ (Ia1 rfl rfl rfl rfl rfl rfl) rfl rfl ?_
  first | refine oQ (Q_ldc rfl rfl rfl rfl rfl) rfl rfl ?_ | refine oQ (Ld rfl rfl rfl rfl) rfl rfl ?_
  first | refine oQ (Ia0 rfl rfl rfl rfl rfl rfl) rfl rfl ?_ | refine oQ (Ia1 rfl rfl rfl rfl rfl rfl) rfl rfl ?_
  first | refine oQ (Q_ldc rfl rfl rfl rfl rfl) rfl rfl ?_ | refine oQ (Ld rfl rfl rfl rfl) rfl rfl ?_
  first | refine oQ (Q_binu rfl rfl rfl (by omega)) rfl rfl ?_ | refine oQ (Q_bin rfl rfl rfl) rfl rfl ?_
  first | refine oQ (Ia0 rfl rfl rfl rfl rfl rfl) rfl rfl ?_ | refine oQ (Ia1 rfl rfl rfl rfl rfl rfl) rfl rfl ?_
  first | refine oQ (Q_ldc rfl rfl rfl rfl rfl) rfl rfl ?_ | refine oQ (Ld rfl rfl rfl rfl) rfl rfl ?_
  refine oQ (Q_build (r := [d, 2 * b, f]) rfl rfl rfl rfl rfl rfl rfl rfl) rfl rfl ?_
  first | refine oQ (Ia0 rfl rfl rfl rfl rfl rfl) rfl rfl ?_ | refine oQ (Ia1 rfl rfl rfl rfl rfl rfl) rfl rfl ?_
  first | refine oQ (Q_ldc rfl rfl rfl rfl rfl) rfl rfl ?_ | refine oQ (Ld rfl rfl rfl rfl) rfl rfl ?_
  first | refine oQ (Ia0 rfl rfl rfl rfl rfl rfl) rfl rfl ?_ | refine oQ (Ia1 rfl rfl rfl rfl rfl rfl) rfl rfl ?_
  first | refine oQ (Q_ldc rfl rfl rfl rfl rfl) rfl rfl ?_ | refine oQ (Ld rfl rfl rfl rfl) rfl rfl ?_
  first | refine oQ (Ia0 rfl rfl rfl rfl rfl rfl) rfl rfl ?_ | refine oQ (Ia1 rfl rfl rfl rfl rfl rfl) rfl rfl ?_
  first | refine oQ (Q_ldc rfl rfl rfl rfl rfl) rfl rfl ?_ | refine oQ (Ld rfl rfl rfl rfl) rfl rfl ?_
  first | refine oQ (Q_binu rfl rfl rfl (by omega)) rfl rfl ?_ | refine oQ (Q_bin rfl rfl rfl) rfl rfl ?_
  refine oQ (Q_build (r := [e, f, 2 * c]) rfl rfl rfl rfl rfl rfl rfl rfl) rfl rfl ?_
  refine oQ (Q_build (r := matRaw [a, b, c, d, e, f]) rfl rfl rfl rfl rfl rfl rfl rfl) rfl rfl ?_
  refine oAlloc rfl rfl rfl rfl rfl rfl rfl ?_
  first | refine oSw rfl rfl rfl rfl ?_ | refine oSa rfl rfl rfl rfl ?_
  refine oN ?_
  refine CW_seq ?_
  refine cR ?_
  refine oM rfl rfl ?_
  refine oN ?_
  refine CW_block ?_
  refine CW_loop (ι := Nat) (fun i => i ≤ 3) (fun i => ⟨[(1, .int p), (4, .ptr 1 0), (5, .ptr 2 0), (33, .int i)], [(1, .ints 64 [0, 0, 0, 0, 0, 0, 0, 0, 0]), (2, .ints 64 (((matRaw [a, b, c, d, e, f]).take (i * 3)).map (· % p) ++ (matRaw [a, b, c, d, e, f]).drop (i * 3)))], 3⟩) (fun i => 3 - i) 0 ?_ ?_ ?_
  · first | trivial | omega | (simp; done) | (simp; omega)
  · refine View.mk' [] rfl rfl rfl ?_ ?_
    repeat' first | exact vFn | refine vFc rfl ?_ | exact vHn | refine vHc rfl ?_ | refine vFc (congrArg (fun z => some (V.int z)) ?_) ?_ | refine vHc (congrArg (fun z => some (Blk.ints _ z)) ?_) ?_ | refine vFc (congrArg (fun z => some (V.bool z)) ?_) ?_ | refine vFs rfl rfl ?_ ?_
  intro i hi
  refine cR ?_
  refine oQ (Q_bin rfl rfl rfl) rfl rfl ?_
  refine oN ?_
  refine CW_seq ?_
  first | refine cT rfl ?_ | refine cF rfl ?_ | refine CW_cond rfl (fun hc => ?_) (fun hc => ?_)
  all_goals try simp only [s1, s2, s3, s4, s5, s6, s7, s8, s9, s10, s11, s12] at hc
  all_goals first
    | (
     refine CW_skip ?_)
    | (
     refine CW_exit ?_)
  all_goals first
    | with_reducible refine tR ?_
    | with_reducible refine tE ?_
    | (
     with_reducible refine tN ?_
     refine CW_seq ?_
     refine CW_block ?_
     refine cR ?_
     refine oM rfl rfl ?_
     refine oA rfl rfl ?_
     refine oN ?_
     refine cR ?_
     refine oM rfl rfl ?_
     refine oN ?_
     refine CW_block ?_
     refine CW_loop (ι := Nat) (fun k => k ≤ 3) (fun k => ⟨[(1, .int p), (4, .ptr 1 0), (5, .ptr 2 0), (6, .int i), (33, .int i), (36, .int k)], [(1, .ints 64 [0, 0, 0, 0, 0, 0, 0, 0, 0]), (2, .ints 64 (((matRaw [a, b, c, d, e, f]).take (i * 3 + k)).map (· % p) ++ (matRaw [a, b, c, d, e, f]).drop (i * 3 + k)))], 3⟩) (fun k => 3 - k) 0 ?_ ?_ ?_
     · first | trivial | omega | (simp; done) | (simp; omega)
     · refine View.mk' [] rfl rfl rfl ?_ ?_
       repeat' first | exact vFn | refine vFc rfl ?_ | exact vHn | refine vHc rfl ?_ | refine vFc (congrArg (fun z => some (V.int z)) ?_) ?_ | refine vHc (congrArg (fun z => some (Blk.ints _ z)) ?_) ?_ | refine vFc (congrArg (fun z => some (V.bool z)) ?_) ?_ | refine vFs rfl rfl ?_ ?_
     intro k hk
     have hml : (((matRaw [a, b, c, d, e, f]).take (i * 3 + k)).map (· % p)).length = min (i * 3 + k) 9 := by rw [List.length_map, List.length_take, hrl]
     have hqq : k < 3 → i * 3 + k < 9 := fun h => by omega
     refine cR ?_
     refine oQ (Q_bin rfl rfl rfl) rfl rfl ?_
     refine oN ?_
     refine CW_seq ?_
     first | refine cT rfl ?_ | refine cF rfl ?_ | refine CW_cond rfl (fun hc => ?_) (fun hc => ?_)
     all_goals try simp only [s1, s2, s3, s4, s5, s6, s7, s8, s9, s10, s11, s12] at hc
     all_goals first
       | (
        refine CW_skip ?_)
       | (
        refine CW_exit ?_)
     all_goals first
       | with_reducible refine tR ?_
       | with_reducible refine tE ?_
       | (
        with_reducible refine tN ?_
        refine CW_seq ?_
        refine CW_block ?_
        refine cR ?_
        refine oM rfl rfl ?_
        refine oA rfl rfl ?_
        refine oN ?_
        refine CW_any (fun i => List.elem i [11]) 12 rfl lateOk (by decide +kernel) (fun hst => ?_)
        refine aP 0 hst rfl rfl (by decide +kernel) (PX_move rfl rfl) rfl rfl ?_
        refine aP 1 hst rfl rfl (by decide +kernel) (PX_move rfl rfl) rfl rfl ?_
        refine aP 2 hst rfl rfl (by decide +kernel) (PX_move rfl rfl) rfl rfl ?_
        refine aP 3 hst rfl rfl (by decide +kernel) (PX_move rfl rfl) rfl rfl ?_
        refine aQ 4 hst rfl rfl (by decide +kernel) (QX_of (Q_ixa0z 3 rfl rfl rfl rfl rfl rfl (by omega)) NE_ix) rfl rfl ?_
        refine aQ 5 hst rfl rfl (by decide +kernel) (QX_of (Q_ixa1 rfl rfl rfl rfl rfl rfl (by omega)) NE_ix) rfl rfl ?_
        refine aQ 6 hst rfl rfl (by decide +kernel) (QX_of (Q_ldc rfl rfl rfl rfl (mid_get (by omega) (by omega))) NE_load) rfl rfl ?_
        refine aP 7 hst rfl rfl (by decide +kernel) (PX_move rfl rfl) rfl rfl ?_
        refine aQ 8 hst rfl rfl (by decide +kernel) (QX_call0 (mod_con _ _ (by omega) (by omega)) rfl rfl rfl) rfl rfl ?_
        refine aQ 9 hst rfl rfl (by decide +kernel) (QX_of (Q_ixa0z 3 rfl rfl rfl rfl rfl rfl (by omega)) NE_ix) rfl rfl ?_
        refine aQ 10 hst rfl rfl (by decide +kernel) (QX_of (Q_ixa1 rfl rfl rfl rfl rfl rfl (by omega)) NE_ix) rfl rfl ?_
        refine AW_last [11] rfl (by decide +kernel) rfl ?_
        refine oS rfl rfl rfl rfl rfl ?_
        refine OW_nil (npN ?_)
        all_goals first | with_reducible refine bN ?_ | with_reducible refine bE ?_ | with_reducible refine bR ?_ | refine bX rfl ?_
        all_goals with_reducible refine tN ?_
        all_goals (
         refine CW_region ?_
         first | refine oQ (Q_binu rfl rfl rfl (by omega)) rfl rfl ?_ | refine oQ (Q_bin rfl rfl rfl) rfl rfl ?_
         refine oM rfl rfl ?_
         refine OW_nil ?_))
     all_goals first
       | with_reducible refine tR ?_
       | with_reducible refine tE ?_
       | (
        with_reducible refine tN ?_
        refine ⟨k + 1, ?_, ?_, View.mk' [] rfl rfl rfl ?_ ?_⟩
        · omega
        · omega
        all_goals (repeat' first | exact vFn | refine vFc rfl ?_ | exact vHn | refine vHc rfl ?_ | refine vFc (congrArg (fun z => some (V.int z)) ?_) ?_ | refine vHc (congrArg (fun z => some (Blk.ints _ z)) ?_) ?_ | refine vFc (congrArg (fun z => some (V.bool z)) ?_) ?_ | refine vFs rfl rfl ?_ ?_)
        all_goals (rw [mid_set (by omega) (by omega), ← Nat.add_assoc, take_snoc (show i * 3 + k < (matRaw [a, b, c, d, e, f]).length by omega), List.map_append]; rfl))
     all_goals first | with_reducible refine bN ?_ | with_reducible refine bE ?_ | with_reducible refine bR ?_ | refine bX rfl ?_
     all_goals first | with_reducible refine bN ?_ | with_reducible refine bE ?_ | with_reducible refine bR ?_ | refine bX rfl ?_
     all_goals with_reducible refine tN ?_
     all_goals (
      refine CW_region ?_
      first | refine oQ (Q_binu rfl rfl rfl (by omega)) rfl rfl ?_ | refine oQ (Q_bin rfl rfl rfl) rfl rfl ?_
      refine oM rfl rfl ?_
      refine OW_nil ?_))
  all_goals first
    | with_reducible refine tR ?_
    | with_reducible refine tE ?_
    | (
     with_reducible refine tN ?_
     refine ⟨i + 1, ?_, ?_, View.mk' [] rfl rfl rfl ?_ ?_⟩
     · omega
     · omega
     all_goals (repeat' first | exact vFn | refine vFc rfl ?_ | exact vHn | refine vHc rfl ?_ | refine vFc (congrArg (fun z => some (V.int z)) ?_) ?_ | refine vHc (congrArg (fun z => some (Blk.ints _ z)) ?_) ?_ | refine vFc (congrArg (fun z => some (V.bool z)) ?_) ?_ | refine vFs rfl rfl ?_ ?_)
     all_goals (have e3 : k = 3 := by omega)
     all_goals (subst e3; simp only [Nat.add_mul, Nat.one_mul]))
  all_goals first | with_reducible refine bN ?_ | with_reducible refine bE ?_ | with_reducible refine bR ?_ | refine bX rfl ?_
  all_goals with_reducible refine tN ?_
  all_goals (
   refine cR ?_
   first | refine oQ (Lw rfl rfl rfl rfl) rfl rfl ?_ | refine oQ (La rfl rfl rfl rfl rfl) rfl rfl ?_
   first | refine oSw rfl rfl rfl rfl ?_ | refine oSa rfl rfl rfl rfl ?_
   refine oN ?_
   refine CW_ret ?_)
  all_goals (
   have e3 : i = 3 := by omega
   subst e3
   (refine exitQ (.inr rfl) 0 (.cons (.arr rfl rfl rfl rfl (by first | omega | (dsimp only; omega) | (simp; omega) | (simp; done))) .nil) ?_ rfl vHn rfl rfl); rfl)
theorem matrix_con (p : Int) (c : List Int) (hp : primeB p = true) (hc6 : c.length = 6) (h1 : sm 13 c) : ConQ Try.prog [] 46 [.arr c, .int p] [] (.arr (matV p c)) := by
  match c, hc6, h1 with
  | [a, b, c, d, e, f], _, h1 => exact matrix_con6 p a b c d e f hp h1
theorem sm_emod {p : Int} (hp : primeB p = true) (x : Int) : -13 ≤ x % p ∧ x % p ≤ 13 := by
  have := mod_bd hp x
  have := prime_bd hp
  omega
theorem matV_sm {p : Int} {c : List Int} (hp : primeB p = true) (hc6 : c.length = 6) : sm 13 (matV p c) := by
  match c, hc6 with
  | [a, b, c, d, e, f], _ =>
    intro x hx
    simp only [matV, List.mem_cons, List.not_mem_nil, or_false] at hx
    rcases hx with rfl | rfl | rfl | rfl | rfl | rfl | rfl | rfl | rfl <;> exact sm_emod hp _
theorem matV_length {p : Int} {c : List Int} (hc6 : c.length = 6) : (matV p c).length = 9 := by
  match c, hc6 with
  | [a, b, c, d, e, f], _ => rfl
theorem sm_take {B : Int} {l : List Int} (h : sm B l) (n : Nat) : sm B (l.take n) := fun x hx => h x (List.mem_of_mem_take hx)
theorem sm_drop {B : Int} {l : List Int} (h : sm B l) (n : Nat) : sm B (l.drop n) := fun x hx => h x (List.mem_of_mem_drop hx)
theorem polar_con (p : Int) (c a : List Int) (hp : primeB p = true) (hc6 : c.length = 6) (ha3 : a.length = 3) (h1 : sm 13 c) (h2 : sm 13 a) : ConQ Try.prog [] 57 [.arr c, .int p, .arr a] [] (.tuple [.arr (normL p (polX p c a)), .bool (facP p (polX p c a) != 0)]) := by
  have hpb := prime_bd hp
  have hms := matV_sm (p := p) hp hc6
  have hml := matV_length (p := p) hc6
  have hnl := normL_length p (polX p c a)
  have hpl : (polX p c a).length = 3 := rfl
  have hpm : normL p [dotV ((matV p c).take 3) a % p, dotV (((matV p c).drop 3).take 3) a % p, dotV (((matV p c).drop 6).take 3) a % p] = normL p (polX p c a) := normL_mod p (polX p c a)
  have hpf : facP p [dotV ((matV p c).take 3) a % p, dotV (((matV p c).drop 3).take 3) a % p, dotV (((matV p c).drop 6).take 3) a % p] = facP p (polX p c a) := fac_mod p (polX p c a)
  refine conW tab_ok [(0, .arr c), (1, .int p), (2, .arr a)] 0 [] [] Try.func57 rfl rfl rfl rfl rfl rfl rfl rfl rfl ?_
  refine cR ?_
  iterate 2 refine oBox rfl rfl rfl rfl rfl rfl ?_
  refine oAlloc rfl rfl rfl rfl rfl rfl rfl ?_
  refine oA rfl rfl ?_
  refine oN ?_
  refine cR ?_
  refine oQ (Q_ldw rfl rfl rfl rfl hc6) rfl rfl ?_
  refine oM rfl rfl ?_
  refine oQ (Q_call0 (matrix_con p c hp hc6 h1) rfl rfl rfl) rfl rfl ?_
  refine oAlloc rfl rfl rfl rfl rfl rfl rfl ?_
  first | refine oSw rfl rfl rfl rfl ?_ | refine oSa rfl rfl rfl rfl ?_
  refine oN ?_
  refine CW_seq ?_
  refine CW_any (fun i => List.elem i [17]) 18 rfl lateOk (by decide +kernel) (fun hst => ?_)
  refine aP 0 hst rfl rfl (by decide +kernel) (PX_move rfl rfl) rfl rfl ?_
  first | refine aQ 1 hst rfl rfl (by decide +kernel) (QX_of (Q_ixa0z 3 rfl rfl rfl rfl rfl rfl (by first | omega | (dsimp only; omega) | (simp; omega) | (simp; done))) NE_ix) rfl rfl ?_ | refine aQ 1 hst rfl rfl (by decide +kernel) (QX_of (Q_ixaz 3 rfl rfl rfl rfl rfl rfl (by first | omega | (dsimp only; omega) | (simp; omega) | (simp; done))) NE_ix) rfl rfl ?_
  refine aQ 2 hst rfl rfl (by decide +kernel) (QX_of (Q_lda (n := 3) rfl rfl rfl rfl rfl (by first | omega | (dsimp only; omega) | (simp; omega) | (simp; done))) NE_load) rfl rfl ?_
  refine aQ 3 hst rfl rfl (by decide +kernel) (QX_of (Q_ldw rfl rfl rfl rfl ha3) NE_load) rfl rfl ?_
  refine aQ 4 hst rfl rfl (by decide +kernel) (QX_call0 (dot_con p ((matV p c).take 3) a hp (by rw [List.length_take]; omega) ha3 (sm_take hms 3) h2) rfl rfl rfl) rfl rfl ?_
  refine aP 5 hst rfl rfl (by decide +kernel) (PX_move rfl rfl) rfl rfl ?_
  first | refine aQ 6 hst rfl rfl (by decide +kernel) (QX_of (Q_ixa0z 3 rfl rfl rfl rfl rfl rfl (by first | omega | (dsimp only; omega) | (simp; omega) | (simp; done))) NE_ix) rfl rfl ?_ | refine aQ 6 hst rfl rfl (by decide +kernel) (QX_of (Q_ixaz 3 rfl rfl rfl rfl rfl rfl (by first | omega | (dsimp only; omega) | (simp; omega) | (simp; done))) NE_ix) rfl rfl ?_
  refine aQ 7 hst rfl rfl (by decide +kernel) (QX_of (Q_lda (n := 3) rfl rfl rfl rfl rfl (by first | omega | (dsimp only; omega) | (simp; omega) | (simp; done))) NE_load) rfl rfl ?_
  refine aQ 8 hst rfl rfl (by decide +kernel) (QX_of (Q_ldw rfl rfl rfl rfl ha3) NE_load) rfl rfl ?_
  refine aQ 9 hst rfl rfl (by decide +kernel) (QX_call0 (dot_con p (((matV p c).drop 3).take 3) a hp (by rw [List.length_take, List.length_drop]; omega) ha3 (sm_take (sm_drop hms 3) 3) h2) rfl rfl rfl) rfl rfl ?_
  refine aP 10 hst rfl rfl (by decide +kernel) (PX_move rfl rfl) rfl rfl ?_
  first | refine aQ 11 hst rfl rfl (by decide +kernel) (QX_of (Q_ixa0z 3 rfl rfl rfl rfl rfl rfl (by first | omega | (dsimp only; omega) | (simp; omega) | (simp; done))) NE_ix) rfl rfl ?_ | refine aQ 11 hst rfl rfl (by decide +kernel) (QX_of (Q_ixaz 3 rfl rfl rfl rfl rfl rfl (by first | omega | (dsimp only; omega) | (simp; omega) | (simp; done))) NE_ix) rfl rfl ?_
  refine aQ 12 hst rfl rfl (by decide +kernel) (QX_of (Q_lda (n := 3) rfl rfl rfl rfl rfl (by first | omega | (dsimp only; omega) | (simp; omega) | (simp; done))) NE_load) rfl rfl ?_
  refine aQ 13 hst rfl rfl (by decide +kernel) (QX_of (Q_ldw rfl rfl rfl rfl ha3) NE_load) rfl rfl ?_
  refine aQ 14 hst rfl rfl (by decide +kernel) (QX_call0 (dot_con p (((matV p c).drop 6).take 3) a hp (by rw [List.length_take, List.length_drop]; omega) ha3 (sm_take (sm_drop hms 6) 3) h2) rfl rfl rfl) rfl rfl ?_
  refine aQ 15 hst rfl rfl (by decide +kernel) (QX_of (Q_build (r := [dotV ((matV p c).take 3) a % p, dotV (((matV p c).drop 3).take 3) a % p, dotV (((matV p c).drop 6).take 3) a % p]) rfl rfl rfl rfl rfl rfl rfl rfl) NE_build) rfl rfl ?_
  refine AW_one (i := 16) (by decide +kernel) ?_
  refine gAlloc rfl rfl rfl rfl rfl rfl rfl rfl rfl ?_
  refine AW_last [17] rfl (by decide +kernel) rfl ?_
  first | refine oSw rfl rfl rfl rfl ?_ | refine oSa rfl rfl rfl rfl ?_
  refine OW_nil (npN ?_)
  all_goals with_reducible refine tN ?_
  all_goals (
   refine cR ?_
   refine oM rfl rfl ?_
   refine oQ (Q_slaF rfl rfl rfl rfl) rfl rfl ?_
   refine oCall (normal_con p 35 [dotV ((matV p c).take 3) a % p, dotV (((matV p c).drop 3).take 3) a % p, dotV (((matV p c).drop 6).take 3) a % p] 3 3 (by simp) hp (by omega)) [(0, 4)] 0 rfl rfl (Fits.mk' (vHc rfl vHn) rfl rfl (by first | (simp; done) | exact glOk rfl rfl rfl)) rfl rfl ?_
   rintro r H1 ⟨rfl, rfl⟩
   simp only [List.take_of_length_le (show [dotV ((matV p c).take 3) a % p, dotV (((matV p c).drop 3).take 3) a % p, dotV (((matV p c).drop 6).take 3) a % p].length ≤ 3 from Nat.le_refl _), List.drop_eq_nil_of_le (show [dotV ((matV p c).take 3) a % p, dotV (((matV p c).drop 3).take 3) a % p, dotV (((matV p c).drop 6).take 3) a % p].length ≤ 3 from Nat.le_refl _), List.append_nil, hpm, hpf]
   refine ⟨.bool (facP p (polX p c a) != 0), [(4, .ints 35 (normL p (polX p c a)))], rfl, rfl, rfl, ?_⟩
   refine oA rfl rfl ?_
   refine oN ?_
   refine cR ?_
   first | refine oQ (Lw rfl rfl rfl rfl) rfl rfl ?_ | refine oQ (La rfl rfl rfl rfl rfl) rfl rfl ?_
   refine oM rfl rfl ?_
   first | refine oSw rfl rfl rfl rfl ?_ | refine oSa rfl rfl rfl rfl ?_
   refine oA rfl rfl ?_
   refine oN ?_
   refine CW_ret ?_)
  all_goals (
   ((refine exitQ (.inr rfl) 0 (.cons (.arr rfl rfl rfl rfl (by first | omega | (dsimp only; omega) | (simp; omega) | (simp; done))) (.cons (.tmp rfl rfl) .nil)) ?_ rfl vHn rfl rfl); rfl))
theorem l03Rows_con6 (p a b c d e f : Int) (hp : primeB p = true) (h1 : modB p [a, b, c, d, e, f] = true) : Con Try.prog [] 78 [.int p, .arr [a, b, c, d, e, f]] [] (fun r H' => r = .slice 3 0 3 3 ∧ H' = [(0, .ints 2 [2 * a % p, d, e]), (1, .ints 2 [d, 2 * b % p, f]), (2, .ints 2 [e, f, 2 * c % p]), (3, .vals 103 [.slice 0 0 3 3, .slice 1 0 3 3, .slice 2 0 3 3])]) := by
  have hpb := prime_bd hp
  simp only [modB, List.all_cons, List.all_nil, Bool.and_true, Bool.and_eq_true, decide_eq_true_eq] at h1
  obtain ⟨hA, hB, hC, hD, hE, hF⟩ := h1
  have eA : (2 * a).tmod p = 2 * a % p := Int.tmod_eq_emod_of_nonneg (by omega)
  have eB : (2 * b).tmod p = 2 * b % p := Int.tmod_eq_emod_of_nonneg (by omega)
  have eC : (2 * c).tmod p = 2 * c % p := Int.tmod_eq_emod_of_nonneg (by omega)
  refine conW tab_ok [(0, .int p), (1, .arr [a, b, c, d, e, f])] 0 [] [] Try.func78 rfl rfl rfl rfl rfl rfl rfl rfl rfl ?_
  refine cR ?_
  refine oBox rfl rfl rfl rfl rfl rfl ?_
  refine oA rfl rfl ?_
  refine oN ?_
  refine CW_seq ?_
  refine CW_any (fun _ => false) 32 rfl lateOk (by decide +kernel) (fun hst => ?_)
  first | refine aQ 0 hst rfl rfl (by decide +kernel) (QX_of (Ia0 rfl rfl rfl rfl rfl rfl) NE_ix) rfl rfl ?_ | refine aQ 0 hst rfl rfl (by decide +kernel) (QX_of (Ia1 rfl rfl rfl rfl rfl rfl) NE_ix) rfl rfl ?_
  first | refine aQ 1 hst rfl rfl (by decide +kernel) (QX_of (Q_ldc rfl rfl rfl rfl rfl) NE_load) rfl rfl ?_ | refine aQ 1 hst rfl rfl (by decide +kernel) (QX_of (Ld rfl rfl rfl rfl) NE_load) rfl rfl ?_
  first | refine aQ 2 hst rfl rfl (by decide +kernel) (QX_of (Q_binu rfl rfl rfl (by omega)) NE_bin) rfl rfl ?_ | refine aQ 2 hst rfl rfl (by decide +kernel) (QX_of (Q_bin rfl rfl rfl) NE_bin) rfl rfl ?_
  refine aP 3 hst rfl rfl (by decide +kernel) (PX_move rfl rfl) rfl rfl ?_
  refine aQ 4 hst rfl rfl (by decide +kernel) (QX_of (Q_rem rfl rfl (by omega)) NE_bin) rfl rfl ?_; rw [eA]
  first | refine aQ 5 hst rfl rfl (by decide +kernel) (QX_of (Ia0 rfl rfl rfl rfl rfl rfl) NE_ix) rfl rfl ?_ | refine aQ 5 hst rfl rfl (by decide +kernel) (QX_of (Ia1 rfl rfl rfl rfl rfl rfl) NE_ix) rfl rfl ?_
  first | refine aQ 6 hst rfl rfl (by decide +kernel) (QX_of (Q_ldc rfl rfl rfl rfl rfl) NE_load) rfl rfl ?_ | refine aQ 6 hst rfl rfl (by decide +kernel) (QX_of (Ld rfl rfl rfl rfl) NE_load) rfl rfl ?_
  first | refine aQ 7 hst rfl rfl (by decide +kernel) (QX_of (Ia0 rfl rfl rfl rfl rfl rfl) NE_ix) rfl rfl ?_ | refine aQ 7 hst rfl rfl (by decide +kernel) (QX_of (Ia1 rfl rfl rfl rfl rfl rfl) NE_ix) rfl rfl ?_
  first | refine aQ 8 hst rfl rfl (by decide +kernel) (QX_of (Q_ldc rfl rfl rfl rfl rfl) NE_load) rfl rfl ?_ | refine aQ 8 hst rfl rfl (by decide +kernel) (QX_of (Ld rfl rfl rfl rfl) NE_load) rfl rfl ?_
  first | refine aQ 10 hst rfl rfl (by decide +kernel) (QX_of (Ia0 rfl rfl rfl rfl rfl rfl) NE_ix) rfl rfl ?_ | refine aQ 10 hst rfl rfl (by decide +kernel) (QX_of (Ia1 rfl rfl rfl rfl rfl rfl) NE_ix) rfl rfl ?_
  first | refine aQ 11 hst rfl rfl (by decide +kernel) (QX_of (Q_ldc rfl rfl rfl rfl rfl) NE_load) rfl rfl ?_ | refine aQ 11 hst rfl rfl (by decide +kernel) (QX_of (Ld rfl rfl rfl rfl) NE_load) rfl rfl ?_
  first | refine aQ 12 hst rfl rfl (by decide +kernel) (QX_of (Ia0 rfl rfl rfl rfl rfl rfl) NE_ix) rfl rfl ?_ | refine aQ 12 hst rfl rfl (by decide +kernel) (QX_of (Ia1 rfl rfl rfl rfl rfl rfl) NE_ix) rfl rfl ?_
  first | refine aQ 13 hst rfl rfl (by decide +kernel) (QX_of (Q_ldc rfl rfl rfl rfl rfl) NE_load) rfl rfl ?_ | refine aQ 13 hst rfl rfl (by decide +kernel) (QX_of (Ld rfl rfl rfl rfl) NE_load) rfl rfl ?_
  first | refine aQ 14 hst rfl rfl (by decide +kernel) (QX_of (Q_binu rfl rfl rfl (by omega)) NE_bin) rfl rfl ?_ | refine aQ 14 hst rfl rfl (by decide +kernel) (QX_of (Q_bin rfl rfl rfl) NE_bin) rfl rfl ?_
  refine aP 15 hst rfl rfl (by decide +kernel) (PX_move rfl rfl) rfl rfl ?_
  refine aQ 16 hst rfl rfl (by decide +kernel) (QX_of (Q_rem rfl rfl (by omega)) NE_bin) rfl rfl ?_; rw [eB]
  first | refine aQ 17 hst rfl rfl (by decide +kernel) (QX_of (Ia0 rfl rfl rfl rfl rfl rfl) NE_ix) rfl rfl ?_ | refine aQ 17 hst rfl rfl (by decide +kernel) (QX_of (Ia1 rfl rfl rfl rfl rfl rfl) NE_ix) rfl rfl ?_
  first | refine aQ 18 hst rfl rfl (by decide +kernel) (QX_of (Q_ldc rfl rfl rfl rfl rfl) NE_load) rfl rfl ?_ | refine aQ 18 hst rfl rfl (by decide +kernel) (QX_of (Ld rfl rfl rfl rfl) NE_load) rfl rfl ?_
  first | refine aQ 20 hst rfl rfl (by decide +kernel) (QX_of (Ia0 rfl rfl rfl rfl rfl rfl) NE_ix) rfl rfl ?_ | refine aQ 20 hst rfl rfl (by decide +kernel) (QX_of (Ia1 rfl rfl rfl rfl rfl rfl) NE_ix) rfl rfl ?_
  first | refine aQ 21 hst rfl rfl (by decide +kernel) (QX_of (Q_ldc rfl rfl rfl rfl rfl) NE_load) rfl rfl ?_ | refine aQ 21 hst rfl rfl (by decide +kernel) (QX_of (Ld rfl rfl rfl rfl) NE_load) rfl rfl ?_
  first | refine aQ 22 hst rfl rfl (by decide +kernel) (QX_of (Ia0 rfl rfl rfl rfl rfl rfl) NE_ix) rfl rfl ?_ | refine aQ 22 hst rfl rfl (by decide +kernel) (QX_of (Ia1 rfl rfl rfl rfl rfl rfl) NE_ix) rfl rfl ?_
  first | refine aQ 23 hst rfl rfl (by decide +kernel) (QX_of (Q_ldc rfl rfl rfl rfl rfl) NE_load) rfl rfl ?_ | refine aQ 23 hst rfl rfl (by decide +kernel) (QX_of (Ld rfl rfl rfl rfl) NE_load) rfl rfl ?_
  first | refine aQ 24 hst rfl rfl (by decide +kernel) (QX_of (Ia0 rfl rfl rfl rfl rfl rfl) NE_ix) rfl rfl ?_ | refine aQ 24 hst rfl rfl (by decide +kernel) (QX_of (Ia1 rfl rfl rfl rfl rfl rfl) NE_ix) rfl rfl ?_
  first | refine aQ 25 hst rfl rfl (by decide +kernel) (QX_of (Q_ldc rfl rfl rfl rfl rfl) NE_load) rfl rfl ?_ | refine aQ 25 hst rfl rfl (by decide +kernel) (QX_of (Ld rfl rfl rfl rfl) NE_load) rfl rfl ?_
  first | refine aQ 26 hst rfl rfl (by decide +kernel) (QX_of (Q_binu rfl rfl rfl (by omega)) NE_bin) rfl rfl ?_ | refine aQ 26 hst rfl rfl (by decide +kernel) (QX_of (Q_bin rfl rfl rfl) NE_bin) rfl rfl ?_
  refine aP 27 hst rfl rfl (by decide +kernel) (PX_move rfl rfl) rfl rfl ?_
  refine aQ 28 hst rfl rfl (by decide +kernel) (QX_of (Q_rem rfl rfl (by omega)) NE_bin) rfl rfl ?_; rw [eC]
  refine AW_three (i := 9) (j := 19) (k := 29) (by decide +kernel) ?_ ?_ ?_
  all_goals first
    | (
     refine gBsl (zl := []) (r := [2 * a % p, d, e]) rfl rfl rfl rfl rfl rfl (.inl ⟨rfl, rfl⟩) rfl rfl rfl rfl rfl rfl ?_
     refine AW_two (i := 19) (j := 29) (by decide +kernel) ?_ ?_
     all_goals first
       | (
        refine gBsl (zl := []) (r := [d, 2 * b % p, f]) rfl rfl rfl rfl rfl rfl (.inl ⟨rfl, rfl⟩) rfl rfl rfl rfl rfl rfl ?_
        refine AW_one (i := 29) (by decide +kernel) ?_
        refine gBsl (zl := []) (r := [e, f, 2 * c % p]) rfl rfl rfl rfl rfl rfl (.inl ⟨rfl, rfl⟩) rfl rfl rfl rfl rfl rfl ?_
        refine AW_one (i := 30) (by decide +kernel) ?_
        refine gBslv (r := [.slice 1 0 3 3, .slice 2 0 3 3, .slice 3 0 3 3]) rfl rfl rfl rfl rfl rfl rfl rfl rfl rfl rfl rfl rfl rfl rfl ?_
        refine aQ 31 hst rfl rfl (by decide +kernel) (QX_of (Q_assign rfl rfl) NE_assign) rfl rfl ?_
        refine AW_done (by decide +kernel) ?_)
       | (
        refine gBsl (zl := []) (r := [e, f, 2 * c % p]) rfl rfl rfl rfl rfl rfl (.inl ⟨rfl, rfl⟩) rfl rfl rfl rfl rfl rfl ?_
        refine AW_one (i := 19) (by decide +kernel) ?_
        refine gBsl (zl := []) (r := [d, 2 * b % p, f]) rfl rfl rfl rfl rfl rfl (.inl ⟨rfl, rfl⟩) rfl rfl rfl rfl rfl rfl ?_
        refine AW_one (i := 30) (by decide +kernel) ?_
        refine gBslv (r := [.slice 1 0 3 3, .slice 3 0 3 3, .slice 2 0 3 3]) rfl rfl rfl rfl rfl rfl rfl rfl rfl rfl rfl rfl rfl rfl rfl ?_
        refine aQ 31 hst rfl rfl (by decide +kernel) (QX_of (Q_assign rfl rfl) NE_assign) rfl rfl ?_
        refine AW_done (by decide +kernel) ?_))
    | (
     refine gBsl (zl := []) (r := [d, 2 * b % p, f]) rfl rfl rfl rfl rfl rfl (.inl ⟨rfl, rfl⟩) rfl rfl rfl rfl rfl rfl ?_
     refine AW_two (i := 9) (j := 29) (by decide +kernel) ?_ ?_
     all_goals first
       | (
        refine gBsl (zl := []) (r := [2 * a % p, d, e]) rfl rfl rfl rfl rfl rfl (.inl ⟨rfl, rfl⟩) rfl rfl rfl rfl rfl rfl ?_
        refine AW_one (i := 29) (by decide +kernel) ?_
        refine gBsl (zl := []) (r := [e, f, 2 * c % p]) rfl rfl rfl rfl rfl rfl (.inl ⟨rfl, rfl⟩) rfl rfl rfl rfl rfl rfl ?_
        refine AW_one (i := 30) (by decide +kernel) ?_
        refine gBslv (r := [.slice 2 0 3 3, .slice 1 0 3 3, .slice 3 0 3 3]) rfl rfl rfl rfl rfl rfl rfl rfl rfl rfl rfl rfl rfl rfl rfl ?_
        refine aQ 31 hst rfl rfl (by decide +kernel) (QX_of (Q_assign rfl rfl) NE_assign) rfl rfl ?_
        refine AW_done (by decide +kernel) ?_)
       | (
        refine gBsl (zl := []) (r := [e, f, 2 * c % p]) rfl rfl rfl rfl rfl rfl (.inl ⟨rfl, rfl⟩) rfl rfl rfl rfl rfl rfl ?_
        refine AW_one (i := 9) (by decide +kernel) ?_
        refine gBsl (zl := []) (r := [2 * a % p, d, e]) rfl rfl rfl rfl rfl rfl (.inl ⟨rfl, rfl⟩) rfl rfl rfl rfl rfl rfl ?_
        refine AW_one (i := 30) (by decide +kernel) ?_
        refine gBslv (r := [.slice 3 0 3 3, .slice 1 0 3 3, .slice 2 0 3 3]) rfl rfl rfl rfl rfl rfl rfl rfl rfl rfl rfl rfl rfl rfl rfl ?_
        refine aQ 31 hst rfl rfl (by decide +kernel) (QX_of (Q_assign rfl rfl) NE_assign) rfl rfl ?_
        refine AW_done (by decide +kernel) ?_))
    | (
     refine gBsl (zl := []) (r := [e, f, 2 * c % p]) rfl rfl rfl rfl rfl rfl (.inl ⟨rfl, rfl⟩) rfl rfl rfl rfl rfl rfl ?_
     refine AW_two (i := 9) (j := 19) (by decide +kernel) ?_ ?_
     all_goals first
       | (
        refine gBsl (zl := []) (r := [2 * a % p, d, e]) rfl rfl rfl rfl rfl rfl (.inl ⟨rfl, rfl⟩) rfl rfl rfl rfl rfl rfl ?_
        refine AW_one (i := 19) (by decide +kernel) ?_
        refine gBsl (zl := []) (r := [d, 2 * b % p, f]) rfl rfl rfl rfl rfl rfl (.inl ⟨rfl, rfl⟩) rfl rfl rfl rfl rfl rfl ?_
        refine AW_one (i := 30) (by decide +kernel) ?_
        refine gBslv (r := [.slice 2 0 3 3, .slice 3 0 3 3, .slice 1 0 3 3]) rfl rfl rfl rfl rfl rfl rfl rfl rfl rfl rfl rfl rfl rfl rfl ?_
        refine aQ 31 hst rfl rfl (by decide +kernel) (QX_of (Q_assign rfl rfl) NE_assign) rfl rfl ?_
        refine AW_done (by decide +kernel) ?_)
       | (
        refine gBsl (zl := []) (r := [d, 2 * b % p, f]) rfl rfl rfl rfl rfl rfl (.inl ⟨rfl, rfl⟩) rfl rfl rfl rfl rfl rfl ?_
        refine AW_one (i := 9) (by decide +kernel) ?_
        refine gBsl (zl := []) (r := [2 * a % p, d, e]) rfl rfl rfl rfl rfl rfl (.inl ⟨rfl, rfl⟩) rfl rfl rfl rfl rfl rfl ?_
        refine AW_one (i := 30) (by decide +kernel) ?_
        refine gBslv (r := [.slice 3 0 3 3, .slice 2 0 3 3, .slice 1 0 3 3]) rfl rfl rfl rfl rfl rfl rfl rfl rfl rfl rfl rfl rfl rfl rfl ?_
        refine aQ 31 hst rfl rfl (by decide +kernel) (QX_of (Q_assign rfl rfl) NE_assign) rfl rfl ?_
        refine AW_done (by decide +kernel) ?_))
  all_goals with_reducible refine tN ?_
  all_goals (
   refine CW_ret ?_)
  all_goals (
   first
     | exact exitH (r0 := .slice 3 0 3 3) (H0 := [(0, .ints 2 [2 * a % p, d, e]), (1, .ints 2 [d, 2 * b % p, f]), (2, .ints 2 [e, f, 2 * c % p]), (3, .vals 103 [.slice 0 0 3 3, .slice 1 0 3 3, .slice 2 0 3 3])]) (.inr rfl) [(0, 1), (1, 2), (2, 3), (3, 4)] 4 (.cons (.tmp rfl rfl) .nil) rfl rfl rfl (vHc rfl (vHc rfl (vHc rfl (vHc rfl vHn)))) rfl rfl ⟨rfl, rfl⟩
     | exact exitH (r0 := .slice 3 0 3 3) (H0 := [(0, .ints 2 [2 * a % p, d, e]), (1, .ints 2 [d, 2 * b % p, f]), (2, .ints 2 [e, f, 2 * c % p]), (3, .vals 103 [.slice 0 0 3 3, .slice 1 0 3 3, .slice 2 0 3 3])]) (.inr rfl) [(0, 1), (1, 3), (2, 2), (3, 4)] 4 (.cons (.tmp rfl rfl) .nil) rfl rfl rfl (vHc rfl (vHc rfl (vHc rfl (vHc rfl vHn)))) rfl rfl ⟨rfl, rfl⟩
     | exact exitH (r0 := .slice 3 0 3 3) (H0 := [(0, .ints 2 [2 * a % p, d, e]), (1, .ints 2 [d, 2 * b % p, f]), (2, .ints 2 [e, f, 2 * c % p]), (3, .vals 103 [.slice 0 0 3 3, .slice 1 0 3 3, .slice 2 0 3 3])]) (.inr rfl) [(0, 2), (1, 1), (2, 3), (3, 4)] 4 (.cons (.tmp rfl rfl) .nil) rfl rfl rfl (vHc rfl (vHc rfl (vHc rfl (vHc rfl vHn)))) rfl rfl ⟨rfl, rfl⟩
     | exact exitH (r0 := .slice 3 0 3 3) (H0 := [(0, .ints 2 [2 * a % p, d, e]), (1, .ints 2 [d, 2 * b % p, f]), (2, .ints 2 [e, f, 2 * c % p]), (3, .vals 103 [.slice 0 0 3 3, .slice 1 0 3 3, .slice 2 0 3 3])]) (.inr rfl) [(0, 2), (1, 3), (2, 1), (3, 4)] 4 (.cons (.tmp rfl rfl) .nil) rfl rfl rfl (vHc rfl (vHc rfl (vHc rfl (vHc rfl vHn)))) rfl rfl ⟨rfl, rfl⟩
     | exact exitH (r0 := .slice 3 0 3 3) (H0 := [(0, .ints 2 [2 * a % p, d, e]), (1, .ints 2 [d, 2 * b % p, f]), (2, .ints 2 [e, f, 2 * c % p]), (3, .vals 103 [.slice 0 0 3 3, .slice 1 0 3 3, .slice 2 0 3 3])]) (.inr rfl) [(0, 3), (1, 1), (2, 2), (3, 4)] 4 (.cons (.tmp rfl rfl) .nil) rfl rfl rfl (vHc rfl (vHc rfl (vHc rfl (vHc rfl vHn)))) rfl rfl ⟨rfl, rfl⟩
     | exact exitH (r0 := .slice 3 0 3 3) (H0 := [(0, .ints 2 [2 * a % p, d, e]), (1, .ints 2 [d, 2 * b % p, f]), (2, .ints 2 [e, f, 2 * c % p]), (3, .vals 103 [.slice 0 0 3 3, .slice 1 0 3 3, .slice 2 0 3 3])]) (.inr rfl) [(0, 3), (1, 2), (2, 1), (3, 4)] 4 (.cons (.tmp rfl rfl) .nil) rfl rfl rfl (vHc rfl (vHc rfl (vHc rfl (vHc rfl vHn)))) rfl rfl ⟨rfl, rfl⟩)
theorem l03Rows_con (p : Int) (c : List Int) (hp : primeB p = true) (hc6 : c.length = 6) (h1 : modB p c = true) : Con Try.prog [] 78 [.int p, .arr c] [] (fun r H' => r = .slice 3 0 3 3 ∧ H' = [(0, .ints 2 ((matV p c).take 3)), (1, .ints 2 (((matV p c).drop 3).take 3)), (2, .ints 2 (((matV p c).drop 6).take 3)), (3, .vals 103 [.slice 0 0 3 3, .slice 1 0 3 3, .slice 2 0 3 3])]) := by
  match c, hc6, h1 with
  | [a, b, c, d, e, f], _, h1 =>
    have := l03Rows_con6 p a b c d e f hp h1
    have hpb := prime_bd hp
    simp only [modB, List.all_cons, List.all_nil, Bool.and_true, Bool.and_eq_true, decide_eq_true_eq] at h1
    obtain ⟨hA, hB, hC, hD, hE, hF⟩ := h1
    simp only [matV, Int.emod_eq_of_lt hD.1 (show d < p by omega), Int.emod_eq_of_lt hE.1 (show e < p by omega), Int.emod_eq_of_lt hF.1 (show f < p by omega)]
    exact this
theorem l03Polar_con3 (p : Int) (c : List Int) (x y z : Int) (hp : primeB p = true) (hc6 : c.length = 6) (h1 : modB p c = true) (h2 : sm 13 [x, y, z]) : ConQ Try.prog [] 52 [.int p, .arr c, .arr [x, y, z]] [] (.tuple [.arr (normL p (polX p c [x, y, z])), .bool (facP p (polX p c [x, y, z]) != 0)]) := by
  have hpb := prime_bd hp
  have hms := matV_sm (p := p) hp hc6
  have hml := matV_length (p := p) hc6
  have hrows := l03Rows_con p c hp hc6 h1
  unfold polX at *
  generalize matV p c = M at *
  match M, hml with
  | [m0, m1, m2, m3, m4, m5, m6, m7, m8], _ =>
    simp only [List.take, List.drop] at hrows ⊢
    have hb : ∀ w ∈ [m0, m1, m2, m3, m4, m5, m6, m7, m8], -13 ≤ w ∧ w ≤ 13 := hms
    simp only [List.mem_cons, List.not_mem_nil, or_false, forall_eq_or_imp, forall_eq] at hb
    obtain ⟨b0, b1, b2, b3, b4, b5, b6, b7, b8⟩ := hb
    obtain ⟨hx, hy, hz⟩ := sm3.1 h2
    have q0 := mul_bds b0.1 b0.2 hx.1 hx.2
    have q1 := mul_bds b1.1 b1.2 hy.1 hy.2
    have q2 := mul_bds b2.1 b2.2 hz.1 hz.2
    have q3 := mul_bds b3.1 b3.2 hx.1 hx.2
    have q4 := mul_bds b4.1 b4.2 hy.1 hy.2
    have q5 := mul_bds b5.1 b5.2 hz.1 hz.2
    have q6 := mul_bds b6.1 b6.2 hx.1 hx.2
    have q7 := mul_bds b7.1 b7.2 hy.1 hy.2
    have q8 := mul_bds b8.1 b8.2 hz.1 hz.2
    have hpe : [dotV [m0, m1, m2] [x, y, z], dotV [m3, m4, m5] [x, y, z], dotV [m6, m7, m8] [x, y, z]] = [m0 * x + m1 * y + m2 * z, m3 * x + m4 * y + m5 * z, m6 * x + m7 * y + m8 * z] := by simp [dotV, dotT]
    rw [hpe]
    have hnl := normL_length p [m0 * x + m1 * y + m2 * z, m3 * x + m4 * y + m5 * z, m6 * x + m7 * y + m8 * z]
    refine conW tab_ok [(0, .int p), (1, .arr c), (2, .arr [x, y, z])] 0 [] [] Try.func52 rfl rfl rfl rfl rfl rfl rfl rfl rfl ?_
    refine cR ?_
    iterate 2 refine oBox rfl rfl rfl rfl rfl rfl ?_
    refine oAlloc rfl rfl rfl rfl rfl rfl rfl ?_
    refine oA rfl rfl ?_
    refine oN ?_
    refine cR ?_
    refine oM rfl rfl ?_
    refine oQ (Q_ldw rfl rfl rfl rfl hc6) rfl rfl ?_
    refine oCall (hrows) [] 4 rfl rfl (Fits.mk' vHn rfl rfl (by first | (simp; done) | exact glOk rfl rfl rfl)) rfl rfl ?_
    rintro r H1 ⟨rfl, rfl⟩
    refine ⟨.slice 6 0 3 3, [(3, .ints 2 [m0, m1, m2]), (4, .ints 2 [m3, m4, m5]), (5, .ints 2 [m6, m7, m8]), (6, .vals 103 [.slice 3 0 3 3, .slice 4 0 3 3, .slice 5 0 3 3])], rfl, rfl, rfl, ?_⟩
    refine oBsl (zl := []) rfl rfl rfl rfl (.inl ⟨rfl, rfl⟩) rfl rfl rfl rfl rfl rfl ?_
    iterate 2 refine oA rfl rfl ?_
    refine oN ?_
    refine CW_seq ?_
    refine cR ?_
    refine oA rfl rfl ?_
    refine oN ?_
    refine CW_block ?_
    refine CW_rounds 4 ?_
    refine RW_succ ?_
    refine CW_seq ?_
    refine cR ?_
    refine oM rfl rfl ?_
    refine oQ (Q_bin rfl rfl rfl) rfl rfl ?_
    refine oN ?_
    first | refine cT rfl ?_ | refine cF rfl ?_ | refine CW_cond rfl (fun hc => ?_) (fun hc => ?_)
    all_goals try simp only [s1, s2, s3, s4, s5, s6, s7, s8, s9, s10, s11, s12] at hc
    all_goals try (exfalso; first | omega | (simp at hc; done); done)
    all_goals first
      | (
       refine CW_skip ?_)
      | (
       refine CW_exit ?_)
    all_goals first
      | with_reducible refine tR ?_
      | with_reducible refine tE ?_
      | (
       with_reducible refine tN ?_
       refine CW_seq ?_
       refine CW_block ?_
       refine CW_any (fun i => List.elem i [31, 32]) 33 rfl lateOk (by decide +kernel) (fun hst => ?_)
       refine aP 0 hst rfl rfl (by decide +kernel) (PX_move rfl rfl) rfl rfl ?_
       refine aP 1 hst rfl rfl (by decide +kernel) (PX_move rfl rfl) rfl rfl ?_
       refine aP 2 hst rfl rfl (by decide +kernel) (PX_move rfl rfl) rfl rfl ?_
       first | refine aQ 3 hst rfl rfl (by decide +kernel) (QX_of (Is0 rfl rfl rfl rfl rfl rfl) NE_ix) rfl rfl ?_ | refine aQ 3 hst rfl rfl (by decide +kernel) (QX_of (Is1 rfl rfl rfl rfl rfl rfl) NE_ix) rfl rfl ?_
       refine aQ 4 hst rfl rfl (by decide +kernel) (QX_of (Q_ldv rfl rfl rfl rfl rfl rfl) NE_load) rfl rfl ?_
       first | refine aQ 5 hst rfl rfl (by decide +kernel) (QX_of (Is0 rfl rfl rfl rfl rfl rfl) NE_ix) rfl rfl ?_ | refine aQ 5 hst rfl rfl (by decide +kernel) (QX_of (Is1 rfl rfl rfl rfl rfl rfl) NE_ix) rfl rfl ?_
       first | refine aQ 6 hst rfl rfl (by decide +kernel) (QX_of (Q_ldc rfl rfl rfl rfl rfl) NE_load) rfl rfl ?_ | refine aQ 6 hst rfl rfl (by decide +kernel) (QX_of (Ld rfl rfl rfl rfl) NE_load) rfl rfl ?_
       first | refine aQ 7 hst rfl rfl (by decide +kernel) (QX_of (Ia0 rfl rfl rfl rfl rfl rfl) NE_ix) rfl rfl ?_ | refine aQ 7 hst rfl rfl (by decide +kernel) (QX_of (Ia1 rfl rfl rfl rfl rfl rfl) NE_ix) rfl rfl ?_
       first | refine aQ 8 hst rfl rfl (by decide +kernel) (QX_of (Q_ldc rfl rfl rfl rfl rfl) NE_load) rfl rfl ?_ | refine aQ 8 hst rfl rfl (by decide +kernel) (QX_of (Ld rfl rfl rfl rfl) NE_load) rfl rfl ?_
       first | refine aQ 9 hst rfl rfl (by decide +kernel) (QX_of (Q_binu rfl rfl rfl (by omega)) NE_bin) rfl rfl ?_ | refine aQ 9 hst rfl rfl (by decide +kernel) (QX_of (Q_bin rfl rfl rfl) NE_bin) rfl rfl ?_
       refine aP 10 hst rfl rfl (by decide +kernel) (PX_move rfl rfl) rfl rfl ?_
       refine aP 11 hst rfl rfl (by decide +kernel) (PX_move rfl rfl) rfl rfl ?_
       first | refine aQ 12 hst rfl rfl (by decide +kernel) (QX_of (Is0 rfl rfl rfl rfl rfl rfl) NE_ix) rfl rfl ?_ | refine aQ 12 hst rfl rfl (by decide +kernel) (QX_of (Is1 rfl rfl rfl rfl rfl rfl) NE_ix) rfl rfl ?_
       refine aQ 13 hst rfl rfl (by decide +kernel) (QX_of (Q_ldv rfl rfl rfl rfl rfl rfl) NE_load) rfl rfl ?_
       first | refine aQ 14 hst rfl rfl (by decide +kernel) (QX_of (Is0 rfl rfl rfl rfl rfl rfl) NE_ix) rfl rfl ?_ | refine aQ 14 hst rfl rfl (by decide +kernel) (QX_of (Is1 rfl rfl rfl rfl rfl rfl) NE_ix) rfl rfl ?_
       first | refine aQ 15 hst rfl rfl (by decide +kernel) (QX_of (Q_ldc rfl rfl rfl rfl rfl) NE_load) rfl rfl ?_ | refine aQ 15 hst rfl rfl (by decide +kernel) (QX_of (Ld rfl rfl rfl rfl) NE_load) rfl rfl ?_
       first | refine aQ 16 hst rfl rfl (by decide +kernel) (QX_of (Ia0 rfl rfl rfl rfl rfl rfl) NE_ix) rfl rfl ?_ | refine aQ 16 hst rfl rfl (by decide +kernel) (QX_of (Ia1 rfl rfl rfl rfl rfl rfl) NE_ix) rfl rfl ?_
       first | refine aQ 17 hst rfl rfl (by decide +kernel) (QX_of (Q_ldc rfl rfl rfl rfl rfl) NE_load) rfl rfl ?_ | refine aQ 17 hst rfl rfl (by decide +kernel) (QX_of (Ld rfl rfl rfl rfl) NE_load) rfl rfl ?_
       first | refine aQ 18 hst rfl rfl (by decide +kernel) (QX_of (Q_binu rfl rfl rfl (by omega)) NE_bin) rfl rfl ?_ | refine aQ 18 hst rfl rfl (by decide +kernel) (QX_of (Q_bin rfl rfl rfl) NE_bin) rfl rfl ?_
       first | refine aP 19 hst rfl rfl (by decide +kernel) (PX_binu rfl rfl rfl (by omega)) rfl rfl ?_ | refine aP 19 hst rfl rfl (by decide +kernel) (PX_bin rfl rfl rfl) rfl rfl ?_
       refine aP 20 hst rfl rfl (by decide +kernel) (PX_move rfl rfl) rfl rfl ?_
       refine aP 21 hst rfl rfl (by decide +kernel) (PX_move rfl rfl) rfl rfl ?_
       first | refine aQ 22 hst rfl rfl (by decide +kernel) (QX_of (Is0 rfl rfl rfl rfl rfl rfl) NE_ix) rfl rfl ?_ | refine aQ 22 hst rfl rfl (by decide +kernel) (QX_of (Is1 rfl rfl rfl rfl rfl rfl) NE_ix) rfl rfl ?_
       refine aQ 23 hst rfl rfl (by decide +kernel) (QX_of (Q_ldv rfl rfl rfl rfl rfl rfl) NE_load) rfl rfl ?_
       first | refine aQ 24 hst rfl rfl (by decide +kernel) (QX_of (Is0 rfl rfl rfl rfl rfl rfl) NE_ix) rfl rfl ?_ | refine aQ 24 hst rfl rfl (by decide +kernel) (QX_of (Is1 rfl rfl rfl rfl rfl rfl) NE_ix) rfl rfl ?_
       first | refine aQ 25 hst rfl rfl (by decide +kernel) (QX_of (Q_ldc rfl rfl rfl rfl rfl) NE_load) rfl rfl ?_ | refine aQ 25 hst rfl rfl (by decide +kernel) (QX_of (Ld rfl rfl rfl rfl) NE_load) rfl rfl ?_
       first | refine aQ 26 hst rfl rfl (by decide +kernel) (QX_of (Ia0 rfl rfl rfl rfl rfl rfl) NE_ix) rfl rfl ?_ | refine aQ 26 hst rfl rfl (by decide +kernel) (QX_of (Ia1 rfl rfl rfl rfl rfl rfl) NE_ix) rfl rfl ?_
       first | refine aQ 27 hst rfl rfl (by decide +kernel) (QX_of (Q_ldc rfl rfl rfl rfl rfl) NE_load) rfl rfl ?_ | refine aQ 27 hst rfl rfl (by decide +kernel) (QX_of (Ld rfl rfl rfl rfl) NE_load) rfl rfl ?_
       first | refine aQ 28 hst rfl rfl (by decide +kernel) (QX_of (Q_binu rfl rfl rfl (by omega)) NE_bin) rfl rfl ?_ | refine aQ 28 hst rfl rfl (by decide +kernel) (QX_of (Q_bin rfl rfl rfl) NE_bin) rfl rfl ?_
       first | refine aP 29 hst rfl rfl (by decide +kernel) (PX_binu rfl rfl rfl (by omega)) rfl rfl ?_ | refine aP 29 hst rfl rfl (by decide +kernel) (PX_bin rfl rfl rfl) rfl rfl ?_
       refine AW_one (i := 30) (by decide +kernel) ?_
       refine gBsl (zl := []) (r := [_]) rfl rfl rfl rfl rfl rfl (.inl ⟨rfl, rfl⟩) rfl rfl rfl rfl rfl rfl ?_
       refine AW_last [31, 32] rfl (by decide +kernel) rfl ?_
       first | refine oApp (A := []) (sp := []) (sz := 1) (by_ := 8) rfl rfl rfl rfl rfl rfl ⟨by decide, rfl, .inl ⟨rfl, rfl⟩⟩ rfl rfl rfl rfl rfl rfl rfl rfl (by omega) (by omega) (by omega) (by omega) rfl rfl (fun k2 sp2 h1 h2 => ?_) | refine oApp (sz := 1) (by_ := 8) rfl rfl rfl rfl rfl rfl ⟨by decide, rfl, .inl ⟨rfl, rfl⟩⟩ rfl rfl rfl rfl rfl rfl rfl rfl (by omega) (by omega) (by omega) (by omega) rfl rfl (fun k2 sp2 h1 h2 => ?_)
       refine oA rfl rfl ?_
       refine OW_nil (npN ?_)
       all_goals first | with_reducible refine bN ?_ | with_reducible refine bE ?_ | with_reducible refine bR ?_ | refine bX rfl ?_
       all_goals with_reducible refine tN ?_
       all_goals (
        refine CW_region ?_
        refine oM rfl rfl ?_
        first | refine oQ (Q_binu rfl rfl rfl (by omega)) rfl rfl ?_ | refine oQ (Q_bin rfl rfl rfl) rfl rfl ?_
        refine oA rfl rfl ?_
        refine OW_nil ?_))
    all_goals first
      | with_reducible refine tR ?_
      | with_reducible refine tE ?_
      | (
       with_reducible refine tN ?_
       refine RW_succ ?_
       refine CW_seq ?_
       refine cR ?_
       refine oM rfl rfl ?_
       refine oQ (Q_bin rfl rfl rfl) rfl rfl ?_
       refine oN ?_
       first | refine cT rfl ?_ | refine cF rfl ?_ | refine CW_cond rfl (fun hc => ?_) (fun hc => ?_)
       all_goals try simp only [s1, s2, s3, s4, s5, s6, s7, s8, s9, s10, s11, s12] at hc
       all_goals try (exfalso; first | omega | (simp at hc; done); done)
       all_goals first
         | (
          refine CW_skip ?_)
         | (
          refine CW_exit ?_)
       all_goals first
         | with_reducible refine tR ?_
         | with_reducible refine tE ?_
         | (
          with_reducible refine tN ?_
          refine CW_seq ?_
          refine CW_block ?_
          refine CW_any (fun i => List.elem i [31, 32]) 33 rfl lateOk (by decide +kernel) (fun hst => ?_)
          refine aP 0 hst rfl rfl (by decide +kernel) (PX_move rfl rfl) rfl rfl ?_
          refine aP 1 hst rfl rfl (by decide +kernel) (PX_move rfl rfl) rfl rfl ?_
          refine aP 2 hst rfl rfl (by decide +kernel) (PX_move rfl rfl) rfl rfl ?_
          first | refine aQ 3 hst rfl rfl (by decide +kernel) (QX_of (Is0 rfl rfl rfl rfl rfl rfl) NE_ix) rfl rfl ?_ | refine aQ 3 hst rfl rfl (by decide +kernel) (QX_of (Is1 rfl rfl rfl rfl rfl rfl) NE_ix) rfl rfl ?_
          refine aQ 4 hst rfl rfl (by decide +kernel) (QX_of (Q_ldv rfl rfl rfl rfl rfl rfl) NE_load) rfl rfl ?_
          first | refine aQ 5 hst rfl rfl (by decide +kernel) (QX_of (Is0 rfl rfl rfl rfl rfl rfl) NE_ix) rfl rfl ?_ | refine aQ 5 hst rfl rfl (by decide +kernel) (QX_of (Is1 rfl rfl rfl rfl rfl rfl) NE_ix) rfl rfl ?_
          first | refine aQ 6 hst rfl rfl (by decide +kernel) (QX_of (Q_ldc rfl rfl rfl rfl rfl) NE_load) rfl rfl ?_ | refine aQ 6 hst rfl rfl (by decide +kernel) (QX_of (Ld rfl rfl rfl rfl) NE_load) rfl rfl ?_
          first | refine aQ 7 hst rfl rfl (by decide +kernel) (QX_of (Ia0 rfl rfl rfl rfl rfl rfl) NE_ix) rfl rfl ?_ | refine aQ 7 hst rfl rfl (by decide +kernel) (QX_of (Ia1 rfl rfl rfl rfl rfl rfl) NE_ix) rfl rfl ?_
          first | refine aQ 8 hst rfl rfl (by decide +kernel) (QX_of (Q_ldc rfl rfl rfl rfl rfl) NE_load) rfl rfl ?_ | refine aQ 8 hst rfl rfl (by decide +kernel) (QX_of (Ld rfl rfl rfl rfl) NE_load) rfl rfl ?_
          first | refine aQ 9 hst rfl rfl (by decide +kernel) (QX_of (Q_binu rfl rfl rfl (by omega)) NE_bin) rfl rfl ?_ | refine aQ 9 hst rfl rfl (by decide +kernel) (QX_of (Q_bin rfl rfl rfl) NE_bin) rfl rfl ?_
          refine aP 10 hst rfl rfl (by decide +kernel) (PX_move rfl rfl) rfl rfl ?_
          refine aP 11 hst rfl rfl (by decide +kernel) (PX_move rfl rfl) rfl rfl ?_
          first | refine aQ 12 hst rfl rfl (by decide +kernel) (QX_of (Is0 rfl rfl rfl rfl rfl rfl) NE_ix) rfl rfl ?_ | refine aQ 12 hst rfl rfl (by decide +kernel) (QX_of (Is1 rfl rfl rfl rfl rfl rfl) NE_ix) rfl rfl ?_
          refine aQ 13 hst rfl rfl (by decide +kernel) (QX_of (Q_ldv rfl rfl rfl rfl rfl rfl) NE_load) rfl rfl ?_
          first | refine aQ 14 hst rfl rfl (by decide +kernel) (QX_of (Is0 rfl rfl rfl rfl rfl rfl) NE_ix) rfl rfl ?_ | refine aQ 14 hst rfl rfl (by decide +kernel) (QX_of (Is1 rfl rfl rfl rfl rfl rfl) NE_ix) rfl rfl ?_
          first | refine aQ 15 hst rfl rfl (by decide +kernel) (QX_of (Q_ldc rfl rfl rfl rfl rfl) NE_load) rfl rfl ?_ | refine aQ 15 hst rfl rfl (by decide +kernel) (QX_of (Ld rfl rfl rfl rfl) NE_load) rfl rfl ?_
          first | refine aQ 16 hst rfl rfl (by decide +kernel) (QX_of (Ia0 rfl rfl rfl rfl rfl rfl) NE_ix) rfl rfl ?_ | refine aQ 16 hst rfl rfl (by decide +kernel) (QX_of (Ia1 rfl rfl rfl rfl rfl rfl) NE_ix) rfl rfl ?_
          first | refine aQ 17 hst rfl rfl (by decide +kernel) (QX_of (Q_ldc rfl rfl rfl rfl rfl) NE_load) rfl rfl ?_ | refine aQ 17 hst rfl rfl (by decide +kernel) (QX_of (Ld rfl rfl rfl rfl) NE_load) rfl rfl ?_
          first | refine aQ 18 hst rfl rfl (by decide +kernel) (QX_of (Q_binu rfl rfl rfl (by omega)) NE_bin) rfl rfl ?_ | refine aQ 18 hst rfl rfl (by decide +kernel) (QX_of (Q_bin rfl rfl rfl) NE_bin) rfl rfl ?_
          first | refine aP 19 hst rfl rfl (by decide +kernel) (PX_binu rfl rfl rfl (by omega)) rfl rfl ?_ | refine aP 19 hst rfl rfl (by decide +kernel) (PX_bin rfl rfl rfl) rfl rfl ?_
          refine aP 20 hst rfl rfl (by decide +kernel) (PX_move rfl rfl) rfl rfl ?_
          refine aP 21 hst rfl rfl (by decide +kernel) (PX_move rfl rfl) rfl rfl ?_
          first | refine aQ 22 hst rfl rfl (by decide +kernel) (QX_of (Is0 rfl rfl rfl rfl rfl rfl) NE_ix) rfl rfl ?_ | refine aQ 22 hst rfl rfl (by decide +kernel) (QX_of (Is1 rfl rfl rfl rfl rfl rfl) NE_ix) rfl rfl ?_
          refine aQ 23 hst rfl rfl (by decide +kernel) (QX_of (Q_ldv rfl rfl rfl rfl rfl rfl) NE_load) rfl rfl ?_
          first | refine aQ 24 hst rfl rfl (by decide +kernel) (QX_of (Is0 rfl rfl rfl rfl rfl rfl) NE_ix) rfl rfl ?_ | refine aQ 24 hst rfl rfl (by decide +kernel) (QX_of (Is1 rfl rfl rfl rfl rfl rfl) NE_ix) rfl rfl ?_
          first | refine aQ 25 hst rfl rfl (by decide +kernel) (QX_of (Q_ldc rfl rfl rfl rfl rfl) NE_load) rfl rfl ?_ | refine aQ 25 hst rfl rfl (by decide +kernel) (QX_of (Ld rfl rfl rfl rfl) NE_load) rfl rfl ?_
          first | refine aQ 26 hst rfl rfl (by decide +kernel) (QX_of (Ia0 rfl rfl rfl rfl rfl rfl) NE_ix) rfl rfl ?_ | refine aQ 26 hst rfl rfl (by decide +kernel) (QX_of (Ia1 rfl rfl rfl rfl rfl rfl) NE_ix) rfl rfl ?_
          first | refine aQ 27 hst rfl rfl (by decide +kernel) (QX_of (Q_ldc rfl rfl rfl rfl rfl) NE_load) rfl rfl ?_ | refine aQ 27 hst rfl rfl (by decide +kernel) (QX_of (Ld rfl rfl rfl rfl) NE_load) rfl rfl ?_
          first | refine aQ 28 hst rfl rfl (by decide +kernel) (QX_of (Q_binu rfl rfl rfl (by omega)) NE_bin) rfl rfl ?_ | refine aQ 28 hst rfl rfl (by decide +kernel) (QX_of (Q_bin rfl rfl rfl) NE_bin) rfl rfl ?_
          first | refine aP 29 hst rfl rfl (by decide +kernel) (PX_binu rfl rfl rfl (by omega)) rfl rfl ?_ | refine aP 29 hst rfl rfl (by decide +kernel) (PX_bin rfl rfl rfl) rfl rfl ?_
          refine AW_one (i := 30) (by decide +kernel) ?_
          refine gBsl (zl := []) (r := [_]) rfl rfl rfl rfl rfl rfl (.inl ⟨rfl, rfl⟩) rfl rfl rfl rfl rfl rfl ?_
          refine AW_last [31, 32] rfl (by decide +kernel) rfl ?_
          first | refine oApp (A := []) (sp := []) (sz := 1) (by_ := 8) rfl rfl rfl rfl rfl rfl ⟨by decide, rfl, .inl ⟨rfl, rfl⟩⟩ rfl rfl rfl rfl rfl rfl rfl rfl (by omega) (by omega) (by omega) (by omega) rfl rfl (fun k2 sp2 h1 h2 => ?_) | refine oApp (sz := 1) (by_ := 8) rfl rfl rfl rfl rfl rfl ⟨by decide, rfl, .inl ⟨rfl, rfl⟩⟩ rfl rfl rfl rfl rfl rfl rfl rfl (by omega) (by omega) (by omega) (by omega) rfl rfl (fun k2 sp2 h1 h2 => ?_)
          refine oA rfl rfl ?_
          refine OW_nil (npN ?_)
          all_goals first | with_reducible refine bN ?_ | with_reducible refine bE ?_ | with_reducible refine bR ?_ | refine bX rfl ?_
          all_goals with_reducible refine tN ?_
          all_goals (
           refine CW_region ?_
           refine oM rfl rfl ?_
           first | refine oQ (Q_binu rfl rfl rfl (by omega)) rfl rfl ?_ | refine oQ (Q_bin rfl rfl rfl) rfl rfl ?_
           refine oA rfl rfl ?_
           refine OW_nil ?_))
       all_goals first
         | with_reducible refine tR ?_
         | with_reducible refine tE ?_
         | (
          with_reducible refine tN ?_
          refine RW_succ ?_
          refine CW_seq ?_
          refine cR ?_
          refine oM rfl rfl ?_
          refine oQ (Q_bin rfl rfl rfl) rfl rfl ?_
          refine oN ?_
          first | refine cT rfl ?_ | refine cF rfl ?_ | refine CW_cond rfl (fun hc => ?_) (fun hc => ?_)
          all_goals try simp only [s1, s2, s3, s4, s5, s6, s7, s8, s9, s10, s11, s12] at hc
          all_goals try (exfalso; first | omega | (simp at hc; done); done)
          all_goals first
            | (
             refine CW_skip ?_)
            | (
             refine CW_exit ?_)
          all_goals first
            | with_reducible refine tR ?_
            | with_reducible refine tE ?_
            | (
             with_reducible refine tN ?_
             refine CW_seq ?_
             refine CW_block ?_
             refine CW_any (fun i => List.elem i [31, 32]) 33 rfl lateOk (by decide +kernel) (fun hst => ?_)
             refine aP 0 hst rfl rfl (by decide +kernel) (PX_move rfl rfl) rfl rfl ?_
             refine aP 1 hst rfl rfl (by decide +kernel) (PX_move rfl rfl) rfl rfl ?_
             refine aP 2 hst rfl rfl (by decide +kernel) (PX_move rfl rfl) rfl rfl ?_
             first | refine aQ 3 hst rfl rfl (by decide +kernel) (QX_of (Is0 rfl rfl rfl rfl rfl rfl) NE_ix) rfl rfl ?_ | refine aQ 3 hst rfl rfl (by decide +kernel) (QX_of (Is1 rfl rfl rfl rfl rfl rfl) NE_ix) rfl rfl ?_
             refine aQ 4 hst rfl rfl (by decide +kernel) (QX_of (Q_ldv rfl rfl rfl rfl rfl rfl) NE_load) rfl rfl ?_
             first | refine aQ 5 hst rfl rfl (by decide +kernel) (QX_of (Is0 rfl rfl rfl rfl rfl rfl) NE_ix) rfl rfl ?_ | refine aQ 5 hst rfl rfl (by decide +kernel) (QX_of (Is1 rfl rfl rfl rfl rfl rfl) NE_ix) rfl rfl ?_
             first | refine aQ 6 hst rfl rfl (by decide +kernel) (QX_of (Q_ldc rfl rfl rfl rfl rfl) NE_load) rfl rfl ?_ | refine aQ 6 hst rfl rfl (by decide +kernel) (QX_of (Ld rfl rfl rfl rfl) NE_load) rfl rfl ?_
             first | refine aQ 7 hst rfl rfl (by decide +kernel) (QX_of (Ia0 rfl rfl rfl rfl rfl rfl) NE_ix) rfl rfl ?_ | refine aQ 7 hst rfl rfl (by decide +kernel) (QX_of (Ia1 rfl rfl rfl rfl rfl rfl) NE_ix) rfl rfl ?_
             first | refine aQ 8 hst rfl rfl (by decide +kernel) (QX_of (Q_ldc rfl rfl rfl rfl rfl) NE_load) rfl rfl ?_ | refine aQ 8 hst rfl rfl (by decide +kernel) (QX_of (Ld rfl rfl rfl rfl) NE_load) rfl rfl ?_
             first | refine aQ 9 hst rfl rfl (by decide +kernel) (QX_of (Q_binu rfl rfl rfl (by omega)) NE_bin) rfl rfl ?_ | refine aQ 9 hst rfl rfl (by decide +kernel) (QX_of (Q_bin rfl rfl rfl) NE_bin) rfl rfl ?_
             refine aP 10 hst rfl rfl (by decide +kernel) (PX_move rfl rfl) rfl rfl ?_
             refine aP 11 hst rfl rfl (by decide +kernel) (PX_move rfl rfl) rfl rfl ?_
             first | refine aQ 12 hst rfl rfl (by decide +kernel) (QX_of (Is0 rfl rfl rfl rfl rfl rfl) NE_ix) rfl rfl ?_ | refine aQ 12 hst rfl rfl (by decide +kernel) (QX_of (Is1 rfl rfl rfl rfl rfl rfl) NE_ix) rfl rfl ?_
             refine aQ 13 hst rfl rfl (by decide +kernel) (QX_of (Q_ldv rfl rfl rfl rfl rfl rfl) NE_load) rfl rfl ?_
             first | refine aQ 14 hst rfl rfl (by decide +kernel) (QX_of (Is0 rfl rfl rfl rfl rfl rfl) NE_ix) rfl rfl ?_ | refine aQ 14 hst rfl rfl (by decide +kernel) (QX_of (Is1 rfl rfl rfl rfl rfl rfl) NE_ix) rfl rfl ?_
             first | refine aQ 15 hst rfl rfl (by decide +kernel) (QX_of (Q_ldc rfl rfl rfl rfl rfl) NE_load) rfl rfl ?_ | refine aQ 15 hst rfl rfl (by decide +kernel) (QX_of (Ld rfl rfl rfl rfl) NE_load) rfl rfl ?_
             first | refine aQ 16 hst rfl rfl (by decide +kernel) (QX_of (Ia0 rfl rfl rfl rfl rfl rfl) NE_ix) rfl rfl ?_ | refine aQ 16 hst rfl rfl (by decide +kernel) (QX_of (Ia1 rfl rfl rfl rfl rfl rfl) NE_ix) rfl rfl ?_
             first | refine aQ 17 hst rfl rfl (by decide +kernel) (QX_of (Q_ldc rfl rfl rfl rfl rfl) NE_load) rfl rfl ?_ | refine aQ 17 hst rfl rfl (by decide +kernel) (QX_of (Ld rfl rfl rfl rfl) NE_load) rfl rfl ?_
             first | refine aQ 18 hst rfl rfl (by decide +kernel) (QX_of (Q_binu rfl rfl rfl (by omega)) NE_bin) rfl rfl ?_ | refine aQ 18 hst rfl rfl (by decide +kernel) (QX_of (Q_bin rfl rfl rfl) NE_bin) rfl rfl ?_
             first | refine aP 19 hst rfl rfl (by decide +kernel) (PX_binu rfl rfl rfl (by omega)) rfl rfl ?_ | refine aP 19 hst rfl rfl (by decide +kernel) (PX_bin rfl rfl rfl) rfl rfl ?_
             refine aP 20 hst rfl rfl (by decide +kernel) (PX_move rfl rfl) rfl rfl ?_
             refine aP 21 hst rfl rfl (by decide +kernel) (PX_move rfl rfl) rfl rfl ?_
             first | refine aQ 22 hst rfl rfl (by decide +kernel) (QX_of (Is0 rfl rfl rfl rfl rfl rfl) NE_ix) rfl rfl ?_ | refine aQ 22 hst rfl rfl (by decide +kernel) (QX_of (Is1 rfl rfl rfl rfl rfl rfl) NE_ix) rfl rfl ?_
             refine aQ 23 hst rfl rfl (by decide +kernel) (QX_of (Q_ldv rfl rfl rfl rfl rfl rfl) NE_load) rfl rfl ?_
             first | refine aQ 24 hst rfl rfl (by decide +kernel) (QX_of (Is0 rfl rfl rfl rfl rfl rfl) NE_ix) rfl rfl ?_ | refine aQ 24 hst rfl rfl (by decide +kernel) (QX_of (Is1 rfl rfl rfl rfl rfl rfl) NE_ix) rfl rfl ?_
             first | refine aQ 25 hst rfl rfl (by decide +kernel) (QX_of (Q_ldc rfl rfl rfl rfl rfl) NE_load) rfl rfl ?_ | refine aQ 25 hst rfl rfl (by decide +kernel) (QX_of (Ld rfl rfl rfl rfl) NE_load) rfl rfl ?_
             first | refine aQ 26 hst rfl rfl (by decide +kernel) (QX_of (Ia0 rfl rfl rfl rfl rfl rfl) NE_ix) rfl rfl ?_ | refine aQ 26 hst rfl rfl (by decide +kernel) (QX_of (Ia1 rfl rfl rfl rfl rfl rfl) NE_ix) rfl rfl ?_
             first | refine aQ 27 hst rfl rfl (by decide +kernel) (QX_of (Q_ldc rfl rfl rfl rfl rfl) NE_load) rfl rfl ?_ | refine aQ 27 hst rfl rfl (by decide +kernel) (QX_of (Ld rfl rfl rfl rfl) NE_load) rfl rfl ?_
             first | refine aQ 28 hst rfl rfl (by decide +kernel) (QX_of (Q_binu rfl rfl rfl (by omega)) NE_bin) rfl rfl ?_ | refine aQ 28 hst rfl rfl (by decide +kernel) (QX_of (Q_bin rfl rfl rfl) NE_bin) rfl rfl ?_
             first | refine aP 29 hst rfl rfl (by decide +kernel) (PX_binu rfl rfl rfl (by omega)) rfl rfl ?_ | refine aP 29 hst rfl rfl (by decide +kernel) (PX_bin rfl rfl rfl) rfl rfl ?_
             refine AW_one (i := 30) (by decide +kernel) ?_
             refine gBsl (zl := []) (r := [_]) rfl rfl rfl rfl rfl rfl (.inl ⟨rfl, rfl⟩) rfl rfl rfl rfl rfl rfl ?_
             refine AW_last [31, 32] rfl (by decide +kernel) rfl ?_
             first | refine oApp (A := []) (sp := []) (sz := 1) (by_ := 8) rfl rfl rfl rfl rfl rfl ⟨by decide, rfl, .inl ⟨rfl, rfl⟩⟩ rfl rfl rfl rfl rfl rfl rfl rfl (by omega) (by omega) (by omega) (by omega) rfl rfl (fun k2 sp2 h1 h2 => ?_) | refine oApp (sz := 1) (by_ := 8) rfl rfl rfl rfl rfl rfl ⟨by decide, rfl, .inl ⟨rfl, rfl⟩⟩ rfl rfl rfl rfl rfl rfl rfl rfl (by omega) (by omega) (by omega) (by omega) rfl rfl (fun k2 sp2 h1 h2 => ?_)
             refine oA rfl rfl ?_
             refine OW_nil (npN ?_)
             all_goals first | with_reducible refine bN ?_ | with_reducible refine bE ?_ | with_reducible refine bR ?_ | refine bX rfl ?_
             all_goals with_reducible refine tN ?_
             all_goals (
              refine CW_region ?_
              refine oM rfl rfl ?_
              first | refine oQ (Q_binu rfl rfl rfl (by omega)) rfl rfl ?_ | refine oQ (Q_bin rfl rfl rfl) rfl rfl ?_
              refine oA rfl rfl ?_
              refine OW_nil ?_))
          all_goals first
            | with_reducible refine tR ?_
            | with_reducible refine tE ?_
            | (
             with_reducible refine tN ?_
             refine RW_succ ?_
             refine CW_seq ?_
             refine cR ?_
             refine oM rfl rfl ?_
             refine oQ (Q_bin rfl rfl rfl) rfl rfl ?_
             refine oN ?_
             first | refine cT rfl ?_ | refine cF rfl ?_ | refine CW_cond rfl (fun hc => ?_) (fun hc => ?_)
             all_goals try simp only [s1, s2, s3, s4, s5, s6, s7, s8, s9, s10, s11, s12] at hc
             all_goals try (exfalso; first | omega | (simp at hc; done); done)
             all_goals first
               | (
                refine CW_skip ?_)
               | (
                refine CW_exit ?_)
             all_goals first
               | with_reducible refine tR ?_
               | with_reducible refine tE ?_
               | (
                with_reducible refine tN ?_
                refine CW_seq ?_
                refine CW_block ?_
                refine CW_any (fun i => List.elem i [31, 32]) 33 rfl lateOk (by decide +kernel) (fun hst => ?_)
                refine aP 0 hst rfl rfl (by decide +kernel) (PX_move rfl rfl) rfl rfl ?_
                refine aP 1 hst rfl rfl (by decide +kernel) (PX_move rfl rfl) rfl rfl ?_
                refine aP 2 hst rfl rfl (by decide +kernel) (PX_move rfl rfl) rfl rfl ?_
                first | refine aQ 3 hst rfl rfl (by decide +kernel) (QX_of (Is0 rfl rfl rfl rfl rfl rfl) NE_ix) rfl rfl ?_ | refine aQ 3 hst rfl rfl (by decide +kernel) (QX_of (Is1 rfl rfl rfl rfl rfl rfl) NE_ix) rfl rfl ?_
                refine aQ 4 hst rfl rfl (by decide +kernel) (QX_of (Q_ldv rfl rfl rfl rfl rfl rfl) NE_load) rfl rfl ?_
                first | refine aQ 5 hst rfl rfl (by decide +kernel) (QX_of (Is0 rfl rfl rfl rfl rfl rfl) NE_ix) rfl rfl ?_ | refine aQ 5 hst rfl rfl (by decide +kernel) (QX_of (Is1 rfl rfl rfl rfl rfl rfl) NE_ix) rfl rfl ?_
                first | refine aQ 6 hst rfl rfl (by decide +kernel) (QX_of (Q_ldc rfl rfl rfl rfl rfl) NE_load) rfl rfl ?_ | refine aQ 6 hst rfl rfl (by decide +kernel) (QX_of (Ld rfl rfl rfl rfl) NE_load) rfl rfl ?_
                first | refine aQ 7 hst rfl rfl (by decide +kernel) (QX_of (Ia0 rfl rfl rfl rfl rfl rfl) NE_ix) rfl rfl ?_ | refine aQ 7 hst rfl rfl (by decide +kernel) (QX_of (Ia1 rfl rfl rfl rfl rfl rfl) NE_ix) rfl rfl ?_
                first | refine aQ 8 hst rfl rfl (by decide +kernel) (QX_of (Q_ldc rfl rfl rfl rfl rfl) NE_load) rfl rfl ?_ | refine aQ 8 hst rfl rfl (by decide +kernel) (QX_of (Ld rfl rfl rfl rfl) NE_load) rfl rfl ?_
                first | refine aQ 9 hst rfl rfl (by decide +kernel) (QX_of (Q_binu rfl rfl rfl (by omega)) NE_bin) rfl rfl ?_ | refine aQ 9 hst rfl rfl (by decide +kernel) (QX_of (Q_bin rfl rfl rfl) NE_bin) rfl rfl ?_
                refine aP 10 hst rfl rfl (by decide +kernel) (PX_move rfl rfl) rfl rfl ?_
                refine aP 11 hst rfl rfl (by decide +kernel) (PX_move rfl rfl) rfl rfl ?_
                first | refine aQ 12 hst rfl rfl (by decide +kernel) (QX_of (Is0 rfl rfl rfl rfl rfl rfl) NE_ix) rfl rfl ?_ | refine aQ 12 hst rfl rfl (by decide +kernel) (QX_of (Is1 rfl rfl rfl rfl rfl rfl) NE_ix) rfl rfl ?_
                refine aQ 13 hst rfl rfl (by decide +kernel) (QX_of (Q_ldv rfl rfl rfl rfl rfl rfl) NE_load) rfl rfl ?_
                first | refine aQ 14 hst rfl rfl (by decide +kernel) (QX_of (Is0 rfl rfl rfl rfl rfl rfl) NE_ix) rfl rfl ?_ | refine aQ 14 hst rfl rfl (by decide +kernel) (QX_of (Is1 rfl rfl rfl rfl rfl rfl) NE_ix) rfl rfl ?_
                first | refine aQ 15 hst rfl rfl (by decide +kernel) (QX_of (Q_ldc rfl rfl rfl rfl rfl) NE_load) rfl rfl ?_ | refine aQ 15 hst rfl rfl (by decide +kernel) (QX_of (Ld rfl rfl rfl rfl) NE_load) rfl rfl ?_
                first | refine aQ 16 hst rfl rfl (by decide +kernel) (QX_of (Ia0 rfl rfl rfl rfl rfl rfl) NE_ix) rfl rfl ?_ | refine aQ 16 hst rfl rfl (by decide +kernel) (QX_of (Ia1 rfl rfl rfl rfl rfl rfl) NE_ix) rfl rfl ?_
                first | refine aQ 17 hst rfl rfl (by decide +kernel) (QX_of (Q_ldc rfl rfl rfl rfl rfl) NE_load) rfl rfl ?_ | refine aQ 17 hst rfl rfl (by decide +kernel) (QX_of (Ld rfl rfl rfl rfl) NE_load) rfl rfl ?_
                first | refine aQ 18 hst rfl rfl (by decide +kernel) (QX_of (Q_binu rfl rfl rfl (by omega)) NE_bin) rfl rfl ?_ | refine aQ 18 hst rfl rfl (by decide +kernel) (QX_of (Q_bin rfl rfl rfl) NE_bin) rfl rfl ?_
                first | refine aP 19 hst rfl rfl (by decide +kernel) (PX_binu rfl rfl rfl (by omega)) rfl rfl ?_ | refine aP 19 hst rfl rfl (by decide +kernel) (PX_bin rfl rfl rfl) rfl rfl ?_
                refine aP 20 hst rfl rfl (by decide +kernel) (PX_move rfl rfl) rfl rfl ?_
                refine aP 21 hst rfl rfl (by decide +kernel) (PX_move rfl rfl) rfl rfl ?_
                first | refine aQ 22 hst rfl rfl (by decide +kernel) (QX_of (Is0 rfl rfl rfl rfl rfl rfl) NE_ix) rfl rfl ?_ | refine aQ 22 hst rfl rfl (by decide +kernel) (QX_of (Is1 rfl rfl rfl rfl rfl rfl) NE_ix) rfl rfl ?_
                refine aQ 23 hst rfl rfl (by decide +kernel) (QX_of (Q_ldv rfl rfl rfl rfl rfl rfl) NE_load) rfl rfl ?_
                first | refine aQ 24 hst rfl rfl (by decide +kernel) (QX_of (Is0 rfl rfl rfl rfl rfl rfl) NE_ix) rfl rfl ?_ | refine aQ 24 hst rfl rfl (by decide +kernel) (QX_of (Is1 rfl rfl rfl rfl rfl rfl) NE_ix) rfl rfl ?_
                first | refine aQ 25 hst rfl rfl (by decide +kernel) (QX_of (Q_ldc rfl rfl rfl rfl rfl) NE_load) rfl rfl ?_ | refine aQ 25 hst rfl rfl (by decide +kernel) (QX_of (Ld rfl rfl rfl rfl) NE_load) rfl rfl ?_
                first | refine aQ 26 hst rfl rfl (by decide +kernel) (QX_of (Ia0 rfl rfl rfl rfl rfl rfl) NE_ix) rfl rfl ?_ | refine aQ 26 hst rfl rfl (by decide +kernel) (QX_of (Ia1 rfl rfl rfl rfl rfl rfl) NE_ix) rfl rfl ?_
                first | refine aQ 27 hst rfl rfl (by decide +kernel) (QX_of (Q_ldc rfl rfl rfl rfl rfl) NE_load) rfl rfl ?_ | refine aQ 27 hst rfl rfl (by decide +kernel) (QX_of (Ld rfl rfl rfl rfl) NE_load) rfl rfl ?_
                first | refine aQ 28 hst rfl rfl (by decide +kernel) (QX_of (Q_binu rfl rfl rfl (by omega)) NE_bin) rfl rfl ?_ | refine aQ 28 hst rfl rfl (by decide +kernel) (QX_of (Q_bin rfl rfl rfl) NE_bin) rfl rfl ?_
                first | refine aP 29 hst rfl rfl (by decide +kernel) (PX_binu rfl rfl rfl (by omega)) rfl rfl ?_ | refine aP 29 hst rfl rfl (by decide +kernel) (PX_bin rfl rfl rfl) rfl rfl ?_
                refine AW_one (i := 30) (by decide +kernel) ?_
                refine gBsl (zl := []) (r := [_]) rfl rfl rfl rfl rfl rfl (.inl ⟨rfl, rfl⟩) rfl rfl rfl rfl rfl rfl ?_
                refine AW_last [31, 32] rfl (by decide +kernel) rfl ?_
                first | refine oApp (A := []) (sp := []) (sz := 1) (by_ := 8) rfl rfl rfl rfl rfl rfl ⟨by decide, rfl, .inl ⟨rfl, rfl⟩⟩ rfl rfl rfl rfl rfl rfl rfl rfl (by omega) (by omega) (by omega) (by omega) rfl rfl (fun k2 sp2 h1 h2 => ?_) | refine oApp (sz := 1) (by_ := 8) rfl rfl rfl rfl rfl rfl ⟨by decide, rfl, .inl ⟨rfl, rfl⟩⟩ rfl rfl rfl rfl rfl rfl rfl rfl (by omega) (by omega) (by omega) (by omega) rfl rfl (fun k2 sp2 h1 h2 => ?_)
                refine oA rfl rfl ?_
                refine OW_nil (npN ?_)
                all_goals first | with_reducible refine bN ?_ | with_reducible refine bE ?_ | with_reducible refine bR ?_ | refine bX rfl ?_
                all_goals with_reducible refine tN ?_
                all_goals (
                 refine CW_region ?_
                 refine oM rfl rfl ?_
                 first | refine oQ (Q_binu rfl rfl rfl (by omega)) rfl rfl ?_ | refine oQ (Q_bin rfl rfl rfl) rfl rfl ?_
                 refine oA rfl rfl ?_
                 refine OW_nil ?_))
             all_goals first
               | with_reducible refine tR ?_
               | with_reducible refine tE ?_
               | (
                with_reducible refine tN ?_
                exfalso; first | omega | (simp at hc; done) | (simp_all; done)))))
    all_goals first | with_reducible refine bN ?_ | with_reducible refine bE ?_ | with_reducible refine bR ?_ | refine bX rfl ?_
    all_goals with_reducible refine tN ?_
    all_goals (
     refine CW_seq ?_
     refine CW_any (fun i => List.elem i [15, 16]) 17 rfl lateOk (by decide +kernel) (fun hst => ?_)
     refine aP 0 hst rfl rfl (by decide +kernel) (PX_move rfl rfl) rfl rfl ?_
     refine aP 1 hst rfl rfl (by decide +kernel) (PX_move rfl rfl) rfl rfl ?_
     first | refine aQ 2 hst rfl rfl (by decide +kernel) (QX_of (Is0 rfl rfl rfl rfl rfl rfl) NE_ix) rfl rfl ?_ | refine aQ 2 hst rfl rfl (by decide +kernel) (QX_of (Is1 rfl rfl rfl rfl rfl rfl) NE_ix) rfl rfl ?_
     first | refine aQ 3 hst rfl rfl (by decide +kernel) (QX_of (Q_ldc rfl rfl rfl rfl rfl) NE_load) rfl rfl ?_ | refine aQ 3 hst rfl rfl (by decide +kernel) (QX_of (Ld rfl rfl rfl rfl) NE_load) rfl rfl ?_
     refine aP 4 hst rfl rfl (by decide +kernel) (PX_move rfl rfl) rfl rfl ?_
     first | refine aQ 5 hst rfl rfl (by decide +kernel) (QX_of (Is0 rfl rfl rfl rfl rfl rfl) NE_ix) rfl rfl ?_ | refine aQ 5 hst rfl rfl (by decide +kernel) (QX_of (Is1 rfl rfl rfl rfl rfl rfl) NE_ix) rfl rfl ?_
     first | refine aQ 6 hst rfl rfl (by decide +kernel) (QX_of (Q_ldc rfl rfl rfl rfl rfl) NE_load) rfl rfl ?_ | refine aQ 6 hst rfl rfl (by decide +kernel) (QX_of (Ld rfl rfl rfl rfl) NE_load) rfl rfl ?_
     refine aP 7 hst rfl rfl (by decide +kernel) (PX_move rfl rfl) rfl rfl ?_
     first | refine aQ 8 hst rfl rfl (by decide +kernel) (QX_of (Is0 rfl rfl rfl rfl rfl rfl) NE_ix) rfl rfl ?_ | refine aQ 8 hst rfl rfl (by decide +kernel) (QX_of (Is1 rfl rfl rfl rfl rfl rfl) NE_ix) rfl rfl ?_
     first | refine aQ 9 hst rfl rfl (by decide +kernel) (QX_of (Q_ldc rfl rfl rfl rfl rfl) NE_load) rfl rfl ?_ | refine aQ 9 hst rfl rfl (by decide +kernel) (QX_of (Ld rfl rfl rfl rfl) NE_load) rfl rfl ?_
     refine aQ 10 hst rfl rfl (by decide +kernel) (QX_call0 (l01Made_con p _ _ _ hp) rfl rfl rfl) rfl rfl ?_
     refine aP 11 hst rfl rfl (by decide +kernel) (PX_move rfl rfl) rfl rfl ?_
     refine aExt 12 hst rfl rfl (by decide +kernel) rfl rfl rfl rfl ?_
     refine aExt 13 hst rfl rfl (by decide +kernel) rfl rfl rfl rfl ?_
     refine AW_one (i := 14) (by decide +kernel) ?_
     refine gAlloc rfl rfl rfl rfl rfl rfl rfl rfl rfl ?_
     refine AW_last [15, 16] rfl (by decide +kernel) rfl ?_
     first | refine oSw rfl rfl rfl rfl ?_ | refine oSa rfl rfl rfl rfl ?_
     refine oA rfl rfl ?_
     refine OW_nil (npN ?_)
     all_goals with_reducible refine tN ?_
     all_goals (
      refine cR ?_
      first | refine oQ (Lw rfl rfl rfl rfl) rfl rfl ?_ | refine oQ (La rfl rfl rfl rfl rfl) rfl rfl ?_
      refine oM rfl rfl ?_
      first | refine oSw rfl rfl rfl rfl ?_ | refine oSa rfl rfl rfl rfl ?_
      refine oA rfl rfl ?_
      refine oN ?_
      refine CW_ret ?_))
    all_goals (
     ((refine exitQ (.inr rfl) 0 (.cons (.arr rfl rfl rfl rfl (by first | omega | (dsimp only; omega) | (simp; omega) | (simp; done))) (.cons (.tmp rfl rfl) .nil)) ?_ rfl vHn rfl rfl); rfl))
theorem l03Polar_con (p : Int) (c a : List Int) (hp : primeB p = true) (hc6 : c.length = 6) (ha3 : a.length = 3) (h1 : modB p c = true) (h2 : sm 13 a) : ConQ Try.prog [] 52 [.int p, .arr c, .arr a] [] (.tuple [.arr (normL p (polX p c a)), .bool (facP p (polX p c a) != 0)]) := by
  match a, ha3, h2 with
  | [x, y, z], _, h2 => exact l03Polar_con3 p c x y z hp hc6 h1 h2
end Go.Proofs.Ytoiolpgmilobnaa
namespace Go.Proofs.Ytoiolpgmilobnaa
/-! ### a line has p + 1 points -/
abbrev N3 := Nat × Nat × Nat
end Go.Proofs.Ytoiolpgmilobnaa
namespace Go.Proofs.Ytoiolpgmilobnaa
theorem point_mem {p : Int} {a : List Int} (ha : a.length = 3) (h : pointB p a = true) : a ∈ allPts p := by
  match a, ha with
  | [x, y, z], _ =>
    have hp := pointB_prime h
    have hb := prime_bd hp
    have hm := mod_list (pointB_mod h)
    simp only [pointB, normB, Bool.and_eq_true, beq_iff_eq] at h
    have hf := h.2.2
    have hx := hm x (by simp)
    have hy := hm y (by simp)
    have hz := hm z (by simp)
    have hof : ∀ w : Int, 0 ≤ w → w < p → ∃ k : Nat, k < p.toNat ∧ w = (k : Int) := fun w h0 h1 => ⟨w.toNat, by omega, by omega⟩
    simp only [allPts, row1, rows2, row2, List.mem_append, List.mem_map, List.mem_flatMap, List.mem_singleton, List.mem_range]
    simp only [fnz] at hf
    by_cases h1 : x = 0
    · subst h1
      by_cases h2 : y = 0
      · subst h2
        by_cases h3 : z = 0
        · subst h3; simp at hf
        · left; left
          simp at hf
          simp_all
      · left; right
        simp [h2] at hf
        subst hf
        obtain ⟨k, hk, rfl⟩ := hof z hz.1 hz.2
        exact ⟨k, hk, rfl⟩
    · right
      simp [h1] at hf
      subst hf
      obtain ⟨j, hj, rfl⟩ := hof y hy.1 hy.2
      obtain ⟨k, hk, rfl⟩ := hof z hz.1 hz.2
      exact ⟨j, hj, k, hk, rfl⟩
end Go.Proofs.Ytoiolpgmilobnaa
namespace Go.Proofs.Ytoiolpgmilobnaa
set_option linter.unusedVariables false
theorem fac_inv {p : Int} (hp : primeB p = true) {l : List Int} (h : fnz (l.map (· % p)) ≠ 0) : fnz (l.map (· % p)) * facP p l % p = 1 := by
  have hb := prime_bd hp
  rcases fnz_mem (l.map (· % p)) with h0 | h0
  · exact absurd h0 h
  · obtain ⟨x, _, hx⟩ := List.mem_map.1 h0
    have h1 := Int.emod_nonneg x (show p ≠ 0 by omega)
    have h2 := Int.emod_lt_of_pos x (show 0 < p by omega)
    exact (inv_spec hp (by omega) (by omega)).2.2
end Go.Proofs.Ytoiolpgmilobnaa
namespace Go.Proofs.Ytoiolpgmilobnaa
set_option maxRecDepth 10000
set_option linter.unusedSimpArgs false
set_option linter.unusedVariables false
theorem fnz_norm {p f : Int} (hp : primeB p = true) : ∀ l : List Int, fnz (l.map (· % p)) * f % p = 1 → fnz (l.map fun x => x % p * f % p) = 1
  | [], h => by simp [fnz] at h
  | a :: r, h => by
    simp only [List.map_cons, fnz] at h ⊢
    by_cases h0 : a % p = 0
    · rw [if_pos h0] at h
      rw [if_pos (by rw [h0]; simp)]
      exact fnz_norm hp r h
    · rw [if_neg h0] at h
      rw [if_neg (by rw [h]; decide)]
      exact h
theorem norm_mem {p : Int} (hp : primeB p = true) {l : List Int} (hl : l.length = 3) (h : facP p l ≠ 0) : normL p l ∈ allPts p := by
  have hb := prime_bd hp
  refine point_mem (by rw [normL_length]; exact hl) ?_
  have hz : fnz (l.map (· % p)) ≠ 0 := fun e => h ((fac_zero hp l).2 e)
  simp only [pointB, normB, Bool.and_eq_true, beq_iff_eq]
  refine ⟨hp, ?_, fnz_norm hp l (fac_inv hp hz)⟩
  rw [modB, List.all_eq_true]
  intro x hx
  obtain ⟨y, _, rfl⟩ := List.mem_map.1 hx
  have h1 := Int.emod_nonneg (y % p * facP p l) (show p ≠ 0 by omega)
  have h2 := Int.emod_lt_of_pos (y % p * facP p l) (show 0 < p by omega)
  simp only [Bool.and_eq_true, decide_eq_true_eq]
  omega
attribute [local irreducible] CW OW QW QOp Con thenP inBlockP AW QX RW
def crossT (a b : List Int) : List Int := [a.getD 1 0 * b.getD 2 0 - a.getD 2 0 * b.getD 1 0, a.getD 2 0 * b.getD 0 0 - a.getD 0 0 * b.getD 2 0, a.getD 0 0 * b.getD 1 0 - a.getD 1 0 * b.getD 0 0]
attribute [local simp] normL_length
@[simp] theorem crossT_len (a b : List Int) : (crossT a b).length = 3 := rfl
theorem crN_len (p : Int) (a b : List Int) : (normL p (crossT a b)).length = 3 := by rw [normL_length]; rfl
theorem pointOf_con (p x y z : Int) (hp : primeB p = true) : ConQ Try.prog [] 130 [.int p, .int x, .int y, .int z] [] (.arr (normL p [x, y, z])) := by
  have hnl : (normL p [x, y, z]).length = 3 := by simp [normL, crossT]
  refine conW tab_ok [(0, .int p), (1, .int x), (2, .int y), (3, .int z)] 0 [] [] Try.func130 rfl rfl rfl rfl rfl rfl rfl rfl rfl ?_
  refine cR ?_
  refine oAlloc rfl rfl rfl rfl rfl rfl rfl ?_
  refine oN ?_
  refine cR ?_
  iterate 3 refine oM rfl rfl ?_
  refine oQ (Q_build rfl rfl rfl rfl rfl rfl rfl rfl) rfl rfl ?_
  refine oAlloc rfl rfl rfl rfl rfl rfl rfl ?_
  first | refine oSw rfl rfl rfl rfl ?_ | refine oSa rfl rfl rfl rfl ?_
  refine oN ?_
  refine cR ?_
  refine oM rfl rfl ?_
  refine oQ (Q_slaF rfl rfl rfl rfl) rfl rfl ?_
  refine oCall (normal_con p 32 [x, y, z] 3 3 (by simp) hp (by omega)) [(0, 1)] 0 rfl rfl (Fits.mk' (vHc rfl vHn) rfl rfl (by first | (simp; done) | exact glOk rfl rfl rfl)) rfl rfl ?_
  rintro r H1 ⟨rfl, rfl⟩
  refine ⟨.bool (facP p [x, y, z] != 0), [(1, .ints 32 (normL p [x, y, z]))], rfl, rfl, rfl, ?_⟩
  refine oN ?_
  refine cR ?_
  refine oQ (Q_ldw rfl rfl rfl rfl hnl) rfl rfl ?_
  first | refine oSw rfl rfl rfl rfl ?_ | refine oSa rfl rfl rfl rfl ?_
  refine oN ?_
  refine CW_ret ?_
  all_goals (
   ((refine exitQ (.inr rfl) 0 (.cons (.arr rfl rfl rfl rfl (by first | omega | (dsimp only; omega) | (simp; omega) | (simp; done))) .nil) ?_ rfl vHn rfl rfl); rfl))
theorem cross_con3 (p a b c x y z : Int) (hp : primeB p = true) (h1 : sm 13 [a, b, c]) (h2 : sm 13 [x, y, z]) : ConQ Try.prog [] 103 [.int p, .arr [a, b, c], .arr [x, y, z]] [] (.arr (normL p (crossT [a, b, c] [x, y, z]))) := by
  obtain ⟨ha, hb, hc⟩ := sm3.1 h1
  obtain ⟨hx, hy, hz⟩ := sm3.1 h2
  have hpb := prime_bd hp
  have hnl : ∀ u v w, (normL p [u, v, w]).length = 3 := fun _ _ _ => by simp [normL]
  refine conW tab_ok [(0, .int p), (1, .arr [a, b, c]), (2, .arr [x, y, z])] 0 [] [] Try.func103 rfl rfl rfl rfl rfl rfl rfl rfl rfl ?_
  refine cR ?_
  iterate 2 refine oBox rfl rfl rfl rfl rfl rfl ?_
  refine oAlloc rfl rfl rfl rfl rfl rfl rfl ?_
  refine oN ?_
  refine cR ?_
  refine oM rfl rfl ?_
  first | refine oQ (Ia0 rfl rfl rfl rfl rfl rfl) rfl rfl ?_ | refine oQ (Ia1 rfl rfl rfl rfl rfl rfl) rfl rfl ?_
  first | refine oQ (Q_ldc rfl rfl rfl rfl rfl) rfl rfl ?_ | refine oQ (Ld rfl rfl rfl rfl) rfl rfl ?_
  first | refine oQ (Ia0 rfl rfl rfl rfl rfl rfl) rfl rfl ?_ | refine oQ (Ia1 rfl rfl rfl rfl rfl rfl) rfl rfl ?_
  first | refine oQ (Q_ldc rfl rfl rfl rfl rfl) rfl rfl ?_ | refine oQ (Ld rfl rfl rfl rfl) rfl rfl ?_
  refine oMul 13 13 rfl rfl (by omega) (by omega) (by decide) rfl (fun z12 hz12 hl12 hu12 => ?_)
  first | refine oQ (Ia0 rfl rfl rfl rfl rfl rfl) rfl rfl ?_ | refine oQ (Ia1 rfl rfl rfl rfl rfl rfl) rfl rfl ?_
  first | refine oQ (Q_ldc rfl rfl rfl rfl rfl) rfl rfl ?_ | refine oQ (Ld rfl rfl rfl rfl) rfl rfl ?_
  first | refine oQ (Ia0 rfl rfl rfl rfl rfl rfl) rfl rfl ?_ | refine oQ (Ia1 rfl rfl rfl rfl rfl rfl) rfl rfl ?_
  first | refine oQ (Q_ldc rfl rfl rfl rfl rfl) rfl rfl ?_ | refine oQ (Ld rfl rfl rfl rfl) rfl rfl ?_
  refine oMul 13 13 rfl rfl (by omega) (by omega) (by decide) rfl (fun z17 hz17 hl17 hu17 => ?_)
  first | refine oQ (Q_binu rfl rfl rfl (by omega)) rfl rfl ?_ | refine oQ (Q_bin rfl rfl rfl) rfl rfl ?_
  first | refine oQ (Ia0 rfl rfl rfl rfl rfl rfl) rfl rfl ?_ | refine oQ (Ia1 rfl rfl rfl rfl rfl rfl) rfl rfl ?_
  first | refine oQ (Q_ldc rfl rfl rfl rfl rfl) rfl rfl ?_ | refine oQ (Ld rfl rfl rfl rfl) rfl rfl ?_
  first | refine oQ (Ia0 rfl rfl rfl rfl rfl rfl) rfl rfl ?_ | refine oQ (Ia1 rfl rfl rfl rfl rfl rfl) rfl rfl ?_
  first | refine oQ (Q_ldc rfl rfl rfl rfl rfl) rfl rfl ?_ | refine oQ (Ld rfl rfl rfl rfl) rfl rfl ?_
  refine oMul 13 13 rfl rfl (by omega) (by omega) (by decide) rfl (fun z23 hz23 hl23 hu23 => ?_)
  first | refine oQ (Ia0 rfl rfl rfl rfl rfl rfl) rfl rfl ?_ | refine oQ (Ia1 rfl rfl rfl rfl rfl rfl) rfl rfl ?_
  first | refine oQ (Q_ldc rfl rfl rfl rfl rfl) rfl rfl ?_ | refine oQ (Ld rfl rfl rfl rfl) rfl rfl ?_
  first | refine oQ (Ia0 rfl rfl rfl rfl rfl rfl) rfl rfl ?_ | refine oQ (Ia1 rfl rfl rfl rfl rfl rfl) rfl rfl ?_
  first | refine oQ (Q_ldc rfl rfl rfl rfl rfl) rfl rfl ?_ | refine oQ (Ld rfl rfl rfl rfl) rfl rfl ?_
  refine oMul 13 13 rfl rfl (by omega) (by omega) (by decide) rfl (fun z28 hz28 hl28 hu28 => ?_)
  first | refine oQ (Q_binu rfl rfl rfl (by omega)) rfl rfl ?_ | refine oQ (Q_bin rfl rfl rfl) rfl rfl ?_
  first | refine oQ (Ia0 rfl rfl rfl rfl rfl rfl) rfl rfl ?_ | refine oQ (Ia1 rfl rfl rfl rfl rfl rfl) rfl rfl ?_
  first | refine oQ (Q_ldc rfl rfl rfl rfl rfl) rfl rfl ?_ | refine oQ (Ld rfl rfl rfl rfl) rfl rfl ?_
  first | refine oQ (Ia0 rfl rfl rfl rfl rfl rfl) rfl rfl ?_ | refine oQ (Ia1 rfl rfl rfl rfl rfl rfl) rfl rfl ?_
  first | refine oQ (Q_ldc rfl rfl rfl rfl rfl) rfl rfl ?_ | refine oQ (Ld rfl rfl rfl rfl) rfl rfl ?_
  refine oMul 13 13 rfl rfl (by omega) (by omega) (by decide) rfl (fun z34 hz34 hl34 hu34 => ?_)
  first | refine oQ (Ia0 rfl rfl rfl rfl rfl rfl) rfl rfl ?_ | refine oQ (Ia1 rfl rfl rfl rfl rfl rfl) rfl rfl ?_
  first | refine oQ (Q_ldc rfl rfl rfl rfl rfl) rfl rfl ?_ | refine oQ (Ld rfl rfl rfl rfl) rfl rfl ?_
  first | refine oQ (Ia0 rfl rfl rfl rfl rfl rfl) rfl rfl ?_ | refine oQ (Ia1 rfl rfl rfl rfl rfl rfl) rfl rfl ?_
  first | refine oQ (Q_ldc rfl rfl rfl rfl rfl) rfl rfl ?_ | refine oQ (Ld rfl rfl rfl rfl) rfl rfl ?_
  refine oMul 13 13 rfl rfl (by omega) (by omega) (by decide) rfl (fun z39 hz39 hl39 hu39 => ?_)
  first | refine oQ (Q_binu rfl rfl rfl (by omega)) rfl rfl ?_ | refine oQ (Q_bin rfl rfl rfl) rfl rfl ?_
  refine oQ (Q_call0 (pointOf_con _ _ _ _ hp) rfl rfl rfl) rfl rfl ?_
  first | refine oSw rfl rfl rfl rfl ?_ | refine oSa rfl rfl rfl rfl ?_
  refine oN ?_
  refine CW_ret ?_
  all_goals (
   subst hz12 hz17 hz23 hz28 hz34 hz39
   refine exitQ (.inr rfl) 0 (.cons (.arr rfl rfl rfl rfl (by first | omega | (dsimp only; omega) | (simp; omega) | (simp; done))) .nil) ?_ rfl vHn rfl rfl
   rfl)
theorem cross_con (p : Int) (a b : List Int) (hp : primeB p = true) (ha : a.length = 3) (hb : b.length = 3) (h1 : sm 13 a) (h2 : sm 13 b) : ConQ Try.prog [] 103 [.int p, .arr a, .arr b] [] (.arr (normL p (crossT a b))) := by
  match a, ha, b, hb with
  | [a, b, c], _, [x, y, z], _ => exact cross_con3 p a b c x y z hp h1 h2
theorem join_con (p : Int) (a b : List Int) (hp : primeB p = true) (ha : a.length = 3) (hb : b.length = 3) (h1 : sm 13 a) (h2 : sm 13 b) : ConQ Try.prog [] 59 [.int p, .arr a, .arr b] [] (.arr (normL p (crossT a b))) := by
  have hnl : (normL p (crossT a b)).length = 3 := by simp [normL, crossT]
  refine conW tab_ok [(0, .int p), (1, .arr a), (2, .arr b)] 0 [] [] Try.func59 rfl rfl rfl rfl rfl rfl rfl rfl rfl ?_
  refine cR ?_
  iterate 2 refine oBox rfl rfl rfl rfl rfl rfl ?_
  refine oAlloc rfl rfl rfl rfl rfl rfl rfl ?_
  refine oN ?_
  refine cR ?_
  refine oM rfl rfl ?_
  refine oQ (Q_ldw rfl rfl rfl rfl ha) rfl rfl ?_
  refine oQ (Q_ldw rfl rfl rfl rfl hb) rfl rfl ?_
  refine oQ (Q_call0 (cross_con p a b hp ha hb h1 h2) rfl rfl rfl) rfl rfl ?_
  first | refine oSw rfl rfl rfl rfl ?_ | refine oSa rfl rfl rfl rfl ?_
  refine oN ?_
  refine CW_ret ?_
  all_goals (
   ((refine exitQ (.inr rfl) 0 (.cons (.arr rfl rfl rfl rfl (by first | omega | (dsimp only; omega) | (simp; omega) | (simp; done))) .nil) ?_ rfl vHn rfl rfl); rfl))
theorem l01Cross_con3 (p a b c x y z : Int) (hp : primeB p = true) (h1 : sm 13 [a, b, c]) (h2 : sm 13 [x, y, z]) : ConQ Try.prog [] 96 [.int p, .arr [a, b, c], .arr [x, y, z]] [] (.tuple [.arr (normL p (crossT [a, b, c] [x, y, z])), .bool (facP p (crossT [a, b, c] [x, y, z]) != 0)]) := by
  obtain ⟨ha, hb, hc⟩ := sm3.1 h1
  obtain ⟨hx, hy, hz⟩ := sm3.1 h2
  have hpb := prime_bd hp
  refine conW tab_ok [(0, .int p), (1, .arr [a, b, c]), (2, .arr [x, y, z])] 0 [] [] Try.func96 rfl rfl rfl rfl rfl rfl rfl rfl rfl ?_
  refine cR ?_
  iterate 2 refine oBox rfl rfl rfl rfl rfl rfl ?_
  refine oAlloc rfl rfl rfl rfl rfl rfl rfl ?_
  refine oA rfl rfl ?_
  refine oN ?_
  refine cR ?_
  refine oM rfl rfl ?_
  first | refine oQ (Ia0 rfl rfl rfl rfl rfl rfl) rfl rfl ?_ | refine oQ (Ia1 rfl rfl rfl rfl rfl rfl) rfl rfl ?_
  first | refine oQ (Q_ldc rfl rfl rfl rfl rfl) rfl rfl ?_ | refine oQ (Ld rfl rfl rfl rfl) rfl rfl ?_
  first | refine oQ (Ia0 rfl rfl rfl rfl rfl rfl) rfl rfl ?_ | refine oQ (Ia1 rfl rfl rfl rfl rfl rfl) rfl rfl ?_
  first | refine oQ (Q_ldc rfl rfl rfl rfl rfl) rfl rfl ?_ | refine oQ (Ld rfl rfl rfl rfl) rfl rfl ?_
  refine oMul 13 13 rfl rfl (by omega) (by omega) (by decide) rfl (fun z13 hz13 hl13 hu13 => ?_)
  first | refine oQ (Ia0 rfl rfl rfl rfl rfl rfl) rfl rfl ?_ | refine oQ (Ia1 rfl rfl rfl rfl rfl rfl) rfl rfl ?_
  first | refine oQ (Q_ldc rfl rfl rfl rfl rfl) rfl rfl ?_ | refine oQ (Ld rfl rfl rfl rfl) rfl rfl ?_
  first | refine oQ (Ia0 rfl rfl rfl rfl rfl rfl) rfl rfl ?_ | refine oQ (Ia1 rfl rfl rfl rfl rfl rfl) rfl rfl ?_
  first | refine oQ (Q_ldc rfl rfl rfl rfl rfl) rfl rfl ?_ | refine oQ (Ld rfl rfl rfl rfl) rfl rfl ?_
  refine oMul 13 13 rfl rfl (by omega) (by omega) (by decide) rfl (fun z18 hz18 hl18 hu18 => ?_)
  first | refine oQ (Q_binu rfl rfl rfl (by omega)) rfl rfl ?_ | refine oQ (Q_bin rfl rfl rfl) rfl rfl ?_
  first | refine oQ (Ia0 rfl rfl rfl rfl rfl rfl) rfl rfl ?_ | refine oQ (Ia1 rfl rfl rfl rfl rfl rfl) rfl rfl ?_
  first | refine oQ (Q_ldc rfl rfl rfl rfl rfl) rfl rfl ?_ | refine oQ (Ld rfl rfl rfl rfl) rfl rfl ?_
  first | refine oQ (Ia0 rfl rfl rfl rfl rfl rfl) rfl rfl ?_ | refine oQ (Ia1 rfl rfl rfl rfl rfl rfl) rfl rfl ?_
  first | refine oQ (Q_ldc rfl rfl rfl rfl rfl) rfl rfl ?_ | refine oQ (Ld rfl rfl rfl rfl) rfl rfl ?_
  refine oMul 13 13 rfl rfl (by omega) (by omega) (by decide) rfl (fun z24 hz24 hl24 hu24 => ?_)
  first | refine oQ (Ia0 rfl rfl rfl rfl rfl rfl) rfl rfl ?_ | refine oQ (Ia1 rfl rfl rfl rfl rfl rfl) rfl rfl ?_
  first | refine oQ (Q_ldc rfl rfl rfl rfl rfl) rfl rfl ?_ | refine oQ (Ld rfl rfl rfl rfl) rfl rfl ?_
  first | refine oQ (Ia0 rfl rfl rfl rfl rfl rfl) rfl rfl ?_ | refine oQ (Ia1 rfl rfl rfl rfl rfl rfl) rfl rfl ?_
  first | refine oQ (Q_ldc rfl rfl rfl rfl rfl) rfl rfl ?_ | refine oQ (Ld rfl rfl rfl rfl) rfl rfl ?_
  refine oMul 13 13 rfl rfl (by omega) (by omega) (by decide) rfl (fun z29 hz29 hl29 hu29 => ?_)
  first | refine oQ (Q_binu rfl rfl rfl (by omega)) rfl rfl ?_ | refine oQ (Q_bin rfl rfl rfl) rfl rfl ?_
  first | refine oQ (Ia0 rfl rfl rfl rfl rfl rfl) rfl rfl ?_ | refine oQ (Ia1 rfl rfl rfl rfl rfl rfl) rfl rfl ?_
  first | refine oQ (Q_ldc rfl rfl rfl rfl rfl) rfl rfl ?_ | refine oQ (Ld rfl rfl rfl rfl) rfl rfl ?_
  first | refine oQ (Ia0 rfl rfl rfl rfl rfl rfl) rfl rfl ?_ | refine oQ (Ia1 rfl rfl rfl rfl rfl rfl) rfl rfl ?_
  first | refine oQ (Q_ldc rfl rfl rfl rfl rfl) rfl rfl ?_ | refine oQ (Ld rfl rfl rfl rfl) rfl rfl ?_
  refine oMul 13 13 rfl rfl (by omega) (by omega) (by decide) rfl (fun z35 hz35 hl35 hu35 => ?_)
  first | refine oQ (Ia0 rfl rfl rfl rfl rfl rfl) rfl rfl ?_ | refine oQ (Ia1 rfl rfl rfl rfl rfl rfl) rfl rfl ?_
  first | refine oQ (Q_ldc rfl rfl rfl rfl rfl) rfl rfl ?_ | refine oQ (Ld rfl rfl rfl rfl) rfl rfl ?_
  first | refine oQ (Ia0 rfl rfl rfl rfl rfl rfl) rfl rfl ?_ | refine oQ (Ia1 rfl rfl rfl rfl rfl rfl) rfl rfl ?_
  first | refine oQ (Q_ldc rfl rfl rfl rfl rfl) rfl rfl ?_ | refine oQ (Ld rfl rfl rfl rfl) rfl rfl ?_
  refine oMul 13 13 rfl rfl (by omega) (by omega) (by decide) rfl (fun z40 hz40 hl40 hu40 => ?_)
  first | refine oQ (Q_binu rfl rfl rfl (by omega)) rfl rfl ?_ | refine oQ (Q_bin rfl rfl rfl) rfl rfl ?_
  refine oQ (Q_call0 (l01Made_con _ _ _ _ hp) rfl rfl rfl) rfl rfl ?_
  iterate 2 refine oQ (Q_extract rfl rfl) rfl rfl ?_
  first | refine oSw rfl rfl rfl rfl ?_ | refine oSa rfl rfl rfl rfl ?_
  refine oA rfl rfl ?_
  refine oN ?_
  refine CW_ret ?_
  all_goals (
   subst hz13 hz18 hz24 hz29 hz35 hz40
   refine exitQ (.inr rfl) 0 (.cons (.arr rfl rfl rfl rfl (by first | omega | (dsimp only; omega) | (simp; omega) | (simp; done))) (.cons (.tmp rfl rfl) .nil)) ?_ rfl vHn rfl rfl
   rfl)
theorem l01Cross_con (p : Int) (a b : List Int) (hp : primeB p = true) (ha : a.length = 3) (hb : b.length = 3) (h1 : sm 13 a) (h2 : sm 13 b) : ConQ Try.prog [] 96 [.int p, .arr a, .arr b] [] (.tuple [.arr (normL p (crossT a b)), .bool (facP p (crossT a b) != 0)]) := by
  match a, ha, b, hb with
  | [a, b, c], _, [x, y, z], _ => exact l01Cross_con3 p a b c x y z hp h1 h2
theorem l01Join_con (p : Int) (a b : List Int) (hp : primeB p = true) (ha : a.length = 3) (hb : b.length = 3) (h1 : sm 13 a) (h2 : sm 13 b) : ConQ Try.prog [] 54 [.int p, .arr a, .arr b] [] (.tuple [.arr (normL p (crossT a b)), .bool (facP p (crossT a b) != 0)]) := by
  have hnl := crN_len p a b
  refine conW tab_ok [(0, .int p), (1, .arr a), (2, .arr b)] 0 [] [] Try.func54 rfl rfl rfl rfl rfl rfl rfl rfl rfl ?_
  refine cR ?_
  iterate 2 refine oBox rfl rfl rfl rfl rfl rfl ?_
  refine oAlloc rfl rfl rfl rfl rfl rfl rfl ?_
  refine oA rfl rfl ?_
  refine oN ?_
  refine cR ?_
  refine oM rfl rfl ?_
  refine oQ (Q_ldw rfl rfl rfl rfl ha) rfl rfl ?_
  refine oQ (Q_ldw rfl rfl rfl rfl hb) rfl rfl ?_
  refine oQ (Q_call0 (l01Cross_con p a b hp ha hb h1 h2) rfl rfl rfl) rfl rfl ?_
  refine oM rfl rfl ?_
  iterate 2 refine oQ (Q_extract rfl rfl) rfl rfl ?_
  refine oAlloc rfl rfl rfl rfl rfl rfl rfl ?_
  first | refine oSw rfl rfl rfl rfl ?_ | refine oSa rfl rfl rfl rfl ?_
  refine oA rfl rfl ?_
  refine oN ?_
  refine cR ?_
  refine oQ (Q_ldw rfl rfl rfl rfl hnl) rfl rfl ?_
  refine oM rfl rfl ?_
  first | refine oSw rfl rfl rfl rfl ?_ | refine oSa rfl rfl rfl rfl ?_
  refine oA rfl rfl ?_
  refine oN ?_
  refine CW_ret ?_
  all_goals (
   ((refine exitQ (.inr rfl) 0 (.cons (.arr rfl rfl rfl rfl (by first | omega | (dsimp only; omega) | (simp; omega) | (simp; done))) (.cons (.tmp rfl rfl) .nil)) ?_ rfl vHn rfl rfl); rfl))
theorem l01Meet_con (p : Int) (a b : List Int) (hp : primeB p = true) (ha : a.length = 3) (hb : b.length = 3) (h1 : sm 13 a) (h2 : sm 13 b) : ConQ Try.prog [] 61 [.int p, .arr a, .arr b] [] (.tuple [.arr (normL p (crossT a b)), .bool (facP p (crossT a b) != 0)]) := by
  have hnl := crN_len p a b
  refine conW tab_ok [(0, .int p), (1, .arr a), (2, .arr b)] 0 [] [] Try.func61 rfl rfl rfl rfl rfl rfl rfl rfl rfl ?_
  refine cR ?_
  iterate 2 refine oBox rfl rfl rfl rfl rfl rfl ?_
  refine oAlloc rfl rfl rfl rfl rfl rfl rfl ?_
  refine oA rfl rfl ?_
  refine oN ?_
  refine cR ?_
  refine oM rfl rfl ?_
  refine oQ (Q_ldw rfl rfl rfl rfl ha) rfl rfl ?_
  refine oQ (Q_ldw rfl rfl rfl rfl hb) rfl rfl ?_
  refine oQ (Q_call0 (l01Cross_con p a b hp ha hb h1 h2) rfl rfl rfl) rfl rfl ?_
  refine oM rfl rfl ?_
  iterate 2 refine oQ (Q_extract rfl rfl) rfl rfl ?_
  refine oAlloc rfl rfl rfl rfl rfl rfl rfl ?_
  first | refine oSw rfl rfl rfl rfl ?_ | refine oSa rfl rfl rfl rfl ?_
  refine oA rfl rfl ?_
  refine oN ?_
  refine cR ?_
  refine oQ (Q_ldw rfl rfl rfl rfl hnl) rfl rfl ?_
  refine oM rfl rfl ?_
  first | refine oSw rfl rfl rfl rfl ?_ | refine oSa rfl rfl rfl rfl ?_
  refine oA rfl rfl ?_
  refine oN ?_
  refine CW_ret ?_
  all_goals (
   ((refine exitQ (.inr rfl) 0 (.cons (.arr rfl rfl rfl rfl (by first | omega | (dsimp only; omega) | (simp; omega) | (simp; done))) (.cons (.tmp rfl rfl) .nil)) ?_ rfl vHn rfl rfl); rfl))
theorem meet_con (p : Int) (a b : List Int) (hp : primeB p = true) (ha : a.length = 3) (hb : b.length = 3) (h1 : sm 13 a) (h2 : sm 13 b) : ConQ Try.prog [] 65 [.int p, .arr a, .arr b] [] (.arr (normL p (crossT a b))) := by
  have hnl := crN_len p a b
  refine conW tab_ok [(0, .int p), (1, .arr a), (2, .arr b)] 0 [] [] Try.func65 rfl rfl rfl rfl rfl rfl rfl rfl rfl ?_
  refine cR ?_
  iterate 2 refine oBox rfl rfl rfl rfl rfl rfl ?_
  refine oAlloc rfl rfl rfl rfl rfl rfl rfl ?_
  refine oN ?_
  refine cR ?_
  refine oM rfl rfl ?_
  refine oQ (Q_ldw rfl rfl rfl rfl ha) rfl rfl ?_
  refine oQ (Q_ldw rfl rfl rfl rfl hb) rfl rfl ?_
  refine oQ (Q_call0 (cross_con p a b hp ha hb h1 h2) rfl rfl rfl) rfl rfl ?_
  first | refine oSw rfl rfl rfl rfl ?_ | refine oSa rfl rfl rfl rfl ?_
  refine oN ?_
  refine CW_ret ?_
  all_goals (
   ((refine exitQ (.inr rfl) 0 (.cons (.arr rfl rfl rfl rfl (by first | omega | (dsimp only; omega) | (simp; omega) | (simp; done))) .nil) ?_ rfl vHn rfl rfl); rfl))
end Go.Proofs.Ytoiolpgmilobnaa
namespace Go.Proofs.Ytoiolpgmilobnaa
set_option maxRecDepth 10000
set_option linter.unusedSimpArgs false
set_option linter.unusedVariables false
set_option linter.unusedSectionVars false
open Lean.Grind
theorem rk_ex {p : Int} (hp : primeB p = true) {M : Nat → List Int} {m w : Nat} (hM : ∀ i, i < m → rwB p w (M i)) : ∃ r, rkP p M m w r := by
  have hb := prime_bd hp
  have hp0 : 0 < p := by omega
  have key : ∀ i, i ≤ m → ∃ (E : Nat → List Int) (r : Nat) (P : Nat → Nat), (∀ k, k < r → rwB p w (E k)) ∧ EcI p M i w E r P := by
    intro i
    induction i with
    | zero => exact fun _ => ⟨fun _ => [], 0, fun _ => 0, fun k hk => absurd hk (Nat.not_lt_zero _), EcI_start p M w _ _⟩
    | succ i ih =>
      intro hi
      obtain ⟨E, r, P, h1, h2⟩ := ih (by omega)
      by_cases hl : ldI (rdc p E P w (M i) r) < 0
      · exact ⟨E, r, P, h1, EcI_skip hp h2 (hM i (by omega)) h1 hl⟩
      · obtain ⟨a1, a2, a3⟩ := ldI_at hl
        have hB := rdc_B (E := E) (P := P) hp0 (hM i (by omega)) r
        rw [hB.1] at a1
        refine ⟨fun k => if k < r then lsL p (E k) (normL p (rdc p E P w (M i) r)) ((E k).getD (ldI (rdc p E P w (M i) r)).toNat 0) w else normL p (rdc p E P w (M i) r), r + 1, _, fun k hk => ?_, EcI_put hp h2 (hM i (by omega)) h1 (Nat.le_refl r) a1 a2 a3 (fun k hk => if_pos hk) (if_neg (Nat.lt_irrefl r)) (fun k h1 h2 => absurd h1 (by omega))⟩
        dsimp only
        split
        · exact rwB_ls hp0 _ _ _ _
        · exact rwB_no hp0 hB
  obtain ⟨E, r, P, _, h⟩ := key m (Nat.le_refl m)
  exact ⟨r, fun n _ hn hF => ⟨_, P, (h n hn hF).1, (h n hn hF).2⟩⟩
theorem rk_spec {p : Int} (hp : primeB p = true) {M : Nat → List Int} {m w : Nat} (hM : ∀ i, i < m → rwB p w (M i)) : rkP p M m w (rkI p M m w) := by
  obtain ⟨r, h⟩ := rk_ex hp hM
  rw [rk_eq hp h]; exact h
section
variable {F : Type} [CommRing F]
theorem null_ex (h1 : (1 : F) ≠ 0) {E : Nat → Nat → F} {r w : Nat} {P : Nat → Nat} (h : Ech E r w P) (hr : r < w) : ∃ x, NullV E r w x ∧ ∃ j, j < w ∧ x j ≠ 0 := by
  apply Classical.byContradiction
  intro hn
  have hx : ∀ x, NullV E r w x → ∀ j, j < w → x j = 0 := fun x hx j hj => Classical.byContradiction fun e => hn ⟨x, hx, j, hj, e⟩
  have hex : ∀ c, ∃ i, c < w → i < r ∧ P i = c := fun c => by
    by_cases hc : c < w
    · obtain ⟨i, hi, e⟩ := (ech_piv h1 h hc).2 (fun x g _ => hx x g c hc)
      exact ⟨i, fun _ => ⟨hi, e⟩⟩
    · exact ⟨0, fun g => absurd g hc⟩
  have := pigeon w r (fun c => Classical.choose (hex c)) (fun c hc => (Classical.choose_spec (hex c) hc).1) (fun c d hc hd e => by
    rw [← (Classical.choose_spec (hex c) hc).2, ← (Classical.choose_spec (hex d) hd).2]; exact congrArg P e)
  omega
theorem ech_w (h1 : (1 : F) ≠ 0) {E : Nat → Nat → F} {r w : Nat} {P : Nat → Nat} (h : Ech E r w P) : r ≤ w :=
  pigeon r w P h.lt (fun i j hi hj e => ech_inj h1 h hi hj e)
end
theorem rk_le {p : Int} (hp : primeB p = true) {M : Nat → List Int} {m w : Nat} (hM : ∀ i, i < m → rwB p w (M i)) : rkI p M m w ≤ w := by
  obtain ⟨n, _, e, hF, _⟩ := fld_of hp
  obtain ⟨E, P, h, _⟩ := rk_spec hp hM n e hF
  exact ech_w hF.1 h
/-! ### conics -/
def mR (p : Int) (c : List Int) : Nat → List Int := fun i => ((matV p c).drop (i * 3)).take 3
theorem mR_B {p : Int} (hp : primeB p = true) {c : List Int} (hc6 : c.length = 6) : ∀ i, i < 3 → rwB p 3 (mR p c i) := by
  have hb := prime_bd hp
  match c, hc6 with
  | [a, b, c', d, e, f], _ =>
    have hm : ∀ x : Int, 0 ≤ x % p ∧ x % p < p := fun x => ⟨Int.emod_nonneg _ (by omega), Int.emod_lt_of_pos _ (by omega)⟩
    intro i hi
    have : i = 0 ∨ i = 1 ∨ i = 2 := by omega
    rcases this with rfl | rfl | rfl
    all_goals refine ⟨rfl, fun j => ?_⟩
    all_goals (have hj : j = 0 ∨ j = 1 ∨ j = 2 ∨ 3 ≤ j := by omega)
    all_goals rcases hj with rfl | rfl | rfl | hj
    all_goals first | exact hm _ | (have e : ∀ u v w : Int, ([u, v, w] : List Int).getD j 0 = 0 := fun u v w => by simp [List.getD, hj]
                                    show 0 ≤ ([_, _, _] : List Int).getD j 0 ∧ ([_, _, _] : List Int).getD j 0 < p
                                    rw [e]; omega)
def ptsQ (p : Int) (c : List Int) : List (List Int) := (allPts p).filter fun m => conV p c m == 0
noncomputable def kdV (p : Int) (c : List Int) : Int := if rkI p (mR p c) 3 3 = 3 then 0 else if rkI p (mR p c) 3 3 = 2 then (if 1 < (ptsQ p c).length then 1 else 2) else 3
section
variable {F : Type} [CommRing F]
theorem sing_alg {t A B C D G H X Y Z s : F} (ht : t = 1 + 1) (r0 : 0 + t * A * X + D * Y + G * Z = 0) (r1 : 0 + D * X + t * B * Y + H * Z = 0) (r2 : 0 + G * X + H * Y + t * C * Z = 0) : t * (A * (X * s * (X * s)) + B * (Y * s * (Y * s)) + C * (Z * s * (Z * s)) + D * (X * s * (Y * s)) + G * (X * s * (Z * s)) + H * (Y * s * (Z * s))) = 0 := by
  have e : t * (A * (X * s * (X * s)) + B * (Y * s * (Y * s)) + C * (Z * s * (Z * s)) + D * (X * s * (Y * s)) + G * (X * s * (Z * s)) + H * (Y * s * (Z * s))) = s * s * (X * (0 + t * A * X + D * Y + G * Z) + Y * (0 + D * X + t * B * Y + H * Z) + Z * (0 + G * X + H * Y + t * C * Z)) := by subst ht; grind
  rw [e, r0, r1, r2]; grind
end
theorem con_eq (p a b c d e f x y z : Int) : conV p [a, b, c, d, e, f] [x, y, z] = (a * (x * x) + b * (y * y) + c * (z * z) + d * (x * y) + e * (x * z) + f * (y * z)) % p := by
  simp [conV, dotT, pw]
/-- a conic whose matrix is not of rank 3 has a point -/
theorem sing_pt {p : Int} (hp : primeB p = true) {c : List Int} (hc6 : c.length = 6) (hr : rkI p (mR p c) 3 3 < 3) : 0 < (ptsQ p c).length := by
  have hb := prime_bd hp
  obtain ⟨n, _, en, hF, hk⟩ := fld_of hp
  obtain ⟨E, P, hE, hN⟩ := rk_spec hp (mR_B hp hc6) n en hF
  obtain ⟨x, hx, j, hj, hne⟩ := null_ex hF.1 hE hr
  have hx' := (hN x).2 hx
  obtain ⟨k0, e0⟩ := hk (x 0)
  obtain ⟨k1, e1⟩ := hk (x 1)
  obtain ⟨k2, e2⟩ := hk (x 2)
  have hfz : facP p [(k0 : Int), (k1 : Int), (k2 : Int)] ≠ 0 := fun e => by
    have h := fnz_all.1 ((fac_zero hp _).1 e)
    have g0 := h k0 (by simp)
    have g1 := h k1 (by simp)
    have g2 := h k2 (by simp)
    rw [en] at g0 g1 g2
    have : j = 0 ∨ j = 1 ∨ j = 2 := by omega
    rcases this with rfl | rfl | rfl
    · exact hne (by rw [← e0]; exact (ic_z n).2 g0)
    · exact hne (by rw [← e1]; exact (ic_z n).2 g1)
    · exact hne (by rw [← e2]; exact (ic_z n).2 g2)
  have hz : conV p c (normL p [(k0 : Int), (k1 : Int), (k2 : Int)]) = 0 := by
    generalize hf : facP p [(k0 : Int), (k1 : Int), (k2 : Int)] = fa
    have hn : normL p [(k0 : Int), (k1 : Int), (k2 : Int)] = [k0 % p * fa % p, k1 % p * fa % p, k2 % p * fa % p] := by unfold normL; rw [hf]; rfl
    rw [hn]
    match c, hc6 with
    | [a, b, c', d, e, f], _ =>
      rw [con_eq]
      have r0 := hx' 0 (by omega)
      have r1 := hx' 1 (by omega)
      have r2 := hx' 2 (by omega)
      change (0 + (ic (2 * a % p) : Fin n) * x 0 + ic (d % p) * x 1 + ic (e % p) * x 2) = 0 at r0
      change (0 + (ic (d % p) : Fin n) * x 0 + ic (2 * b % p) * x 1 + ic (f % p) * x 2) = 0 at r1
      change (0 + (ic (e % p) : Fin n) * x 0 + ic (f % p) * x 1 + ic (2 * c' % p) * x 2) = 0 at r2
      rw [en] at r0 r1 r2 ⊢
      simp only [ic_mod n, ic_mul] at r0 r1 r2
      refine (ic_z (R := Fin n) n).1 ?_
      simp only [ic_add, ic_mul, ic_mod n, e0, e1, e2]
      have h2 : (ic 2 : Fin n) ≠ 0 := fun h => by
        have := (ic_z n).1 h
        rw [← en, Int.emod_eq_of_lt (by omega) (by omega)] at this
        omega
      have h2' : (ic 2 : Fin n) = 1 + 1 := by
        show (ic (1 + 1) : Fin n) = 1 + 1
        rw [ic_add, ic_one]
      have := sing_alg (s := ic fa) h2' r0 r1 r2
      exact (hF.2.1 _ _ this).resolve_left h2
  have hm : normL p [(k0 : Int), (k1 : Int), (k2 : Int)] ∈ ptsQ p c := by
    unfold ptsQ
    rw [List.mem_filter]
    exact ⟨norm_mem hp rfl hfz, by rw [hz]; rfl⟩
  exact List.length_pos_of_mem hm
theorem rk_pos {p : Int} (hp : primeB p = true) {c : List Int} (hc6 : c.length = 6) (hc : pointB p c = true) : rkI p (mR p c) 3 3 ≠ 0 := by
  intro h0
  obtain ⟨n, _, en, hF, _⟩ := fld_of hp
  obtain ⟨E, P, hE, hN⟩ := rk_spec hp (mR_B hp hc6) n en hF
  rw [h0] at hN
  have hz : ∀ i j, i < 3 → j < 3 → (mR p c i).getD j 0 = 0 := fun i j hi hj => by
    have := (hN (dl j)).2 (fun k hk => absurd hk (Nat.not_lt_zero _)) i hi
    rw [dt_dl _ hj] at this
    have b := (mR_B hp hc6 i hi).2 j
    exact ic_small b.1 (by omega) this
  match c, hc6 with
  | [a, b, c', d, e, f], _ =>
    have z0 : 2 * a % p = 0 := hz 0 0 (by omega) (by omega)
    have z1 : d % p = 0 := hz 0 1 (by omega) (by omega)
    have z2 : e % p = 0 := hz 0 2 (by omega) (by omega)
    have z3 : 2 * b % p = 0 := hz 1 1 (by omega) (by omega)
    have z4 : f % p = 0 := hz 1 2 (by omega) (by omega)
    have z5 : 2 * c' % p = 0 := hz 2 2 (by omega) (by omega)
    simp only [pointB, normB, modB, List.all_cons, List.all_nil, Bool.and_true, Bool.and_eq_true, decide_eq_true_eq, beq_iff_eq] at hc
    obtain ⟨_, ⟨⟨a1, a2⟩, ⟨b1, b2⟩, ⟨c1, c2⟩, ⟨d1, d2⟩, ⟨e1, e2⟩, ⟨f1, f2⟩⟩, hfz⟩ := hc
    have ea : a = 0 ∧ b = 0 ∧ c' = 0 ∧ d = 0 ∧ e = 0 ∧ f = 0 := by
      rcases prime_cases hp with rfl | rfl | rfl | rfl | rfl <;> omega
    obtain ⟨rfl, rfl, rfl, rfl, rfl, rfl⟩ := ea
    simp [fnz] at hfz
/-- the reference's road to the kind -/
theorem kd_ref {p : Int} (hp : primeB p = true) {c : List Int} (hc6 : c.length = 6) (hc : pointB p c = true) : kdV p c = if rkI p (mR p c) 3 3 = 3 then 0 else if rkI p (mR p c) 3 3 = 1 then 3 else if (ptsQ p c).length = 1 then 2 else 1 := by
  have h1 := rk_le hp (mR_B hp hc6)
  have h2 := rk_pos hp hc6 hc
  have h3 := sing_pt hp hc6
  unfold kdV
  generalize rkI p (mR p c) 3 3 = r at *
  have : r = 1 ∨ r = 2 ∨ r = 3 := by omega
  rcases this with rfl | rfl | rfl
  · simp
  · have := h3 (by omega)
    simp only [show ¬ (2 : Nat) = 3 by decide, show ¬ (2 : Nat) = 1 by decide, if_false, if_true]
    by_cases e : (ptsQ p c).length = 1
    · rw [if_pos e, if_neg (by omega)]
    · rw [if_neg e, if_pos (by omega)]
  · simp
end Go.Proofs.Ytoiolpgmilobnaa
namespace Go.Proofs.Ytoiolpgmilobnaa
set_option maxRecDepth 10000
set_option linter.unusedSimpArgs false
set_option linter.unusedVariables false
theorem matV_B {p : Int} (hp : primeB p = true) {c : List Int} (hc6 : c.length = 6) : ∀ j, 0 ≤ (matV p c).getD j 0 ∧ (matV p c).getD j 0 < p := by
  have hb := prime_bd hp
  have hl := matV_length (p := p) hc6
  intro j
  by_cases hj : j < 9
  · have h := (mR_B hp hc6 (j / 3) (by omega)).2 (j % 3)
    have e : (mR p c (j / 3)).getD (j % 3) 0 = (matV p c).getD j 0 := by
      unfold mR
      have : j / 3 * 3 + j % 3 = j := by omega
      have h3 : j % 3 < 3 := by omega
      simp only [List.getD, List.getElem?_take, List.getElem?_drop, h3, if_true, this]
    rw [e] at h; exact h
  · have : (matV p c).getD j 0 = 0 := by simp [List.getD, show (matV p c).length ≤ j by omega]
    rw [this]; omega
attribute [local irreducible] CW OW QW QOp Con thenP inBlockP AW QX RW AX
theorem kind_con (p : Int) (c : List Int) (hp : primeB p = true) (hc6 : c.length = 6) (h1 : sm 13 c) : ConQ Try.prog [] 42 [.arr c, .int p] [] (.int (kdV p c)) := by
  have hml := matV_length (p := p) hc6
  refine conW tab_ok [(0, .arr c), (1, .int p)] 0 [] [] Try.func42 rfl rfl rfl rfl rfl rfl rfl rfl rfl ?_
  refine cR ?_
  refine oBox rfl rfl rfl rfl rfl rfl ?_
  refine oA rfl rfl ?_
  refine oN ?_
  refine cR ?_
  refine oQ (Q_ldw rfl rfl rfl rfl hc6) rfl rfl ?_
  refine oM rfl rfl ?_
  refine oQ (Q_call0 (matrix_con p c hp hc6 h1) rfl rfl rfl) rfl rfl ?_
  refine oAlloc rfl rfl rfl rfl rfl rfl rfl ?_
  first | refine oSw rfl rfl rfl rfl ?_ | refine oSa rfl rfl rfl rfl ?_
  refine oN ?_
  iterate 2 refine CW_seq ?_
  refine CW_any (fun _ => false) 10 rfl lateOk (by decide +kernel) (fun hst => ?_)
  refine aP 0 hst rfl rfl (by decide +kernel) (PX_move rfl rfl) rfl rfl ?_
  first | refine aQ 1 hst rfl rfl (by decide +kernel) (QX_of (Q_ixa0z 3 rfl rfl rfl rfl rfl rfl (by first | omega | (dsimp only; omega) | (simp; omega) | (simp; done))) NE_ix) rfl rfl ?_ | refine aQ 1 hst rfl rfl (by decide +kernel) (QX_of (Q_ixaz 3 rfl rfl rfl rfl rfl rfl (by first | omega | (dsimp only; omega) | (simp; omega) | (simp; done))) NE_ix) rfl rfl ?_
  refine aQ 2 hst rfl rfl (by decide +kernel) (QX_of (Q_slaF rfl rfl rfl rfl) NE_slice) rfl rfl ?_
  first | refine aQ 3 hst rfl rfl (by decide +kernel) (QX_of (Q_ixa0z 3 rfl rfl rfl rfl rfl rfl (by first | omega | (dsimp only; omega) | (simp; omega) | (simp; done))) NE_ix) rfl rfl ?_ | refine aQ 3 hst rfl rfl (by decide +kernel) (QX_of (Q_ixaz 3 rfl rfl rfl rfl rfl rfl (by first | omega | (dsimp only; omega) | (simp; omega) | (simp; done))) NE_ix) rfl rfl ?_
  refine aQ 4 hst rfl rfl (by decide +kernel) (QX_of (Q_slaF rfl rfl rfl rfl) NE_slice) rfl rfl ?_
  first | refine aQ 5 hst rfl rfl (by decide +kernel) (QX_of (Q_ixa0z 3 rfl rfl rfl rfl rfl rfl (by first | omega | (dsimp only; omega) | (simp; omega) | (simp; done))) NE_ix) rfl rfl ?_ | refine aQ 5 hst rfl rfl (by decide +kernel) (QX_of (Q_ixaz 3 rfl rfl rfl rfl rfl rfl (by first | omega | (dsimp only; omega) | (simp; omega) | (simp; done))) NE_ix) rfl rfl ?_
  refine aQ 6 hst rfl rfl (by decide +kernel) (QX_of (Q_slaF rfl rfl rfl rfl) NE_slice) rfl rfl ?_
  refine AW_one (i := 7) (by decide +kernel) ?_
  refine gBslv rfl rfl rfl rfl rfl rfl rfl rfl rfl rfl rfl rfl rfl rfl rfl ?_
  refine AW_one (i := 8) (by decide +kernel) ?_
  refine gCall rfl rfl (reduced33_con p 64 (matV p c) 3 3 3 3 hml hp (matV_B hp hc6)) [(0, 2), (1, 1)] 6 rfl rfl (Fits.mk' (vHc rfl (vHc rfl vHn)) rfl rfl (by simp)) rfl rfl rfl ?_
  rintro r H1 ⟨kO, A, K, S, rfl, hA, _, rfl⟩
  refine ⟨.slice 8 0 (rkI p (mR p c) 3 3) kO, [(2, .vals 103 [.slice 1 0 3 3, .slice 1 3 3 3, .slice 1 6 3 3]), (1, .ints 64 (matV p c)), (5, .ints 2 (A 0 ++ S 0)), (6, .ints 2 (A 1 ++ S 1)), (7, .ints 2 (A 2 ++ S 2)), (8, .vals 103 ([.slice 5 0 3 (K 0), .slice 6 0 3 (K 1), .slice 7 0 3 (K 2)] ++ List.replicate (kO - 3) .bot))], (by simp only [scM, List.all_cons, List.all_nil, ids_bots]; rfl), keep_pre _ _, rfl, (by simp only [List.map_cons, List.map_nil, ren_bots]; rfl), ?_⟩
  first | refine aQ 9 hst rfl rfl (by decide +kernel) (QX_of (Q_len rfl rfl rfl rfl) NE_len) rfl rfl ?_ | refine aQ 9 hst rfl rfl (by decide +kernel) (QX_of (Q_len0 rfl rfl rfl rfl) NE_len) rfl rfl ?_
  refine AW_done (by decide +kernel) ?_
  all_goals with_reducible refine tN ?_
  all_goals (
   refine CW_block ?_
   refine cR ?_
   refine oQ (Q_bin rfl rfl rfl) rfl rfl ?_
   refine oA rfl rfl ?_
   refine oN ?_
   first | refine cT rfl ?_ | refine cF rfl ?_ | refine CW_cond rfl (fun hc => ?_) (fun hc => ?_)
   all_goals try simp only [s1, s2, s3, s4, s5, s6, s7, s8, s9, s10, s11, s12] at hc
   all_goals first
     | (
      refine cR ?_
      refine oA rfl rfl ?_
      refine oN ?_
      refine CW_ret ?_)
     | (
      refine cR ?_
      refine oQ (Q_bin rfl rfl rfl) rfl rfl ?_
      refine oA rfl rfl ?_
      refine oN ?_
      first | refine cT rfl ?_ | refine cF rfl ?_ | refine CW_cond rfl (fun hc => ?_) (fun hc => ?_)
      all_goals try simp only [s1, s2, s3, s4, s5, s6, s7, s8, s9, s10, s11, s12] at hc
      all_goals first
        | (
         refine CW_skip ?_)
        | (
         refine CW_seq ?_
         refine cR ?_
         refine oQ (Q_ldw rfl rfl rfl rfl hc6) rfl rfl ?_
         refine oM rfl rfl ?_
         refine oCall (cpoints_con c p hp hc6 h1) [] 1 rfl rfl (Fits.mk' vHn rfl rfl (by first | (simp; done) | exact glOk rfl rfl rfl)) rfl rfl ?_
         rintro r H1 ⟨k, sp, hk, hsp, rfl, rfl⟩
         refine ⟨.slice 9 0 (ptsQ p c).length k, [(9, .ints 32 ((ptsQ p c).flatten ++ sp))], rfl, rfl, rfl, ?_⟩
         first | refine oQ (Q_len rfl rfl rfl rfl) rfl rfl ?_ | refine oQ (Q_len0 rfl rfl rfl rfl) rfl rfl ?_
         refine oQ (Q_bin rfl rfl rfl) rfl rfl ?_
         refine oN ?_
         first | refine cT rfl ?_ | refine cF rfl ?_ | refine CW_cond rfl (fun hc => ?_) (fun hc => ?_)
         all_goals try simp only [s1, s2, s3, s4, s5, s6, s7, s8, s9, s10, s11, s12] at hc
         all_goals first
           | (
            refine CW_skip ?_)
           | (
            refine cR ?_
            refine oA rfl rfl ?_
            refine oN ?_
            refine CW_ret ?_)
         all_goals first
           | with_reducible refine tR ?_
           | with_reducible refine tE ?_
           | (
            with_reducible refine tN ?_
            refine cR ?_
            refine oA rfl rfl ?_
            refine oN ?_
            refine CW_ret ?_)))
   all_goals first | with_reducible refine bN ?_ | with_reducible refine bE ?_ | with_reducible refine bR ?_ | refine bX rfl ?_)
  all_goals first
    | with_reducible refine tR ?_
    | with_reducible refine tE ?_
    | (
     with_reducible refine tN ?_
     refine cR ?_
     refine oA rfl rfl ?_
     refine oN ?_
     refine CW_ret ?_)
  all_goals (
   refine exitQ (.inr rfl) 0 (.cons (.tmp rfl rfl) .nil) ?_ rfl vHn rfl rfl
   refine congrArg V.int ?_
   unfold kdV
   first
     | (rw [if_pos (by omega)]; done)
     | (rw [if_neg (by omega), if_pos (by omega), if_pos (by omega)]; done)
     | (rw [if_neg (by omega), if_pos (by omega), if_neg (by omega)]; done)
     | (rw [if_neg (by omega), if_neg (by omega)]; done))
theorem l03Kind_con (p : Int) (c : List Int) (hp : primeB p = true) (hc6 : c.length = 6) (hpt : pointB p c = true) : ConQ Try.prog [] 40 [.int p, .arr c] [] (.int (kdV p c)) := by
  have h1 := pointB_mod hpt
  have hec := echelon33_con p (mR p c) 3 3 3 3 hp (mR_B hp hc6)
  rw [kd_ref hp hc6 hpt]
  refine conW tab_ok [(0, .int p), (1, .arr c)] 0 [] [] Try.func40 rfl rfl rfl rfl rfl rfl rfl rfl rfl ?_
  refine cR ?_
  refine oBox rfl rfl rfl rfl rfl rfl ?_
  refine oA rfl rfl ?_
  refine oN ?_
  refine CW_seq ?_
  refine cR ?_
  iterate 2 refine oM rfl rfl ?_
  refine oQ (Q_ldw rfl rfl rfl rfl hc6) rfl rfl ?_
  refine oCall (l03Rows_con p c hp hc6 h1) [] 4 rfl rfl (Fits.mk' vHn rfl rfl (by simp)) rfl rfl ?_
  rintro r H1 ⟨rfl, rfl⟩
  refine ⟨.slice 4 0 3 3, [(1, .ints 2 (mR p c 0)), (2, .ints 2 (mR p c 1)), (3, .ints 2 (mR p c 2)), (4, .vals 103 [.slice 1 0 3 3, .slice 2 0 3 3, .slice 3 0 3 3])], rfl, rfl, rfl, ?_⟩
  refine oCall hec [(0, 4), (1, 1), (2, 2), (3, 3)] 5 rfl rfl (Fits.mk' (vHc rfl (vHc rfl (vHc rfl (vHc rfl vHn)))) rfl rfl (by simp)) rfl rfl ?_
  rintro r H1 ⟨kO, rfl, rfl⟩
  refine ⟨.slice 9 0 (rkI p (mR p c) 3 3) kO, [(4, .vals 103 [.slice 1 0 3 3, .slice 2 0 3 3, .slice 3 0 3 3]), (1, .ints 2 (mR p c 0)), (2, .ints 2 (mR p c 1)), (3, .ints 2 (mR p c 2))], rfl, rfl, rfl, ?_⟩
  first | refine oQ (Q_len rfl rfl rfl rfl) rfl rfl ?_ | refine oQ (Q_len0 rfl rfl rfl rfl) rfl rfl ?_
  refine oA rfl rfl ?_
  refine oN ?_
  refine CW_block ?_
  refine cR ?_
  refine oM rfl rfl ?_
  refine oQ (Q_bin rfl rfl rfl) rfl rfl ?_
  refine oA rfl rfl ?_
  refine oN ?_
  first | refine cT rfl ?_ | refine cF rfl ?_ | refine CW_cond rfl (fun hc => ?_) (fun hc => ?_)
  all_goals try simp only [s1, s2, s3, s4, s5, s6, s7, s8, s9, s10, s11, s12] at hc
  all_goals first
    | (
     refine cR ?_
     refine oA rfl rfl ?_
     refine oN ?_
     refine CW_ret ?_)
    | (
     refine cR ?_
     refine oM rfl rfl ?_
     refine oQ (Q_bin rfl rfl rfl) rfl rfl ?_
     refine oA rfl rfl ?_
     refine oN ?_
     first | refine cT rfl ?_ | refine cF rfl ?_ | refine CW_cond rfl (fun hc => ?_) (fun hc => ?_)
     all_goals try simp only [s1, s2, s3, s4, s5, s6, s7, s8, s9, s10, s11, s12] at hc
     all_goals first
       | (
        refine cR ?_
        refine oA rfl rfl ?_
        refine oN ?_
        refine CW_ret ?_)
       | (
        refine cR ?_
        refine oM rfl rfl ?_
        refine oQ (Q_ldw rfl rfl rfl rfl hc6) rfl rfl ?_
        refine oCall (l03Points_con p c hp hc6 h1) [] 1 rfl rfl (Fits.mk' vHn rfl rfl (by first | (simp; done) | exact glOk rfl rfl rfl)) rfl rfl ?_
        rintro r H1 ⟨k, sp, hk, hsp, rfl, rfl⟩
        refine ⟨.slice 10 0 (ptsQ p c).length k, [(10, .ints 32 ((ptsQ p c).flatten ++ sp))], rfl, rfl, rfl, ?_⟩
        first | refine oQ (Q_len rfl rfl rfl rfl) rfl rfl ?_ | refine oQ (Q_len0 rfl rfl rfl rfl) rfl rfl ?_
        refine oQ (Q_bin rfl rfl rfl) rfl rfl ?_
        refine oA rfl rfl ?_
        refine oN ?_
        first | refine cT rfl ?_ | refine cF rfl ?_ | refine CW_cond rfl (fun hc => ?_) (fun hc => ?_)
        all_goals try simp only [s1, s2, s3, s4, s5, s6, s7, s8, s9, s10, s11, s12] at hc
        all_goals first
          | (
           refine CW_skip ?_)
          | (
           refine cR ?_
           refine oA rfl rfl ?_
           refine oN ?_
           refine CW_ret ?_)))
  all_goals first | with_reducible refine bN ?_ | with_reducible refine bE ?_ | with_reducible refine bR ?_ | refine bX rfl ?_
  all_goals first
    | with_reducible refine tR ?_
    | with_reducible refine tE ?_
    | (
     with_reducible refine tN ?_
     refine cR ?_
     refine oA rfl rfl ?_
     refine oN ?_
     refine CW_ret ?_)
  all_goals (
   refine exitQ (.inr rfl) 0 (.cons (.tmp rfl rfl) .nil) ?_ rfl vHn rfl rfl
   refine congrArg V.int ?_
   first
     | (rw [if_pos (by omega)]; done)
     | (rw [if_neg (by omega), if_pos (by omega)]; done)
     | (rw [if_neg (by omega), if_neg (by omega), if_pos (by omega)]; done)
     | (rw [if_neg (by omega), if_neg (by omega), if_neg (by omega)]; done))
end Go.Proofs.Ytoiolpgmilobnaa
namespace Go.Proofs.Ytoiolpgmilobnaa
attribute [local irreducible] CW OW QW QOp Con thenP inBlockP
set_option maxRecDepth 10000
set_option linter.unusedSimpArgs false
set_option linter.unusedVariables false
def chunk (M : List Int) (n : Nat) : List (List Int) := (List.range n).map (elemAt 3 M)
theorem chunk_split {M : List Int} : ∀ {n : Nat}, n * 3 ≤ M.length → M = (chunk M n).flatten ++ M.drop (n * 3)
  | 0, _ => by simp [chunk]
  | n + 1, h => by
    have ih := chunk_split (M := M) (n := n) (by omega)
    have e : chunk M (n + 1) = chunk M n ++ [elemAt 3 M n] := by simp [chunk, List.range_succ]
    rw [e, List.flatten_append, List.append_assoc]
    have e2 : [elemAt 3 M n].flatten ++ M.drop ((n + 1) * 3) = M.drop (n * 3) := by
      have e3 : (n + 1) * 3 = n * 3 + 3 := by omega
      rw [e3, ← List.drop_drop]
      simp only [List.flatten_cons, List.flatten_nil, List.append_nil, elemAt]
      exact List.take_append_drop 3 _
    rw [e2]
    exact ih
theorem chunk_length (M : List Int) (n : Nat) : (chunk M n).length = n := by simp [chunk]
theorem chunk_three {M : List Int} {n : Nat} (h : n * 3 ≤ M.length) : ∀ x ∈ chunk M n, x.length = 3 := by
  intro x hx
  obtain ⟨i, hi, rfl⟩ := List.mem_map.1 hx
  have : i < n := by simpa using hi
  simp only [elemAt, List.length_take, List.length_drop]
  omega
end Go.Proofs.Ytoiolpgmilobnaa
namespace Go.Proofs.Ytoiolpgmilobnaa
set_option maxRecDepth 10000
set_option linter.unusedSimpArgs false
set_option linter.unusedVariables false
attribute [local irreducible] CW OW QW QOp Con thenP inBlockP AW QX RW
theorem indexP_con (L : List (List Int)) (sp : List Int) (k : Nat) (h3 : ∀ x ∈ L, x.length = 3) (a : List Int) (ha : a.length = 3) (hn9 : L.length ≤ 1000000000) : ConQ Try.prog [] 134 [.slice 0 0 L.length k, .arr a] [(0, .ints 32 (L.flatten ++ sp))] (.int (idxL (fun x => decide (a = x)) L)) := by
  have hf3 := flat3 h3
  have h3i : ∀ i, i < L.length → (L.getD i []).length = 3 := fun i hi => h3 _ (getD_mem hi)
  refine conW tab_ok [(0, .slice 0 0 L.length k), (1, .arr a)] 1 [0] [0] Try.func134 rfl rfl rfl rfl rfl rfl rfl rfl rfl ?_
  refine cR ?_
  refine oBox rfl rfl rfl rfl rfl rfl ?_
  refine oA rfl rfl ?_
  refine oN ?_
  refine CW_seq ?_
  refine cR ?_
  refine oM rfl rfl ?_
  first | refine oQ (Q_len rfl rfl rfl rfl) rfl rfl ?_ | refine oQ (Q_len0 rfl rfl rfl rfl) rfl rfl ?_
  refine oM rfl rfl ?_
  refine oN ?_
  refine CW_block ?_
  refine CW_loop (ι := Nat) (fun i => i ≤ L.length ∧ ∀ j, j < i → (fun x => decide (a = x)) ((L).getD j []) = false) (fun i => ⟨[(0, .slice 0 0 L.length k), (3, .ptr 1 0), (7, .int (L.length : Nat)), (8, .int (i : Nat))], [(0, .ints 32 (L.flatten ++ sp)), (1, .ints 32 a)], 2⟩) (fun i => L.length - i) 0 ?_ ?_ ?_
  · exact ⟨Nat.zero_le _, fun i h => absurd h (Nat.not_lt_zero _)⟩
  · refine View.mk' [] rfl rfl rfl ?_ ?_
    repeat' first | exact vFn | refine vFc rfl ?_ | exact vHn | refine vHc rfl ?_ | refine vFc (congrArg (fun z => some (V.int z)) ?_) ?_ | refine vHc (congrArg (fun z => some (Blk.ints _ z)) ?_) ?_ | refine vFc (congrArg (fun z => some (V.bool z)) ?_) ?_ | refine vFs rfl rfl ?_ ?_
  rintro i ⟨hi, hi2⟩
  refine cR ?_
  refine oQ (Q_bin rfl rfl rfl) rfl rfl ?_
  refine oN ?_
  refine CW_seq ?_
  first | refine cT rfl ?_ | refine cF rfl ?_ | refine CW_cond rfl (fun hc => ?_) (fun hc => ?_)
  all_goals try simp only [s1, s2, s3, s4, s5, s6, s7, s8, s9, s10, s11, s12] at hc
  all_goals first
    | (
     refine CW_skip ?_)
    | (
     refine CW_exit ?_)
  all_goals first
    | with_reducible refine tR ?_
    | with_reducible refine tE ?_
    | (
     with_reducible refine tN ?_
     refine CW_seq ?_
     refine CW_block ?_
     refine cR ?_
     refine oM rfl rfl ?_
     refine oA rfl rfl ?_
     refine oN ?_
     refine CW_seq ?_
     refine CW_draw lateOk (by decide +kernel) ?_
     refine qQ (Q_ldw rfl rfl rfl rfl ha) rfl rfl ?_
     iterate 2 refine qM rfl rfl ?_
     (have h3i_ := h3i i (by omega)); refine qQ (Q_ixs0z 3 rfl rfl rfl rfl rfl rfl (by omega)) rfl rfl ?_
     refine qQ (Q_lda (n := 3) rfl rfl rfl rfl rfl (by rw [List.length_append, hf3]; omega)) rfl rfl ?_; rw [flat_get h3 (show i < L.length by omega)]
     refine qQ (Q_arrb rfl rfl rfl rfl rfl rfl rfl rfl rfl ha h3i_) rfl rfl ?_
     refine QW_nil ?_
     all_goals with_reducible refine tN ?_
     all_goals (
      first | refine cT rfl ?_ | refine cF rfl ?_ | refine CW_cond rfl (fun hc => ?_) (fun hc => ?_)
      all_goals try simp only [s1, s2, s3, s4, s5, s6, s7, s8, s9, s10, s11, s12] at hc
      all_goals first
        | (
         refine CW_skip ?_)
        | (
         refine cR ?_
         refine oM rfl rfl ?_
         refine oA rfl rfl ?_
         refine oN ?_
         refine CW_ret ?_))
     all_goals first | with_reducible refine bN ?_ | with_reducible refine bE ?_ | with_reducible refine bR ?_ | refine bX rfl ?_
     all_goals first
       | with_reducible refine tR ?_
       | with_reducible refine tE ?_
       | (
        with_reducible refine tN ?_
        refine CW_region ?_
        first | refine oQ (Q_binu rfl rfl rfl (by omega)) rfl rfl ?_ | refine oQ (Q_bin rfl rfl rfl) rfl rfl ?_
        refine oM rfl rfl ?_
        refine OW_nil ?_))
  all_goals first
    | with_reducible refine tR ?_
    | with_reducible refine tE ?_
    | (
     with_reducible refine tN ?_
     refine ⟨i + 1, ?_, ?_, View.mk' [] rfl rfl rfl ?_ ?_⟩
     · refine ⟨by omega, fun j hj => ?_⟩
       by_cases e : j = i
       · subst e; exact decide_eq_false hc
       · exact hi2 j (by omega)
     · omega
     all_goals (repeat' first | exact vFn | refine vFc rfl ?_ | exact vHn | refine vHc rfl ?_ | refine vFc (congrArg (fun z => some (V.int z)) ?_) ?_ | refine vHc (congrArg (fun z => some (Blk.ints _ z)) ?_) ?_ | refine vFc (congrArg (fun z => some (V.bool z)) ?_) ?_ | refine vFs rfl rfl ?_ ?_))
  all_goals first | with_reducible refine bN ?_ | with_reducible refine bE ?_ | with_reducible refine bR ?_ | refine bX rfl ?_
  all_goals first
    | with_reducible refine tR ?_
    | with_reducible refine tE ?_
    | (
     with_reducible refine tN ?_
     refine cR ?_
     refine oA rfl rfl ?_
     refine oN ?_
     refine CW_ret ?_)
  all_goals (
   refine exitQ (.inr rfl) 1 (.cons (.tmp rfl rfl) .nil) ?_ rfl (vHc rfl vHn) rfl rfl
   first
     | exact congrArg V.int (idxL_found (by omega) hi2 (decide_eq_true hc)).symm
     | exact congrArg V.int (idxL_none (fun j hj => hi2 j (by simp at *; omega))).symm
     | rfl)
theorem containsP_con (L : List (List Int)) (sp : List Int) (k : Nat) (h3 : ∀ x ∈ L, x.length = 3) (a : List Int) (ha : a.length = 3) (hn9 : L.length ≤ 1000000000) : ConQ Try.prog [] 104 [.slice 0 0 L.length k, .arr a] [(0, .ints 32 (L.flatten ++ sp))] (.bool ((L).any fun x => decide (a = x))) := by
  refine conW tab_ok [(0, .slice 0 0 L.length k), (1, .arr a)] 1 [0] [0] Try.func104 rfl rfl rfl rfl rfl rfl rfl rfl rfl ?_
  refine cR ?_
  refine oBox rfl rfl rfl rfl rfl rfl ?_
  refine oA rfl rfl ?_
  refine oN ?_
  refine cR ?_
  refine oM rfl rfl ?_
  refine oQ (Q_ldw rfl rfl rfl rfl ha) rfl rfl ?_
  refine oQ (Q_call (indexP_con L sp k h3 a ha hn9) [] rfl rfl (Fits.mk' (vHc rfl vHn) rfl rfl (by first | (simp; done) | exact glOk rfl rfl rfl)) rfl rfl) rfl rfl ?_
  refine oQ (Q_bin rfl rfl rfl) rfl rfl ?_
  refine oA rfl rfl ?_
  refine oN ?_
  refine CW_ret ?_
  all_goals (
   refine exitQ (.inr rfl) 1 (.cons (.tmp rfl rfl) .nil) ?_ rfl (vHc rfl vHn) rfl rfl
   exact congrArg V.bool idxL_any)
theorem containsM_con (M : List Int) (i k : Nat) (hM : i * 3 ≤ M.length) (a : List Int) (ha : a.length = 3) (hn9 : i ≤ 1000000000) : ConQ Try.prog [] 104 [.slice 0 0 i k, .arr a] [(0, .ints 32 M)] (.bool ((chunk M i).any fun x => decide (a = x))) := by
  have := containsP_con (chunk M i) (M.drop (i * 3)) k (chunk_three hM) a ha (by rw [chunk_length]; exact hn9)
  rwa [← chunk_split hM, chunk_length] at this
end Go.Proofs.Ytoiolpgmilobnaa
namespace Go.Proofs.Ytoiolpgmilobnaa
set_option maxRecDepth 10000
set_option linter.unusedSimpArgs false
set_option linter.unusedVariables false
def hexG (p : Int) (c M : List Int) (j : Nat) : Prop := (∀ k, k < j → elemAt 3 M k ≠ elemAt 3 M j) ∧ conV p c (elemAt 3 M j) = 0
open Classical in
noncomputable def hexC (p : Int) (c M : List Int) (n : Nat) : Int := if codeB p (allF (pointB p) 3 M n && pointB p c) = 0 then (if n = 6 then (if (∀ j, j < 6 → hexG p c M j) ∧ kdV p c = 0 then 0 else 5) else 2) else codeB p (allF (pointB p) 3 M n && pointB p c)
theorem hexC_code {p : Int} {c M : List Int} {n : Nat} (h : ¬ codeB p (allF (pointB p) 3 M n && pointB p c) = 0) : hexC p c M n = codeB p (allF (pointB p) 3 M n && pointB p c) := by unfold hexC; rw [if_neg h]
theorem hexC_two {p : Int} {c M : List Int} {n : Nat} (h : codeB p (allF (pointB p) 3 M n && pointB p c) = 0) (h6 : ¬ n = 6) : hexC p c M n = 2 := by unfold hexC; rw [if_pos h, if_neg h6]
theorem hexC_five {p : Int} {c M : List Int} {n : Nat} (h : codeB p (allF (pointB p) 3 M n && pointB p c) = 0) (h6 : n = 6) (hn : ¬ ((∀ j, j < 6 → hexG p c M j) ∧ kdV p c = 0)) : hexC p c M n = 5 := by unfold hexC; rw [if_pos h, if_pos h6, if_neg hn]
theorem hexC_zero {p : Int} {c M : List Int} {n : Nat} (h : codeB p (allF (pointB p) 3 M n && pointB p c) = 0) (h6 : n = 6) (hn : (∀ j, j < 6 → hexG p c M j) ∧ kdV p c = 0) : hexC p c M n = 0 := by unfold hexC; rw [if_pos h, if_pos h6, if_pos hn]
theorem hexC_ok {p : Int} {c M : List Int} {n : Nat} (h : hexC p c M n = 0) : codeB p (allF (pointB p) 3 M n && pointB p c) = 0 ∧ n = 6 := by
  unfold hexC at h
  by_cases h0 : codeB p (allF (pointB p) 3 M n && pointB p c) = 0
  · rw [if_pos h0] at h
    by_cases h6 : n = 6
    · exact ⟨h0, h6⟩
    · rw [if_neg h6] at h; exact absurd h (by decide)
  · rw [if_neg h0] at h; exact absurd h h0
theorem elem_len {M : List Int} {i : Nat} (h : (i + 1) * 3 ≤ M.length) : (elemAt 3 M i).length = 3 := by
  simp only [elemAt, List.length_take, List.length_drop]; omega
theorem allF_get {g : List Int → Bool} {M : List Int} {n i : Nat} (h : allF g 3 M n = true) (hi : i < n) : g (elemAt 3 M i) = true := by
  unfold allF at h
  exact List.all_eq_true.1 h i (by simpa using hi)
theorem has_chunk {M : List Int} {i : Nat} {a : List Int} : ((chunk M i).any fun x => decide (a = x)) = true ↔ ∃ k, k < i ∧ elemAt 3 M k = a := by
  rw [List.any_eq_true]
  constructor
  · rintro ⟨x, hx, e⟩
    obtain ⟨k, hk, rfl⟩ := List.mem_map.1 hx
    exact ⟨k, by simpa using hk, (of_decide_eq_true e).symm⟩
  · rintro ⟨k, hk, rfl⟩
    exact ⟨elemAt 3 M k, List.mem_map.2 ⟨k, by simpa using hk, rfl⟩, by simp⟩
theorem point_all {p : Int} {a : List Int} (h : pointB p a = true) : ∀ u ∈ a, 0 ≤ u ∧ u < p := by
  intro u hu
  have := List.all_eq_true.1 (pointB_mod h) u hu
  simp only [Bool.and_eq_true, decide_eq_true_eq] at this
  omega
attribute [local irreducible] CW OW QW QOp Con thenP inBlockP AW QX RW AX
theorem impl_hex_con (p : Int) (c M : List Int) (n k : Nat) (hc6 : c.length = 6) (hM : n * 3 ≤ M.length) (hn9 : n ≤ 1000000000) (hkn : n ≤ k) : ConQ Try.prog [] 63 [.int p, .arr c, .slice 0 0 n k] [(0, .ints 32 M)] (.int (hexC p c M n)) := by
  refine conW tab_ok [(0, .int p), (1, .arr c), (2, .slice 0 0 n k)] 1 [0] [0] Try.func63 rfl rfl rfl rfl rfl rfl rfl rfl rfl ?_
  refine cR ?_
  refine oBox rfl rfl rfl rfl rfl rfl ?_
  refine oA rfl rfl ?_
  refine oN ?_
  iterate 2 refine CW_seq ?_
  refine CW_any (fun _ => false) 8 rfl lateOk (by decide +kernel) (fun hst => ?_)
  refine aP 0 hst rfl rfl (by decide +kernel) (PX_move rfl rfl) rfl rfl ?_
  refine aP 1 hst rfl rfl (by decide +kernel) (PX_move rfl rfl) rfl rfl ?_
  refine aP 2 hst rfl rfl (by decide +kernel) (PX_move rfl rfl) rfl rfl ?_
  refine aQ 3 hst rfl rfl (by decide +kernel) (QX_call (arePoints_con p 32 M n k hM hn9) [] rfl rfl (Fits.mk' (vHc rfl vHn) rfl rfl (by first | (simp; done) | exact glOk rfl rfl rfl)) rfl rfl rfl) rfl rfl ?_
  refine aQ 4 hst rfl rfl (by decide +kernel) (QX_of (Q_ldw rfl rfl rfl rfl hc6) NE_load) rfl rfl ?_
  refine AW_one (i := 5) (by decide +kernel) ?_
  refine gBsl1 hc6 rfl rfl rfl rfl rfl rfl rfl rfl rfl rfl rfl rfl ?_
  refine aQ 6 hst rfl rfl (by decide +kernel) (QX_call (conicsCode_one p (allF (pointB p) 3 M n) c hc6) [(0, 2)] rfl rfl (Fits.mk' (vHc rfl vHn) rfl rfl (by first | (simp; done) | exact glOk rfl rfl rfl)) rfl rfl rfl) rfl rfl ?_
  refine aQ 7 hst rfl rfl (by decide +kernel) (QX_of (Q_assign rfl rfl) NE_assign) rfl rfl ?_
  refine AW_done (by decide +kernel) ?_
  all_goals with_reducible refine tN ?_
  all_goals (
   refine cR ?_
   refine oM rfl rfl ?_
   refine oQ (Q_bin rfl rfl rfl) rfl rfl ?_
   refine oN ?_
   first | refine cT rfl ?_ | refine cF rfl ?_ | refine CW_cond rfl (fun hc => ?_) (fun hc => ?_)
   all_goals try simp only [s1, s2, s3, s4, s5, s6, s7, s8, s9, s10, s11, s12] at hc
   all_goals try (exfalso; first | omega | (simp at hc; done); done)
   all_goals first
     | (
      refine CW_skip ?_)
     | (
      refine cR ?_
      refine oM rfl rfl ?_
      refine oA rfl rfl ?_
      refine oN ?_
      refine CW_ret ?_))
  all_goals first
    | with_reducible refine tR ?_
    | with_reducible refine tE ?_
    | (
     with_reducible refine tN ?_
     refine CW_seq ?_
     refine cR ?_
     refine oM rfl rfl ?_
     first | refine oQ (Q_len rfl rfl rfl rfl) rfl rfl ?_ | refine oQ (Q_len0 rfl rfl rfl rfl) rfl rfl ?_
     refine oQ (Q_bin rfl rfl rfl) rfl rfl ?_
     refine oN ?_
     first | refine cT rfl ?_ | refine cF rfl ?_ | refine CW_cond rfl (fun hc => ?_) (fun hc => ?_)
     all_goals try simp only [s1, s2, s3, s4, s5, s6, s7, s8, s9, s10, s11, s12] at hc
     all_goals try (exfalso; first | omega | (simp at hc; done); done)
     all_goals first
       | (
        refine CW_skip ?_)
       | (
        refine cR ?_
        refine oA rfl rfl ?_
        refine oN ?_
        refine CW_ret ?_)
     all_goals first
       | with_reducible refine tR ?_
       | with_reducible refine tE ?_
       | (
        with_reducible refine tN ?_
        refine CW_seq ?_
        refine cR ?_
        refine oM rfl rfl ?_
        first | refine oQ (Q_len rfl rfl rfl rfl) rfl rfl ?_ | refine oQ (Q_len0 rfl rfl rfl rfl) rfl rfl ?_
        refine oM rfl rfl ?_
        refine oN ?_
        refine CW_block ?_
        have hc0 : codeB p (allF (pointB p) 3 M n && pointB p c) = 0 := by assumption
        have hcc := codeB_zero.1 hc0
        have hcb := Bool.and_eq_true_iff.1 hcc.2
        have h6 : n = 6 := by omega
        refine CW_loop (ι := Nat) (fun i => i ≤ n ∧ ∀ j, j < i → hexG p c M j) (fun i => ⟨[(0, .int p), (2, .slice 0 0 n k), (4, .ptr 1 0), (23, .slice 0 0 n k), (24, .int n), (25, .int i)], [(0, .ints 32 M), (1, .ints 25 c)], 2⟩) (fun i => n - i) 0 ?_ ?_ ?_
        · exact ⟨Nat.zero_le _, fun j h => absurd h (Nat.not_lt_zero _)⟩
        · refine View.mk' [] rfl rfl rfl ?_ ?_
          repeat' first | exact vFn | refine vFc rfl ?_ | exact vHn | refine vHc rfl ?_ | refine vFc (congrArg (fun z => some (V.int z)) ?_) ?_ | refine vHc (congrArg (fun z => some (Blk.ints _ z)) ?_) ?_ | refine vFc (congrArg (fun z => some (V.bool z)) ?_) ?_ | refine vFs rfl rfl ?_ ?_
        rintro i ⟨hi, hi2⟩
        refine cR ?_
        refine oQ (Q_bin rfl rfl rfl) rfl rfl ?_
        refine oN ?_
        refine CW_seq ?_
        first | refine cT rfl ?_ | refine cF rfl ?_ | refine CW_cond rfl (fun hc => ?_) (fun hc => ?_)
        all_goals try simp only [s1, s2, s3, s4, s5, s6, s7, s8, s9, s10, s11, s12] at hc
        all_goals try (exfalso; first | omega | (simp at hc; done); done)
        all_goals first
          | (
           refine CW_skip ?_)
          | (
           refine CW_exit ?_)
        all_goals first
          | with_reducible refine tR ?_
          | with_reducible refine tE ?_
          | (
           with_reducible refine tN ?_
           refine CW_seq ?_
           refine CW_block ?_
           refine cR ?_
           refine oM rfl rfl ?_
           refine oQ (Q_ixs0z 3 rfl rfl rfl rfl rfl rfl (by omega)) rfl rfl ?_
           (have hel := elem_len (M := M) (i := i) (by omega))
           (have hpt := allF_get hcb.1 (show i < n by omega))
           refine oQ (Q_lda (n := 3) rfl rfl rfl rfl rfl (by omega)) rfl rfl ?_
           refine oAlloc rfl rfl rfl rfl rfl rfl rfl ?_
           refine oA rfl rfl ?_
           first | refine oSw rfl rfl rfl rfl ?_ | refine oSa rfl rfl rfl rfl ?_
           refine oN ?_
           refine CW_seq ?_
           refine CW_draw lateOk (by decide +kernel) ?_
           iterate 2 refine qM rfl rfl ?_
           refine qQ (Q_slsH rfl rfl rfl rfl rfl (by first | omega | (dsimp only; omega) | (simp; omega) | (simp; done))) rfl rfl ?_
           refine qQ (Q_ldw rfl rfl rfl rfl hel) rfl rfl ?_
           refine qQ (Q_call (containsM_con M i k (by omega) (elemAt 3 M i) hel (by omega)) [] rfl rfl (Fits.mk' (vHc rfl vHn) rfl rfl (by first | (simp; done) | exact glOk rfl rfl rfl)) rfl rfl) rfl rfl ?_
           refine qM rfl rfl ?_
           all_goals first | refine qT rfl rfl ?_ | refine q1 rfl rfl rfl ?_ | refine q0 rfl rfl rfl ?_ | refine qgP1 rfl rfl rfl (fun hg => ?_) (fun hg => ?_) | refine qgP0 rfl rfl rfl (fun hg => ?_) (fun hg => ?_)
           all_goals try simp only [s1, s2, s3, s4, s5, s6, s7, s8, s9, s10, s11, s12] at hg
           all_goals first | (refine qQ (Q_ldw rfl rfl rfl rfl hc6) rfl rfl ?_) | skip
           all_goals first | refine qT rfl rfl ?_ | refine q1 rfl rfl rfl ?_ | refine q0 rfl rfl rfl ?_ | refine qgP1 rfl rfl rfl (fun hg => ?_) (fun hg => ?_) | refine qgP0 rfl rfl rfl (fun hg => ?_) (fun hg => ?_)
           all_goals try simp only [s1, s2, s3, s4, s5, s6, s7, s8, s9, s10, s11, s12] at hg
           all_goals first | (refine qM rfl rfl ?_) | skip
           all_goals first | refine qT rfl rfl ?_ | refine q1 rfl rfl rfl ?_ | refine q0 rfl rfl rfl ?_ | refine qgP1 rfl rfl rfl (fun hg => ?_) (fun hg => ?_) | refine qgP0 rfl rfl rfl (fun hg => ?_) (fun hg => ?_)
           all_goals try simp only [s1, s2, s3, s4, s5, s6, s7, s8, s9, s10, s11, s12] at hg
           all_goals first | (refine qQ (Q_ldw rfl rfl rfl rfl hel) rfl rfl ?_) | skip
           all_goals first | refine qT rfl rfl ?_ | refine q1 rfl rfl rfl ?_ | refine q0 rfl rfl rfl ?_ | refine qgP1 rfl rfl rfl (fun hg => ?_) (fun hg => ?_) | refine qgP0 rfl rfl rfl (fun hg => ?_) (fun hg => ?_)
           all_goals try simp only [s1, s2, s3, s4, s5, s6, s7, s8, s9, s10, s11, s12] at hg
           all_goals first | (refine qQ (Q_call0 (conAt_con c p (elemAt 3 M i) hcc.1 hc6 hel (sm_point hcb.2) (sm_point hpt)) rfl rfl rfl) rfl rfl ?_) | skip
           all_goals first | refine qT rfl rfl ?_ | refine q1 rfl rfl rfl ?_ | refine q0 rfl rfl rfl ?_ | refine qgP1 rfl rfl rfl (fun hg => ?_) (fun hg => ?_) | refine qgP0 rfl rfl rfl (fun hg => ?_) (fun hg => ?_)
           all_goals try simp only [s1, s2, s3, s4, s5, s6, s7, s8, s9, s10, s11, s12] at hg
           all_goals first | (refine qQ (Q_bin rfl rfl rfl) rfl rfl ?_) | skip
           all_goals first | refine qQ (Q_pick_t rfl (by with_reducible rfl) rfl rfl) rfl rfl ?_ | refine qQ (Q_pick_f rfl (by with_reducible rfl) rfl rfl) rfl rfl ?_
           all_goals refine QW_nil ?_
           all_goals with_reducible refine tN ?_
           all_goals (
            first | refine cT rfl ?_ | refine cF rfl ?_ | refine CW_cond rfl (fun hc => ?_) (fun hc => ?_)
            all_goals try simp only [s1, s2, s3, s4, s5, s6, s7, s8, s9, s10, s11, s12] at hc
            all_goals try (exfalso; first | omega | (simp at hc; done); done)
            all_goals first
              | (
               refine CW_skip ?_)
              | (
               refine cR ?_
               refine oA rfl rfl ?_
               refine oN ?_
               refine CW_ret ?_))
           all_goals first | with_reducible refine bN ?_ | with_reducible refine bE ?_ | with_reducible refine bR ?_ | refine bX rfl ?_
           all_goals first
             | with_reducible refine tR ?_
             | with_reducible refine tE ?_
             | (
              with_reducible refine tN ?_
              refine CW_region ?_
              first | refine oQ (Q_binu rfl rfl rfl (by omega)) rfl rfl ?_ | refine oQ (Q_bin rfl rfl rfl) rfl rfl ?_
              refine oM rfl rfl ?_
              refine OW_nil ?_))
        all_goals first
          | with_reducible refine tR ?_
          | with_reducible refine tE ?_
          | (
           with_reducible refine tN ?_
           refine ⟨i + 1, ?_, ?_, View.mk' [] rfl rfl rfl ?_ ?_⟩
           · refine ⟨by omega, fun j hj => ?_⟩
             by_cases e : j = i
             · subst e
               refine ⟨fun q hq e2 => ?_, ?_⟩
               · have := has_chunk.2 ⟨q, hq, e2⟩
                 simp_all
               · simp_all
             · exact hi2 j (by omega)
           · omega
           all_goals (repeat' first | exact vFn | refine vFc rfl ?_ | exact vHn | refine vHc rfl ?_ | refine vFc (congrArg (fun z => some (V.int z)) ?_) ?_ | refine vHc (congrArg (fun z => some (Blk.ints _ z)) ?_) ?_ | refine vFc (congrArg (fun z => some (V.bool z)) ?_) ?_ | refine vFs rfl rfl ?_ ?_))
        all_goals first | with_reducible refine bN ?_ | with_reducible refine bE ?_ | with_reducible refine bR ?_ | refine bX rfl ?_
        all_goals first
          | with_reducible refine tR ?_
          | with_reducible refine tE ?_
          | (
           with_reducible refine tN ?_
           refine CW_seq ?_
           refine cR ?_
           refine oQ (Q_ldw rfl rfl rfl rfl hc6) rfl rfl ?_
           refine oM rfl rfl ?_
           refine oQ (Q_call0 (kind_con p c hcc.1 hc6 (sm_point hcb.2)) rfl rfl rfl) rfl rfl ?_
           refine oQ (Q_bin rfl rfl rfl) rfl rfl ?_
           refine oN ?_
           first | refine cT rfl ?_ | refine cF rfl ?_ | refine CW_cond rfl (fun hc => ?_) (fun hc => ?_)
           all_goals try simp only [s1, s2, s3, s4, s5, s6, s7, s8, s9, s10, s11, s12] at hc
           all_goals try (exfalso; first | omega | (simp at hc; done); done)
           all_goals first
             | (
              refine CW_skip ?_)
             | (
              refine cR ?_
              refine oA rfl rfl ?_
              refine oN ?_
              refine CW_ret ?_)
           all_goals first
             | with_reducible refine tR ?_
             | with_reducible refine tE ?_
             | (
              with_reducible refine tN ?_
              refine cR ?_
              refine oA rfl rfl ?_
              refine oN ?_
              refine CW_ret ?_))))
  all_goals (
   refine exitQ (.inr rfl) 1 (.cons (.tmp rfl rfl) .nil) ?_ rfl (vHc rfl vHn) rfl rfl
   refine congrArg V.int ?_
   first
     | exact (hexC_code (by assumption)).symm
     | exact (hexC_two (by assumption) (by omega)).symm
     | exact (hexC_zero hc0 h6 ⟨fun j hj => hi2 j (by omega), by assumption⟩).symm
     | exact (hexC_five hc0 h6 (fun hn => by have := hn.2; contradiction)).symm
     | (refine (hexC_five hc0 h6 (fun hn => ?_)).symm
        have hg' := hn.1 i (by omega)
        unfold hexG at hg'
        first
          | exact hc hg'.2
          | (have hh : ((chunk M i).any fun x => decide (elemAt 3 M i = x)) = true := by first | exact hg | exact hc
             obtain ⟨q, hq, e2⟩ := has_chunk.1 hh
             exact hg'.1 q hq e2)))
theorem spec_hex_con (p : Int) (c M : List Int) (n k : Nat) (hc6 : c.length = 6) (hM : n * 3 ≤ M.length) (hn9 : n ≤ 1000000000) : ConQ Try.prog [] 60 [.int p, .arr c, .slice 0 0 n k] [(0, .ints 32 M)] (.int (hexC p c M n)) := by
  refine conW tab_ok [(0, .int p), (1, .arr c), (2, .slice 0 0 n k)] 1 [0] [0] Try.func60 rfl rfl rfl rfl rfl rfl rfl rfl rfl ?_
  refine cR ?_
  refine oBox rfl rfl rfl rfl rfl rfl ?_
  refine oA rfl rfl ?_
  refine oN ?_
  refine CW_seq ?_
  refine cR ?_
  refine oM rfl rfl ?_
  refine oQ (Q_ldw rfl rfl rfl rfl hc6) rfl rfl ?_
  refine oM rfl rfl ?_
  refine oQ (Q_call (l03Code_row p c hc6 32 M n k hM hn9) [] rfl rfl (Fits.mk' (vHc rfl vHn) rfl rfl (by first | (simp; done) | exact glOk rfl rfl rfl)) rfl rfl) rfl rfl ?_
  refine oA rfl rfl ?_
  refine oN ?_
  refine cR ?_
  refine oM rfl rfl ?_
  refine oQ (Q_bin rfl rfl rfl) rfl rfl ?_
  refine oN ?_
  first | refine cT rfl ?_ | refine cF rfl ?_ | refine CW_cond rfl (fun hc => ?_) (fun hc => ?_)
  all_goals try simp only [s1, s2, s3, s4, s5, s6, s7, s8, s9, s10, s11, s12] at hc
  all_goals try (exfalso; first | omega | (simp at hc; done); done)
  all_goals first
    | (
     refine CW_skip ?_)
    | (
     refine cR ?_
     refine oM rfl rfl ?_
     refine oA rfl rfl ?_
     refine oN ?_
     refine CW_ret ?_)
  all_goals first
    | with_reducible refine tR ?_
    | with_reducible refine tE ?_
    | (
     with_reducible refine tN ?_
     refine CW_seq ?_
     refine cR ?_
     refine oM rfl rfl ?_
     first | refine oQ (Q_len rfl rfl rfl rfl) rfl rfl ?_ | refine oQ (Q_len0 rfl rfl rfl rfl) rfl rfl ?_
     refine oQ (Q_bin rfl rfl rfl) rfl rfl ?_
     refine oN ?_
     first | refine cT rfl ?_ | refine cF rfl ?_ | refine CW_cond rfl (fun hc => ?_) (fun hc => ?_)
     all_goals try simp only [s1, s2, s3, s4, s5, s6, s7, s8, s9, s10, s11, s12] at hc
     all_goals try (exfalso; first | omega | (simp at hc; done); done)
     all_goals first
       | (
        refine CW_skip ?_)
       | (
        refine cR ?_
        refine oA rfl rfl ?_
        refine oN ?_
        refine CW_ret ?_)
     all_goals first
       | with_reducible refine tR ?_
       | with_reducible refine tE ?_
       | (
        with_reducible refine tN ?_
        refine CW_seq ?_
        refine cR ?_
        refine oM rfl rfl ?_
        refine oQ (Q_ldw rfl rfl rfl rfl hc6) rfl rfl ?_
        (have hc0 : codeB p (allF (pointB p) 3 M n && pointB p c) = 0 := by assumption)
        (have hcc := codeB_zero.1 hc0)
        (have hcb := Bool.and_eq_true_iff.1 hcc.2)
        (have h6 : n = 6 := by omega)
        refine oQ (Q_call0 (l03Kind_con p c hcc.1 hc6 hcb.2) rfl rfl rfl) rfl rfl ?_
        refine oQ (Q_bin rfl rfl rfl) rfl rfl ?_
        refine oN ?_
        first | refine cT rfl ?_ | refine cF rfl ?_ | refine CW_cond rfl (fun hc => ?_) (fun hc => ?_)
        all_goals try simp only [s1, s2, s3, s4, s5, s6, s7, s8, s9, s10, s11, s12] at hc
        all_goals try (exfalso; first | omega | (simp at hc; done); done)
        all_goals first
          | (
           refine CW_skip ?_)
          | (
           refine cR ?_
           refine oA rfl rfl ?_
           refine oN ?_
           refine CW_ret ?_)
        all_goals first
          | with_reducible refine tR ?_
          | with_reducible refine tE ?_
          | (
           with_reducible refine tN ?_
           refine CW_seq ?_
           refine cR ?_
           refine oA rfl rfl ?_
           refine oN ?_
           refine CW_block ?_
           have hk0 : kdV p c = 0 := by assumption
           refine CW_loop (ι := Nat) (fun i => i ≤ 6 ∧ ∀ j, j < i → hexG p c M j) (fun i => ⟨[(0, .int p), (2, .slice 0 0 n k), (4, .ptr 1 0), (8, .int i)], [(0, .ints 32 M), (1, .ints 25 c)], 2⟩) (fun i => 6 - i) 0 ?_ ?_ ?_
           · exact ⟨Nat.zero_le _, fun j h => absurd h (Nat.not_lt_zero _)⟩
           · refine View.mk' [] rfl rfl rfl ?_ ?_
             repeat' first | exact vFn | refine vFc rfl ?_ | exact vHn | refine vHc rfl ?_ | refine vFc (congrArg (fun z => some (V.int z)) ?_) ?_ | refine vHc (congrArg (fun z => some (Blk.ints _ z)) ?_) ?_ | refine vFc (congrArg (fun z => some (V.bool z)) ?_) ?_ | refine vFs rfl rfl ?_ ?_
           rintro i ⟨hi, hi2⟩
           refine CW_seq ?_
           refine cR ?_
           refine oM rfl rfl ?_
           refine oQ (Q_bin rfl rfl rfl) rfl rfl ?_
           refine oN ?_
           first | refine cT rfl ?_ | refine cF rfl ?_ | refine CW_cond rfl (fun hc => ?_) (fun hc => ?_)
           all_goals try simp only [s1, s2, s3, s4, s5, s6, s7, s8, s9, s10, s11, s12] at hc
           all_goals try (exfalso; first | omega | (simp at hc; done); done)
           all_goals first
             | (
              refine CW_skip ?_)
             | (
              refine CW_exit ?_)
           all_goals first
             | with_reducible refine tR ?_
             | with_reducible refine tE ?_
             | (
              with_reducible refine tN ?_
              refine CW_seq ?_
              refine CW_block ?_
              refine CW_seq ?_
              refine cR ?_
              refine oA rfl rfl ?_
              refine oN ?_
              refine CW_block ?_
              have hel := elem_len (M := M) (i := i) (by omega)
              have hpt := allF_get hcb.1 (show i < n by omega)
              refine CW_loop (ι := Nat) (fun q => q ≤ i ∧ ∀ z, z < q → elemAt 3 M z ≠ elemAt 3 M i) (fun q => ⟨[(0, .int p), (2, .slice 0 0 n k), (4, .ptr 1 0), (8, .int i), (9, .int q)], [(0, .ints 32 M), (1, .ints 25 c)], 2⟩) (fun q => i - q) 0 ?_ ?_ ?_
              · exact ⟨Nat.zero_le _, fun j h => absurd h (Nat.not_lt_zero _)⟩
              · refine View.mk' [] rfl rfl rfl ?_ ?_
                repeat' first | exact vFn | refine vFc rfl ?_ | exact vHn | refine vHc rfl ?_ | refine vFc (congrArg (fun z => some (V.int z)) ?_) ?_ | refine vHc (congrArg (fun z => some (Blk.ints _ z)) ?_) ?_ | refine vFc (congrArg (fun z => some (V.bool z)) ?_) ?_ | refine vFs rfl rfl ?_ ?_
              rintro q ⟨hq, hq2⟩
              refine CW_seq ?_
              refine cR ?_
              iterate 2 refine oM rfl rfl ?_
              refine oQ (Q_bin rfl rfl rfl) rfl rfl ?_
              refine oN ?_
              first | refine cT rfl ?_ | refine cF rfl ?_ | refine CW_cond rfl (fun hc => ?_) (fun hc => ?_)
              all_goals try simp only [s1, s2, s3, s4, s5, s6, s7, s8, s9, s10, s11, s12] at hc
              all_goals try (exfalso; first | omega | (simp at hc; done); done)
              all_goals first
                | (
                 refine CW_skip ?_)
                | (
                 refine CW_exit ?_)
              all_goals first
                | with_reducible refine tR ?_
                | with_reducible refine tE ?_
                | (
                 with_reducible refine tN ?_
                 refine CW_seq ?_
                 refine CW_block ?_
                 refine CW_seq ?_
                 refine CW_draw lateOk (by decide +kernel) ?_
                 iterate 2 refine qM rfl rfl ?_
                 refine qQ (Q_ixs0z 3 rfl rfl rfl rfl rfl rfl (by omega)) rfl rfl ?_
                 refine qQ (Q_lda (n := 3) rfl rfl rfl rfl rfl (by omega)) rfl rfl ?_
                 iterate 2 refine qM rfl rfl ?_
                 (have hel2 := elem_len (M := M) (i := q) (by omega))
                 refine qQ (Q_ixs0z 3 rfl rfl rfl rfl rfl rfl (by omega)) rfl rfl ?_
                 refine qQ (Q_lda (n := 3) rfl rfl rfl rfl rfl (by omega)) rfl rfl ?_
                 refine qQ (Q_arrb rfl rfl rfl rfl rfl rfl rfl rfl rfl hel hel2) rfl rfl ?_
                 refine QW_nil ?_
                 all_goals with_reducible refine tN ?_
                 all_goals (
                  first | refine cT rfl ?_ | refine cF rfl ?_ | refine CW_cond rfl (fun hc => ?_) (fun hc => ?_)
                  all_goals try simp only [s1, s2, s3, s4, s5, s6, s7, s8, s9, s10, s11, s12] at hc
                  all_goals try (exfalso; first | omega | (simp at hc; done); done)
                  all_goals first
                    | (
                     refine CW_skip ?_)
                    | (
                     refine cR ?_
                     refine oA rfl rfl ?_
                     refine oN ?_
                     refine CW_ret ?_))
                 all_goals first | with_reducible refine bN ?_ | with_reducible refine bE ?_ | with_reducible refine bR ?_ | refine bX rfl ?_
                 all_goals first
                   | with_reducible refine tR ?_
                   | with_reducible refine tE ?_
                   | (
                    with_reducible refine tN ?_
                    refine CW_region ?_
                    refine oM rfl rfl ?_
                    first | refine oQ (Q_binu rfl rfl rfl (by omega)) rfl rfl ?_ | refine oQ (Q_bin rfl rfl rfl) rfl rfl ?_
                    refine oA rfl rfl ?_
                    refine OW_nil ?_))
              all_goals first
                | with_reducible refine tR ?_
                | with_reducible refine tE ?_
                | (
                 with_reducible refine tN ?_
                 refine ⟨q + 1, ?_, ?_, View.mk' [] rfl rfl rfl ?_ ?_⟩
                 · refine ⟨by omega, fun z hz e2 => ?_⟩
                   by_cases e : z = q
                   · subst e; exact hc e2.symm
                   · exact hq2 z (by omega) e2
                 · omega
                 all_goals (repeat' first | exact vFn | refine vFc rfl ?_ | exact vHn | refine vHc rfl ?_ | refine vFc (congrArg (fun z => some (V.int z)) ?_) ?_ | refine vHc (congrArg (fun z => some (Blk.ints _ z)) ?_) ?_ | refine vFc (congrArg (fun z => some (V.bool z)) ?_) ?_ | refine vFs rfl rfl ?_ ?_))
              all_goals first | with_reducible refine bN ?_ | with_reducible refine bE ?_ | with_reducible refine bR ?_ | refine bX rfl ?_
              all_goals first
                | with_reducible refine tR ?_
                | with_reducible refine tE ?_
                | (
                 with_reducible refine tN ?_
                 refine CW_seq ?_
                 refine CW_draw lateOk (by decide +kernel) ?_
                 refine qM rfl rfl ?_
                 refine qQ (Q_ldw rfl rfl rfl rfl hc6) rfl rfl ?_
                 iterate 2 refine qM rfl rfl ?_
                 refine qQ (Q_ixs0z 3 rfl rfl rfl rfl rfl rfl (by omega)) rfl rfl ?_
                 refine qQ (Q_lda (n := 3) rfl rfl rfl rfl rfl (by omega)) rfl rfl ?_
                 refine qQ (Q_call0 (l03At_con p c (elemAt 3 M i) hcc.1 hc6 hel (pointB_mod hcb.2) (point_all hpt)) rfl rfl rfl) rfl rfl ?_
                 refine qQ (Q_bin rfl rfl rfl) rfl rfl ?_
                 refine QW_nil ?_
                 all_goals with_reducible refine tN ?_
                 all_goals (
                  first | refine cT rfl ?_ | refine cF rfl ?_ | refine CW_cond rfl (fun hc => ?_) (fun hc => ?_)
                  all_goals try simp only [s1, s2, s3, s4, s5, s6, s7, s8, s9, s10, s11, s12] at hc
                  all_goals try (exfalso; first | omega | (simp at hc; done); done)
                  all_goals first
                    | (
                     refine CW_skip ?_)
                    | (
                     refine cR ?_
                     refine oA rfl rfl ?_
                     refine oN ?_
                     refine CW_ret ?_)))
              all_goals first | with_reducible refine bN ?_ | with_reducible refine bE ?_ | with_reducible refine bR ?_ | refine bX rfl ?_
              all_goals first
                | with_reducible refine tR ?_
                | with_reducible refine tE ?_
                | (
                 with_reducible refine tN ?_
                 refine CW_region ?_
                 refine oM rfl rfl ?_
                 first | refine oQ (Q_binu rfl rfl rfl (by omega)) rfl rfl ?_ | refine oQ (Q_bin rfl rfl rfl) rfl rfl ?_
                 refine oA rfl rfl ?_
                 refine OW_nil ?_))
           all_goals first
             | with_reducible refine tR ?_
             | with_reducible refine tE ?_
             | (
              with_reducible refine tN ?_
              refine ⟨i + 1, ?_, ?_, View.mk' [] rfl rfl rfl ?_ ?_⟩
              · refine ⟨by omega, fun j hj => ?_⟩
                by_cases e : j = i
                · subst e
                  exact ⟨fun z hz => hq2 z (by omega), by assumption⟩
                · exact hi2 j (by omega)
              · omega
              all_goals (repeat' first | exact vFn | refine vFc rfl ?_ | exact vHn | refine vHc rfl ?_ | refine vFc (congrArg (fun z => some (V.int z)) ?_) ?_ | refine vHc (congrArg (fun z => some (Blk.ints _ z)) ?_) ?_ | refine vFc (congrArg (fun z => some (V.bool z)) ?_) ?_ | refine vFs rfl rfl ?_ ?_))
           all_goals first | with_reducible refine bN ?_ | with_reducible refine bE ?_ | with_reducible refine bR ?_ | refine bX rfl ?_
           all_goals first
             | with_reducible refine tR ?_
             | with_reducible refine tE ?_
             | (
              with_reducible refine tN ?_
              refine cR ?_
              refine oA rfl rfl ?_
              refine oN ?_
              refine CW_ret ?_))))
  all_goals (
   refine exitQ (.inr rfl) 1 (.cons (.tmp rfl rfl) .nil) ?_ rfl (vHc rfl vHn) rfl rfl
   refine congrArg V.int ?_
   first
     | exact (hexC_code (by assumption)).symm
     | exact (hexC_two (by assumption) (by omega)).symm
     | exact (hexC_zero hc0 h6 ⟨fun j hj => hi2 j (by omega), hk0⟩).symm
     | exact (hexC_five hc0 h6 (fun hn => by have := hn.2; contradiction)).symm
     | (refine (hexC_five hc0 h6 (fun hn => ?_)).symm
        have hg' := hn.1 i (by omega)
        unfold hexG at hg'
        first
          | exact hg'.1 q (by omega) hc.symm
          | (have := hg'.2; contradiction)))
end Go.Proofs.Ytoiolpgmilobnaa
namespace Go.Proofs.Ytoiolpgmilobnaa
section
variable {c : Cx} {Q : Post} {F : Fr} {H : Hp} {n : Nat} {ops : Array Oper} {tl : Nat → Bool} {m : Nat} {listed : Array Bool} {d : Nat} {op : Op} {ty : TypeId} {pos : String} {af : Array Edge} {v : V}
theorem QX_callf {s : S} {dst : Option Tmp} {g : Option (Nat × Bool)} {f : Nat} {x : Operand} {xs : List Operand} {ats : Array TypeId} {fst caps vs args0 : List V} {gl' : List (Nat × Nat)} {H0 : Hp} {r : V}
    (con : ConQ c.P gl' f args0 H0 r) (σ : List (Nat × Nat)) (hv : ev c s.F x = some (.func f fst caps)) (hx : evs c s.F xs = some vs) (hargs : fst ++ vs ++ caps = rens (ap σ) args0) (hfit : Fits c s (ap σ) gl' H0) (hr : (r.ids.all fun b => (ids H0).contains b) = true) (hcl : closedB H0 = true) (hin : ((idss args0).all fun b => (ids H0).contains b) = true) :
    QX c ⟨dst, .call ⟨.value x, xs.toArray, ats⟩, ty, pos, af, g⟩ s (ren (ap σ) r) :=
  QX_callv (fun _ _ _ _ hg hfix hf => run_callv rfl con.1 hg hfix hf hv hx) con (ap σ) hargs hfit hr hcl hin
end
end Go.Proofs.Ytoiolpgmilobnaa
namespace Go.Proofs.Ytoiolpgmilobnaa
set_option maxRecDepth 10000
set_option linter.unusedSimpArgs false
set_option linter.unusedVariables false
theorem normL_sm {p : Int} (hp : primeB p = true) (l : List Int) : sm 13 (normL p l) := by
  have hb := prime_bd hp
  intro x hx
  unfold normL at hx
  obtain ⟨y, _, rfl⟩ := List.mem_map.1 hx
  have h1 := Int.emod_nonneg (y % p * facP p l) (show p ≠ 0 by omega)
  have h2 := Int.emod_lt_of_pos (y % p * facP p l) (show 0 < p by omega)
  omega
def jnX (p : Int) (a b : List Int) : List Int := normL p (crossT a b)
theorem jnX3 (p : Int) (a b : List Int) : (jnX p a b).length = 3 := by unfold jnX; rw [normL_length]; rfl
theorem jnXs {p : Int} (hp : primeB p = true) (a b : List Int) : sm 13 (jnX p a b) := normL_sm hp _
def plN (p : Int) (c a : List Int) : List Int := normL p (polX p c a)
theorem plN3 (p : Int) (c a : List Int) : (plN p c a).length = 3 := by unfold plN; rw [normL_length]; rfl
/-- the corners -/
def briG (p : Int) (c M : List Int) (i : Nat) : List Int := jnX p (plN p c (elemAt 3 M i)) (plN p c (elemAt 3 M ((i + 1) % 6)))
noncomputable def briV (p : Int) (c M : List Int) (n : Nat) : List Int := if hexC p c M n = 0 then jnX p (jnX p (briG p c M 0) (briG p c M 3)) (jnX p (briG p c M 1) (briG p c M 4)) else zero3
theorem briV3 (p : Int) (c M : List Int) (n : Nat) : (briV p c M n).length = 3 := by unfold briV; split; exact jnX3 ..; rfl
theorem map3 {g : Nat → List Int} (h : ∀ i, (g i).length = 3) (n : Nat) : ∀ x ∈ (List.range n).map g, x.length = 3 := by
  intro x hx; obtain ⟨i, _, rfl⟩ := List.mem_map.1 hx; exact h i
theorem map_get {g : Nat → List Int} (h : ∀ i, (g i).length = 3) {n i : Nat} (sp : List Int) (hi : i < n) : ((((List.range n).map g).flatten ++ sp).drop (i * 3)).take 3 = g i := by
  rw [flat_get (map3 h n) (by simpa using hi)]
  simp [List.getD, hi]
theorem map_len {g : Nat → List Int} (h : ∀ i, (g i).length = 3) (n : Nat) : ((List.range n).map g).flatten.length = n * 3 := by
  rw [flat3 (map3 h n)]; simp
attribute [local simp] jnX3 plN3 normL_length
attribute [local irreducible] CW OW QW QOp Con thenP inBlockP AW QX RW AX
end Go.Proofs.Ytoiolpgmilobnaa
namespace Go.Proofs.Ytoiolpgmilobnaa
set_option maxRecDepth 10000
set_option linter.unusedSimpArgs false
set_option linter.unusedVariables false
theorem hexC_nil {p : Int} {c M : List Int} : ¬ hexC p c M 0 = 0 := fun h => absurd (hexC_ok h).2 (by decide)
theorem hexC_nil2 (p : Int) (c M : List Int) : hexC p c M 0 = hexC p c [] 0 := by
  unfold hexC
  have e : allF (pointB p) 3 M 0 = allF (pointB p) 3 [] 0 := rfl
  rw [e]
  simp
theorem briV_nil (p : Int) (c M : List Int) : briV p c M 0 = zero3 := by unfold briV; rw [if_neg hexC_nil]
attribute [local simp] jnX3 plN3 normL_length
attribute [local irreducible] CW OW QW QOp Con thenP inBlockP AW QX RW AX
theorem impl_hex_nil (p : Int) (c : List Int) (hc6 : c.length = 6) : ConQ Try.prog [] 63 [.int p, .arr c, .nilsl] [] (.int (hexC p c [] 0)) := by
  refine conW tab_ok [(0, .int p), (1, .arr c), (2, .nilsl)] 0 [] [] Try.func63 rfl rfl rfl rfl rfl rfl rfl rfl rfl ?_
  refine cR ?_
  refine oBox rfl rfl rfl rfl rfl rfl ?_
  refine oA rfl rfl ?_
  refine oN ?_
  iterate 2 refine CW_seq ?_
  refine CW_any (fun _ => false) 8 rfl lateOk (by decide +kernel) (fun hst => ?_)
  refine aP 0 hst rfl rfl (by decide +kernel) (PX_move rfl rfl) rfl rfl ?_
  refine aP 1 hst rfl rfl (by decide +kernel) (PX_move rfl rfl) rfl rfl ?_
  refine aP 2 hst rfl rfl (by decide +kernel) (PX_move rfl rfl) rfl rfl ?_
  refine aQ 3 hst rfl rfl (by decide +kernel) (QX_call0 (arePoints_nil p) rfl rfl rfl) rfl rfl ?_
  refine aQ 4 hst rfl rfl (by decide +kernel) (QX_of (Q_ldw rfl rfl rfl rfl hc6) NE_load) rfl rfl ?_
  refine AW_one (i := 5) (by decide +kernel) ?_
  refine gBsl1 hc6 rfl rfl rfl rfl rfl rfl rfl rfl rfl rfl rfl rfl ?_
  refine aQ 6 hst rfl rfl (by decide +kernel) (QX_call (conicsCode_one p (allF (pointB p) 3 [] 0) c hc6) [(0, 1)] rfl rfl (Fits.mk' (vHc rfl vHn) rfl rfl (by first | (simp; done) | exact glOk rfl rfl rfl)) rfl rfl rfl) rfl rfl ?_
  refine aQ 7 hst rfl rfl (by decide +kernel) (QX_of (Q_assign rfl rfl) NE_assign) rfl rfl ?_
  refine AW_done (by decide +kernel) ?_
  all_goals with_reducible refine tN ?_
  all_goals (
   refine cR ?_
   refine oM rfl rfl ?_
   refine oQ (Q_bin rfl rfl rfl) rfl rfl ?_
   refine oN ?_
   first | refine cT rfl ?_ | refine cF rfl ?_ | refine CW_cond rfl (fun hc => ?_) (fun hc => ?_)
   all_goals try simp only [s1, s2, s3, s4, s5, s6, s7, s8, s9, s10, s11, s12] at hc
   all_goals try (exfalso; first | omega | (simp at hc; done); done)
   all_goals first
     | (
      refine CW_skip ?_)
     | (
      refine cR ?_
      refine oM rfl rfl ?_
      refine oA rfl rfl ?_
      refine oN ?_
      refine CW_ret ?_))
  all_goals first
    | with_reducible refine tR ?_
    | with_reducible refine tE ?_
    | (
     with_reducible refine tN ?_
     refine CW_seq ?_
     refine cR ?_
     refine oM rfl rfl ?_
     first | refine oQ (Q_len rfl rfl rfl rfl) rfl rfl ?_ | refine oQ (Q_len0 rfl rfl rfl rfl) rfl rfl ?_
     refine oQ (Q_bin rfl rfl rfl) rfl rfl ?_
     refine oN ?_
     first | refine cT rfl ?_ | refine cF rfl ?_ | refine CW_cond rfl (fun hc => ?_) (fun hc => ?_)
     all_goals try simp only [s1, s2, s3, s4, s5, s6, s7, s8, s9, s10, s11, s12] at hc
     all_goals try (exfalso; first | omega | (simp at hc; done); done)
     all_goals first
       | (
        refine CW_skip ?_)
       | (
        refine cR ?_
        refine oA rfl rfl ?_
        refine oN ?_
        refine CW_ret ?_)
     all_goals first
       | with_reducible refine tR ?_
       | with_reducible refine tE ?_
       | (
        with_reducible refine tN ?_
        refine CW_seq ?_
        refine cR ?_
        refine oM rfl rfl ?_
        first | refine oQ (Q_len rfl rfl rfl rfl) rfl rfl ?_ | refine oQ (Q_len0 rfl rfl rfl rfl) rfl rfl ?_
        refine oM rfl rfl ?_
        refine oN ?_
        refine CW_block ?_
        exfalso; simp at *
        · first | trivial | omega | (simp; done) | (simp; omega)
        · refine View.mk' [] rfl rfl rfl ?_ ?_
          repeat' first | exact vFn | refine vFc rfl ?_ | exact vHn | refine vHc rfl ?_ | refine vFc (congrArg (fun z => some (V.int z)) ?_) ?_ | refine vHc (congrArg (fun z => some (Blk.ints _ z)) ?_) ?_ | refine vFc (congrArg (fun z => some (V.bool z)) ?_) ?_ | refine vFs rfl rfl ?_ ?_
        intro i hi
        refine cR ?_
        refine oQ (Q_bin rfl rfl rfl) rfl rfl ?_
        refine oN ?_
        refine CW_seq ?_
        first | refine cT rfl ?_ | refine cF rfl ?_ | refine CW_cond rfl (fun hc => ?_) (fun hc => ?_)
        all_goals try simp only [s1, s2, s3, s4, s5, s6, s7, s8, s9, s10, s11, s12] at hc
        all_goals try (exfalso; first | omega | (simp at hc; done); done)
        all_goals first
          | (
           refine CW_skip ?_)
          | (
           refine CW_exit ?_)
        all_goals first
          | with_reducible refine tR ?_
          | with_reducible refine tE ?_
          | (
           with_reducible refine tN ?_
           refine CW_seq ?_
           refine CW_block ?_
           refine cR ?_
           refine oM rfl rfl ?_
           first | refine oQ (Q_ixs0z 3 rfl rfl rfl rfl rfl rfl (by first | omega | (dsimp only; omega) | (simp; omega) | (simp; done))) rfl rfl ?_ | refine oQ (Q_ixsz 3 rfl rfl rfl rfl rfl rfl (by first | omega | (dsimp only; omega) | (simp; omega) | (simp; done))) rfl rfl ?_
           first | refine oQ (Lw rfl rfl rfl rfl) rfl rfl ?_ | refine oQ (La rfl rfl rfl rfl rfl) rfl rfl ?_
           refine oAlloc rfl rfl rfl rfl rfl rfl rfl ?_
           refine oA rfl rfl ?_
           first | refine oSw rfl rfl rfl rfl ?_ | refine oSa rfl rfl rfl rfl ?_
           refine oN ?_
           refine CW_seq ?_
           refine CW_draw lateOk (by decide +kernel) ?_
           iterate 2 refine qM rfl rfl ?_
           refine qQ (Q_slsH rfl rfl rfl rfl rfl (by first | omega | (dsimp only; omega) | (simp; omega) | (simp; done))) rfl rfl ?_
           first | refine qQ (Lw rfl rfl rfl rfl) rfl rfl ?_ | refine qQ (La rfl rfl rfl rfl rfl) rfl rfl ?_
           fail "call of slices.Contains[[]loop.example/g01310/impl.Point,loop.example/g01310/impl.Point] at slot 34"
           refine qM rfl rfl ?_
           all_goals first | refine qT rfl rfl ?_ | refine q1 rfl rfl rfl ?_ | refine q0 rfl rfl rfl ?_ | refine qgP1 rfl rfl rfl (fun hg => ?_) (fun hg => ?_) | refine qgP0 rfl rfl rfl (fun hg => ?_) (fun hg => ?_)
           all_goals try simp only [s1, s2, s3, s4, s5, s6, s7, s8, s9, s10, s11, s12] at hg
           all_goals first | refine qQ (Lw rfl rfl rfl rfl) rfl rfl ?_ | refine qQ (La rfl rfl rfl rfl rfl) rfl rfl ?_ | skip
           all_goals first | refine qT rfl rfl ?_ | refine q1 rfl rfl rfl ?_ | refine q0 rfl rfl rfl ?_ | refine qgP1 rfl rfl rfl (fun hg => ?_) (fun hg => ?_) | refine qgP0 rfl rfl rfl (fun hg => ?_) (fun hg => ?_)
           all_goals try simp only [s1, s2, s3, s4, s5, s6, s7, s8, s9, s10, s11, s12] at hg
           all_goals first | (refine qM rfl rfl ?_) | skip
           all_goals first | refine qT rfl rfl ?_ | refine q1 rfl rfl rfl ?_ | refine q0 rfl rfl rfl ?_ | refine qgP1 rfl rfl rfl (fun hg => ?_) (fun hg => ?_) | refine qgP0 rfl rfl rfl (fun hg => ?_) (fun hg => ?_)
           all_goals try simp only [s1, s2, s3, s4, s5, s6, s7, s8, s9, s10, s11, s12] at hg
           all_goals first | refine qQ (Lw rfl rfl rfl rfl) rfl rfl ?_ | refine qQ (La rfl rfl rfl rfl rfl) rfl rfl ?_ | skip
           all_goals first | refine qT rfl rfl ?_ | refine q1 rfl rfl rfl ?_ | refine q0 rfl rfl rfl ?_ | refine qgP1 rfl rfl rfl (fun hg => ?_) (fun hg => ?_) | refine qgP0 rfl rfl rfl (fun hg => ?_) (fun hg => ?_)
           all_goals try simp only [s1, s2, s3, s4, s5, s6, s7, s8, s9, s10, s11, s12] at hg
           all_goals first | (fail "call of (loop.example/g01310/impl.Conic).at at slot 39") | skip
           all_goals first | refine qT rfl rfl ?_ | refine q1 rfl rfl rfl ?_ | refine q0 rfl rfl rfl ?_ | refine qgP1 rfl rfl rfl (fun hg => ?_) (fun hg => ?_) | refine qgP0 rfl rfl rfl (fun hg => ?_) (fun hg => ?_)
           all_goals try simp only [s1, s2, s3, s4, s5, s6, s7, s8, s9, s10, s11, s12] at hg
           all_goals first | (refine qQ (Q_bin rfl rfl rfl) rfl rfl ?_) | skip
           all_goals first | refine qQ (Q_pick_t rfl (by with_reducible rfl) rfl rfl) rfl rfl ?_ | refine qQ (Q_pick_f rfl (by with_reducible rfl) rfl rfl) rfl rfl ?_
           all_goals refine QW_nil ?_
           all_goals with_reducible refine tN ?_
           all_goals (
            first | refine cT rfl ?_ | refine cF rfl ?_ | refine CW_cond rfl (fun hc => ?_) (fun hc => ?_)
            all_goals try simp only [s1, s2, s3, s4, s5, s6, s7, s8, s9, s10, s11, s12] at hc
            all_goals try (exfalso; first | omega | (simp at hc; done); done)
            all_goals first
              | (
               refine CW_skip ?_)
              | (
               refine cR ?_
               refine oA rfl rfl ?_
               refine oN ?_
               refine CW_ret ?_))
           all_goals first | with_reducible refine bN ?_ | with_reducible refine bE ?_ | with_reducible refine bR ?_ | refine bX rfl ?_
           all_goals first
             | with_reducible refine tR ?_
             | with_reducible refine tE ?_
             | (
              with_reducible refine tN ?_
              refine CW_region ?_
              first | refine oQ (Q_binu rfl rfl rfl (by omega)) rfl rfl ?_ | refine oQ (Q_bin rfl rfl rfl) rfl rfl ?_
              refine oM rfl rfl ?_
              refine OW_nil ?_))
        all_goals first
          | with_reducible refine tR ?_
          | with_reducible refine tE ?_
          | (
           with_reducible refine tN ?_
           fail "again 0")
        all_goals first | with_reducible refine bN ?_ | with_reducible refine bE ?_ | with_reducible refine bR ?_ | refine bX rfl ?_
        all_goals first
          | with_reducible refine tR ?_
          | with_reducible refine tE ?_
          | (
           with_reducible refine tN ?_
           refine CW_seq ?_
           refine cR ?_
           first | refine oQ (Lw rfl rfl rfl rfl) rfl rfl ?_ | refine oQ (La rfl rfl rfl rfl rfl) rfl rfl ?_
           refine oM rfl rfl ?_
           fail "call of (loop.example/g01310/impl.Conic).kind at slot 45"
           refine oQ (Q_bin rfl rfl rfl) rfl rfl ?_
           refine oN ?_
           first | refine cT rfl ?_ | refine cF rfl ?_ | refine CW_cond rfl (fun hc => ?_) (fun hc => ?_)
           all_goals try simp only [s1, s2, s3, s4, s5, s6, s7, s8, s9, s10, s11, s12] at hc
           all_goals try (exfalso; first | omega | (simp at hc; done); done)
           all_goals first
             | (
              refine CW_skip ?_)
             | (
              refine cR ?_
              refine oA rfl rfl ?_
              refine oN ?_
              refine CW_ret ?_)
           all_goals first
             | with_reducible refine tR ?_
             | with_reducible refine tE ?_
             | (
              with_reducible refine tN ?_
              refine cR ?_
              refine oA rfl rfl ?_
              refine oN ?_
              refine CW_ret ?_))))
  all_goals (
   refine exitQ (.inr rfl) 0 (.cons (.tmp rfl rfl) .nil) ?_ rfl vHn rfl rfl
   refine congrArg V.int ?_
   first
     | exact (hexC_code (by assumption)).symm
     | exact (hexC_two (by assumption) (by omega)).symm)
theorem impl_BrianchonPoint_nil (p : Int) (c : List Int) (hc6 : c.length = 6) : ConQ Try.prog [] 36 [.int p, .arr c, .nilsl] [] (.tuple [.arr zero3, .int (hexC p c [] 0)]) := by
  have hn := hexC_nil (p := p) (c := c) (M := [])
  refine conW tab_ok [(0, .int p), (1, .arr c), (2, .nilsl)] 0 [] [] Try.func36 rfl rfl rfl rfl rfl rfl rfl rfl rfl ?_
  refine cR ?_
  iterate 3 refine oBox rfl rfl rfl rfl rfl rfl ?_
  refine oAlloc rfl rfl rfl rfl rfl rfl rfl ?_
  refine oA rfl rfl ?_
  refine oN ?_
  refine CW_seq ?_
  refine cR ?_
  refine oQ (Ld rfl rfl rfl rfl) rfl rfl ?_
  refine oQ (Q_ldw rfl rfl rfl rfl hc6) rfl rfl ?_
  refine oQ (Q_ldv rfl rfl rfl rfl rfl rfl) rfl rfl ?_
  refine oQ (Q_call0 (impl_hex_nil p c hc6) rfl rfl rfl) rfl rfl ?_
  refine oA rfl rfl ?_
  refine oN ?_
  refine cR ?_
  refine oM rfl rfl ?_
  refine oQ (Q_bin rfl rfl rfl) rfl rfl ?_
  refine oN ?_
  first | refine cT rfl ?_ | refine cF rfl ?_ | refine CW_cond rfl (fun hc => ?_) (fun hc => ?_)
  all_goals try simp only [s1, s2, s3, s4, s5, s6, s7, s8, s9, s10, s11, s12] at hc
  all_goals try (exfalso; first | omega | contradiction | (simp at hc; done); done)
  all_goals first
    | (
     refine CW_skip ?_)
    | (
     refine cR ?_
     refine oQ (Q_build rfl rfl rfl rfl rfl rfl rfl rfl) rfl rfl ?_
     refine oM rfl rfl ?_
     first | refine oSw rfl rfl rfl rfl ?_ | refine oSa rfl rfl rfl rfl ?_
     refine oA rfl rfl ?_
     refine oN ?_
     refine CW_ret ?_)
  all_goals first
    | with_reducible refine tR ?_
    | with_reducible refine tE ?_
    | (
     with_reducible refine tN ?_
     refine cR ?_
     exfalso; contradiction
     refine oA rfl rfl ?_
     refine oN ?_
     refine CW_seq ?_
     refine CW_any (fun i => List.elem i [14, 15]) 16 rfl lateOk (by decide +kernel) (fun hst => ?_)
     refine aQ 0 hst rfl rfl (by decide +kernel) (QX_of (Ld rfl rfl rfl rfl) NE_load) rfl rfl ?_
     refine aQ 1 hst rfl rfl (by decide +kernel) (QX_of (Ld rfl rfl rfl rfl) NE_load) rfl rfl ?_
     refine aP 2 hst rfl rfl (by decide +kernel) (PX_move rfl rfl) rfl rfl ?_
     fail "call of a value at slot 22"
     refine aP 4 hst rfl rfl (by decide +kernel) (PX_move rfl rfl) rfl rfl ?_
     fail "call of a value at slot 24"
     fail "call of loop.example/g01310/impl.join at slot 25"
     refine aQ 7 hst rfl rfl (by decide +kernel) (QX_of (Ld rfl rfl rfl rfl) NE_load) rfl rfl ?_
     refine aP 8 hst rfl rfl (by decide +kernel) (PX_move rfl rfl) rfl rfl ?_
     fail "call of a value at slot 28"
     refine aP 10 hst rfl rfl (by decide +kernel) (PX_move rfl rfl) rfl rfl ?_
     fail "call of a value at slot 30"
     fail "call of loop.example/g01310/impl.join at slot 31"
     fail "call of loop.example/g01310/impl.meet at slot 32"
     refine AW_last [14, 15] rfl (by decide +kernel) rfl ?_
     first | refine oSw rfl rfl rfl rfl ?_ | refine oSa rfl rfl rfl rfl ?_
     refine oA rfl rfl ?_
     refine OW_nil (npN ?_)
     all_goals with_reducible refine tN ?_
     all_goals (
      refine CW_ret ?_))
  all_goals (
   ((refine exitQ (.inr rfl) 0 (.cons (.arr rfl rfl rfl rfl (by first | omega | (dsimp only; omega) | (simp; omega) | (simp; done))) (.cons (.tmp rfl rfl) .nil)) ?_ rfl vHn rfl rfl); rfl))
end Go.Proofs.Ytoiolpgmilobnaa
namespace Go.Proofs.Ytoiolpgmilobnaa
set_option maxRecDepth 10000
set_option linter.unusedSimpArgs false
set_option linter.unusedVariables false
theorem polX3 (p : Int) (c a : List Int) : (polX p c a).length = 3 := rfl
attribute [local simp] jnX3 plN3 normL_length polX3
attribute [local irreducible] CW OW QW QOp Con thenP inBlockP AW QX RW AX
theorem bside_con (p : Int) (c M : List Int) (n k i : Nat) (hc6 : c.length = 6) (hcs : sm 13 c) (hp : primeB p = true) (hM : 18 ≤ M.length) (hpt : ∀ j, j < 6 → pointB p (elemAt 3 M j) = true) (hi : i < 6) (h6 : n = 6) : ConQ Try.prog [] 68 [.int (i : Int), .ptr 2 0, .ptr 1 0, .ptr 3 0] [(1, .ints 2 [p]), (2, .ints 25 c), (3, .vals 39 [.slice 0 0 n k]), (0, .ints 32 M)] (.arr (jnX p (plN p c (elemAt 3 M (i % 6))) (plN p c (elemAt 3 M ((i + 1) % 6))))) := by
  have e1 := elem_len (M := M) (i := i % 6) (by omega)
  have e2 := elem_len (M := M) (i := (i + 1) % 6) (by omega)
  have s1' := sm_point (hpt (i % 6) (by omega))
  have s2' := sm_point (hpt ((i + 1) % 6) (by omega))
  refine conW tab_ok [(0, .int (i : Int)), (1, .ptr 2 0), (2, .ptr 1 0), (3, .ptr 3 0)] 4 [1, 2, 3, 0] [1, 2, 3, 0] Try.func68 rfl rfl rfl rfl rfl rfl rfl rfl rfl ?_
  refine cR ?_
  refine oAlloc rfl rfl rfl rfl rfl rfl rfl ?_
  refine oN ?_
  refine CW_seq ?_
  refine CW_any (fun i => List.elem i [12, 13]) 14 rfl lateOk (by decide +kernel) (fun hst => ?_)
  refine aQ 0 hst rfl rfl (by decide +kernel) (QX_of (Q_ldw rfl rfl rfl rfl hc6) NE_load) rfl rfl ?_
  first | refine aQ 1 hst rfl rfl (by decide +kernel) (QX_of (Q_ldc rfl rfl rfl rfl rfl) NE_load) rfl rfl ?_ | refine aQ 1 hst rfl rfl (by decide +kernel) (QX_of (Ld rfl rfl rfl rfl) NE_load) rfl rfl ?_
  refine aQ 2 hst rfl rfl (by decide +kernel) (QX_of (Q_ldv rfl rfl rfl rfl rfl rfl) NE_load) rfl rfl ?_
  refine aP 3 hst rfl rfl (by decide +kernel) (PX_move rfl rfl) rfl rfl ?_
  refine aQ 4 hst rfl rfl (by decide +kernel) (QX_of (Q_nrem (b := 6) rfl rfl (by decide)) NE_bin) rfl rfl ?_
  refine aQ 5 hst rfl rfl (by decide +kernel) (QX_of (Q_ixs0z 3 rfl rfl rfl rfl rfl rfl (by omega)) NE_ix) rfl rfl ?_
  refine aQ 6 hst rfl rfl (by decide +kernel) (QX_of (Q_lda (n := 3) rfl rfl rfl rfl rfl (by omega)) NE_load) rfl rfl ?_
  refine aQ 7 hst rfl rfl (by decide +kernel) (QX_call0 (polar_con p c (elemAt 3 M (i % 6)) hp hc6 e1 hcs s1') rfl rfl rfl) rfl rfl ?_
  refine aP 8 hst rfl rfl (by decide +kernel) (PX_move rfl rfl) rfl rfl ?_
  refine aExt 9 hst rfl rfl (by decide +kernel) rfl rfl rfl rfl ?_
  refine aExt 10 hst rfl rfl (by decide +kernel) rfl rfl rfl rfl ?_
  refine AW_one (i := 11) (by decide +kernel) ?_
  refine gAlloc rfl rfl rfl rfl rfl rfl rfl rfl rfl ?_
  refine AW_last [12, 13] rfl (by decide +kernel) rfl ?_
  first | refine oSw rfl rfl rfl rfl ?_ | refine oSa rfl rfl rfl rfl ?_
  refine oA rfl rfl ?_
  refine OW_nil (npN ?_)
  all_goals with_reducible refine tN ?_
  all_goals (
   refine CW_seq ?_
   refine CW_any (fun i => List.elem i [13, 14]) 15 rfl lateOk (by decide +kernel) (fun hst => ?_)
   refine aQ 0 hst rfl rfl (by decide +kernel) (QX_of (Q_ldw rfl rfl rfl rfl hc6) NE_load) rfl rfl ?_
   first | refine aQ 1 hst rfl rfl (by decide +kernel) (QX_of (Q_ldc rfl rfl rfl rfl rfl) NE_load) rfl rfl ?_ | refine aQ 1 hst rfl rfl (by decide +kernel) (QX_of (Ld rfl rfl rfl rfl) NE_load) rfl rfl ?_
   refine aQ 2 hst rfl rfl (by decide +kernel) (QX_of (Q_ldv rfl rfl rfl rfl rfl rfl) NE_load) rfl rfl ?_
   refine aP 3 hst rfl rfl (by decide +kernel) (PX_move rfl rfl) rfl rfl ?_
   first | refine aP 4 hst rfl rfl (by decide +kernel) (PX_binu rfl rfl rfl (by omega)) rfl rfl ?_ | refine aP 4 hst rfl rfl (by decide +kernel) (PX_bin rfl rfl rfl) rfl rfl ?_
   refine aQ 5 hst rfl rfl (by decide +kernel) (QX_of (Q_nrem (b := 6) rfl rfl (by decide)) NE_bin) rfl rfl ?_
   refine aQ 6 hst rfl rfl (by decide +kernel) (QX_of (Q_ixs0z 3 rfl rfl rfl rfl rfl rfl (by omega)) NE_ix) rfl rfl ?_
   refine aQ 7 hst rfl rfl (by decide +kernel) (QX_of (Q_lda (n := 3) rfl rfl rfl rfl rfl (by omega)) NE_load) rfl rfl ?_
   refine aQ 8 hst rfl rfl (by decide +kernel) (QX_call0 (polar_con p c (elemAt 3 M ((i + 1) % 6)) hp hc6 e2 hcs s2') rfl rfl rfl) rfl rfl ?_
   refine aP 9 hst rfl rfl (by decide +kernel) (PX_move rfl rfl) rfl rfl ?_
   refine aExt 10 hst rfl rfl (by decide +kernel) rfl rfl rfl rfl ?_
   refine aExt 11 hst rfl rfl (by decide +kernel) rfl rfl rfl rfl ?_
   refine AW_one (i := 12) (by decide +kernel) ?_
   refine gAlloc rfl rfl rfl rfl rfl rfl rfl rfl rfl ?_
   refine AW_last [13, 14] rfl (by decide +kernel) rfl ?_
   first | refine oSw rfl rfl rfl rfl ?_ | refine oSa rfl rfl rfl rfl ?_
   refine oA rfl rfl ?_
   refine OW_nil (npN ?_)
   all_goals with_reducible refine tN ?_
   all_goals (
    refine cR ?_
    first | refine oQ (Q_ldc rfl rfl rfl rfl rfl) rfl rfl ?_ | refine oQ (Ld rfl rfl rfl rfl) rfl rfl ?_
    refine oQ (Q_ldw rfl rfl rfl rfl (plN3 p c (elemAt 3 M (i % 6)))) rfl rfl ?_
    refine oQ (Q_ldw rfl rfl rfl rfl (plN3 p c (elemAt 3 M ((i + 1) % 6)))) rfl rfl ?_
    refine oQ (Q_call0 (meet_con p (plN p c (elemAt 3 M (i % 6))) (plN p c (elemAt 3 M ((i + 1) % 6))) hp (plN3 ..) (plN3 ..) (normL_sm hp _) (normL_sm hp _)) rfl rfl rfl) rfl rfl ?_
    first | refine oSw rfl rfl rfl rfl ?_ | refine oSa rfl rfl rfl rfl ?_
    refine oN ?_
    refine CW_ret ?_))
  all_goals (
   ((refine exitQ (.inr rfl) 4 (.cons (.arr rfl rfl rfl rfl (by first | omega | (dsimp only; omega) | (simp; omega) | (simp; done))) .nil) ?_ rfl (vHc rfl (vHc rfl (vHc rfl (vHc rfl vHn)))) rfl rfl); rfl))
theorem impl_BrianchonPoint_M (p : Int) (c M : List Int) (n k : Nat) (hc6 : c.length = 6) (hM : n * 3 ≤ M.length) (hn9 : n ≤ 1000000000) (hkn : n ≤ k) : ConQ Try.prog [] 36 [.int p, .arr c, .slice 0 0 n k] [(0, .ints 32 M)] (.tuple [.arr (briV p c M n), .int (hexC p c M n)]) := by
  refine conW tab_ok [(0, .int p), (1, .arr c), (2, .slice 0 0 n k)] 1 [0] [0] Try.func36 rfl rfl rfl rfl rfl rfl rfl rfl rfl ?_
  refine cR ?_
  iterate 3 refine oBox rfl rfl rfl rfl rfl rfl ?_
  refine oAlloc rfl rfl rfl rfl rfl rfl rfl ?_
  refine oA rfl rfl ?_
  refine oN ?_
  refine CW_seq ?_
  refine cR ?_
  first | refine oQ (Q_ldc rfl rfl rfl rfl rfl) rfl rfl ?_ | refine oQ (Ld rfl rfl rfl rfl) rfl rfl ?_
  refine oQ (Q_ldw rfl rfl rfl rfl hc6) rfl rfl ?_
  refine oQ (Q_ldv rfl rfl rfl rfl rfl rfl) rfl rfl ?_
  refine oQ (Q_call (impl_hex_con p c M n k hc6 hM hn9 hkn) [] rfl rfl (Fits.mk' (vHc rfl vHn) rfl rfl (by first | (simp; done) | exact glOk rfl rfl rfl)) rfl rfl) rfl rfl ?_
  refine oA rfl rfl ?_
  refine oN ?_
  refine cR ?_
  refine oM rfl rfl ?_
  refine oQ (Q_bin rfl rfl rfl) rfl rfl ?_
  refine oN ?_
  first | refine cT rfl ?_ | refine cF rfl ?_ | refine CW_cond rfl (fun hc => ?_) (fun hc => ?_)
  all_goals try simp only [s1, s2, s3, s4, s5, s6, s7, s8, s9, s10, s11, s12] at hc
  all_goals first
    | (
     refine CW_skip ?_)
    | (
     refine cR ?_
     refine oQ (Q_build rfl rfl rfl rfl rfl rfl rfl rfl) rfl rfl ?_
     refine oM rfl rfl ?_
     first | refine oSw rfl rfl rfl rfl ?_ | refine oSa rfl rfl rfl rfl ?_
     refine oA rfl rfl ?_
     refine oN ?_
     refine CW_ret ?_)
  all_goals first
    | with_reducible refine tR ?_
    | with_reducible refine tE ?_
    | (
     with_reducible refine tN ?_
     refine cR ?_
     (have h0 : hexC p c M n = 0 := by assumption)
     (obtain ⟨hc0, h6⟩ := hexC_ok h0)
     (have hcc := codeB_zero.1 hc0)
     (have hcb := Bool.and_eq_true_iff.1 hcc.2)
     (have hsd := fun (i : Nat) (hi : i < 6) => bside_con p c M n k i hc6 (sm_point hcb.2) hcc.1 (by omega) (fun j hj => allF_get hcb.1 (by omega)) hi h6)
     refine oQ (Q_makeFunc rfl rfl) rfl rfl ?_
     refine oA rfl rfl ?_
     refine oN ?_
     refine CW_seq ?_
     refine CW_any (fun i => List.elem i [14, 15]) 16 rfl lateOk (by decide +kernel) (fun hst => ?_)
     first | refine aQ 0 hst rfl rfl (by decide +kernel) (QX_of (Q_ldc rfl rfl rfl rfl rfl) NE_load) rfl rfl ?_ | refine aQ 0 hst rfl rfl (by decide +kernel) (QX_of (Ld rfl rfl rfl rfl) NE_load) rfl rfl ?_
     first | refine aQ 1 hst rfl rfl (by decide +kernel) (QX_of (Q_ldc rfl rfl rfl rfl rfl) NE_load) rfl rfl ?_ | refine aQ 1 hst rfl rfl (by decide +kernel) (QX_of (Ld rfl rfl rfl rfl) NE_load) rfl rfl ?_
     refine aP 2 hst rfl rfl (by decide +kernel) (PX_move rfl rfl) rfl rfl ?_
     refine aQ 3 hst rfl rfl (by decide +kernel) (QX_callf (hsd 0 (by decide)) [] rfl rfl rfl (Fits.mk' (vHc rfl (vHc rfl (vHc rfl (vHc rfl vHn)))) rfl rfl (by first | (simp; done) | exact glOk rfl rfl rfl)) rfl rfl rfl) rfl rfl ?_
     refine aP 4 hst rfl rfl (by decide +kernel) (PX_move rfl rfl) rfl rfl ?_
     refine aQ 5 hst rfl rfl (by decide +kernel) (QX_callf (hsd 3 (by decide)) [] rfl rfl rfl (Fits.mk' (vHc rfl (vHc rfl (vHc rfl (vHc rfl vHn)))) rfl rfl (by first | (simp; done) | exact glOk rfl rfl rfl)) rfl rfl rfl) rfl rfl ?_
     refine aQ 6 hst rfl rfl (by decide +kernel) (QX_call0 (join_con p _ _ hcc.1 (jnX3 ..) (jnX3 ..) (jnXs hcc.1 _ _) (jnXs hcc.1 _ _)) rfl rfl rfl) rfl rfl ?_
     first | refine aQ 7 hst rfl rfl (by decide +kernel) (QX_of (Q_ldc rfl rfl rfl rfl rfl) NE_load) rfl rfl ?_ | refine aQ 7 hst rfl rfl (by decide +kernel) (QX_of (Ld rfl rfl rfl rfl) NE_load) rfl rfl ?_
     refine aP 8 hst rfl rfl (by decide +kernel) (PX_move rfl rfl) rfl rfl ?_
     refine aQ 9 hst rfl rfl (by decide +kernel) (QX_callf (hsd 1 (by decide)) [] rfl rfl rfl (Fits.mk' (vHc rfl (vHc rfl (vHc rfl (vHc rfl vHn)))) rfl rfl (by first | (simp; done) | exact glOk rfl rfl rfl)) rfl rfl rfl) rfl rfl ?_
     refine aP 10 hst rfl rfl (by decide +kernel) (PX_move rfl rfl) rfl rfl ?_
     refine aQ 11 hst rfl rfl (by decide +kernel) (QX_callf (hsd 4 (by decide)) [] rfl rfl rfl (Fits.mk' (vHc rfl (vHc rfl (vHc rfl (vHc rfl vHn)))) rfl rfl (by first | (simp; done) | exact glOk rfl rfl rfl)) rfl rfl rfl) rfl rfl ?_
     refine aQ 12 hst rfl rfl (by decide +kernel) (QX_call0 (join_con p _ _ hcc.1 (jnX3 ..) (jnX3 ..) (jnXs hcc.1 _ _) (jnXs hcc.1 _ _)) rfl rfl rfl) rfl rfl ?_
     refine aQ 13 hst rfl rfl (by decide +kernel) (QX_call0 (meet_con p (jnX p _ _) (jnX p _ _) hcc.1 (jnX3 ..) (jnX3 ..) (jnXs hcc.1 _ _) (jnXs hcc.1 _ _)) rfl rfl rfl) rfl rfl ?_
     refine AW_last [14, 15] rfl (by decide +kernel) rfl ?_
     first | refine oSw rfl rfl rfl rfl ?_ | refine oSa rfl rfl rfl rfl ?_
     refine oA rfl rfl ?_
     refine OW_nil (npN ?_)
     all_goals with_reducible refine tN ?_
     all_goals (
      refine CW_ret ?_))
  all_goals (
   refine exitQ (.inr rfl) 1 (.cons (.arr rfl rfl rfl rfl (by first | omega | (dsimp only; omega) | (simp; omega) | (simp; done))) (.cons (.tmp rfl rfl) .nil)) ?_ rfl (vHc rfl vHn) rfl rfl
   first
     | (have h1 : ¬ hexC p c M n = 0 := by assumption
        unfold briV; rw [if_neg h1]; rfl)
     | (unfold briV; rw [if_pos h0, h0]; rfl))
theorem spec_BrianchonPoint_M (p : Int) (c M : List Int) (n k : Nat) (hc6 : c.length = 6) (hM : n * 3 ≤ M.length) (hn9 : n ≤ 1000000000) : ConQ Try.prog [] 35 [.int p, .arr c, .slice 0 0 n k] [(0, .ints 32 M)] (.tuple [.arr (briV p c M n), .int (hexC p c M n)]) := by
  refine conW tab_ok [(0, .int p), (1, .arr c), (2, .slice 0 0 n k)] 1 [0] [0] Try.func35 rfl rfl rfl rfl rfl rfl rfl rfl rfl ?_
  refine cR ?_
  refine oBox rfl rfl rfl rfl rfl rfl ?_
  refine oAlloc rfl rfl rfl rfl rfl rfl rfl ?_
  refine oA rfl rfl ?_
  refine oN ?_
  refine CW_seq ?_
  refine cR ?_
  refine oM rfl rfl ?_
  refine oQ (Q_ldw rfl rfl rfl rfl hc6) rfl rfl ?_
  refine oM rfl rfl ?_
  refine oQ (Q_call (spec_hex_con p c M n k hc6 hM hn9) [] rfl rfl (Fits.mk' (vHc rfl vHn) rfl rfl (by first | (simp; done) | exact glOk rfl rfl rfl)) rfl rfl) rfl rfl ?_
  refine oA rfl rfl ?_
  refine oN ?_
  refine cR ?_
  refine oM rfl rfl ?_
  refine oQ (Q_bin rfl rfl rfl) rfl rfl ?_
  refine oN ?_
  first | refine cT rfl ?_ | refine cF rfl ?_ | refine CW_cond rfl (fun hc => ?_) (fun hc => ?_)
  all_goals try simp only [s1, s2, s3, s4, s5, s6, s7, s8, s9, s10, s11, s12] at hc
  all_goals try (exfalso; first | omega | (simp at hc; done); done)
  all_goals first
    | (
     refine CW_skip ?_)
    | (
     refine cR ?_
     refine oQ (Q_build rfl rfl rfl rfl rfl rfl rfl rfl) rfl rfl ?_
     refine oM rfl rfl ?_
     first | refine oSw rfl rfl rfl rfl ?_ | refine oSa rfl rfl rfl rfl ?_
     refine oA rfl rfl ?_
     refine oN ?_
     refine CW_ret ?_)
  all_goals first
    | with_reducible refine tR ?_
    | with_reducible refine tE ?_
    | (
     with_reducible refine tN ?_
     refine cR ?_
     refine oBsl (r := []) rfl rfl rfl rfl (.inr ⟨rfl, rfl, by decide⟩) rfl rfl rfl rfl rfl rfl ?_
     refine oA rfl rfl ?_
     refine oN ?_
     refine CW_seq ?_
     refine cR ?_
     refine oA rfl rfl ?_
     refine oN ?_
     refine CW_block ?_
     have h0 : hexC p c M n = 0 := by assumption
     obtain ⟨hc0, h6⟩ := hexC_ok h0
     have hcc := codeB_zero.1 hc0
     have hcb := Bool.and_eq_true_iff.1 hcc.2
     have hcm := pointB_mod hcb.2
     have hpt := fun j (hj : j < 6) => allF_get hcb.1 (show j < n by omega)
     have hg3 : ∀ i, (briG p c M i).length = 3 := fun i => jnX3 ..
     refine CW_loop (ι := Nat × Nat × List Int) (fun x => x.1 ≤ 6 ∧ x.1 ≤ x.2.1 ∧ x.2.1 * 3 ≤ x.1 * 3 + x.2.2.length) (fun x => ⟨[(0, .int p), (2, .slice 0 0 n k), (4, .ptr 1 0), (6, .ptr 2 0), (9, .slice 3 0 x.1 x.2.1), (10, .int x.1)], [(0, .ints 32 M), (1, .ints 25 c), (2, .ints 32 [0, 0, 0]), (3, .ints 32 (((List.range x.1).map (briG p c M)).flatten ++ x.2.2))], 4⟩) (fun x => 6 - x.1) (0, 0, []) ?_ ?_ ?_
     · exact ⟨Nat.zero_le _, Nat.le_refl _, Nat.le_refl _⟩
     · refine View.mk' [] rfl rfl rfl ?_ ?_
       repeat' first | exact vFn | refine vFc rfl ?_ | exact vHn | refine vHc rfl ?_ | refine vFc (congrArg (fun z => some (V.int z)) ?_) ?_ | refine vHc (congrArg (fun z => some (Blk.ints _ z)) ?_) ?_ | refine vFc (congrArg (fun z => some (V.bool z)) ?_) ?_ | refine vFs rfl rfl ?_ ?_
     rintro ⟨i, kk, sp⟩ ⟨hi, hkk, hsp⟩
     dsimp only at hi hkk hsp ⊢
     have hlen := map_len hg3 i
     have hgi := hg3 i
     have e1 := fun (h : i < 6) => elem_len (M := M) (i := i) (by omega)
     have e2 := fun (h : i < 6) => elem_len (M := M) (i := (i + 1) % 6) (by omega)
     refine CW_seq ?_
     refine cR ?_
     refine oM rfl rfl ?_
     refine oQ (Q_bin rfl rfl rfl) rfl rfl ?_
     refine oN ?_
     first | refine cT rfl ?_ | refine cF rfl ?_ | refine CW_cond rfl (fun hc => ?_) (fun hc => ?_)
     all_goals try simp only [s1, s2, s3, s4, s5, s6, s7, s8, s9, s10, s11, s12] at hc
     all_goals try (exfalso; first | omega | (simp at hc; done); done)
     all_goals first
       | (
        refine CW_skip ?_)
       | (
        refine CW_exit ?_)
     all_goals first
       | with_reducible refine tR ?_
       | with_reducible refine tE ?_
       | (
        with_reducible refine tN ?_
        refine CW_seq ?_
        refine CW_block ?_
        refine CW_seq ?_
        refine CW_any (fun i => List.elem i [11, 12]) 13 rfl lateOk (by decide +kernel) (fun hst => ?_)
        refine aP 0 hst rfl rfl (by decide +kernel) (PX_move rfl rfl) rfl rfl ?_
        refine aQ 1 hst rfl rfl (by decide +kernel) (QX_of (Q_ldw rfl rfl rfl rfl hc6) NE_load) rfl rfl ?_
        refine aP 2 hst rfl rfl (by decide +kernel) (PX_move rfl rfl) rfl rfl ?_
        refine aP 3 hst rfl rfl (by decide +kernel) (PX_move rfl rfl) rfl rfl ?_
        refine aQ 4 hst rfl rfl (by decide +kernel) (QX_of (Q_ixs0z 3 rfl rfl rfl rfl rfl rfl (by omega)) NE_ix) rfl rfl ?_
        refine aQ 5 hst rfl rfl (by decide +kernel) (QX_of (Q_lda (n := 3) rfl rfl rfl rfl rfl (by omega)) NE_load) rfl rfl ?_
        refine aQ 6 hst rfl rfl (by decide +kernel) (QX_call0 (l03Polar_con p c (elemAt 3 M i) hcc.1 hc6 (e1 (by omega)) hcm (sm_point (hpt _ (by omega)))) rfl rfl rfl) rfl rfl ?_
        refine aP 7 hst rfl rfl (by decide +kernel) (PX_move rfl rfl) rfl rfl ?_
        refine aExt 8 hst rfl rfl (by decide +kernel) rfl rfl rfl rfl ?_
        refine aExt 9 hst rfl rfl (by decide +kernel) rfl rfl rfl rfl ?_
        refine AW_one (i := 10) (by decide +kernel) ?_
        refine gAlloc rfl rfl rfl rfl rfl rfl rfl rfl rfl ?_
        refine AW_last [11, 12] rfl (by decide +kernel) rfl ?_
        first | refine oSw rfl rfl rfl rfl ?_ | refine oSa rfl rfl rfl rfl ?_
        refine oA rfl rfl ?_
        refine OW_nil (npN ?_)
        all_goals with_reducible refine tN ?_
        all_goals (
         refine CW_seq ?_
         refine CW_any (fun i => List.elem i [13, 14]) 15 rfl lateOk (by decide +kernel) (fun hst => ?_)
         refine aP 0 hst rfl rfl (by decide +kernel) (PX_move rfl rfl) rfl rfl ?_
         refine aQ 1 hst rfl rfl (by decide +kernel) (QX_of (Q_ldw rfl rfl rfl rfl hc6) NE_load) rfl rfl ?_
         refine aP 2 hst rfl rfl (by decide +kernel) (PX_move rfl rfl) rfl rfl ?_
         refine aP 3 hst rfl rfl (by decide +kernel) (PX_move rfl rfl) rfl rfl ?_
         first | refine aP 4 hst rfl rfl (by decide +kernel) (PX_binu rfl rfl rfl (by omega)) rfl rfl ?_ | refine aP 4 hst rfl rfl (by decide +kernel) (PX_bin rfl rfl rfl) rfl rfl ?_
         refine aQ 5 hst rfl rfl (by decide +kernel) (QX_of (Q_nrem (b := 6) rfl rfl (by decide)) NE_bin) rfl rfl ?_
         refine aQ 6 hst rfl rfl (by decide +kernel) (QX_of (Q_ixs0z (j := (i + 1) % 6) 3 rfl rfl rfl rfl rfl rfl (by omega)) NE_ix) rfl rfl ?_
         refine aQ 7 hst rfl rfl (by decide +kernel) (QX_of (Q_lda (n := 3) rfl rfl rfl rfl rfl (by omega)) NE_load) rfl rfl ?_
         refine aQ 8 hst rfl rfl (by decide +kernel) (QX_call0 (l03Polar_con p c (elemAt 3 M ((i + 1) % 6)) hcc.1 hc6 (e2 (by omega)) hcm (sm_point (hpt _ (by omega)))) rfl rfl rfl) rfl rfl ?_
         refine aP 9 hst rfl rfl (by decide +kernel) (PX_move rfl rfl) rfl rfl ?_
         refine aExt 10 hst rfl rfl (by decide +kernel) rfl rfl rfl rfl ?_
         refine aExt 11 hst rfl rfl (by decide +kernel) rfl rfl rfl rfl ?_
         refine AW_one (i := 12) (by decide +kernel) ?_
         refine gAlloc rfl rfl rfl rfl rfl rfl rfl rfl rfl ?_
         refine AW_last [13, 14] rfl (by decide +kernel) rfl ?_
         first | refine oSw rfl rfl rfl rfl ?_ | refine oSa rfl rfl rfl rfl ?_
         refine oA rfl rfl ?_
         refine OW_nil (npN ?_)
         all_goals with_reducible refine tN ?_
         all_goals (
          refine cR ?_
          refine oM rfl rfl ?_
          refine oQ (Q_ldw rfl rfl rfl rfl (plN3 p c (elemAt 3 M i))) rfl rfl ?_
          refine oQ (Q_ldw rfl rfl rfl rfl (plN3 p c (elemAt 3 M ((i + 1) % 6)))) rfl rfl ?_
          refine oQ (Q_call0 (l01Meet_con p (plN p c (elemAt 3 M i)) (plN p c (elemAt 3 M ((i + 1) % 6))) hcc.1 (plN3 ..) (plN3 ..) (normL_sm hcc.1 _) (normL_sm hcc.1 _)) rfl rfl rfl) rfl rfl ?_
          refine oM rfl rfl ?_
          iterate 2 refine oQ (Q_extract rfl rfl) rfl rfl ?_
          refine oAlloc rfl rfl rfl rfl rfl rfl rfl ?_
          first | refine oSw rfl rfl rfl rfl ?_ | refine oSa rfl rfl rfl rfl ?_
          refine oA rfl rfl ?_
          refine oN ?_
          refine CW_region ?_
          refine oM rfl rfl ?_
          refine oQ (Q_ldw rfl rfl rfl rfl (hg3 i)) rfl rfl ?_
          refine oBsl1 (hg3 i) rfl rfl rfl rfl rfl rfl rfl rfl rfl rfl ?_
          refine oApp (sz := 3) (by_ := 24) (xl := briG p c M i) rfl rfl rfl rfl rfl rfl ⟨by decide, rfl, .inr rfl⟩ rfl rfl rfl rfl rfl rfl hlen (by rw [hgi]) (by omega) (by omega) (by omega) (by omega) rfl rfl (fun k2 sp2 h1 h2 => ?_)
          refine oA rfl rfl ?_
          refine OW_nil ?_))
        all_goals first | with_reducible refine bN ?_ | with_reducible refine bE ?_ | with_reducible refine bR ?_ | refine bX rfl ?_
        all_goals with_reducible refine tN ?_
        all_goals (
         refine CW_region ?_
         refine oM rfl rfl ?_
         first | refine oQ (Q_binu rfl rfl rfl (by omega)) rfl rfl ?_ | refine oQ (Q_bin rfl rfl rfl) rfl rfl ?_
         refine oA rfl rfl ?_
         refine OW_nil ?_))
     all_goals first
       | with_reducible refine tR ?_
       | with_reducible refine tE ?_
       | (
        with_reducible refine tN ?_
        refine ⟨(i + 1, k2, sp2), ?_, ?_, View.mk' [(3, 8)] rfl rfl rfl ?_ ?_⟩
        · exact ⟨by omega, h1, h2⟩
        · omega
        all_goals (repeat' first | exact vFn | refine vFc rfl ?_ | exact vHn | refine vHc rfl ?_ | refine vFc (congrArg (fun z => some (V.int z)) ?_) ?_ | refine vHc (congrArg (fun z => some (Blk.ints _ z)) ?_) ?_ | refine vFc (congrArg (fun z => some (V.bool z)) ?_) ?_ | refine vFs rfl rfl ?_ ?_)
        all_goals dsimp only
        all_goals first | rfl | (rw [List.range_succ, List.map_append, List.flatten_append]; simp))
     all_goals first | with_reducible refine bN ?_ | with_reducible refine bE ?_ | with_reducible refine bR ?_ | refine bX rfl ?_
     all_goals with_reducible refine tN ?_
     all_goals (
      refine CW_seq ?_
      refine CW_any (fun i => List.elem i [12, 13]) 14 rfl lateOk (by decide +kernel) (fun hst => ?_)
      refine aP 0 hst rfl rfl (by decide +kernel) (PX_move rfl rfl) rfl rfl ?_
      refine aP 1 hst rfl rfl (by decide +kernel) (PX_move rfl rfl) rfl rfl ?_
      refine aQ 2 hst rfl rfl (by decide +kernel) (QX_of (Q_ixs0z (j := 0) 3 rfl rfl rfl rfl rfl rfl (by omega)) NE_ix) rfl rfl ?_
      refine aQ 3 hst rfl rfl (by decide +kernel) (QX_of (Q_lda (n := 3) rfl rfl rfl rfl rfl (by rw [List.length_append, hlen]; omega)) NE_load) rfl rfl ?_; rw [map_get hg3 sp (show 0 < i by omega)]
      refine aP 4 hst rfl rfl (by decide +kernel) (PX_move rfl rfl) rfl rfl ?_
      refine aQ 5 hst rfl rfl (by decide +kernel) (QX_of (Q_ixs0z (j := 3) 3 rfl rfl rfl rfl rfl rfl (by omega)) NE_ix) rfl rfl ?_
      refine aQ 6 hst rfl rfl (by decide +kernel) (QX_of (Q_lda (n := 3) rfl rfl rfl rfl rfl (by rw [List.length_append, hlen]; omega)) NE_load) rfl rfl ?_; rw [map_get hg3 sp (show 3 < i by omega)]
      refine aQ 7 hst rfl rfl (by decide +kernel) (QX_call0 (l01Join_con p (briG p c M 0) (briG p c M 3) hcc.1 (hg3 0) (hg3 3) (jnXs hcc.1 _ _) (jnXs hcc.1 _ _)) rfl rfl rfl) rfl rfl ?_
      refine aP 8 hst rfl rfl (by decide +kernel) (PX_move rfl rfl) rfl rfl ?_
      refine aExt 9 hst rfl rfl (by decide +kernel) rfl rfl rfl rfl ?_
      refine aExt 10 hst rfl rfl (by decide +kernel) rfl rfl rfl rfl ?_
      refine AW_one (i := 11) (by decide +kernel) ?_
      refine gAlloc rfl rfl rfl rfl rfl rfl rfl rfl rfl ?_
      refine AW_last [12, 13] rfl (by decide +kernel) rfl ?_
      first | refine oSw rfl rfl rfl rfl ?_ | refine oSa rfl rfl rfl rfl ?_
      refine oA rfl rfl ?_
      refine OW_nil (npN ?_)
      all_goals with_reducible refine tN ?_
      all_goals (
       refine CW_seq ?_
       refine CW_any (fun i => List.elem i [12, 13]) 14 rfl lateOk (by decide +kernel) (fun hst => ?_)
       refine aP 0 hst rfl rfl (by decide +kernel) (PX_move rfl rfl) rfl rfl ?_
       refine aP 1 hst rfl rfl (by decide +kernel) (PX_move rfl rfl) rfl rfl ?_
       refine aQ 2 hst rfl rfl (by decide +kernel) (QX_of (Q_ixs0z (j := 1) 3 rfl rfl rfl rfl rfl rfl (by omega)) NE_ix) rfl rfl ?_
       refine aQ 3 hst rfl rfl (by decide +kernel) (QX_of (Q_lda (n := 3) rfl rfl rfl rfl rfl (by rw [List.length_append, hlen]; omega)) NE_load) rfl rfl ?_; rw [map_get hg3 sp (show 1 < i by omega)]
       refine aP 4 hst rfl rfl (by decide +kernel) (PX_move rfl rfl) rfl rfl ?_
       refine aQ 5 hst rfl rfl (by decide +kernel) (QX_of (Q_ixs0z (j := 4) 3 rfl rfl rfl rfl rfl rfl (by omega)) NE_ix) rfl rfl ?_
       refine aQ 6 hst rfl rfl (by decide +kernel) (QX_of (Q_lda (n := 3) rfl rfl rfl rfl rfl (by rw [List.length_append, hlen]; omega)) NE_load) rfl rfl ?_; rw [map_get hg3 sp (show 4 < i by omega)]
       refine aQ 7 hst rfl rfl (by decide +kernel) (QX_call0 (l01Join_con p (briG p c M 1) (briG p c M 4) hcc.1 (hg3 1) (hg3 4) (jnXs hcc.1 _ _) (jnXs hcc.1 _ _)) rfl rfl rfl) rfl rfl ?_
       refine aP 8 hst rfl rfl (by decide +kernel) (PX_move rfl rfl) rfl rfl ?_
       refine aExt 9 hst rfl rfl (by decide +kernel) rfl rfl rfl rfl ?_
       refine aExt 10 hst rfl rfl (by decide +kernel) rfl rfl rfl rfl ?_
       refine AW_one (i := 11) (by decide +kernel) ?_
       refine gAlloc rfl rfl rfl rfl rfl rfl rfl rfl rfl ?_
       refine AW_last [12, 13] rfl (by decide +kernel) rfl ?_
       first | refine oSw rfl rfl rfl rfl ?_ | refine oSa rfl rfl rfl rfl ?_
       refine oA rfl rfl ?_
       refine OW_nil (npN ?_)
       all_goals with_reducible refine tN ?_
       all_goals (
        refine cR ?_
        refine oM rfl rfl ?_
        refine oQ (Q_ldw rfl rfl rfl rfl (jnX3 p (briG p c M 0) (briG p c M 3))) rfl rfl ?_
        refine oQ (Q_ldw rfl rfl rfl rfl (jnX3 p (briG p c M 1) (briG p c M 4))) rfl rfl ?_
        refine oQ (Q_call0 (l01Meet_con p (jnX p (briG p c M 0) (briG p c M 3)) (jnX p (briG p c M 1) (briG p c M 4)) hcc.1 (jnX3 ..) (jnX3 ..) (jnXs hcc.1 _ _) (jnXs hcc.1 _ _)) rfl rfl rfl) rfl rfl ?_
        refine oM rfl rfl ?_
        iterate 2 refine oQ (Q_extract rfl rfl) rfl rfl ?_
        refine oAlloc rfl rfl rfl rfl rfl rfl rfl ?_
        first | refine oSw rfl rfl rfl rfl ?_ | refine oSa rfl rfl rfl rfl ?_
        refine oA rfl rfl ?_
        refine oN ?_
        refine cR ?_
        refine oQ (Q_ldw rfl rfl rfl rfl (jnX3 p (jnX p (briG p c M 0) (briG p c M 3)) (jnX p (briG p c M 1) (briG p c M 4)))) rfl rfl ?_
        first | refine oSw rfl rfl rfl rfl ?_ | refine oSa rfl rfl rfl rfl ?_
        refine oA rfl rfl ?_
        refine oN ?_
        refine CW_ret ?_))))
  all_goals (
   refine exitQ (.inr rfl) 1 (.cons (.arr rfl rfl rfl rfl (by first | omega | (dsimp only; omega) | (simp; omega) | (simp; done))) (.cons (.tmp rfl rfl) .nil)) ?_ rfl (vHc rfl vHn) rfl rfl
   first
     | (have h1 : ¬ hexC p c M n = 0 := by assumption
        unfold briV; rw [if_neg h1]; rfl)
     | (unfold briV; rw [if_pos h0, h0]; rfl))
end Go.Proofs.Ytoiolpgmilobnaa
namespace Go.Proofs.Ytoiolpgmilobnaa
attribute [local irreducible] CW OW QW QOp Con thenP inBlockP
set_option maxRecDepth 10000
set_option linter.unusedSimpArgs false
set_option linter.unusedVariables false
theorem copyPointR_f {t : TypeId} {H0 : Hp} {l : List Int} {n : Nat} {r : V} {H' : Hp} (h : copyPointR t H0 l n false r H') : r = .slice 1 0 n (n + roomN n) ∧ H' = H0 ++ [(1, .ints t (l ++ padS 3 (roomN n)))] := by
  unfold copyPointR at h
  rwa [if_neg (by simp)] at h
theorem copyPointR_t {t : TypeId} {H0 : Hp} {l : List Int} {n : Nat} {r : V} {H' : Hp} (h : copyPointR t H0 l n true r H') : n = 0 ∧ r = .nilsl ∧ H' = H0 ∨ r = .slice 1 0 n (n + roomN n) ∧ H' = H0 ++ [(1, .ints t (l ++ padS 3 (roomN n)))] := by
  unfold copyPointR at h
  split at h
  · rename_i h'; exact .inl ⟨by simpa using h', h.1, h.2⟩
  · exact .inr h
theorem eqPoint_same (a : List Int) (ha : a.length = 3) : ConQ Try.prog [] 20 [.arr a, .arr a] [] (.bool true) := by
  have := eqPoint_con a a ha ha
  simpa using this
theorem law_FnExactBrianchonPoint_row (p : Int) (c : List Int) (l : List Int) (o n k : Nat) (hl : l.length = n * 3) (hn63 : (n : Int) ≤ 9223372036854775807) (qlc : c.length = 6) : ConQ Try.prog [] 9 [.int p, .arr c, .slice 0 o n k] [(0, .ro o l)] (.bool true) := by
  have hroom := roomN_le n
  have hpl := padS_length 3 (roomN n) (by decide)
  have hs := fun hn9 : n ≤ 1000000 => spec_BrianchonPoint_M p c (l ++ padS 3 (roomN n)) n (n + roomN n) qlc (by simp <;> omega) (by omega)
  have hi := fun hn9 : n ≤ 1000000 => impl_BrianchonPoint_M p c (l ++ padS 3 (roomN n)) n (n + roomN n) qlc (by simp <;> omega) (by omega) (by omega)
  have hz : n = 0 → ConQ Try.prog [] 36 [.int p, .arr c, .nilsl] [] (.tuple [.arr (briV p c (l ++ padS 3 (roomN n)) n), .int (hexC p c (l ++ padS 3 (roomN n)) n)]) := fun e => by
    have := impl_BrianchonPoint_nil p c qlc
    subst e; rw [briV_nil, hexC_nil2]; exact this
  have hvl := briV3 p c (l ++ padS 3 (roomN n)) n
  generalize briV p c (l ++ padS 3 (roomN n)) n = vv at *
  generalize hexC p c (l ++ padS 3 (roomN n)) n = cc at *
  refine conW tab_ok [(0, .int p), (1, .arr c), (2, .slice 0 o n k)] 1 [0] [] Try.func9 rfl rfl rfl rfl rfl rfl rfl rfl rfl ?_
  refine cR ?_
  refine oBox rfl rfl rfl rfl rfl rfl ?_
  refine oA rfl rfl ?_
  refine oN ?_
  refine cR ?_
  refine oA rfl rfl ?_
  refine oN ?_
  refine cR ?_
  iterate 2 refine oM rfl rfl ?_
  refine oQ (Q_call (szPointS_con o n k l 1000000 hn63 rfl) [] rfl rfl (Fits.mk' (vHc rfl vHn) rfl rfl (by first | (simp; done) | exact glOk rfl rfl rfl)) rfl rfl) rfl rfl ?_
  refine oA rfl rfl ?_
  refine oN ?_
  refine CW_seq ?_
  refine cR ?_
  refine oM rfl rfl ?_
  refine oQ (Q_bin rfl rfl rfl) rfl rfl ?_
  refine oN ?_
  first | refine cT rfl ?_ | refine cF rfl ?_ | refine CW_cond rfl (fun hc => ?_) (fun hc => ?_)
  all_goals try simp only [s1, s2, s3, s4, s5, s6, s7, s8, s9, s10, s11, s12] at hc
  all_goals try (exfalso; first | omega | (simp at hc; done); done)
  all_goals first
    | (
     refine CW_skip ?_)
    | (
     refine cR ?_
     refine oA rfl rfl ?_
     refine oN ?_
     refine CW_ret ?_)
  all_goals first
    | with_reducible refine tR ?_
    | with_reducible refine tE ?_
    | (
     with_reducible refine tN ?_
     refine cR ?_
     refine oM rfl rfl ?_
     first | refine oQ (Lw rfl rfl rfl rfl) rfl rfl ?_ | refine oQ (La rfl rfl rfl rfl rfl) rfl rfl ?_
     refine oQ (Q_call0 (toConic_con _ qlc) rfl rfl rfl) rfl rfl ?_
     refine oM rfl rfl ?_
     (have hn : n ≤ 1000000 := by have hc2 : (0 : Int) ≤ (if (n : Int) ≤ 1000000 then 1000000 - (n : Int) else -1) := hc; split at hc2 <;> omega)
     (have hs := hs hn)
     (have hi := hi hn)
     refine oCall (toPointS_row l o n k false hl hn) [] 2 rfl rfl (Fits.mk' (vHc rfl vHn) rfl rfl (by first | (simp; done) | exact glOk rfl rfl rfl)) rfl rfl ?_
     rintro r H1 hR
     obtain ⟨rfl, rfl⟩ := copyPointR_f hR
     refine ⟨.slice 3 0 n (n + roomN n), [(0, .ro o l), (3, .ints 32 (l ++ padS 3 (roomN n)))], rfl, rfl, rfl, ?_⟩
     refine oQ (Q_call (hs) [(0, 3)] rfl rfl (Fits.mk' (vHc rfl vHn) rfl rfl (by first | (simp; done) | exact glOk rfl rfl rfl)) rfl rfl) rfl rfl ?_
     refine oM rfl rfl ?_
     iterate 2 refine oQ (Q_extract rfl rfl) rfl rfl ?_
     refine oAlloc rfl rfl rfl rfl rfl rfl rfl ?_
     first | refine oSw rfl rfl rfl rfl ?_ | refine oSa rfl rfl rfl rfl ?_
     refine oA rfl rfl ?_
     refine oN ?_
     refine cR ?_
     refine oM rfl rfl ?_
     refine oCall (toPointS_row l o n k false hl hn) [] 2 rfl rfl (Fits.mk' (vHc rfl vHn) rfl rfl (by first | (simp; done) | exact glOk rfl rfl rfl)) rfl rfl ?_
     rintro r H1 hR
     obtain ⟨rfl, rfl⟩ := copyPointR_f hR
     refine ⟨.slice 6 0 n (n + roomN n), [(0, .ro o l), (6, .ints 32 (l ++ padS 3 (roomN n)))], rfl, rfl, rfl, ?_⟩
     refine oA rfl rfl ?_
     refine oN ?_
     refine cR ?_
     refine oM rfl rfl ?_
     first | refine oQ (Lw rfl rfl rfl rfl) rfl rfl ?_ | refine oQ (La rfl rfl rfl rfl rfl) rfl rfl ?_
     refine oQ (Q_call0 (toConic_con _ qlc) rfl rfl rfl) rfl rfl ?_
     refine oM rfl rfl ?_
     refine oQ (Q_call (hi) [(0, 6)] rfl rfl (Fits.mk' (vHc rfl vHn) rfl rfl (by first | (simp; done) | exact glOk rfl rfl rfl)) rfl rfl) rfl rfl ?_
     refine oM rfl rfl ?_
     iterate 2 refine oQ (Q_extract rfl rfl) rfl rfl ?_
     refine oAlloc rfl rfl rfl rfl rfl rfl rfl ?_
     first | refine oSw rfl rfl rfl rfl ?_ | refine oSa rfl rfl rfl rfl ?_
     refine oA rfl rfl ?_
     refine oN ?_
     refine CW_seq ?_
     refine cR ?_
     first | refine oQ (Lw rfl rfl rfl rfl) rfl rfl ?_ | refine oQ (La rfl rfl rfl rfl rfl) rfl rfl ?_
     first | refine oQ (Lw rfl rfl rfl rfl) rfl rfl ?_ | refine oQ (La rfl rfl rfl rfl rfl) rfl rfl ?_
     refine oQ (Q_call0 (eqPoint_same vv hvl) rfl rfl rfl) rfl rfl ?_
     refine oQ (Q_not rfl) rfl rfl ?_
     refine oM rfl rfl ?_
     all_goals first | refine oT rfl rfl ?_ | refine o1 rfl rfl rfl ?_ | refine o0 rfl rfl rfl ?_ | refine ogP1 rfl rfl rfl (fun hg => ?_) (fun hg => ?_) | refine ogP0 rfl rfl rfl (fun hg => ?_) (fun hg => ?_)
     all_goals try simp only [s1, s2, s3, s4, s5, s6, s7, s8, s9, s10, s11, s12] at hg
     all_goals first | (refine oM rfl rfl ?_) | skip
     all_goals first | refine oT rfl rfl ?_ | refine o1 rfl rfl rfl ?_ | refine o0 rfl rfl rfl ?_ | refine ogP1 rfl rfl rfl (fun hg => ?_) (fun hg => ?_) | refine ogP0 rfl rfl rfl (fun hg => ?_) (fun hg => ?_)
     all_goals try simp only [s1, s2, s3, s4, s5, s6, s7, s8, s9, s10, s11, s12] at hg
     all_goals first | (refine oM rfl rfl ?_) | skip
     all_goals first | refine oT rfl rfl ?_ | refine o1 rfl rfl rfl ?_ | refine o0 rfl rfl rfl ?_ | refine ogP1 rfl rfl rfl (fun hg => ?_) (fun hg => ?_) | refine ogP0 rfl rfl rfl (fun hg => ?_) (fun hg => ?_)
     all_goals try simp only [s1, s2, s3, s4, s5, s6, s7, s8, s9, s10, s11, s12] at hg
     all_goals first | (refine oQ (Q_bin rfl rfl rfl) rfl rfl ?_) | skip
     all_goals first | refine oQ (Q_pick_t rfl (by with_reducible rfl) rfl rfl) rfl rfl ?_ | refine oQ (Q_pick_f rfl (by with_reducible rfl) rfl rfl) rfl rfl ?_
     all_goals refine oN ?_
     all_goals (
      first | refine cT rfl ?_ | refine cF rfl ?_ | refine CW_cond rfl (fun hc => ?_) (fun hc => ?_)
      all_goals try simp only [s1, s2, s3, s4, s5, s6, s7, s8, s9, s10, s11, s12] at hc
      all_goals try (exfalso; first | omega | (simp at hc; done); done)
      all_goals first
        | (
         refine CW_skip ?_)
        | (
         refine cR ?_
         refine oA rfl rfl ?_
         refine oN ?_
         refine CW_ret ?_))
     all_goals first
       | with_reducible refine tR ?_
       | with_reducible refine tE ?_
       | (
        with_reducible refine tN ?_
        refine CW_seq ?_
        refine cR ?_
        iterate 2 refine oM rfl rfl ?_
        refine oCall (toPointS_row l o n k false hl hn) [] 2 rfl rfl (Fits.mk' (vHc rfl vHn) rfl rfl (by first | (simp; done) | exact glOk rfl rfl rfl)) rfl rfl ?_
        rintro r H1 hR
        obtain ⟨rfl, rfl⟩ := copyPointR_f hR
        refine ⟨.slice 9 0 n (n + roomN n), [(0, .ro o l), (9, .ints 32 (l ++ padS 3 (roomN n)))], rfl, rfl, rfl, ?_⟩
        refine oQ (Q_call (intactPointS_con 32 32 (l ++ padS 3 (roomN n)) (l ++ padS 3 (roomN n)) n (by rw [List.length_append, hl, hpl, Nat.add_mul]) (by rw [List.length_append, hl, hpl, Nat.add_mul]) (by omega)) [(0, 6), (1, 9)] rfl rfl (Fits.mk' (vHc rfl (vHc rfl vHn)) rfl rfl (by first | (simp; done) | exact glOk rfl rfl rfl)) rfl rfl) rfl rfl ?_
        refine oQ (Q_not rfl) rfl rfl ?_
        refine oN ?_
        first | refine cT rfl ?_ | refine cF rfl ?_ | refine CW_cond rfl (fun hc => ?_) (fun hc => ?_)
        all_goals try simp only [s1, s2, s3, s4, s5, s6, s7, s8, s9, s10, s11, s12] at hc
        all_goals try (exfalso; first | omega | (simp at hc; done); done)
        all_goals first
          | (
           refine CW_skip ?_)
          | (
           refine cR ?_
           refine oA rfl rfl ?_
           refine oN ?_
           refine CW_ret ?_)
        all_goals first
          | with_reducible refine tR ?_
          | with_reducible refine tE ?_
          | (
           with_reducible refine tN ?_
           refine cR ?_
           refine oM rfl rfl ?_
           first | refine oQ (Lw rfl rfl rfl rfl) rfl rfl ?_ | refine oQ (La rfl rfl rfl rfl rfl) rfl rfl ?_
           refine oQ (Q_call0 (toConic_con _ qlc) rfl rfl rfl) rfl rfl ?_
           refine oM rfl rfl ?_
           refine oCall (toPointS_row l o n k true hl hn) [] 2 rfl rfl (Fits.mk' (vHc rfl vHn) rfl rfl (by first | (simp; done) | exact glOk rfl rfl rfl)) rfl rfl ?_
           rintro r H1 hR
           rcases copyPointR_t hR with ⟨e0, rfl, rfl⟩ | ⟨rfl, rfl⟩
           all_goals first | refine ⟨.nilsl, [(0, .ro o l)], rfl, rfl, rfl, ?_⟩ | refine ⟨.slice 11 0 n (n + roomN n), [(0, .ro o l), (11, .ints 32 (l ++ padS 3 (roomN n)))], rfl, rfl, rfl, ?_⟩
           all_goals first | refine oQ (Q_call0 (hz e0) rfl rfl rfl) rfl rfl ?_ | refine oQ (Q_call (hi) [(0, 11)] rfl rfl (Fits.mk' (vHc rfl vHn) rfl rfl (by first | (simp; done) | exact glOk rfl rfl rfl)) rfl rfl) rfl rfl ?_
           all_goals first | (refine oM rfl rfl ?_)
           all_goals first | (refine oQ (Q_extract rfl rfl) rfl rfl ?_)
           all_goals first | (refine oQ (Q_extract rfl rfl) rfl rfl ?_)
           all_goals first | (refine oAlloc rfl rfl rfl rfl rfl rfl rfl ?_)
           all_goals first | refine oSw rfl rfl rfl rfl ?_ | refine oSa rfl rfl rfl rfl ?_
           all_goals first | (refine oA rfl rfl ?_)
           all_goals refine oN ?_
           all_goals (
            refine CW_seq ?_
            refine cR ?_
            first | refine oQ (Lw rfl rfl rfl rfl) rfl rfl ?_ | refine oQ (La rfl rfl rfl rfl rfl) rfl rfl ?_
            first | refine oQ (Lw rfl rfl rfl rfl) rfl rfl ?_ | refine oQ (La rfl rfl rfl rfl rfl) rfl rfl ?_
            refine oQ (Q_call0 (eqPoint_same vv hvl) rfl rfl rfl) rfl rfl ?_
            refine oQ (Q_not rfl) rfl rfl ?_
            refine oM rfl rfl ?_
            all_goals first | refine oT rfl rfl ?_ | refine o1 rfl rfl rfl ?_ | refine o0 rfl rfl rfl ?_ | refine ogP1 rfl rfl rfl (fun hg => ?_) (fun hg => ?_) | refine ogP0 rfl rfl rfl (fun hg => ?_) (fun hg => ?_)
            all_goals try simp only [s1, s2, s3, s4, s5, s6, s7, s8, s9, s10, s11, s12] at hg
            all_goals first | (refine oM rfl rfl ?_) | skip
            all_goals first | refine oT rfl rfl ?_ | refine o1 rfl rfl rfl ?_ | refine o0 rfl rfl rfl ?_ | refine ogP1 rfl rfl rfl (fun hg => ?_) (fun hg => ?_) | refine ogP0 rfl rfl rfl (fun hg => ?_) (fun hg => ?_)
            all_goals try simp only [s1, s2, s3, s4, s5, s6, s7, s8, s9, s10, s11, s12] at hg
            all_goals first | (refine oM rfl rfl ?_) | skip
            all_goals first | refine oT rfl rfl ?_ | refine o1 rfl rfl rfl ?_ | refine o0 rfl rfl rfl ?_ | refine ogP1 rfl rfl rfl (fun hg => ?_) (fun hg => ?_) | refine ogP0 rfl rfl rfl (fun hg => ?_) (fun hg => ?_)
            all_goals try simp only [s1, s2, s3, s4, s5, s6, s7, s8, s9, s10, s11, s12] at hg
            all_goals first | (refine oQ (Q_bin rfl rfl rfl) rfl rfl ?_) | skip
            all_goals first | refine oQ (Q_pick_t rfl (by with_reducible rfl) rfl rfl) rfl rfl ?_ | refine oQ (Q_pick_f rfl (by with_reducible rfl) rfl rfl) rfl rfl ?_
            all_goals refine oN ?_
            all_goals (
             first | refine cT rfl ?_ | refine cF rfl ?_ | refine CW_cond rfl (fun hc => ?_) (fun hc => ?_)
             all_goals try simp only [s1, s2, s3, s4, s5, s6, s7, s8, s9, s10, s11, s12] at hc
             all_goals try (exfalso; first | omega | (simp at hc; done); done)
             all_goals first
               | (
                refine CW_skip ?_)
               | (
                refine cR ?_
                refine oA rfl rfl ?_
                refine oN ?_
                refine CW_ret ?_))
            all_goals first
              | with_reducible refine tR ?_
              | with_reducible refine tE ?_
              | (
               with_reducible refine tN ?_
               refine cR ?_
               refine oA rfl rfl ?_
               refine oN ?_
               refine CW_ret ?_)))))
  all_goals (
   first | ((refine exitQ (.inr rfl) 1 (.cons (.tmp rfl rfl) .nil) ?_ rfl (vHc rfl vHn) rfl rfl); rfl) | (exfalso; simp at hg; done) | (exfalso; simp_all; done))
theorem law_FnExactBrianchonPoint_nil (p : Int) (c : List Int)  (qlc : c.length = 6) : ConQ Try.prog [] 9 [.int p, .arr c, .nilsl] [] (.bool true) := by
  have hroom := roomN_le 0
  have hpl := padS_length 3 (roomN 0) (by decide)
  have hs := fun hn9 : 0 ≤ 1000000 => spec_BrianchonPoint_M p c (([] : List Int) ++ padS 3 (roomN 0)) 0 (0 + roomN 0) qlc (by simp <;> omega) (by omega)
  have hi := fun hn9 : 0 ≤ 1000000 => impl_BrianchonPoint_M p c (([] : List Int) ++ padS 3 (roomN 0)) 0 (0 + roomN 0) qlc (by simp <;> omega) (by omega) (by omega)
  have hz : 0 = 0 → ConQ Try.prog [] 36 [.int p, .arr c, .nilsl] [] (.tuple [.arr (briV p c (([] : List Int) ++ padS 3 (roomN 0)) 0), .int (hexC p c (([] : List Int) ++ padS 3 (roomN 0)) 0)]) := fun e => by
    have := impl_BrianchonPoint_nil p c qlc
    rw [briV_nil, hexC_nil2]; exact this
  have hvl := briV3 p c (([] : List Int) ++ padS 3 (roomN 0)) 0
  generalize briV p c (([] : List Int) ++ padS 3 (roomN 0)) 0 = vv at *
  generalize hexC p c (([] : List Int) ++ padS 3 (roomN 0)) 0 = cc at *
  refine conW tab_ok [(0, .int p), (1, .arr c), (2, .nilsl)] 0 [] [] Try.func9 rfl rfl rfl rfl rfl rfl rfl rfl rfl ?_
  refine cR ?_
  refine oBox rfl rfl rfl rfl rfl rfl ?_
  refine oA rfl rfl ?_
  refine oN ?_
  refine cR ?_
  refine oA rfl rfl ?_
  refine oN ?_
  refine cR ?_
  iterate 2 refine oM rfl rfl ?_
  refine oQ (Q_call0 (szPointS_nil 1000000 rfl) rfl rfl rfl) rfl rfl ?_
  refine oA rfl rfl ?_
  refine oN ?_
  refine CW_seq ?_
  refine cR ?_
  refine oM rfl rfl ?_
  refine oQ (Q_bin rfl rfl rfl) rfl rfl ?_
  refine oN ?_
  first | refine cT rfl ?_ | refine cF rfl ?_ | refine CW_cond rfl (fun hc => ?_) (fun hc => ?_)
  all_goals try simp only [s1, s2, s3, s4, s5, s6, s7, s8, s9, s10, s11, s12] at hc
  all_goals try (exfalso; first | omega | (simp at hc; done); done)
  all_goals first
    | (
     refine CW_skip ?_)
    | (
     refine cR ?_
     refine oA rfl rfl ?_
     refine oN ?_
     refine CW_ret ?_)
  all_goals first
    | with_reducible refine tR ?_
    | with_reducible refine tE ?_
    | (
     with_reducible refine tN ?_
     refine cR ?_
     refine oM rfl rfl ?_
     first | refine oQ (Lw rfl rfl rfl rfl) rfl rfl ?_ | refine oQ (La rfl rfl rfl rfl rfl) rfl rfl ?_
     refine oQ (Q_call0 (toConic_con _ qlc) rfl rfl rfl) rfl rfl ?_
     refine oM rfl rfl ?_
     (have hn : 0 ≤ 1000000 := by omega)
     (have hs := hs hn)
     (have hi := hi hn)
     refine oCall (toPointS_nil false) [] 2 rfl rfl (Fits.mk' vHn rfl rfl (by first | (simp; done) | exact glOk rfl rfl rfl)) rfl rfl ?_
     rintro r H1 hR
     obtain ⟨rfl, rfl⟩ := copyPointR_f hR
     refine ⟨.slice 2 0 0 (0 + roomN 0), [(2, .ints 32 (([] : List Int) ++ padS 3 (roomN 0)))], rfl, rfl, rfl, ?_⟩
     refine oQ (Q_call (hs) [(0, 2)] rfl rfl (Fits.mk' (vHc rfl vHn) rfl rfl (by first | (simp; done) | exact glOk rfl rfl rfl)) rfl rfl) rfl rfl ?_
     refine oM rfl rfl ?_
     iterate 2 refine oQ (Q_extract rfl rfl) rfl rfl ?_
     refine oAlloc rfl rfl rfl rfl rfl rfl rfl ?_
     first | refine oSw rfl rfl rfl rfl ?_ | refine oSa rfl rfl rfl rfl ?_
     refine oA rfl rfl ?_
     refine oN ?_
     refine cR ?_
     refine oM rfl rfl ?_
     refine oCall (toPointS_nil false) [] 2 rfl rfl (Fits.mk' vHn rfl rfl (by first | (simp; done) | exact glOk rfl rfl rfl)) rfl rfl ?_
     rintro r H1 hR
     obtain ⟨rfl, rfl⟩ := copyPointR_f hR
     refine ⟨.slice 5 0 0 (0 + roomN 0), [(5, .ints 32 (([] : List Int) ++ padS 3 (roomN 0)))], rfl, rfl, rfl, ?_⟩
     refine oA rfl rfl ?_
     refine oN ?_
     refine cR ?_
     refine oM rfl rfl ?_
     first | refine oQ (Lw rfl rfl rfl rfl) rfl rfl ?_ | refine oQ (La rfl rfl rfl rfl rfl) rfl rfl ?_
     refine oQ (Q_call0 (toConic_con _ qlc) rfl rfl rfl) rfl rfl ?_
     refine oM rfl rfl ?_
     refine oQ (Q_call (hi) [(0, 5)] rfl rfl (Fits.mk' (vHc rfl vHn) rfl rfl (by first | (simp; done) | exact glOk rfl rfl rfl)) rfl rfl) rfl rfl ?_
     refine oM rfl rfl ?_
     iterate 2 refine oQ (Q_extract rfl rfl) rfl rfl ?_
     refine oAlloc rfl rfl rfl rfl rfl rfl rfl ?_
     first | refine oSw rfl rfl rfl rfl ?_ | refine oSa rfl rfl rfl rfl ?_
     refine oA rfl rfl ?_
     refine oN ?_
     refine CW_seq ?_
     refine cR ?_
     first | refine oQ (Lw rfl rfl rfl rfl) rfl rfl ?_ | refine oQ (La rfl rfl rfl rfl rfl) rfl rfl ?_
     first | refine oQ (Lw rfl rfl rfl rfl) rfl rfl ?_ | refine oQ (La rfl rfl rfl rfl rfl) rfl rfl ?_
     refine oQ (Q_call0 (eqPoint_same vv hvl) rfl rfl rfl) rfl rfl ?_
     refine oQ (Q_not rfl) rfl rfl ?_
     refine oM rfl rfl ?_
     all_goals first | refine oT rfl rfl ?_ | refine o1 rfl rfl rfl ?_ | refine o0 rfl rfl rfl ?_ | refine ogP1 rfl rfl rfl (fun hg => ?_) (fun hg => ?_) | refine ogP0 rfl rfl rfl (fun hg => ?_) (fun hg => ?_)
     all_goals try simp only [s1, s2, s3, s4, s5, s6, s7, s8, s9, s10, s11, s12] at hg
     all_goals first | (refine oM rfl rfl ?_) | skip
     all_goals first | refine oT rfl rfl ?_ | refine o1 rfl rfl rfl ?_ | refine o0 rfl rfl rfl ?_ | refine ogP1 rfl rfl rfl (fun hg => ?_) (fun hg => ?_) | refine ogP0 rfl rfl rfl (fun hg => ?_) (fun hg => ?_)
     all_goals try simp only [s1, s2, s3, s4, s5, s6, s7, s8, s9, s10, s11, s12] at hg
     all_goals first | (refine oM rfl rfl ?_) | skip
     all_goals first | refine oT rfl rfl ?_ | refine o1 rfl rfl rfl ?_ | refine o0 rfl rfl rfl ?_ | refine ogP1 rfl rfl rfl (fun hg => ?_) (fun hg => ?_) | refine ogP0 rfl rfl rfl (fun hg => ?_) (fun hg => ?_)
     all_goals try simp only [s1, s2, s3, s4, s5, s6, s7, s8, s9, s10, s11, s12] at hg
     all_goals first | (refine oQ (Q_bin rfl rfl rfl) rfl rfl ?_) | skip
     all_goals first | refine oQ (Q_pick_t rfl (by with_reducible rfl) rfl rfl) rfl rfl ?_ | refine oQ (Q_pick_f rfl (by with_reducible rfl) rfl rfl) rfl rfl ?_
     all_goals refine oN ?_
     all_goals (
      first | refine cT rfl ?_ | refine cF rfl ?_ | refine CW_cond rfl (fun hc => ?_) (fun hc => ?_)
      all_goals try simp only [s1, s2, s3, s4, s5, s6, s7, s8, s9, s10, s11, s12] at hc
      all_goals try (exfalso; first | omega | (simp at hc; done); done)
      all_goals first
        | (
         refine CW_skip ?_)
        | (
         refine cR ?_
         refine oA rfl rfl ?_
         refine oN ?_
         refine CW_ret ?_))
     all_goals first
       | with_reducible refine tR ?_
       | with_reducible refine tE ?_
       | (
        with_reducible refine tN ?_
        refine CW_seq ?_
        refine cR ?_
        iterate 2 refine oM rfl rfl ?_
        refine oCall (toPointS_nil false) [] 2 rfl rfl (Fits.mk' vHn rfl rfl (by first | (simp; done) | exact glOk rfl rfl rfl)) rfl rfl ?_
        rintro r H1 hR
        obtain ⟨rfl, rfl⟩ := copyPointR_f hR
        refine ⟨.slice 8 0 0 (0 + roomN 0), [(8, .ints 32 (([] : List Int) ++ padS 3 (roomN 0)))], rfl, rfl, rfl, ?_⟩
        refine oQ (Q_call (intactPointS_con 32 32 (([] : List Int) ++ padS 3 (roomN 0)) (([] : List Int) ++ padS 3 (roomN 0)) 0 (by rw [List.length_append, List.length_nil, hpl, Nat.add_mul]) (by rw [List.length_append, List.length_nil, hpl, Nat.add_mul]) (by omega)) [(0, 5), (1, 8)] rfl rfl (Fits.mk' (vHc rfl (vHc rfl vHn)) rfl rfl (by first | (simp; done) | exact glOk rfl rfl rfl)) rfl rfl) rfl rfl ?_
        refine oQ (Q_not rfl) rfl rfl ?_
        refine oN ?_
        first | refine cT rfl ?_ | refine cF rfl ?_ | refine CW_cond rfl (fun hc => ?_) (fun hc => ?_)
        all_goals try simp only [s1, s2, s3, s4, s5, s6, s7, s8, s9, s10, s11, s12] at hc
        all_goals try (exfalso; first | omega | (simp at hc; done); done)
        all_goals first
          | (
           refine CW_skip ?_)
          | (
           refine cR ?_
           refine oA rfl rfl ?_
           refine oN ?_
           refine CW_ret ?_)
        all_goals first
          | with_reducible refine tR ?_
          | with_reducible refine tE ?_
          | (
           with_reducible refine tN ?_
           refine cR ?_
           refine oM rfl rfl ?_
           first | refine oQ (Lw rfl rfl rfl rfl) rfl rfl ?_ | refine oQ (La rfl rfl rfl rfl rfl) rfl rfl ?_
           refine oQ (Q_call0 (toConic_con _ qlc) rfl rfl rfl) rfl rfl ?_
           refine oM rfl rfl ?_
           refine oCall (toPointS_nil true) [] 2 rfl rfl (Fits.mk' vHn rfl rfl (by first | (simp; done) | exact glOk rfl rfl rfl)) rfl rfl ?_
           rintro r H1 hR
           rcases copyPointR_t hR with ⟨e0, rfl, rfl⟩ | ⟨rfl, rfl⟩
           all_goals first | refine ⟨.nilsl, [], rfl, rfl, rfl, ?_⟩ | refine ⟨.slice 10 0 0 (0 + roomN 0), [(10, .ints 32 (([] : List Int) ++ padS 3 (roomN 0)))], rfl, rfl, rfl, ?_⟩
           all_goals first | refine oQ (Q_call0 (hz e0) rfl rfl rfl) rfl rfl ?_ | refine oQ (Q_call (hi) [(0, 10)] rfl rfl (Fits.mk' (vHc rfl vHn) rfl rfl (by first | (simp; done) | exact glOk rfl rfl rfl)) rfl rfl) rfl rfl ?_
           all_goals first | (refine oM rfl rfl ?_)
           all_goals first | (refine oQ (Q_extract rfl rfl) rfl rfl ?_)
           all_goals first | (refine oQ (Q_extract rfl rfl) rfl rfl ?_)
           all_goals first | (refine oAlloc rfl rfl rfl rfl rfl rfl rfl ?_)
           all_goals first | refine oSw rfl rfl rfl rfl ?_ | refine oSa rfl rfl rfl rfl ?_
           all_goals first | (refine oA rfl rfl ?_)
           all_goals refine oN ?_
           all_goals (
            refine CW_seq ?_
            refine cR ?_
            first | refine oQ (Lw rfl rfl rfl rfl) rfl rfl ?_ | refine oQ (La rfl rfl rfl rfl rfl) rfl rfl ?_
            first | refine oQ (Lw rfl rfl rfl rfl) rfl rfl ?_ | refine oQ (La rfl rfl rfl rfl rfl) rfl rfl ?_
            refine oQ (Q_call0 (eqPoint_same vv hvl) rfl rfl rfl) rfl rfl ?_
            refine oQ (Q_not rfl) rfl rfl ?_
            refine oM rfl rfl ?_
            all_goals first | refine oT rfl rfl ?_ | refine o1 rfl rfl rfl ?_ | refine o0 rfl rfl rfl ?_ | refine ogP1 rfl rfl rfl (fun hg => ?_) (fun hg => ?_) | refine ogP0 rfl rfl rfl (fun hg => ?_) (fun hg => ?_)
            all_goals try simp only [s1, s2, s3, s4, s5, s6, s7, s8, s9, s10, s11, s12] at hg
            all_goals first | (refine oM rfl rfl ?_) | skip
            all_goals first | refine oT rfl rfl ?_ | refine o1 rfl rfl rfl ?_ | refine o0 rfl rfl rfl ?_ | refine ogP1 rfl rfl rfl (fun hg => ?_) (fun hg => ?_) | refine ogP0 rfl rfl rfl (fun hg => ?_) (fun hg => ?_)
            all_goals try simp only [s1, s2, s3, s4, s5, s6, s7, s8, s9, s10, s11, s12] at hg
            all_goals first | (refine oM rfl rfl ?_) | skip
            all_goals first | refine oT rfl rfl ?_ | refine o1 rfl rfl rfl ?_ | refine o0 rfl rfl rfl ?_ | refine ogP1 rfl rfl rfl (fun hg => ?_) (fun hg => ?_) | refine ogP0 rfl rfl rfl (fun hg => ?_) (fun hg => ?_)
            all_goals try simp only [s1, s2, s3, s4, s5, s6, s7, s8, s9, s10, s11, s12] at hg
            all_goals first | (refine oQ (Q_bin rfl rfl rfl) rfl rfl ?_) | skip
            all_goals first | refine oQ (Q_pick_t rfl (by with_reducible rfl) rfl rfl) rfl rfl ?_ | refine oQ (Q_pick_f rfl (by with_reducible rfl) rfl rfl) rfl rfl ?_
            all_goals refine oN ?_
            all_goals (
             first | refine cT rfl ?_ | refine cF rfl ?_ | refine CW_cond rfl (fun hc => ?_) (fun hc => ?_)
             all_goals try simp only [s1, s2, s3, s4, s5, s6, s7, s8, s9, s10, s11, s12] at hc
             all_goals try (exfalso; first | omega | (simp at hc; done); done)
             all_goals first
               | (
                refine CW_skip ?_)
               | (
                refine cR ?_
                refine oA rfl rfl ?_
                refine oN ?_
                refine CW_ret ?_))
            all_goals first
              | with_reducible refine tR ?_
              | with_reducible refine tE ?_
              | (
               with_reducible refine tN ?_
               refine cR ?_
               refine oA rfl rfl ?_
               refine oN ?_
               refine CW_ret ?_)))))
  all_goals (
   first | ((refine exitQ (.inr rfl) 0 (.cons (.tmp rfl rfl) .nil) ?_ rfl vHn rfl rfl); rfl) | (exfalso; simp at hg; done) | (exfalso; simp_all; done))
end Go.Proofs.Ytoiolpgmilobnaa
