/- CubicByFive of both sides. -/
import Derived.Test.YtgfncdejnjikpaaB3
import Derived.Test.YtgfncdejnjikpaaB2
import Derived.Test.YtgfncdejnjikpaaEngJ
import Derived.Test.YtgfncdejnjikpaaPf
namespace Go.Proofs.Ytgfncdejnjikpaa
attribute [local irreducible] CW OW QW QOp Con thenP inBlockP AW QX
set_option maxRecDepth 10000
set_option linter.unusedSimpArgs false
set_option linter.unusedVariables false
def cubR : List Int → List Int
  | [a, b, c, d, e] => [-1, 0, -b, 0, a, -d, 0, 1, c, -e]
  | _ => []
def zeros10 : List Int := [0, 0, 0, 0, 0, 0, 0, 0, 0, 0]
def cubV (p : Int) (l : List Int) : List Int := if fiveB p l = true then normL p (cubR l) else zeros10
def cubC (p : Int) (l : List Int) : Int := if fiveB p l = true then 0 else 2
theorem cubV_length (p : Int) (l : List Int) : (cubV p l).length = 10 := by
  unfold cubV
  split
  · rename_i h
    obtain ⟨a, b, c, d, e, rfl, _⟩ := five_list h
    rw [normL_length]; rfl
  · rfl
theorem cubR_mod (p a b c d e : Int) : normL p [p - 1, 0, -b % p, 0, a, -d % p, 0, 1, c, -e % p] = normL p (cubR [a, b, c, d, e]) := by
  refine (norm_congr ?_).1
  simp only [cubR, List.map_cons, List.map_nil, mod_mod_self]
  congr 1
  have : p - 1 = -1 + p := by omega
  rw [this, Int.add_emod_right]
theorem impl_CubicByFive_con (p : Int) (t : TypeId) (L : List Int) (n k : Nat) (hn : n ≤ L.length) (hL : n ≤ 1000000000) : ConQ Try.prog [] 17 [.int p, .slice 0 0 n k] [(0, .ints t L)] (.tuple [.arr (cubV p (L.take n)), .int (cubC p (L.take n))]) := by
  have hlen : (L.take n).length = n := by simp; try omega
  refine conW tab_ok [(0, .int p), (1, .slice 0 0 n k)] 1 [0] [0] Try.func17 rfl rfl rfl rfl rfl rfl rfl rfl rfl ?_
  refine cR ?_
  refine oAlloc rfl rfl rfl rfl rfl rfl rfl ?_
  refine oA rfl rfl ?_
  refine oN ?_
  refine CW_seq ?_
  refine cR ?_
  iterate 2 refine oM rfl rfl ?_
  refine oQ (Q_call (areFive_con p t L n k hn (by omega)) [] rfl rfl (Fits.mk' (vHc rfl vHn) rfl rfl (by simp)) rfl rfl) rfl rfl ?_
  refine oQ (Q_not rfl) rfl rfl ?_
  refine oN ?_
  first | refine cT rfl ?_ | refine cF rfl ?_ | refine CW_cond rfl (fun hc => ?_) (fun hc => ?_)
  all_goals try simp only [s1, s2, s3, s4, s5, s6, s7, s8, s9, s10, s11, s12] at hc
  all_goals first
    | (
     refine CW_skip ?_)
    | (
     refine cR ?_
     refine oQ (Q_build rfl rfl rfl rfl rfl rfl rfl rfl) rfl rfl ?_
     first | refine oSw rfl rfl rfl rfl ?_ | refine oSa rfl rfl rfl rfl ?_
     refine oA rfl rfl ?_
     refine oN ?_
     refine CW_ret ?_)
  all_goals first
    | with_reducible refine tR ?_
    | with_reducible refine tE ?_
    | (
     with_reducible refine tN ?_
     refine CW_seq ?_
     refine CW_any (fun i => List.elem i [20]) 21 rfl lateOk (by decide +kernel) (fun hst => ?_)
     (have h5 : n = 5 := by have := five_len hc; omega)
     (have hp := five_prime hc)
     (have hpb := prime_bd hp)
     (obtain ⟨a, b, c, d, e, el, ha, hb, hc', hd, he⟩ := five_list hc)
     (subst h5)
     (have eL : L = a :: b :: c :: d :: e :: L.drop 5 := by rw [← List.take_append_drop 5 L, el]; simp)
     (generalize L.drop 5 = sp at eL)
     (subst eL)
     (have hcl : (cubR [a, b, c, d, e]).length = 10 := rfl)
     (have hnl := normL_length p (cubR [a, b, c, d, e]))
     refine aQ 0 hst rfl rfl (by decide +kernel) (QX_of (Q_move rfl rfl) NE_move) rfl rfl ?_
     first | refine aQ 1 hst rfl rfl (by decide +kernel) (QX_of (Is0 rfl rfl rfl rfl rfl rfl) NE_ix) rfl rfl ?_ | refine aQ 1 hst rfl rfl (by decide +kernel) (QX_of (Is1 rfl rfl rfl rfl rfl rfl) NE_ix) rfl rfl ?_
     first | refine aQ 2 hst rfl rfl (by decide +kernel) (QX_of (Q_ldc rfl rfl rfl rfl rfl) NE_load) rfl rfl ?_ | refine aQ 2 hst rfl rfl (by decide +kernel) (QX_of (Ld rfl rfl rfl rfl) NE_load) rfl rfl ?_
     first | refine aQ 3 hst rfl rfl (by decide +kernel) (QX_of (Q_negu rfl (by omega)) NE_un) rfl rfl ?_ | refine aQ 3 hst rfl rfl (by decide +kernel) (QX_of (Q_neg rfl) NE_un) rfl rfl ?_
     refine aQ 4 hst rfl rfl (by decide +kernel) (QX_of (Q_move rfl rfl) NE_move) rfl rfl ?_
     first | refine aQ 5 hst rfl rfl (by decide +kernel) (QX_of (Is0 rfl rfl rfl rfl rfl rfl) NE_ix) rfl rfl ?_ | refine aQ 5 hst rfl rfl (by decide +kernel) (QX_of (Is1 rfl rfl rfl rfl rfl rfl) NE_ix) rfl rfl ?_
     first | refine aQ 6 hst rfl rfl (by decide +kernel) (QX_of (Q_ldc rfl rfl rfl rfl rfl) NE_load) rfl rfl ?_ | refine aQ 6 hst rfl rfl (by decide +kernel) (QX_of (Ld rfl rfl rfl rfl) NE_load) rfl rfl ?_
     refine aQ 7 hst rfl rfl (by decide +kernel) (QX_of (Q_move rfl rfl) NE_move) rfl rfl ?_
     first | refine aQ 8 hst rfl rfl (by decide +kernel) (QX_of (Is0 rfl rfl rfl rfl rfl rfl) NE_ix) rfl rfl ?_ | refine aQ 8 hst rfl rfl (by decide +kernel) (QX_of (Is1 rfl rfl rfl rfl rfl rfl) NE_ix) rfl rfl ?_
     first | refine aQ 9 hst rfl rfl (by decide +kernel) (QX_of (Q_ldc rfl rfl rfl rfl rfl) NE_load) rfl rfl ?_ | refine aQ 9 hst rfl rfl (by decide +kernel) (QX_of (Ld rfl rfl rfl rfl) NE_load) rfl rfl ?_
     first | refine aQ 10 hst rfl rfl (by decide +kernel) (QX_of (Q_negu rfl (by omega)) NE_un) rfl rfl ?_ | refine aQ 10 hst rfl rfl (by decide +kernel) (QX_of (Q_neg rfl) NE_un) rfl rfl ?_
     refine aQ 11 hst rfl rfl (by decide +kernel) (QX_of (Q_move rfl rfl) NE_move) rfl rfl ?_
     first | refine aQ 12 hst rfl rfl (by decide +kernel) (QX_of (Is0 rfl rfl rfl rfl rfl rfl) NE_ix) rfl rfl ?_ | refine aQ 12 hst rfl rfl (by decide +kernel) (QX_of (Is1 rfl rfl rfl rfl rfl rfl) NE_ix) rfl rfl ?_
     first | refine aQ 13 hst rfl rfl (by decide +kernel) (QX_of (Q_ldc rfl rfl rfl rfl rfl) NE_load) rfl rfl ?_ | refine aQ 13 hst rfl rfl (by decide +kernel) (QX_of (Ld rfl rfl rfl rfl) NE_load) rfl rfl ?_
     refine aQ 14 hst rfl rfl (by decide +kernel) (QX_of (Q_move rfl rfl) NE_move) rfl rfl ?_
     first | refine aQ 15 hst rfl rfl (by decide +kernel) (QX_of (Is0 rfl rfl rfl rfl rfl rfl) NE_ix) rfl rfl ?_ | refine aQ 15 hst rfl rfl (by decide +kernel) (QX_of (Is1 rfl rfl rfl rfl rfl rfl) NE_ix) rfl rfl ?_
     first | refine aQ 16 hst rfl rfl (by decide +kernel) (QX_of (Q_ldc rfl rfl rfl rfl rfl) NE_load) rfl rfl ?_ | refine aQ 16 hst rfl rfl (by decide +kernel) (QX_of (Ld rfl rfl rfl rfl) NE_load) rfl rfl ?_
     first | refine aQ 17 hst rfl rfl (by decide +kernel) (QX_of (Q_negu rfl (by omega)) NE_un) rfl rfl ?_ | refine aQ 17 hst rfl rfl (by decide +kernel) (QX_of (Q_neg rfl) NE_un) rfl rfl ?_
     refine aQ 18 hst rfl rfl (by decide +kernel) (QX_of (Q_build (r := cubR [a, b, c, d, e]) rfl rfl rfl rfl rfl rfl rfl rfl) NE_build) rfl rfl ?_
     refine AW_one (i := 19) (by decide +kernel) ?_
     refine gAlloc rfl rfl rfl rfl rfl rfl rfl rfl rfl ?_
     refine AW_last [20] rfl (by decide +kernel) rfl ?_
     first | refine oSw rfl rfl rfl rfl ?_ | refine oSa rfl rfl rfl rfl ?_
     refine OW_nil (npN ?_)
     all_goals with_reducible refine tN ?_
     all_goals (
      refine cR ?_
      refine oM rfl rfl ?_
      refine oQ (Q_slaF rfl rfl rfl rfl) rfl rfl ?_
      refine oCall (normal_con p 24 (cubR [a, b, c, d, e]) 10 10 (by simp [cubR]) hp (by omega)) [(0, 2)] 0 rfl rfl (Fits.mk' (vHc rfl vHn) rfl rfl (by simp)) rfl rfl ?_
      rintro r H1 ⟨rfl, rfl⟩
      simp only [List.take_of_length_le (show (cubR [a, b, c, d, e]).length ≤ 10 from Nat.le_refl _), List.drop_eq_nil_of_le (show (cubR [a, b, c, d, e]).length ≤ 10 from Nat.le_refl _), List.append_nil]
      refine ⟨.bool (facP p (cubR [a, b, c, d, e]) != 0), [(2, .ints 24 (normL p (cubR [a, b, c, d, e])))], rfl, rfl, rfl, ?_⟩
      refine oN ?_
      refine cR ?_
      first | refine oQ (Lw rfl rfl rfl rfl) rfl rfl ?_ | refine oQ (La rfl rfl rfl rfl rfl) rfl rfl ?_
      first | refine oSw rfl rfl rfl rfl ?_ | refine oSa rfl rfl rfl rfl ?_
      refine oA rfl rfl ?_
      refine oN ?_
      refine CW_ret ?_))
  all_goals (
   first
     | (refine exitQ (.inr rfl) 1 (.cons (.arr rfl rfl rfl rfl rfl) (.cons (.tmp rfl rfl) .nil)) ?_ rfl (vHc rfl vHn) rfl rfl
        simp only [resV, cubV, cubC, hc]; rfl)
     | (refine exitQ (.inr rfl) 1 (.cons (.arr rfl rfl rfl rfl hnl) (.cons (.tmp rfl rfl) .nil)) ?_ rfl (vHc rfl vHn) rfl rfl
        rw [el] at hc; simp only [resV, cubV, cubC, el, if_pos hc]))
theorem impl_CubicByFive_nil (p : Int)  : ConQ Try.prog [] 17 [.int p, .nilsl] [] (.tuple [.arr (cubV p (([] : List Int))), .int (cubC p (([] : List Int)))]) := by
  have hlen : (([] : List Int)).length = 0 := by simp; try omega
  refine conW tab_ok [(0, .int p), (1, .nilsl)] 1 [] [] Try.func17 rfl rfl rfl rfl rfl rfl rfl rfl rfl ?_
  refine cR ?_
  refine oAlloc rfl rfl rfl rfl rfl rfl rfl ?_
  refine oA rfl rfl ?_
  refine oN ?_
  refine CW_seq ?_
  refine cR ?_
  iterate 2 refine oM rfl rfl ?_
  refine oQ (Q_call (areFive_nil p) [] rfl rfl (Fits.mk' vHn rfl rfl (by simp)) rfl rfl) rfl rfl ?_
  refine oQ (Q_not rfl) rfl rfl ?_
  refine oN ?_
  first | refine cT rfl ?_ | refine cF rfl ?_ | refine CW_cond rfl (fun hc => ?_) (fun hc => ?_)
  all_goals try simp only [s1, s2, s3, s4, s5, s6, s7, s8, s9, s10, s11, s12] at hc
  all_goals try (exfalso; first | omega | (simp [fiveB] at hc); done)
  all_goals first
    | (
     refine CW_skip ?_)
    | (
     refine cR ?_
     refine oQ (Q_build rfl rfl rfl rfl rfl rfl rfl rfl) rfl rfl ?_
     first | refine oSw rfl rfl rfl rfl ?_ | refine oSa rfl rfl rfl rfl ?_
     refine oA rfl rfl ?_
     refine oN ?_
     refine CW_ret ?_)
  all_goals first
    | with_reducible refine tR ?_
    | with_reducible refine tE ?_
    | (
     with_reducible refine tN ?_
     refine CW_seq ?_
     refine CW_any (fun i => List.elem i [20]) 21 rfl lateOk (by decide +kernel) (fun hst => ?_)
     (have h5 : 0 = 5 := by have := five_len hc; omega)
     (have hp := five_prime hc)
     (have hpb := prime_bd hp)
     (obtain ⟨a, b, c, d, e, el, ha, hb, hc', hd, he⟩ := five_list hc)
     (subst h5)
     (have eL : ([] : List Int) = a :: b :: c :: d :: e :: ([] : List Int).drop 5 := by rw [← List.take_append_drop 5 ([] : List Int), el]; simp)
     (generalize ([] : List Int).drop 5 = sp at eL)
     (subst eL)
     (have hcl : (cubR [a, b, c, d, e]).length = 10 := rfl)
     (have hnl := normL_length p (cubR [a, b, c, d, e]))
     refine aQ 0 hst rfl rfl (by decide +kernel) (QX_of (Q_move rfl rfl) NE_move) rfl rfl ?_
     first | refine aQ 1 hst rfl rfl (by decide +kernel) (QX_of (Is0 rfl rfl rfl rfl rfl rfl) NE_ix) rfl rfl ?_ | refine aQ 1 hst rfl rfl (by decide +kernel) (QX_of (Is1 rfl rfl rfl rfl rfl rfl) NE_ix) rfl rfl ?_
     first | refine aQ 2 hst rfl rfl (by decide +kernel) (QX_of (Q_ldc rfl rfl rfl rfl rfl) NE_load) rfl rfl ?_ | refine aQ 2 hst rfl rfl (by decide +kernel) (QX_of (Ld rfl rfl rfl rfl) NE_load) rfl rfl ?_
     first | refine aQ 3 hst rfl rfl (by decide +kernel) (QX_of (Q_negu rfl (by omega)) NE_un) rfl rfl ?_ | refine aQ 3 hst rfl rfl (by decide +kernel) (QX_of (Q_neg rfl) NE_un) rfl rfl ?_
     refine aQ 4 hst rfl rfl (by decide +kernel) (QX_of (Q_move rfl rfl) NE_move) rfl rfl ?_
     first | refine aQ 5 hst rfl rfl (by decide +kernel) (QX_of (Is0 rfl rfl rfl rfl rfl rfl) NE_ix) rfl rfl ?_ | refine aQ 5 hst rfl rfl (by decide +kernel) (QX_of (Is1 rfl rfl rfl rfl rfl rfl) NE_ix) rfl rfl ?_
     first | refine aQ 6 hst rfl rfl (by decide +kernel) (QX_of (Q_ldc rfl rfl rfl rfl rfl) NE_load) rfl rfl ?_ | refine aQ 6 hst rfl rfl (by decide +kernel) (QX_of (Ld rfl rfl rfl rfl) NE_load) rfl rfl ?_
     refine aQ 7 hst rfl rfl (by decide +kernel) (QX_of (Q_move rfl rfl) NE_move) rfl rfl ?_
     first | refine aQ 8 hst rfl rfl (by decide +kernel) (QX_of (Is0 rfl rfl rfl rfl rfl rfl) NE_ix) rfl rfl ?_ | refine aQ 8 hst rfl rfl (by decide +kernel) (QX_of (Is1 rfl rfl rfl rfl rfl rfl) NE_ix) rfl rfl ?_
     first | refine aQ 9 hst rfl rfl (by decide +kernel) (QX_of (Q_ldc rfl rfl rfl rfl rfl) NE_load) rfl rfl ?_ | refine aQ 9 hst rfl rfl (by decide +kernel) (QX_of (Ld rfl rfl rfl rfl) NE_load) rfl rfl ?_
     first | refine aQ 10 hst rfl rfl (by decide +kernel) (QX_of (Q_negu rfl (by omega)) NE_un) rfl rfl ?_ | refine aQ 10 hst rfl rfl (by decide +kernel) (QX_of (Q_neg rfl) NE_un) rfl rfl ?_
     refine aQ 11 hst rfl rfl (by decide +kernel) (QX_of (Q_move rfl rfl) NE_move) rfl rfl ?_
     first | refine aQ 12 hst rfl rfl (by decide +kernel) (QX_of (Is0 rfl rfl rfl rfl rfl rfl) NE_ix) rfl rfl ?_ | refine aQ 12 hst rfl rfl (by decide +kernel) (QX_of (Is1 rfl rfl rfl rfl rfl rfl) NE_ix) rfl rfl ?_
     first | refine aQ 13 hst rfl rfl (by decide +kernel) (QX_of (Q_ldc rfl rfl rfl rfl rfl) NE_load) rfl rfl ?_ | refine aQ 13 hst rfl rfl (by decide +kernel) (QX_of (Ld rfl rfl rfl rfl) NE_load) rfl rfl ?_
     refine aQ 14 hst rfl rfl (by decide +kernel) (QX_of (Q_move rfl rfl) NE_move) rfl rfl ?_
     first | refine aQ 15 hst rfl rfl (by decide +kernel) (QX_of (Is0 rfl rfl rfl rfl rfl rfl) NE_ix) rfl rfl ?_ | refine aQ 15 hst rfl rfl (by decide +kernel) (QX_of (Is1 rfl rfl rfl rfl rfl rfl) NE_ix) rfl rfl ?_
     first | refine aQ 16 hst rfl rfl (by decide +kernel) (QX_of (Q_ldc rfl rfl rfl rfl rfl) NE_load) rfl rfl ?_ | refine aQ 16 hst rfl rfl (by decide +kernel) (QX_of (Ld rfl rfl rfl rfl) NE_load) rfl rfl ?_
     first | refine aQ 17 hst rfl rfl (by decide +kernel) (QX_of (Q_negu rfl (by omega)) NE_un) rfl rfl ?_ | refine aQ 17 hst rfl rfl (by decide +kernel) (QX_of (Q_neg rfl) NE_un) rfl rfl ?_
     refine aQ 18 hst rfl rfl (by decide +kernel) (QX_of (Q_build (r := cubR [a, b, c, d, e]) rfl rfl rfl rfl rfl rfl rfl rfl) NE_build) rfl rfl ?_
     refine AW_one (i := 19) (by decide +kernel) ?_
     refine gAlloc rfl rfl rfl rfl rfl rfl rfl rfl rfl ?_
     refine AW_last [20] rfl (by decide +kernel) rfl ?_
     first | refine oSw rfl rfl rfl rfl ?_ | refine oSa rfl rfl rfl rfl ?_
     refine OW_nil (npN ?_)
     all_goals with_reducible refine tN ?_
     all_goals (
      refine cR ?_
      refine oM rfl rfl ?_
      refine oQ (Q_slaF rfl rfl rfl rfl) rfl rfl ?_
      refine oCall (normal_con p 24 (cubR [a, b, c, d, e]) 10 10 (by simp [cubR]) hp (by omega)) [(0, 2)] 0 rfl rfl (Fits.mk' vHn rfl rfl (by simp)) rfl rfl ?_
      rintro r H1 ⟨rfl, rfl⟩
      simp only [List.take_of_length_le (show (cubR [a, b, c, d, e]).length ≤ 10 from Nat.le_refl _), List.drop_eq_nil_of_le (show (cubR [a, b, c, d, e]).length ≤ 10 from Nat.le_refl _), List.append_nil]
      refine ⟨.bool (facP p (cubR [a, b, c, d, e]) != 0), [(2, .ints 24 (normL p (cubR [a, b, c, d, e])))], rfl, rfl, rfl, ?_⟩
      refine oN ?_
      refine cR ?_
      first | refine oQ (Lw rfl rfl rfl rfl) rfl rfl ?_ | refine oQ (La rfl rfl rfl rfl rfl) rfl rfl ?_
      first | refine oSw rfl rfl rfl rfl ?_ | refine oSa rfl rfl rfl rfl ?_
      refine oA rfl rfl ?_
      refine oN ?_
      refine CW_ret ?_))
  all_goals (
   first
     | (refine exitQ (.inr rfl) 1 (.cons (.arr rfl rfl rfl rfl rfl) (.cons (.tmp rfl rfl) .nil)) ?_ rfl vHn rfl rfl
        simp only [resV, cubV, cubC, hc]; rfl)
     | (refine exitQ (.inr rfl) 1 (.cons (.arr rfl rfl rfl rfl hnl) (.cons (.tmp rfl rfl) .nil)) ?_ rfl vHn rfl rfl
        rw [el] at hc; simp only [resV, cubV, cubC, el, if_pos hc]))
theorem l06By_con (p : Int) (t : TypeId) (a b c d e : Int) (sp : List Int) (k : Nat) (hp : primeB p = true) (ha : 0 ≤ a ∧ a < p) (hb : 0 ≤ b ∧ b < p) (hc' : 0 ≤ c ∧ c < p) (hd : 0 ≤ d ∧ d < p) (he : 0 ≤ e ∧ e < p) :
    ConQ Try.prog [] 62 [.int p, .slice 0 0 5 k] [(0, .ints t (a :: b :: c :: d :: e :: sp))] (.arr (normL p (cubR [a, b, c, d, e]))) := by
  have hpb := prime_bd hp
  have hcl : (cubR [a, b, c, d, e]).length = 10 := rfl
  have hnl := normL_length p (cubR [a, b, c, d, e])
  have hll := l06List_con p 2 [p - 1, 0, -b % p, 0, a, -d % p, 0, 1, c, -e % p] 10 (Nat.le_refl _) hp
  simp only [List.take_of_length_le (show [p - 1, 0, -b % p, 0, a, -d % p, 0, 1, c, -e % p].length ≤ 10 from Nat.le_refl _), cubR_mod] at hll
  refine conW tab_ok [(0, .int p), (1, .slice 0 0 5 k)] 1 [0] [0] Try.func62 rfl rfl rfl rfl rfl rfl rfl rfl rfl ?_
  refine cR ?_
  refine oAlloc rfl rfl rfl rfl rfl rfl rfl ?_
  refine oN ?_
  refine CW_seq ?_
  refine CW_draw lateOk (by decide +kernel) ?_
  refine qM rfl rfl ?_
  first | refine qQ (Is0 rfl rfl rfl rfl rfl rfl) rfl rfl ?_ | refine qQ (Is1 rfl rfl rfl rfl rfl rfl) rfl rfl ?_
  first | refine qQ (Q_ldc rfl rfl rfl rfl rfl) rfl rfl ?_ | refine qQ (Ld rfl rfl rfl rfl) rfl rfl ?_
  refine qM rfl rfl ?_
  first | refine qQ (Is0 rfl rfl rfl rfl rfl rfl) rfl rfl ?_ | refine qQ (Is1 rfl rfl rfl rfl rfl rfl) rfl rfl ?_
  first | refine qQ (Q_ldc rfl rfl rfl rfl rfl) rfl rfl ?_ | refine qQ (Ld rfl rfl rfl rfl) rfl rfl ?_
  refine qM rfl rfl ?_
  first | refine qQ (Is0 rfl rfl rfl rfl rfl rfl) rfl rfl ?_ | refine qQ (Is1 rfl rfl rfl rfl rfl rfl) rfl rfl ?_
  first | refine qQ (Q_ldc rfl rfl rfl rfl rfl) rfl rfl ?_ | refine qQ (Ld rfl rfl rfl rfl) rfl rfl ?_
  refine qM rfl rfl ?_
  first | refine qQ (Is0 rfl rfl rfl rfl rfl rfl) rfl rfl ?_ | refine qQ (Is1 rfl rfl rfl rfl rfl rfl) rfl rfl ?_
  first | refine qQ (Q_ldc rfl rfl rfl rfl rfl) rfl rfl ?_ | refine qQ (Ld rfl rfl rfl rfl) rfl rfl ?_
  refine qM rfl rfl ?_
  first | refine qQ (Is0 rfl rfl rfl rfl rfl rfl) rfl rfl ?_ | refine qQ (Is1 rfl rfl rfl rfl rfl rfl) rfl rfl ?_
  first | refine qQ (Q_ldc rfl rfl rfl rfl rfl) rfl rfl ?_ | refine qQ (Ld rfl rfl rfl rfl) rfl rfl ?_
  iterate 5 refine qA rfl rfl ?_
  refine QW_nil ?_
  all_goals with_reducible refine tN ?_
  all_goals (
   refine cR ?_
   iterate 2 refine oM rfl rfl ?_
   first | refine oQ (Q_binu rfl rfl rfl (by omega)) rfl rfl ?_ | refine oQ (Q_bin rfl rfl rfl) rfl rfl ?_
   iterate 2 refine oM rfl rfl ?_
   first | refine oQ (Q_negu rfl (by omega)) rfl rfl ?_ | refine oQ (Q_neg rfl) rfl rfl ?_
   refine oQ (Q_call0 (l01Mod_con _ _ (by omega) (by omega)) rfl rfl rfl) rfl rfl ?_
   iterate 3 refine oM rfl rfl ?_
   first | refine oQ (Q_negu rfl (by omega)) rfl rfl ?_ | refine oQ (Q_neg rfl) rfl rfl ?_
   refine oQ (Q_call0 (l01Mod_con _ _ (by omega) (by omega)) rfl rfl rfl) rfl rfl ?_
   iterate 3 refine oM rfl rfl ?_
   first | refine oQ (Q_negu rfl (by omega)) rfl rfl ?_ | refine oQ (Q_neg rfl) rfl rfl ?_
   refine oQ (Q_call0 (l01Mod_con _ _ (by omega) (by omega)) rfl rfl rfl) rfl rfl ?_
   refine oBsl (zl := []) (r := [p - 1, 0, -b % p, 0, a, -d % p, 0, 1, c, -e % p]) rfl rfl rfl rfl (.inl ⟨rfl, rfl⟩) rfl rfl rfl rfl rfl rfl ?_
   refine oQ (Q_call hll [(0, 2)] rfl rfl (Fits.mk' (vHc rfl vHn) rfl rfl (by simp)) rfl rfl) rfl rfl ?_
   refine oM rfl rfl ?_
   iterate 2 refine oQ (Q_extract rfl rfl) rfl rfl ?_
   refine oAlloc rfl rfl rfl rfl rfl rfl rfl ?_
   first | refine oSw rfl rfl rfl rfl ?_ | refine oSa rfl rfl rfl rfl ?_
   refine oA rfl rfl ?_
   refine oN ?_
   refine cR ?_
   first | refine oQ (Lw rfl rfl rfl rfl) rfl rfl ?_ | refine oQ (La rfl rfl rfl rfl rfl) rfl rfl ?_
   first | refine oSw rfl rfl rfl rfl ?_ | refine oSa rfl rfl rfl rfl ?_
   refine oN ?_
   refine CW_ret ?_)
  all_goals (
   refine exitQ (.inr rfl) 1 (.cons (.arr rfl rfl rfl rfl hnl) .nil) ?_ rfl (vHc rfl vHn) rfl rfl
   rfl)
theorem spec_CubicByFive_con (p : Int) (t : TypeId) (L : List Int) (n k : Nat) (hn : n ≤ L.length) (hL : n ≤ 1000000000) : ConQ Try.prog [] 15 [.int p, .slice 0 0 n k] [(0, .ints t L)] (.tuple [.arr (cubV p (L.take n)), .int (cubC p (L.take n))]) := by
  have hlen : (L.take n).length = n := by simp; try omega
  refine conW tab_ok [(0, .int p), (1, .slice 0 0 n k)] 1 [0] [0] Try.func15 rfl rfl rfl rfl rfl rfl rfl rfl rfl ?_
  refine cR ?_
  refine oAlloc rfl rfl rfl rfl rfl rfl rfl ?_
  refine oA rfl rfl ?_
  refine oN ?_
  refine CW_seq ?_
  refine cR ?_
  iterate 2 refine oM rfl rfl ?_
  refine oQ (Q_call (l06Five_con p t L n k hn hL) [] rfl rfl (Fits.mk' (vHc rfl vHn) rfl rfl (by simp)) rfl rfl) rfl rfl ?_
  refine oQ (Q_not rfl) rfl rfl ?_
  refine oN ?_
  first | refine cT rfl ?_ | refine cF rfl ?_ | refine CW_cond rfl (fun hc => ?_) (fun hc => ?_)
  all_goals try simp only [s1, s2, s3, s4, s5, s6, s7, s8, s9, s10, s11, s12] at hc
  all_goals first
    | (
     refine CW_skip ?_)
    | (
     refine cR ?_
     refine oQ (Q_build rfl rfl rfl rfl rfl rfl rfl rfl) rfl rfl ?_
     first | refine oSw rfl rfl rfl rfl ?_ | refine oSa rfl rfl rfl rfl ?_
     refine oA rfl rfl ?_
     refine oN ?_
     refine CW_ret ?_)
  all_goals first
    | with_reducible refine tR ?_
    | with_reducible refine tE ?_
    | (
     with_reducible refine tN ?_
     refine cR ?_
     iterate 2 refine oM rfl rfl ?_
     (have h5 : n = 5 := by have := five_len hc; omega)
     (have hp := five_prime hc)
     (obtain ⟨a, b, c, d, e, el, ha, hb, hc', hd, he⟩ := five_list hc)
     (subst h5)
     (have eL : L = a :: b :: c :: d :: e :: L.drop 5 := by rw [← List.take_append_drop 5 L, el]; simp)
     (generalize L.drop 5 = sp at eL)
     (subst eL)
     (have hcl : (cubR [a, b, c, d, e]).length = 10 := rfl)
     (have hnl := normL_length p (cubR [a, b, c, d, e]))
     refine oQ (Q_call (l06By_con p t a b c d e sp k hp ha hb hc' hd he) [] rfl rfl (Fits.mk' (vHc rfl vHn) rfl rfl (by simp)) rfl rfl) rfl rfl ?_
     first | refine oSw rfl rfl rfl rfl ?_ | refine oSa rfl rfl rfl rfl ?_
     refine oA rfl rfl ?_
     refine oN ?_
     refine CW_ret ?_)
  all_goals (
   first
     | (refine exitQ (.inr rfl) 1 (.cons (.arr rfl rfl rfl rfl rfl) (.cons (.tmp rfl rfl) .nil)) ?_ rfl (vHc rfl vHn) rfl rfl
        simp only [resV, cubV, cubC, hc]; rfl)
     | (refine exitQ (.inr rfl) 1 (.cons (.arr rfl rfl rfl rfl hnl) (.cons (.tmp rfl rfl) .nil)) ?_ rfl (vHc rfl vHn) rfl rfl
        rw [el] at hc; simp only [resV, cubV, cubC, el, if_pos hc]))
end Go.Proofs.Ytgfncdejnjikpaa
