/- Contracts: inverses, normal lists, small lists. -/
import Derived.Test.YtendffbpmpobnaaDoorA2
import Derived.Test.YtendffbpmpobnaaDoorPl2
import Derived.Test.YtendffbpmpobnaaDoorEngI
namespace Go.Proofs.YtendffbpmpobnaaDoor
attribute [local irreducible] CW OW QW QOp Con thenP inBlockP
set_option maxRecDepth 10000
set_option linter.unusedSimpArgs false
set_option linter.unusedVariables false
theorem mid_get {A L : List Int} {i : Nat} (hA : A.length = i) (h : i < L.length) : (A ++ L.drop i)[i]? = some (L.getD i 0) := by
  rw [List.getElem?_append_right (by omega), List.getElem?_drop]
  have : i + (i - A.length) = i := by omega
  rw [this]
  simp [List.getD, h]
theorem mid_set {A L : List Int} {i : Nat} {x : Int} (hA : A.length = i) (h : i < L.length) : (A ++ L.drop i).set i x = (A ++ [x]) ++ L.drop (i + 1) := by
  have : i - A.length = 0 := by omega
  rw [List.set_append_right _ _ (by omega), this, List.drop_eq_getElem_cons h, List.set_cons_zero, List.append_assoc]
  rfl
theorem mod_bd {p : Int} (hp : primeB p = true) (x : Int) : 0 ≤ x % p ∧ x % p < p := by
  have := prime_bd hp
  exact ⟨Int.emod_nonneg x (by omega), Int.emod_lt_of_pos x (by omega)⟩
theorem invz_bd {p : Int} (hp : primeB p = true) {n : Int} (h0 : 0 ≤ n) (h1 : n < p) : 0 ≤ invP p n ∧ invP p n < p := by
  have hb := prime_bd hp
  by_cases h : n = 0
  · subst h; rw [inv_zero]; omega
  · have := inv_spec hp (n := n) (by omega) h1; omega
theorem mod_mod_self (p x : Int) : x % p % p = x % p := Int.emod_emod_of_dvd x (Int.dvd_refl p)
theorem inverse_con (n p : Int) (hp : primeB p = true) (h0 : 0 < n) (h1 : n < p) : ConQ Tryd.prog [] 97 [.int n, .int p] [] (.int (invP p n)) := by
  have hb := prime_bd hp
  obtain ⟨v1, v2, v3⟩ := inv_spec hp h0 h1
  refine conW tab_ok [(0, .int n), (1, .int p)] 0 [] [] Tryd.func97 rfl rfl rfl rfl rfl rfl rfl rfl rfl ?_
  refine cR ?_
  refine oA rfl rfl ?_
  refine oN ?_
  refine cR ?_
  refine oA rfl rfl ?_
  refine oN ?_
  refine CW_seq ?_
  refine CW_block ?_
  refine CW_loop (ι := Nat) (fun i => 1 ≤ i ∧ (i : Int) ≤ invP p n) (fun i => ⟨[(0, .int n), (1, .int p), (5, .int i)], [], 0⟩) (fun i => (invP p n).toNat - i) 1 ?_ ?_ ?_
  · exact ⟨Nat.le_refl _, by omega⟩
  · refine View.mk' [] rfl rfl rfl ?_ ?_
    repeat' first | exact vFn | refine vFc rfl ?_ | exact vHn | refine vHc rfl ?_ | refine vFc (congrArg (fun z => some (V.int z)) ?_) ?_ | refine vHc (congrArg (fun z => some (Blk.ints _ z)) ?_) ?_ | refine vFc (congrArg (fun z => some (V.bool z)) ?_) ?_ | refine vFs rfl rfl ?_ ?_
  intro i hi
  obtain ⟨hi1, hi2⟩ := hi
  refine CW_seq ?_
  refine cR ?_
  iterate 2 refine oM rfl rfl ?_
  refine oQ (Q_binu rfl rfl rfl (mul_rng (p := p) (by omega) (by omega) (by omega) (by omega) (by omega))) rfl rfl ?_
  refine oM rfl rfl ?_
  refine oQ (Q_call0 (mod_con _ _ (by omega) (by omega)) rfl rfl rfl) rfl rfl ?_
  refine oQ (Q_bin rfl rfl rfl) rfl rfl ?_
  refine oN ?_
  first | refine cT rfl ?_ | refine cF rfl ?_ | refine CW_cond rfl (fun hc => ?_) (fun hc => ?_)
  all_goals try simp only [s1, s2, s3, s4, s5, s6, s7, s8, s9, s10, s11, s12] at hc
  all_goals first
    | (
     refine CW_skip ?_)
    | (
     refine CW_exit ?_)
  all_goals first
    | with_reducible refine tR ?_
    | with_reducible refine tE ?_
    | (
     with_reducible refine tN ?_
     refine CW_block ?_
     refine CW_region ?_
     refine oM rfl rfl ?_
     first | refine oQ (Q_binu rfl rfl rfl (by omega)) rfl rfl ?_ | refine oQ (Q_bin rfl rfl rfl) rfl rfl ?_
     refine oA rfl rfl ?_
     refine OW_nil ?_
     all_goals first | with_reducible refine bN ?_ | with_reducible refine bE ?_ | with_reducible refine bR ?_ | refine bX rfl ?_)
  all_goals first
    | with_reducible refine tR ?_
    | with_reducible refine tE ?_
    | (
     with_reducible refine tN ?_
     refine ⟨i + 1, ?_, ?_, View.mk' [] rfl rfl rfl ?_ ?_⟩
     · have hne : (i : Int) ≠ invP p n := fun e => by rw [e] at hc; exact hc v3
       exact ⟨by omega, by omega⟩
     · (have hne : (i : Int) ≠ invP p n := (fun e => by rw [e] at hc; exact hc v3)); omega
     all_goals (repeat' first | exact vFn | refine vFc rfl ?_ | exact vHn | refine vHc rfl ?_ | refine vFc (congrArg (fun z => some (V.int z)) ?_) ?_ | refine vHc (congrArg (fun z => some (Blk.ints _ z)) ?_) ?_ | refine vFc (congrArg (fun z => some (V.bool z)) ?_) ?_ | refine vFs rfl rfl ?_ ?_))
  all_goals first | with_reducible refine bN ?_ | with_reducible refine bE ?_ | with_reducible refine bR ?_ | refine bX rfl ?_
  all_goals with_reducible refine tN ?_
  all_goals (
   refine cR ?_
   refine oM rfl rfl ?_
   refine oA rfl rfl ?_
   refine oN ?_
   refine CW_ret ?_)
  all_goals (
   refine exitQ (.inr rfl) 0 (.cons (.tmp rfl rfl) .nil) ?_ rfl vHn rfl rfl
   exact congrArg V.int (inv_is hp h0 h1 (by omega) (by omega) hc).symm)
theorem l01Inverse_con (n p : Int) (hp : primeB p = true) : ConQ Tryd.prog [] 73 [.int p, .int n] [] (.int (invP p (n % p))) := by
  have hb := prime_bd hp
  have hm := mod_bd hp n
  have hst : n % p = 0 ∨ ((1 : Nat) : Int) ≤ invP p (n % p) := by
    by_cases h0 : n % p = 0
    · exact .inl h0
    · have := inv_spec hp (n := n % p) (by omega) hm.2
      exact .inr (by omega)
  refine conW tab_ok [(0, .int p), (1, .int n)] 0 [] [] Tryd.func73 rfl rfl rfl rfl rfl rfl rfl rfl rfl ?_
  refine cR ?_
  refine oA rfl rfl ?_
  refine oN ?_
  refine CW_seq ?_
  refine cR ?_
  refine oA rfl rfl ?_
  refine oN ?_
  refine CW_block ?_
  refine CW_loop (ι := Nat) (fun i => 1 ≤ i ∧ (i : Int) ≤ p ∧ (n % p = 0 ∨ (i : Int) ≤ invP p (n % p))) (fun i => ⟨[(0, .int p), (1, .int n), (5, .int i)], [], 0⟩) (fun i => p.toNat - i) 1 ?_ ?_ ?_
  · exact ⟨Nat.le_refl _, by omega, hst⟩
  · refine View.mk' [] rfl rfl rfl ?_ ?_
    repeat' first | exact vFn | refine vFc rfl ?_ | exact vHn | refine vHc rfl ?_ | refine vFc (congrArg (fun z => some (V.int z)) ?_) ?_ | refine vHc (congrArg (fun z => some (Blk.ints _ z)) ?_) ?_ | refine vFc (congrArg (fun z => some (V.bool z)) ?_) ?_ | refine vFs rfl rfl ?_ ?_
  intro i hi
  obtain ⟨hi1, hi2, hi3⟩ := hi
  have hmr : (i : Int) < p → -9223372036854775808 ≤ (i : Int) * (n % p) ∧ (i : Int) * (n % p) ≤ 9223372036854775807 := fun h => mul_rng (by omega) h hm.1 hm.2 (by omega)
  have hm0 : 0 ≤ (i : Int) * (n % p) := Int.mul_nonneg (by omega) hm.1
  refine CW_seq ?_
  refine cR ?_
  iterate 2 refine oM rfl rfl ?_
  refine oQ (Q_bin rfl rfl rfl) rfl rfl ?_
  refine oN ?_
  first | refine cT rfl ?_ | refine cF rfl ?_ | refine CW_cond rfl (fun hc => ?_) (fun hc => ?_)
  all_goals try simp only [s1, s2, s3, s4, s5, s6, s7, s8, s9, s10, s11, s12] at hc
  all_goals first
    | (
     refine CW_skip ?_)
    | (
     refine CW_exit ?_)
  all_goals first
    | with_reducible refine tR ?_
    | with_reducible refine tE ?_
    | (
     with_reducible refine tN ?_
     refine CW_seq ?_
     refine CW_block ?_
     refine cR ?_
     iterate 3 refine oM rfl rfl ?_
     refine oQ (Q_call0 (l01Mod_con _ _ (by omega) (by omega)) rfl rfl rfl) rfl rfl ?_
     first | refine oQ (Q_binu rfl rfl rfl (by omega)) rfl rfl ?_ | refine oQ (Q_bin rfl rfl rfl) rfl rfl ?_
     refine oM rfl rfl ?_
     refine oQ (Q_rem rfl rfl (by omega)) rfl rfl ?_
     refine oQ (Q_bin rfl rfl rfl) rfl rfl ?_
     refine oN ?_
     first | refine cT rfl ?_ | refine cF rfl ?_ | refine CW_cond rfl (fun hc => ?_) (fun hc => ?_)
     all_goals try simp only [s1, s2, s3, s4, s5, s6, s7, s8, s9, s10, s11, s12] at hc
     all_goals first
       | (
        refine CW_skip ?_)
       | (
        refine cR ?_
        refine oM rfl rfl ?_
        refine oA rfl rfl ?_
        refine oN ?_
        refine CW_ret ?_)
     all_goals first | with_reducible refine bN ?_ | with_reducible refine bE ?_ | with_reducible refine bR ?_ | refine bX rfl ?_
     all_goals first
       | with_reducible refine tR ?_
       | with_reducible refine tE ?_
       | (
        with_reducible refine tN ?_
        refine CW_region ?_
        refine oM rfl rfl ?_
        first | refine oQ (Q_binu rfl rfl rfl (by omega)) rfl rfl ?_ | refine oQ (Q_bin rfl rfl rfl) rfl rfl ?_
        refine oA rfl rfl ?_
        refine OW_nil ?_))
  all_goals first
    | with_reducible refine tR ?_
    | with_reducible refine tE ?_
    | (
     with_reducible refine tN ?_
     refine ⟨i + 1, ?_, ?_, View.mk' [] rfl rfl rfl ?_ ?_⟩
     · refine ⟨by omega, by omega, ?_⟩
       rcases hi3 with h0 | h0
       · exact .inl h0
       · refine .inr ?_
         have hpos : 0 < n % p := by
           rcases Int.lt_trichotomy 0 (n % p) with h | h | h
           · exact h
           · rw [← h, inv_zero] at h0; omega
           · omega
         have v := inv_spec hp hpos hm.2
         have hne : (i : Int) ≠ invP p (n % p) := fun e => by apply hc; rw [Int.tmod_eq_emod_of_nonneg hm0, e, Int.mul_comm]; exact v.2.2
         omega
     · omega
     all_goals (repeat' first | exact vFn | refine vFc rfl ?_ | exact vHn | refine vHc rfl ?_ | refine vFc (congrArg (fun z => some (V.int z)) ?_) ?_ | refine vHc (congrArg (fun z => some (Blk.ints _ z)) ?_) ?_ | refine vFc (congrArg (fun z => some (V.bool z)) ?_) ?_ | refine vFs rfl rfl ?_ ?_))
  all_goals first | with_reducible refine bN ?_ | with_reducible refine bE ?_ | with_reducible refine bR ?_ | refine bX rfl ?_
  all_goals first
    | with_reducible refine tR ?_
    | with_reducible refine tE ?_
    | (
     with_reducible refine tN ?_
     refine cR ?_
     refine oA rfl rfl ?_
     refine oN ?_
     refine CW_ret ?_)
  all_goals (
   refine exitQ (.inr rfl) 0 (.cons (.tmp rfl rfl) .nil) ?_ rfl vHn rfl rfl
   refine congrArg V.int ?_
   by_cases h0 : n % p = 0
   · first
       | (rw [h0, inv_zero]; done)
       | (exfalso; rw [h0] at hc; simp at hc)
   · have v := inv_spec hp (n := n % p) (by omega) hm.2
     first
       | (exfalso; omega)
       | (rw [Int.tmod_eq_emod_of_nonneg hm0, Int.mul_comm] at hc
          exact (inv_is hp (n := n % p) (by omega) hm.2 (by omega) (by omega) hc).symm))
theorem norm_mid {p : Int} {L : List Int} {i : Nat} {x : Int} (hp : primeB p = true) (h : i < L.length) (hx : x = L.getD i 0 % p * facP p (L.take (i + 1)) % p) :
    (normL p (L.take i) ++ L.drop i).set i x = normL p (L.take (i + 1)) ++ L.drop (i + 1) := by
  rw [mid_set (by rw [normL_length]; simp; omega) h, take_snoc h, norm_snoc hp, ← take_snoc h, hx]
theorem fac_nil (p : Int) : facP p [] = 0 := by simp [facP, fnz, inv_zero]
theorem fac_step {p : Int} {L : List Int} {i : Nat} (hp : primeB p = true) (h : i < L.length) : facP p (L.take (i + 1)) = if facP p (L.take i) = 0 then (if L.getD i 0 % p = 0 then 0 else invP p (L.getD i 0 % p)) else facP p (L.take i) := by
  rw [take_snoc h, fac_snoc hp]
theorem normal_con (p : Int) (t : TypeId) (L : List Int) (n k : Nat) (hn : n ≤ L.length) (hp : primeB p = true) (hL : n ≤ 1000000000) : Con Tryd.prog [] 56 [.int p, .slice 0 0 n k] [(0, .ints t L)]
    (fun r H' => r = .bool (facP p (L.take n) != 0) ∧ H' = [(0, .ints t (normL p (L.take n) ++ L.drop n))]) := by
  have hb := prime_bd hp
  refine conW tab_ok [(0, .int p), (1, .slice 0 0 n k)] 1 [0] [0] Tryd.func56 rfl rfl rfl rfl rfl rfl rfl rfl rfl ?_
  refine cR ?_
  refine oA rfl rfl ?_
  refine oN ?_
  refine cR ?_
  refine oA rfl rfl ?_
  refine oN ?_
  refine CW_seq ?_
  refine cR ?_
  refine oM rfl rfl ?_
  first | refine oQ (Q_len rfl rfl rfl rfl) rfl rfl ?_ | refine oQ (Q_len0 rfl rfl rfl rfl) rfl rfl ?_
  refine oM rfl rfl ?_
  refine oN ?_
  refine CW_block ?_
  refine CW_loop (ι := Nat) (fun i => i ≤ n) (fun i => ⟨[(0, .int p), (1, .slice 0 0 n k), (5, .int (facP p (L.take i))), (8, .slice 0 0 n k), (9, .int n), (10, .int i)], [(0, .ints t (normL p (L.take i) ++ L.drop i))], 1⟩) (fun i => n - i) 0 ?_ ?_ ?_
  · first | trivial | omega | (simp; done) | (simp; omega)
  · refine View.mk' [] rfl rfl rfl ?_ ?_
    repeat' first | exact vFn | refine vFc rfl ?_ | exact vHn | refine vHc rfl ?_ | refine vFc (congrArg (fun z => some (V.int z)) ?_) ?_ | refine vHc (congrArg (fun z => some (Blk.ints _ z)) ?_) ?_ | refine vFc (congrArg (fun z => some (V.bool z)) ?_) ?_ | refine vFs rfl rfl ?_ ?_
    exact (fac_nil p).symm
  intro i hi
  have hfb := fac_bd hp (L.take i)
  have hxb := mod_bd hp (L.getD i 0)
  have hib := invz_bd hp hxb.1 hxb.2
  have hlen : (normL p (L.take i)).length = min i L.length := by rw [normL_length]; simp
  refine cR ?_
  refine oQ (Q_bin rfl rfl rfl) rfl rfl ?_
  refine oN ?_
  refine CW_seq ?_
  first | refine cT rfl ?_ | refine cF rfl ?_ | refine CW_cond rfl (fun hc => ?_) (fun hc => ?_)
  all_goals try simp only [s1, s2, s3, s4, s5, s6, s7, s8, s9, s10, s11, s12] at hc
  all_goals first
    | (
     refine CW_skip ?_)
    | (
     refine CW_exit ?_)
  all_goals first
    | with_reducible refine tR ?_
    | with_reducible refine tE ?_
    | (
     with_reducible refine tN ?_
     refine CW_seq ?_
     refine CW_block ?_
     refine cR ?_
     refine oM rfl rfl ?_
     first | refine oQ (Is0 rfl rfl rfl rfl rfl rfl) rfl rfl ?_ | refine oQ (Is1 rfl rfl rfl rfl rfl rfl) rfl rfl ?_
     refine oQ (Q_ldc rfl rfl rfl rfl (mid_get (by omega) (by omega))) rfl rfl ?_
     iterate 2 refine oA rfl rfl ?_
     refine oN ?_
     refine cR ?_
     iterate 2 refine oM rfl rfl ?_
     refine oQ (Q_call0 (mod_con _ _ (by omega) (by omega)) rfl rfl rfl) rfl rfl ?_
     refine oA rfl rfl ?_
     refine oN ?_
     refine CW_seq ?_
     refine cR ?_
     refine oM rfl rfl ?_
     refine oQ (Q_bin rfl rfl rfl) rfl rfl ?_
     refine oM rfl rfl ?_
     all_goals first | refine oT rfl rfl ?_ | refine o1 rfl rfl rfl ?_ | refine o0 rfl rfl rfl ?_ | refine ogP1 rfl rfl rfl (fun hg => ?_) (fun hg => ?_) | refine ogP0 rfl rfl rfl (fun hg => ?_) (fun hg => ?_)
     all_goals try simp only [s1, s2, s3, s4, s5, s6, s7, s8, s9, s10, s11, s12] at hg
     all_goals first | (refine oM rfl rfl ?_) | skip
     all_goals first | refine oT rfl rfl ?_ | refine o1 rfl rfl rfl ?_ | refine o0 rfl rfl rfl ?_ | refine ogP1 rfl rfl rfl (fun hg => ?_) (fun hg => ?_) | refine ogP0 rfl rfl rfl (fun hg => ?_) (fun hg => ?_)
     all_goals try simp only [s1, s2, s3, s4, s5, s6, s7, s8, s9, s10, s11, s12] at hg
     all_goals first | (refine oQ (Q_bin rfl rfl rfl) rfl rfl ?_) | skip
     all_goals first | refine oQ (Q_pick_t rfl (by with_reducible rfl) rfl rfl) rfl rfl ?_ | refine oQ (Q_pick_f rfl (by with_reducible rfl) rfl rfl) rfl rfl ?_
     all_goals refine oN ?_
     all_goals (
      first | refine cT rfl ?_ | refine cF rfl ?_ | refine CW_cond rfl (fun hc => ?_) (fun hc => ?_)
      all_goals try simp only [s1, s2, s3, s4, s5, s6, s7, s8, s9, s10, s11, s12] at hc
      all_goals first
        | (
         refine CW_skip ?_)
        | (
         refine CW_region ?_
         iterate 2 refine oM rfl rfl ?_
         (have hc' := hc); refine oQ (Q_call0 (inverse_con _ _ hp (by omega) (by omega)) rfl rfl rfl) rfl rfl ?_
         refine oA rfl rfl ?_
         refine OW_nil ?_))
     all_goals with_reducible refine tN ?_
     all_goals (
      refine CW_region ?_
      iterate 4 refine oM rfl rfl ?_
      refine oQ (Q_binu rfl rfl rfl (mul_rng (p := p) (by omega) (by omega) (by omega) (by omega) (by omega))) rfl rfl ?_
      refine oM rfl rfl ?_
      refine oQ (Q_call0 (mod_con _ _ (by omega) (by omega)) rfl rfl rfl) rfl rfl ?_
      first | refine oQ (Is0 rfl rfl rfl rfl rfl rfl) rfl rfl ?_ | refine oQ (Is1 rfl rfl rfl rfl rfl rfl) rfl rfl ?_
      refine oS rfl rfl rfl rfl rfl ?_
      refine OW_nil ?_)
     all_goals first | with_reducible refine bN ?_ | with_reducible refine bE ?_ | with_reducible refine bR ?_ | refine bX rfl ?_
     all_goals with_reducible refine tN ?_
     all_goals (
      refine CW_region ?_
      first | refine oQ (Q_binu rfl rfl rfl (by omega)) rfl rfl ?_ | refine oQ (Q_bin rfl rfl rfl) rfl rfl ?_
      refine oM rfl rfl ?_
      refine OW_nil ?_))
  all_goals first
    | with_reducible refine tR ?_
    | with_reducible refine tE ?_
    | (
     with_reducible refine tN ?_
     refine ⟨i + 1, ?_, ?_, View.mk' [] rfl rfl rfl ?_ ?_⟩
     · omega
     · omega
     all_goals (repeat' first | exact vFn | refine vFc rfl ?_ | exact vHn | refine vHc rfl ?_ | refine vFc (congrArg (fun z => some (V.int z)) ?_) ?_ | refine vHc (congrArg (fun z => some (Blk.ints _ z)) ?_) ?_ | refine vFc (congrArg (fun z => some (V.bool z)) ?_) ?_ | refine vFs rfl rfl ?_ ?_)
     all_goals (have hfs := fac_step hp (L := L) (i := i) (by omega))
     all_goals first | (refine norm_mid hp (by omega) ?_; congr 2; simp_all; done) | (simp_all; done))
  all_goals first | with_reducible refine bN ?_ | with_reducible refine bE ?_ | with_reducible refine bR ?_ | refine bX rfl ?_
  all_goals with_reducible refine tN ?_
  all_goals (
   refine cR ?_
   refine oM rfl rfl ?_
   refine oQ (Q_bin rfl rfl rfl) rfl rfl ?_
   refine oA rfl rfl ?_
   refine oN ?_
   refine CW_ret ?_)
  all_goals (
   have e : i = n := by omega
   subst e
   exact exitH (.inr rfl) [] 1 (.cons (.tmp rfl rfl) .nil) rfl rfl rfl (vHc rfl vHn) rfl rfl ⟨rfl, rfl⟩)
theorem l01Norm_con (p : Int) (t : TypeId) (L : List Int) (n k : Nat) (hn : n ≤ L.length) (hp : primeB p = true) (hL : n ≤ 1000000000) : Con Tryd.prog [] 74 [.int p, .slice 0 0 n k] [(0, .ints t L)]
    (fun r H' => ∃ k' sp, n ≤ k' ∧ k' ≤ n + sp.length ∧ r = .tuple [.slice 1 0 n k', .bool (facP p (L.take n) != 0)] ∧ H' = [(0, .ints t L), (1, .ints 2 (normL p (L.take n) ++ sp))]) := by
  have hb := prime_bd hp
  refine conW tab_ok [(0, .int p), (1, .slice 0 0 n k)] 1 [0] [0] Tryd.func74 rfl rfl rfl rfl rfl rfl rfl rfl rfl ?_
  refine cR ?_
  iterate 2 refine oA rfl rfl ?_
  refine oN ?_
  refine cR ?_
  refine oBsl (zl := []) rfl rfl rfl rfl (.inl ⟨rfl, rfl⟩) rfl rfl rfl rfl rfl rfl ?_
  iterate 2 refine oA rfl rfl ?_
  refine oN ?_
  refine CW_seq ?_
  refine cR ?_
  refine oA rfl rfl ?_
  refine oN ?_
  refine CW_block ?_
  refine CW_loop (ι := Nat × Nat × List Int) (fun x => x.1 ≤ n ∧ x.1 ≤ x.2.1 ∧ x.2.1 ≤ x.1 + x.2.2.length) (fun x => ⟨[(0, .int p), (1, .slice 0 0 n k), (6, .int (facP p (L.take x.1))), (7, .slice 1 0 x.1 x.2.1), (8, .int x.1)], [(0, .ints t L), (1, .ints 2 (normL p (L.take x.1) ++ x.2.2))], 2⟩) (fun x => n - x.1) (0, 0, []) ?_ ?_ ?_
  · exact ⟨Nat.zero_le _, Nat.le_refl _, Nat.le_refl _⟩
  · refine View.mk' [] rfl rfl rfl ?_ ?_
    repeat' first | exact vFn | refine vFc rfl ?_ | exact vHn | refine vHc rfl ?_ | refine vFc (congrArg (fun z => some (V.int z)) ?_) ?_ | refine vHc (congrArg (fun z => some (Blk.ints _ z)) ?_) ?_ | refine vFc (congrArg (fun z => some (V.bool z)) ?_) ?_ | refine vFs rfl rfl ?_ ?_
    exact (fac_nil p).symm
  rintro ⟨i, k', sp⟩ ⟨hi, hi2, hi3⟩
  dsimp only at hi hi2 hi3 ⊢
  have hfb := fac_bd hp (L.take i)
  have hxb := mod_bd hp (L.getD i 0)
  have hib := invz_bd hp hxb.1 hxb.2
  have hlen : (normL p (L.take i)).length = i * 1 := by rw [normL_length]; simp; omega
  refine CW_seq ?_
  refine cR ?_
  iterate 2 refine oM rfl rfl ?_
  first | refine oQ (Q_len rfl rfl rfl rfl) rfl rfl ?_ | refine oQ (Q_len0 rfl rfl rfl rfl) rfl rfl ?_
  refine oQ (Q_bin rfl rfl rfl) rfl rfl ?_
  refine oN ?_
  first | refine cT rfl ?_ | refine cF rfl ?_ | refine CW_cond rfl (fun hc => ?_) (fun hc => ?_)
  all_goals try simp only [s1, s2, s3, s4, s5, s6, s7, s8, s9, s10, s11, s12] at hc
  all_goals first
    | (
     refine CW_skip ?_)
    | (
     refine CW_exit ?_)
  all_goals first
    | with_reducible refine tR ?_
    | with_reducible refine tE ?_
    | (
     with_reducible refine tN ?_
     refine CW_seq ?_
     refine CW_block ?_
     refine cR ?_
     iterate 3 refine oM rfl rfl ?_
     first | refine oQ (Is0 rfl rfl rfl rfl rfl rfl) rfl rfl ?_ | refine oQ (Is1 rfl rfl rfl rfl rfl rfl) rfl rfl ?_
     refine oQ (Ld rfl rfl rfl rfl) rfl rfl ?_
     refine oQ (Q_call0 (l01Mod_con _ _ (by omega) (by omega)) rfl rfl rfl) rfl rfl ?_
     refine oA rfl rfl ?_
     refine oN ?_
     refine CW_seq ?_
     refine cR ?_
     refine oM rfl rfl ?_
     refine oQ (Q_bin rfl rfl rfl) rfl rfl ?_
     refine oM rfl rfl ?_
     all_goals first | refine oT rfl rfl ?_ | refine o1 rfl rfl rfl ?_ | refine o0 rfl rfl rfl ?_ | refine ogP1 rfl rfl rfl (fun hg => ?_) (fun hg => ?_) | refine ogP0 rfl rfl rfl (fun hg => ?_) (fun hg => ?_)
     all_goals try simp only [s1, s2, s3, s4, s5, s6, s7, s8, s9, s10, s11, s12] at hg
     all_goals first | (refine oM rfl rfl ?_) | skip
     all_goals first | refine oT rfl rfl ?_ | refine o1 rfl rfl rfl ?_ | refine o0 rfl rfl rfl ?_ | refine ogP1 rfl rfl rfl (fun hg => ?_) (fun hg => ?_) | refine ogP0 rfl rfl rfl (fun hg => ?_) (fun hg => ?_)
     all_goals try simp only [s1, s2, s3, s4, s5, s6, s7, s8, s9, s10, s11, s12] at hg
     all_goals first | (refine oQ (Q_bin rfl rfl rfl) rfl rfl ?_) | skip
     all_goals first | refine oQ (Q_pick_t rfl (by with_reducible rfl) rfl rfl) rfl rfl ?_ | refine oQ (Q_pick_f rfl (by with_reducible rfl) rfl rfl) rfl rfl ?_
     all_goals refine oN ?_
     all_goals (
      first | refine cT rfl ?_ | refine cF rfl ?_ | refine CW_cond rfl (fun hc => ?_) (fun hc => ?_)
      all_goals try simp only [s1, s2, s3, s4, s5, s6, s7, s8, s9, s10, s11, s12] at hc
      all_goals first
        | (
         refine CW_skip ?_)
        | (
         refine CW_region ?_
         iterate 2 refine oM rfl rfl ?_
         (have e9 := mod_mod_self p (L.getD i 0))
         refine oQ (Q_call0 (l01Inverse_con _ _ hp) rfl rfl rfl) rfl rfl ?_
         rw [e9]
         refine oA rfl rfl ?_
         refine OW_nil ?_))
     all_goals with_reducible refine tN ?_
     all_goals (
      refine CW_region ?_
      iterate 3 refine oM rfl rfl ?_
      refine oQ (Q_binu rfl rfl rfl (mul_rng (p := p) (by omega) (by omega) (by omega) (by omega) (by omega))) rfl rfl ?_
      refine oM rfl rfl ?_
      refine oQ (Q_rem rfl rfl (by omega)) rfl rfl ?_
      refine oBsl (zl := []) rfl rfl rfl rfl (.inl ⟨rfl, rfl⟩) rfl rfl rfl rfl rfl rfl ?_
      refine oApp (sz := 1) (by_ := 8) rfl rfl rfl rfl rfl rfl ⟨by decide, rfl, .inl ⟨rfl, rfl⟩⟩ rfl rfl rfl rfl rfl rfl hlen rfl (by omega) hi2 (by omega) (by omega) rfl rfl (fun k2 sp2 h1 h2 => ?_)
      refine oA rfl rfl ?_
      refine OW_nil ?_)
     all_goals first | with_reducible refine bN ?_ | with_reducible refine bE ?_ | with_reducible refine bR ?_ | refine bX rfl ?_
     all_goals with_reducible refine tN ?_
     all_goals (
      refine CW_region ?_
      refine oM rfl rfl ?_
      first | refine oQ (Q_binu rfl rfl rfl (by omega)) rfl rfl ?_ | refine oQ (Q_bin rfl rfl rfl) rfl rfl ?_
      refine oA rfl rfl ?_
      refine OW_nil ?_))
  all_goals first
    | with_reducible refine tR ?_
    | with_reducible refine tE ?_
    | (
     with_reducible refine tN ?_
     refine ⟨(i + 1, k2, sp2), ?_, ?_, View.mk' [(1, 3)] rfl rfl rfl ?_ ?_⟩
     · exact ⟨by omega, by simpa using h1, by simpa using h2⟩
     · omega
     all_goals (repeat' first | exact vFn | refine vFc rfl ?_ | exact vHn | refine vHc rfl ?_ | refine vFc (congrArg (fun z => some (V.int z)) ?_) ?_ | refine vHc (congrArg (fun z => some (Blk.ints _ z)) ?_) ?_ | refine vFc (congrArg (fun z => some (V.bool z)) ?_) ?_ | refine vFs rfl rfl ?_ ?_)
     all_goals (have hfs := fac_step hp (L := L) (i := i) (by omega))
     all_goals first | (refine congrArg (fun z => z ++ sp2) ?_; rw [take_snoc (show i < L.length by omega), norm_snoc hp, ← take_snoc (show i < L.length by omega), Int.tmod_eq_emod_of_nonneg (Int.mul_nonneg (by omega) (by omega))]; congr 4; simp_all; done) | (simp_all; done))
  all_goals first | with_reducible refine bN ?_ | with_reducible refine bE ?_ | with_reducible refine bR ?_ | refine bX rfl ?_
  all_goals with_reducible refine tN ?_
  all_goals (
   refine cR ?_
   iterate 2 refine oM rfl rfl ?_
   refine oQ (Q_bin rfl rfl rfl) rfl rfl ?_
   iterate 2 refine oA rfl rfl ?_
   refine oN ?_
   refine CW_ret ?_)
  all_goals (
   have e : i = n := by omega
   subst e
   exact exitH (.inr rfl) [] 2 (.cons (.tmp rfl rfl) (.cons (.tmp rfl rfl) .nil)) rfl rfl rfl (vHc rfl (vHc rfl vHn)) rfl rfl ⟨k', sp, hi2, hi3, rfl, rfl⟩)
def smallB (l : List Int) : Bool := l.all fun n => decide (-1000 ≤ n) && decide (n ≤ 1000)
theorem smallB_snoc {l : List Int} {i : Nat} (hi : i < l.length) (h : smallB (l.take i) = true) (h1 : -1000 ≤ l.getD i 0) (h2 : l.getD i 0 ≤ 1000) : smallB (l.take (i + 1)) = true := by
  rw [take_snoc hi]
  simp only [smallB, List.all_append, Bool.and_eq_true] at h ⊢
  exact ⟨h, by simp only [List.all_cons, List.all_nil, Bool.and_true, Bool.and_eq_true, decide_eq_true_eq]; exact ⟨h1, h2⟩⟩
theorem smallB_fail {l : List Int} {i n : Nat} (hi : i < l.length) (hn : i < n) (h : (decide (-1000 ≤ l.getD i 0) && decide (l.getD i 0 ≤ 1000)) = false) : smallB (l.take n) = false := by
  rw [smallB, List.all_eq_false]
  refine ⟨l.getD i 0, ?_, by rw [h]; simp⟩
  rw [List.mem_take_iff_getElem]
  exact ⟨i, by omega, by simp [List.getD, hi]⟩
end Go.Proofs.YtendffbpmpobnaaDoor
