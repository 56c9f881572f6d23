/- Contracts of CubicOf and QuadricOf, of both sides. Printed by gen_b2.py. -/
import Derived.Test.YtgfncdejnjikpaaA3
namespace Go.Proofs.Ytgfncdejnjikpaa
attribute [local irreducible] CW OW QW QOp Con thenP inBlockP
set_option maxRecDepth 10000
set_option linter.unusedSimpArgs false
set_option linter.unusedVariables false
abbrev zero10 : List Int := [0, 0, 0, 0, 0, 0, 0, 0, 0, 0]
/-- the code, and the array, of the normal list of ten small numbers -/
def tenC (p : Int) (l : List Int) : Int := if (primeB p && (l.length == 10) && smallB l) = true then (if facP p l = 0 then 5 else 0) else 2
def tenV (p : Int) (l : List Int) : List Int := if tenC p l = 0 then normL p l else zero10
theorem ten_prime {p : Int} {l : List Int} (h : primeB p = false) : tenC p l = 2 := by simp [tenC, h]
theorem ten_len {p : Int} {l : List Int} (h : l.length ≠ 10) : tenC p l = 2 := by simp [tenC, h]
theorem ten_small {p : Int} {l : List Int} (h : smallB l = false) : tenC p l = 2 := by simp [tenC, h]
theorem ten_zero {p : Int} {l : List Int} (h1 : primeB p = true) (h2 : l.length = 10) (h3 : smallB l = true) (h : facP p l = 0) : tenC p l = 5 := by simp [tenC, h, h1, h2, h3]
theorem ten_ok {p : Int} {l : List Int} (h1 : primeB p = true) (h2 : l.length = 10) (h3 : smallB l = true) (h : facP p l ≠ 0) : tenC p l = 0 := by simp [tenC, h, h1, h2, h3]
theorem norm_zero {p : Int} {l : List Int} (h : facP p l = 0) : normL p l = List.replicate l.length 0 := by
  apply List.ext_getElem (by simp [normL])
  intro i h1 h2
  simp [normL, h]
theorem map_mod_mod (p : Int) (l : List Int) : (l.map (· % p)).map (· % p) = l.map (· % p) := by
  rw [List.map_map]
  apply List.map_congr_left
  intro x _
  exact Int.emod_emod_of_dvd _ (Int.dvd_refl p)
theorem fac_mod (p : Int) (l : List Int) : facP p (l.map (· % p)) = facP p l := by simp only [facP, map_mod_mod]
theorem norm_mod (p : Int) (l : List Int) : normL p (l.map (· % p)) = normL p l := by
  simp only [normL, fac_mod, List.map_map]
  apply List.map_congr_left
  intro x _
  simp [Int.emod_emod_of_dvd]
theorem norm_smallB (l : List Int) (n : Nat) (h : n ≤ l.length) : (l.take n).length = n := by simp; omega
theorem ten_tup {p : Int} {l : List Int} {c : Int} {v : List Int} (hc : tenC p l = c) (hv : c = 0 → v = normL p l) (hz : c ≠ 0 → v = zero10) : V.tuple [.arr v, .int c] = V.tuple [.arr (tenV p l), .int (tenC p l)] := by
  subst hc
  unfold tenV
  split
  · rename_i h; rw [hv h]
  · rename_i h; rw [hz h]
theorem tenV_length (p : Int) (l : List Int) : (tenV p l).length = 10 := by
  unfold tenV
  split
  · rename_i h
    rw [normL_length]
    unfold tenC at h
    split at h
    · rename_i h'; simp at h'; exact h'.1.2
    · cases h
  · rfl
theorem ten_bad {p : Int} {l : List Int} {n : Nat} (hl : l.length = n) (h : (smallB l && ((n : Int) == 10)) = false) : tenC p l = 2 := by
  unfold tenC
  rw [if_neg]
  intro h'
  simp only [Bool.and_eq_true, beq_iff_eq] at h'
  simp only [Bool.and_eq_false_iff, beq_eq_false_iff_ne, ne_eq] at h
  rcases h with h | h
  · rw [h'.2] at h; cases h
  · omega
theorem ten_bd {p : Int} (h : primeB p = true) : 0 ≤ p ∧ p ≤ 1000 := by have := prime_bd h; omega
theorem l06List_con (p : Int) (t : TypeId) (L : List Int) (k : Nat) (hn : 10 ≤ L.length) (hp : primeB p = true) : ConQ Try.prog [] 114 [.int p, .slice 0 0 10 k] [(0, .ints t L)] (.tuple [.arr (normL p (L.take 10)), .bool (facP p (L.take 10) != 0)]) := by
  have hlen : (normL p (L.take 10)).length = 10 := by rw [normL_length]; simp; omega
  have e9 : (normL p (L.take 10)).take 10 = normL p (L.take 10) := List.take_of_length_le (by omega)
  refine conW tab_ok [(0, .int p), (1, .slice 0 0 10 k)] 1 [0] [0] Try.func114 rfl rfl rfl rfl rfl rfl rfl rfl rfl ?_
  refine cR ?_
  refine oAlloc rfl rfl rfl rfl rfl rfl rfl ?_
  refine oA rfl rfl ?_
  refine oN ?_
  refine cR ?_
  iterate 2 refine oM rfl rfl ?_
  refine oCall (l01Norm_con p t L 10 k hn hp (by omega)) [] 2 rfl rfl (Fits.mk' (vHc rfl vHn) rfl rfl (by simp)) rfl rfl ?_
  rintro r H1 ⟨k', sp, h1, h2, rfl, rfl⟩
  refine ⟨.tuple [.slice 3 0 10 k', .bool (facP p (L.take 10) != 0)], [(0, .ints t L), (3, .ints 2 (normL p (L.take 10) ++ sp))], rfl, rfl, rfl, ?_⟩
  refine oM rfl rfl ?_
  iterate 2 refine oQ (Q_extract rfl rfl) rfl rfl ?_
  iterate 2 refine oA rfl rfl ?_
  refine oN ?_
  refine cR ?_
  refine oQ (Q_build rfl rfl rfl rfl rfl rfl rfl rfl) rfl rfl ?_
  refine oAlloc rfl rfl rfl rfl rfl rfl rfl ?_
  first | refine oSw rfl rfl rfl rfl ?_ | refine oSa rfl rfl rfl rfl ?_
  refine oN ?_
  refine CW_seq ?_
  refine cR ?_
  refine oA rfl rfl ?_
  refine oN ?_
  refine CW_block ?_
  refine CW_loop (ι := Nat) (fun i => i ≤ 10 ∧ (i = 0 ∨ facP p (L.take 10) ≠ 0)) (fun i => ⟨[(0, .int p), (1, .slice 0 0 10 k), (4, .ptr 1 0), (6, .slice 3 0 10 k'), (7, .bool (facP p (L.take 10) != 0)), (8, .ptr 4 0), (9, .int i)], [(0, .ints t L), (1, .ints 24 zero10), (3, .ints 2 (normL p (L.take 10) ++ sp)), (4, .ints 24 ((normL p (L.take 10)).take i ++ List.replicate (10 - i) 0))], 5⟩) (fun i => 10 - i) 0 ?_ ?_ ?_
  · exact ⟨Nat.zero_le _, .inl rfl⟩
  · refine View.mk' [] rfl rfl rfl ?_ ?_
    repeat' first | exact vFn | refine vFc rfl ?_ | exact vHn | refine vHc rfl ?_ | refine vFc (congrArg (fun z => some (V.int z)) ?_) ?_ | refine vHc (congrArg (fun z => some (Blk.ints _ z)) ?_) ?_ | refine vFc (congrArg (fun z => some (V.bool z)) ?_) ?_ | refine vFs rfl rfl ?_ ?_
  rintro i ⟨hi, hi2⟩
  refine CW_seq ?_
  refine cR ?_
  refine oM rfl rfl ?_
  refine oQ (Q_bin rfl rfl rfl) rfl rfl ?_
  refine oM rfl rfl ?_
  all_goals first | refine oT rfl rfl ?_ | refine o1 rfl rfl rfl ?_ | refine o0 rfl rfl rfl ?_ | refine ogP1 rfl rfl rfl (fun hg => ?_) (fun hg => ?_) | refine ogP0 rfl rfl rfl (fun hg => ?_) (fun hg => ?_)
  all_goals try simp only [s1, s2, s3, s4, s5, s6, s7, s8, s9, s10, s11, s12] at hg
  all_goals first | (refine oM rfl rfl ?_) | skip
  all_goals first | refine oQ (Q_pick_t rfl (by with_reducible rfl) rfl rfl) rfl rfl ?_ | refine oQ (Q_pick_f rfl (by with_reducible rfl) rfl rfl) rfl rfl ?_
  all_goals refine oN ?_
  all_goals (
   first | refine cT rfl ?_ | refine cF rfl ?_ | refine CW_cond rfl (fun hc => ?_) (fun hc => ?_)
   all_goals try simp only [s1, s2, s3, s4, s5, s6, s7, s8, s9, s10, s11, s12] at hc
   all_goals try (exfalso; first | omega | (simp at hc); done)
   all_goals first
     | (
      refine CW_skip ?_)
     | (
      refine CW_exit ?_))
  all_goals first
    | with_reducible refine tR ?_
    | with_reducible refine tE ?_
    | (
     with_reducible refine tN ?_
     refine CW_seq ?_
     refine CW_block ?_
     refine CW_region ?_
     iterate 3 refine oM rfl rfl ?_
     first | refine oQ (Is0 rfl rfl rfl rfl rfl rfl) rfl rfl ?_ | refine oQ (Is1 rfl rfl rfl rfl rfl rfl) rfl rfl ?_
     refine oQ (Q_ldc rfl rfl rfl rfl (show (normL p (L.take 10) ++ sp)[i]? = some ((normL p (L.take 10)).getD i 0) by rw [List.getElem?_append_left (by omega)]; simp [List.getD, show i < (normL p (L.take 10)).length by omega])) rfl rfl ?_
     first | refine oQ (Ia0 rfl rfl rfl rfl rfl rfl) rfl rfl ?_ | refine oQ (Ia1 rfl rfl rfl rfl rfl rfl) rfl rfl ?_
     refine oS rfl rfl rfl rfl rfl ?_
     refine OW_nil ?_
     all_goals first | with_reducible refine bN ?_ | with_reducible refine bE ?_ | with_reducible refine bR ?_ | refine bX rfl ?_
     all_goals with_reducible refine tN ?_
     all_goals (
      refine CW_region ?_
      refine oM rfl rfl ?_
      first | refine oQ (Q_binu rfl rfl rfl (by omega)) rfl rfl ?_ | refine oQ (Q_bin rfl rfl rfl) rfl rfl ?_
      refine oA rfl rfl ?_
      refine OW_nil ?_))
  all_goals first
    | with_reducible refine tR ?_
    | with_reducible refine tE ?_
    | (
     with_reducible refine tN ?_
     refine ⟨i + 1, ?_, ?_, View.mk' [] rfl rfl rfl ?_ ?_⟩
     · exact ⟨by omega, .inr (by simp_all)⟩
     · omega
     all_goals (repeat' first | exact vFn | refine vFc rfl ?_ | exact vHn | refine vHc rfl ?_ | refine vFc (congrArg (fun z => some (V.int z)) ?_) ?_ | refine vHc (congrArg (fun z => some (Blk.ints _ z)) ?_) ?_ | refine vFc (congrArg (fun z => some (V.bool z)) ?_) ?_ | refine vFs rfl rfl ?_ ?_)
     all_goals exact fill_set (by omega) hlen)
  all_goals first | with_reducible refine bN ?_ | with_reducible refine bE ?_ | with_reducible refine bR ?_ | refine bX rfl ?_
  all_goals with_reducible refine tN ?_
  all_goals (
   refine cR ?_
   first | refine oQ (Lw rfl rfl rfl rfl) rfl rfl ?_ | refine oQ (La rfl rfl rfl rfl rfl) rfl rfl ?_
   refine oM rfl rfl ?_
   first | refine oSw rfl rfl rfl rfl ?_ | refine oSa rfl rfl rfl rfl ?_
   refine oA rfl rfl ?_
   refine oN ?_
   refine CW_ret ?_)
  all_goals (
   refine exitQ (.inr rfl) 1 (.cons (.arr rfl rfl rfl rfl (by simp [hlen]; try omega)) (.cons (.tmp rfl rfl) .nil)) ?_ rfl (vHc rfl vHn) rfl rfl
   first
     | (have e : i = 10 := (by omega); subst e; simp only [resV]; rw [e9]; simp; done)
     | (have e : facP p (L.take 10) = 0 := (by simp_all); have e2 : i = 0 := (by simp_all); subst e2; simp only [resV]; rw [norm_zero e, show (L.take 10).length = 10 by simp; omega]; rfl))
end Go.Proofs.Ytgfncdejnjikpaa
