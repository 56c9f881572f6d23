/- Contracts of CubicOf and QuadricOf, of both sides. Printed by gen_b2.py. -/
import Derived.Test.YtkjbfdjbbgbgdaaA3
namespace Go.Proofs.Ytkjbfdjbbgbgdaa
attribute [local irreducible] CW OW QW QOp Con thenP inBlockP
set_option maxRecDepth 10000
set_option linter.unusedSimpArgs false
set_option linter.unusedVariables false
abbrev zero10 : List Int := [0, 0, 0, 0, 0, 0, 0, 0, 0, 0]
/-- the code, and the array, of the normal list of ten small numbers -/
def tenC (p : Int) (l : List Int) : Int := if (primeB p && (l.length == 10) && smallB l) = true then (if facP p l = 0 then 5 else 0) else 2
def tenV (p : Int) (l : List Int) : List Int := if tenC p l = 0 then normL p l else zero10
theorem ten_prime {p : Int} {l : List Int} (h : primeB p = false) : tenC p l = 2 := by simp [tenC, h]
theorem ten_len {p : Int} {l : List Int} (h : l.length ≠ 10) : tenC p l = 2 := by simp [tenC, h]
theorem ten_small {p : Int} {l : List Int} (h : smallB l = false) : tenC p l = 2 := by simp [tenC, h]
theorem ten_zero {p : Int} {l : List Int} (h1 : primeB p = true) (h2 : l.length = 10) (h3 : smallB l = true) (h : facP p l = 0) : tenC p l = 5 := by simp [tenC, h, h1, h2, h3]
theorem ten_ok {p : Int} {l : List Int} (h1 : primeB p = true) (h2 : l.length = 10) (h3 : smallB l = true) (h : facP p l ≠ 0) : tenC p l = 0 := by simp [tenC, h, h1, h2, h3]
theorem norm_zero {p : Int} {l : List Int} (h : facP p l = 0) : normL p l = List.replicate l.length 0 := by
  apply List.ext_getElem (by simp [normL])
  intro i h1 h2
  simp [normL, h]
theorem map_mod_mod (p : Int) (l : List Int) : (l.map (· % p)).map (· % p) = l.map (· % p) := by
  rw [List.map_map]
  apply List.map_congr_left
  intro x _
  exact Int.emod_emod_of_dvd _ (Int.dvd_refl p)
theorem fac_mod (p : Int) (l : List Int) : facP p (l.map (· % p)) = facP p l := by simp only [facP, map_mod_mod]
theorem norm_mod (p : Int) (l : List Int) : normL p (l.map (· % p)) = normL p l := by
  simp only [normL, fac_mod, List.map_map]
  apply List.map_congr_left
  intro x _
  simp [Int.emod_emod_of_dvd]
theorem norm_smallB (l : List Int) (n : Nat) (h : n ≤ l.length) : (l.take n).length = n := by simp; omega
theorem ten_tup {p : Int} {l : List Int} {c : Int} {v : List Int} (hc : tenC p l = c) (hv : c = 0 → v = normL p l) (hz : c ≠ 0 → v = zero10) : V.tuple [.arr v, .int c] = V.tuple [.arr (tenV p l), .int (tenC p l)] := by
  subst hc
  unfold tenV
  split
  · rename_i h; rw [hv h]
  · rename_i h; rw [hz h]
theorem tenV_length (p : Int) (l : List Int) : (tenV p l).length = 10 := by
  unfold tenV
  split
  · rename_i h
    rw [normL_length]
    unfold tenC at h
    split at h
    · rename_i h'; simp at h'; exact h'.1.2
    · cases h
  · rfl
theorem ten_bad {p : Int} {l : List Int} {n : Nat} (hl : l.length = n) (h : (smallB l && ((n : Int) == 10)) = false) : tenC p l = 2 := by
  unfold tenC
  rw [if_neg]
  intro h'
  simp only [Bool.and_eq_true, beq_iff_eq] at h'
  simp only [Bool.and_eq_false_iff, beq_eq_false_iff_ne, ne_eq] at h
  rcases h with h | h
  · rw [h'.2] at h; cases h
  · omega
theorem ten_bd {p : Int} (h : primeB p = true) : 0 ≤ p ∧ p ≤ 1000 := by have := prime_bd h; omega
theorem l06List_con (p : Int) (t : TypeId) (L : List Int) (k : Nat) (hn : 10 ≤ L.length) (hp : primeB p = true) : ConQ Try.prog [] 42 [.int p, .slice 0 0 10 k] [(0, .ints t L)] (.tuple [.arr (normL p (L.take 10)), .bool (facP p (L.take 10) != 0)]) := by
  have hlen : (normL p (L.take 10)).length = 10 := by rw [normL_length]; simp; omega
  have e9 : (normL p (L.take 10)).take 10 = normL p (L.take 10) := List.take_of_length_le (by omega)
  refine conW tab_ok [(0, .int p), (1, .slice 0 0 10 k)] 1 [0] [0] Try.func42 rfl rfl rfl rfl rfl rfl rfl rfl rfl ?_
  refine CW_seq ?_
  refine CW_region ?_
  refine oAlloc rfl rfl rfl rfl rfl rfl rfl ?_
  refine oQ (Q_assign rfl rfl) rfl rfl ?_
  refine OW_nil ?_
  all_goals with_reducible refine tN ?_
  all_goals (
      refine CW_seq ?_
      refine CW_region ?_
      refine oQ (Q_move rfl rfl) rfl rfl ?_
      refine oQ (Q_move rfl rfl) rfl rfl ?_
      refine oCall (l01Norm_con p t L 10 k hn hp (by omega)) [] 2 rfl rfl (Fits.mk' (vHc rfl vHn) rfl rfl (by simp)) rfl rfl ?_
      rintro r H1 ⟨k', sp, h1, h2, rfl, rfl⟩
      refine ⟨.tuple [.slice 3 0 10 k', .bool (facP p (L.take 10) != 0)], [(0, .ints t L), (3, .ints 2 (normL p (L.take 10) ++ sp))], rfl, rfl, rfl, ?_⟩
      refine oQ (Q_move rfl rfl) rfl rfl ?_
      refine oQ (Q_extract rfl rfl) rfl rfl ?_
      refine oQ (Q_extract rfl rfl) rfl rfl ?_
      refine oQ (Q_assign rfl rfl) rfl rfl ?_
      refine oQ (Q_assign rfl rfl) rfl rfl ?_
      refine OW_nil ?_
      all_goals with_reducible refine tN ?_
      all_goals (
          refine CW_seq ?_
          refine CW_region ?_
          refine oQ (Q_build rfl rfl rfl rfl rfl rfl rfl rfl) rfl rfl ?_
          refine oAlloc rfl rfl rfl rfl rfl rfl rfl ?_
          first | refine oStw rfl rfl rfl rfl (by first | omega | (dsimp only; omega) | (simp; omega) | (simp; done)) (by first | omega | (dsimp only; omega) | (simp; omega) | (simp; done)) ?_ | refine oSta rfl rfl rfl rfl (by first | omega | (dsimp only; omega) | (simp; omega) | (simp; done)) (by first | omega | (dsimp only; omega) | (simp; omega) | (simp; done)) ?_
          refine OW_nil ?_
          all_goals with_reducible refine tN ?_
          all_goals (
              refine CW_seq ?_
              refine CW_seq ?_
              refine CW_region ?_
              refine oQ (Q_assign rfl rfl) rfl rfl ?_
              refine OW_nil ?_
              all_goals with_reducible refine tN ?_
              all_goals (
                  refine CW_block ?_
                  refine CW_loop (ι := Nat) (fun i => i ≤ 10 ∧ (i = 0 ∨ facP p (L.take 10) ≠ 0)) (fun i => ⟨[(0, .int p), (1, .slice 0 0 10 k), (4, .ptr 1 0), (6, .slice 3 0 10 k'), (7, .bool (facP p (L.take 10) != 0)), (8, .ptr 4 0), (9, .int i)], [(0, .ints t L), (1, .ints 33 zero10), (3, .ints 2 (normL p (L.take 10) ++ sp)), (4, .ints 33 ((normL p (L.take 10)).take i ++ List.replicate (10 - i) 0))], 5⟩) (fun i => 10 - i) 0 ?_ ?_ ?_
                  · exact ⟨Nat.zero_le _, .inl rfl⟩
                  · refine View.mk' [] rfl rfl rfl ?_ ?_
                    repeat' first | exact vFn | refine vFc rfl ?_ | exact vHn | refine vHc rfl ?_ | refine vFc (congrArg (fun z => some (V.int z)) ?_) ?_ | refine vHc (congrArg (fun z => some (Blk.ints _ z)) ?_) ?_ | refine vFc (congrArg (fun z => some (V.bool z)) ?_) ?_
                  rintro i ⟨hi, hi2⟩
                  refine CW_seq ?_
                  refine CW_seq ?_
                  refine CW_region ?_
                  refine oQ (Q_move rfl rfl) rfl rfl ?_
                  refine oQ (Q_bin rfl rfl rfl) rfl rfl ?_
                  refine oQ (Q_move rfl rfl) rfl rfl ?_
                  all_goals first | refine ogT rfl rfl (by with_reducible rfl) ?_ | refine og1 rfl rfl (by with_reducible rfl) rfl ?_ | refine og0 rfl rfl (by with_reducible rfl) rfl ?_ | refine ogP1 rfl rfl rfl (fun hg => ?_) (fun hg => ?_) | refine ogP0 rfl rfl rfl (fun hg => ?_) (fun hg => ?_)
                  all_goals try simp only [decide_eq_true_eq, decide_eq_false_iff_not, beq_iff_eq, beq_eq_false_iff_ne, bne_iff_ne, bne_eq_false_iff_eq, Bool.not_eq_true', Bool.not_eq_false', Int.not_lt, Int.not_le, ne_eq, not_false_eq_true] at hg
                  all_goals first | (refine oQ (Q_move rfl rfl) rfl rfl ?_) | skip
                  all_goals first | refine oQ (Q_pick_t rfl (by with_reducible rfl) rfl rfl) rfl rfl ?_ | refine oQ (Q_pick_f rfl (by with_reducible rfl) rfl rfl) rfl rfl ?_
                  all_goals refine OW_nil ?_
                  all_goals with_reducible refine tN ?_
                  all_goals (
                      first | refine CW_cond_t rfl (by with_reducible rfl) ?_ | refine CW_cond_f rfl (by with_reducible rfl) ?_ | refine CW_cond rfl (fun hc => ?_) (fun hc => ?_)
                      all_goals try simp only [decide_eq_true_eq, decide_eq_false_iff_not, beq_iff_eq, beq_eq_false_iff_ne, bne_iff_ne, bne_eq_false_iff_eq, Bool.not_eq_true', Bool.not_eq_false', Int.not_lt, Int.not_le, ne_eq, not_false_eq_true] at hc
                      all_goals try (exfalso; first | omega | (simp at hc); done)
                      all_goals first
                        | (
                          refine CW_skip ?_)
                        | (
                          refine CW_exit ?_))
                  all_goals first
                    | with_reducible refine tR ?_
                    | with_reducible refine tE ?_
                    | (
                      with_reducible refine tN ?_
                      refine CW_seq ?_
                      refine CW_block ?_
                      refine CW_region ?_
                      refine oQ (Q_move rfl rfl) rfl rfl ?_
                      refine oQ (Q_move rfl rfl) rfl rfl ?_
                      refine oQ (Q_move rfl rfl) rfl rfl ?_
                      first | refine oQ (Q_ixs0 rfl rfl rfl rfl rfl rfl (by first | omega | (dsimp only; omega) | (simp; omega) | (simp; done))) rfl rfl ?_ | refine oQ (Q_ixs1 rfl rfl rfl rfl rfl rfl (by first | omega | (dsimp only; omega) | (simp; omega) | (simp; done))) rfl rfl ?_
                      refine oQ (Q_ldc rfl rfl rfl rfl (show (normL p (L.take 10) ++ sp)[i]? = some ((normL p (L.take 10)).getD i 0) by rw [List.getElem?_append_left (by omega)]; simp [List.getD, show i < (normL p (L.take 10)).length by omega])) rfl rfl ?_
                      first | refine oQ (Q_ixa0 rfl rfl rfl rfl rfl rfl (by first | omega | (dsimp only; omega) | (simp; omega) | (simp; done))) rfl rfl ?_ | refine oQ (Q_ixa1 rfl rfl rfl rfl rfl rfl (by first | omega | (dsimp only; omega) | (simp; omega) | (simp; done))) rfl rfl ?_
                      refine oSt rfl rfl rfl rfl rfl (by first | omega | (dsimp only; omega) | (simp; omega) | (simp; done)) ?_
                      refine OW_nil ?_
                      all_goals first | with_reducible refine bN ?_ | with_reducible refine bE ?_ | with_reducible refine bR ?_ | refine bX rfl ?_
                      all_goals with_reducible refine tN ?_
                      all_goals (
                          refine CW_region ?_
                          refine oQ (Q_move rfl rfl) rfl rfl ?_
                          first | refine oQ (Q_binu rfl rfl rfl (by omega)) rfl rfl ?_ | refine oQ (Q_bin rfl rfl rfl) rfl rfl ?_
                          refine oQ (Q_assign rfl rfl) rfl rfl ?_
                          refine OW_nil ?_))
                  all_goals first
                    | with_reducible refine tR ?_
                    | with_reducible refine tE ?_
                    | (
                      with_reducible refine tN ?_
                      refine ⟨i + 1, ?_, ?_, View.mk' [] rfl rfl rfl ?_ ?_⟩
                      · exact ⟨by omega, .inr (by simp_all)⟩
                      · omega
                      all_goals (repeat' first | exact vFn | refine vFc rfl ?_ | exact vHn | refine vHc rfl ?_ | refine vFc (congrArg (fun z => some (V.int z)) ?_) ?_ | refine vHc (congrArg (fun z => some (Blk.ints _ z)) ?_) ?_ | refine vFc (congrArg (fun z => some (V.bool z)) ?_) ?_)
                      all_goals exact fill_set (by omega) hlen)
                  all_goals first | with_reducible refine bN ?_ | with_reducible refine bE ?_ | with_reducible refine bR ?_ | refine bX rfl ?_)
              all_goals with_reducible refine tN ?_
              all_goals (
                  refine CW_seq ?_
                  refine CW_region ?_
                  first | refine oQ (Q_ldw rfl rfl rfl rfl (by first | omega | (dsimp only; omega) | (simp; omega) | (simp; done))) rfl rfl ?_ | refine oQ (Q_lda rfl rfl rfl rfl rfl (by first | omega | (dsimp only; omega) | (simp; omega) | (simp; done))) rfl rfl ?_
                  refine oQ (Q_move rfl rfl) rfl rfl ?_
                  first | refine oStw rfl rfl rfl rfl (by first | omega | (dsimp only; omega) | (simp; omega) | (simp; done)) (by first | omega | (dsimp only; omega) | (simp; omega) | (simp; done)) ?_ | refine oSta rfl rfl rfl rfl (by first | omega | (dsimp only; omega) | (simp; omega) | (simp; done)) (by first | omega | (dsimp only; omega) | (simp; omega) | (simp; done)) ?_
                  refine oQ (Q_assign rfl rfl) rfl rfl ?_
                  refine OW_nil ?_
                  all_goals with_reducible refine tN ?_
                  all_goals (
                      refine CW_ret ?_)))))
  all_goals (
      refine exitQ (.inr rfl) 1 (.cons (.arr rfl rfl rfl rfl (by simp [hlen]; try omega)) (.cons (.tmp rfl rfl) .nil)) ?_ rfl (vHc rfl vHn) rfl rfl
      first
        | (have e : i = 10 := (by omega); subst e; simp only [resV]; rw [e9]; simp; done)
        | (have e : facP p (L.take 10) = 0 := (by simp_all); have e2 : i = 0 := (by simp_all); subst e2; simp only [resV]; rw [norm_zero e, show (L.take 10).length = 10 by simp; omega]; rfl))
theorem impl_CubicOf_con (p : Int) (t : TypeId) (L : List Int) (n k : Nat) (hn : n ≤ L.length) (h6 : n ≤ 1000000) : ConQ Try.prog [] 23 [.int p, .slice 0 0 n k] [(0, .ints t L)] (.tuple [.arr (tenV p (L.take n)), .int (tenC p (L.take n))]) := by
  have hlen : (L.take n).length = n := by simp; try omega
  refine conW tab_ok [(0, .int p), (1, .slice 0 0 n k)] 1 [0] [0] Try.func23 rfl rfl rfl rfl rfl rfl rfl rfl rfl ?_
  refine CW_seq ?_
  refine CW_region ?_
  refine oAlloc rfl rfl rfl rfl rfl rfl rfl ?_
  refine oQ (Q_assign rfl rfl) rfl rfl ?_
  refine OW_nil ?_
  all_goals with_reducible refine tN ?_
  all_goals (
      refine CW_seq ?_
      refine CW_seq ?_
      refine CW_region ?_
      refine oQ (Q_move rfl rfl) rfl rfl ?_
      refine oQ (Q_call0 (isPrime_con _) rfl rfl rfl) rfl rfl ?_
      refine oQ (Q_not rfl) rfl rfl ?_
      refine oQ (Q_move rfl rfl) rfl rfl ?_
      all_goals first | refine ogT rfl rfl (by with_reducible rfl) ?_ | refine og1 rfl rfl (by with_reducible rfl) rfl ?_ | refine og0 rfl rfl (by with_reducible rfl) rfl ?_ | refine ogP1 rfl rfl rfl (fun hg => ?_) (fun hg => ?_) | refine ogP0 rfl rfl rfl (fun hg => ?_) (fun hg => ?_)
      all_goals try simp only [decide_eq_true_eq, decide_eq_false_iff_not, beq_iff_eq, beq_eq_false_iff_ne, bne_iff_ne, bne_eq_false_iff_eq, Bool.not_eq_true', Bool.not_eq_false', Int.not_lt, Int.not_le, ne_eq, not_false_eq_true] at hg
      all_goals first | (refine oQ (Q_move rfl rfl) rfl rfl ?_) | skip
      all_goals first | refine ogT rfl rfl (by with_reducible rfl) ?_ | refine og1 rfl rfl (by with_reducible rfl) rfl ?_ | refine og0 rfl rfl (by with_reducible rfl) rfl ?_ | refine ogP1 rfl rfl rfl (fun hg => ?_) (fun hg => ?_) | refine ogP0 rfl rfl rfl (fun hg => ?_) (fun hg => ?_)
      all_goals try simp only [decide_eq_true_eq, decide_eq_false_iff_not, beq_iff_eq, beq_eq_false_iff_ne, bne_iff_ne, bne_eq_false_iff_eq, Bool.not_eq_true', Bool.not_eq_false', Int.not_lt, Int.not_le, ne_eq, not_false_eq_true] at hg
      all_goals first | (refine oQ (Q_call (areSmall_con 10 t L n k hn (by omega)) [] rfl rfl (Fits.mk' (vHc rfl vHn) rfl rfl (by simp)) rfl rfl) rfl rfl ?_) | skip
      all_goals first | refine ogT rfl rfl (by with_reducible rfl) ?_ | refine og1 rfl rfl (by with_reducible rfl) rfl ?_ | refine og0 rfl rfl (by with_reducible rfl) rfl ?_ | refine ogP1 rfl rfl rfl (fun hg => ?_) (fun hg => ?_) | refine ogP0 rfl rfl rfl (fun hg => ?_) (fun hg => ?_)
      all_goals try simp only [decide_eq_true_eq, decide_eq_false_iff_not, beq_iff_eq, beq_eq_false_iff_ne, bne_iff_ne, bne_eq_false_iff_eq, Bool.not_eq_true', Bool.not_eq_false', Int.not_lt, Int.not_le, ne_eq, not_false_eq_true] at hg
      all_goals first | (refine oQ (Q_not rfl) rfl rfl ?_) | skip
      all_goals first | refine oQ (Q_pick_t rfl (by with_reducible rfl) rfl rfl) rfl rfl ?_ | refine oQ (Q_pick_f rfl (by with_reducible rfl) rfl rfl) rfl rfl ?_
      all_goals refine OW_nil ?_
      all_goals with_reducible refine tN ?_
      all_goals (
          first | refine CW_cond_t rfl (by with_reducible rfl) ?_ | refine CW_cond_f rfl (by with_reducible rfl) ?_ | refine CW_cond rfl (fun hc => ?_) (fun hc => ?_)
          all_goals try simp only [decide_eq_true_eq, decide_eq_false_iff_not, beq_iff_eq, beq_eq_false_iff_ne, bne_iff_ne, bne_eq_false_iff_eq, Bool.not_eq_true', Bool.not_eq_false', Int.not_lt, Int.not_le, ne_eq, not_false_eq_true] at hc
          all_goals first
            | (
              refine CW_skip ?_)
            | (
              refine CW_seq ?_
              refine CW_region ?_
              refine oQ (Q_build rfl rfl rfl rfl rfl rfl rfl rfl) rfl rfl ?_
              first | refine oStw rfl rfl rfl rfl (by first | omega | (dsimp only; omega) | (simp; omega) | (simp; done)) (by first | omega | (dsimp only; omega) | (simp; omega) | (simp; done)) ?_ | refine oSta rfl rfl rfl rfl (by first | omega | (dsimp only; omega) | (simp; omega) | (simp; done)) (by first | omega | (dsimp only; omega) | (simp; omega) | (simp; done)) ?_
              refine oQ (Q_assign rfl rfl) rfl rfl ?_
              refine OW_nil ?_
              all_goals with_reducible refine tN ?_
              all_goals (
                  refine CW_ret ?_)))
      all_goals first
        | with_reducible refine tR ?_
        | with_reducible refine tE ?_
        | (
          with_reducible refine tN ?_
          refine CW_seq ?_
          refine CW_region ?_
          refine oQ (Q_move rfl rfl) rfl rfl ?_
          (have e10 : n = 10 := by simp at hc; omega)
          (subst e10)
          (have hnl : (normL p ((L.take 10).take 10) ++ (L.take 10).drop 10).length = 10 := by simp [normL_length]; omega)
          refine oQ (Q_s2a rfl rfl rfl (Nat.le_refl _)) rfl rfl ?_
          refine oQ (Q_lda rfl rfl rfl rfl rfl (by simpa using hn)) rfl rfl ?_
          refine oAlloc rfl rfl rfl rfl rfl rfl rfl ?_
          first | refine oStw rfl rfl rfl rfl (by first | omega | (dsimp only; omega) | (simp; omega) | (simp; done)) (by first | omega | (dsimp only; omega) | (simp; omega) | (simp; done)) ?_ | refine oSta rfl rfl rfl rfl (by first | omega | (dsimp only; omega) | (simp; omega) | (simp; done)) (by first | omega | (dsimp only; omega) | (simp; omega) | (simp; done)) ?_
          refine OW_nil ?_
          all_goals with_reducible refine tN ?_
          all_goals (
              refine CW_seq ?_
              refine CW_seq ?_
              refine CW_region ?_
              refine oQ (Q_move rfl rfl) rfl rfl ?_
              refine oQ (Q_slaF rfl rfl rfl rfl) rfl rfl ?_
              refine oCall (normal_con p 33 (L.take 10) 10 10 (by simp; omega) (by simp_all) (by omega)) [(0, 2)] 0 rfl rfl (Fits.mk' (vHc rfl vHn) rfl rfl (by simp)) rfl rfl ?_
              rintro r H1 ⟨rfl, rfl⟩
              refine ⟨.bool (facP p ((L.take 10).take 10) != 0), [(2, .ints 33 (normL p ((L.take 10).take 10) ++ (L.take 10).drop 10))], rfl, rfl, rfl, ?_⟩
              refine oQ (Q_not rfl) rfl rfl ?_
              refine OW_nil ?_
              all_goals with_reducible refine tN ?_
              all_goals (
                  first | refine CW_cond_t rfl (by with_reducible rfl) ?_ | refine CW_cond_f rfl (by with_reducible rfl) ?_ | refine CW_cond rfl (fun hc => ?_) (fun hc => ?_)
                  all_goals try simp only [decide_eq_true_eq, decide_eq_false_iff_not, beq_iff_eq, beq_eq_false_iff_ne, bne_iff_ne, bne_eq_false_iff_eq, Bool.not_eq_true', Bool.not_eq_false', Int.not_lt, Int.not_le, ne_eq, not_false_eq_true] at hc
                  all_goals first
                    | (
                      refine CW_skip ?_)
                    | (
                      refine CW_seq ?_
                      refine CW_region ?_
                      refine oQ (Q_build rfl rfl rfl rfl rfl rfl rfl rfl) rfl rfl ?_
                      first | refine oStw rfl rfl rfl rfl (by first | omega | (dsimp only; omega) | (simp; omega) | (simp; done)) (by first | omega | (dsimp only; omega) | (simp; omega) | (simp; done)) ?_ | refine oSta rfl rfl rfl rfl (by first | omega | (dsimp only; omega) | (simp; omega) | (simp; done)) (by first | omega | (dsimp only; omega) | (simp; omega) | (simp; done)) ?_
                      refine oQ (Q_assign rfl rfl) rfl rfl ?_
                      refine OW_nil ?_
                      all_goals with_reducible refine tN ?_
                      all_goals (
                          refine CW_ret ?_)))
              all_goals first
                | with_reducible refine tR ?_
                | with_reducible refine tE ?_
                | (
                  with_reducible refine tN ?_
                  refine CW_seq ?_
                  refine CW_region ?_
                  first | refine oQ (Q_ldw rfl rfl rfl rfl (by first | omega | (dsimp only; omega) | (simp; omega) | (simp; done))) rfl rfl ?_ | refine oQ (Q_lda rfl rfl rfl rfl rfl (by first | omega | (dsimp only; omega) | (simp; omega) | (simp; done))) rfl rfl ?_
                  first | refine oStw rfl rfl rfl rfl (by first | omega | (dsimp only; omega) | (simp; omega) | (simp; done)) (by first | omega | (dsimp only; omega) | (simp; omega) | (simp; done)) ?_ | refine oSta rfl rfl rfl rfl (by first | omega | (dsimp only; omega) | (simp; omega) | (simp; done)) (by first | omega | (dsimp only; omega) | (simp; omega) | (simp; done)) ?_
                  refine oQ (Q_assign rfl rfl) rfl rfl ?_
                  refine OW_nil ?_
                  all_goals with_reducible refine tN ?_
                  all_goals (
                      refine CW_ret ?_)))))
  all_goals (
      first
        | (refine exitQ (.inr rfl) 1 (.cons (.arr rfl rfl rfl rfl rfl) (.cons (.tmp rfl rfl) .nil)) ?_ rfl (vHc rfl vHn) rfl rfl
           first
             | exact ten_tup (ten_prime hg) (fun h => by cases h) (fun _ => rfl)
             | exact ten_tup (ten_bad hlen hc) (fun h => by cases h) (fun _ => rfl)
             | (have e1 : (L.take 10).take 10 = L.take 10 := List.take_of_length_le (by omega)
                rw [e1] at hc
                exact ten_tup (ten_zero hg hlen (by simp_all) hc) (fun h => by cases h) (fun _ => rfl)))
        | (have e1 : (L.take 10).take 10 = L.take 10 := List.take_of_length_le (by omega)
           have e2 : (L.take 10).drop 10 = [] := List.drop_eq_nil_of_le (by omega)
           have e3 : (normL p ((L.take 10).take 10) ++ (L.take 10).drop 10).length = 10 := by rw [e1, e2, List.append_nil, normL_length, hlen]
           refine exitQ (.inr rfl) 1 (.cons (.arr rfl rfl rfl rfl e3) (.cons (.tmp rfl rfl) .nil)) ?_ rfl (vHc rfl vHn) rfl rfl
           rw [e1] at hc
           simp only [e1, e2, List.append_nil]
           exact ten_tup (ten_ok hg hlen (by simp_all) hc) (fun _ => rfl) (fun h => absurd rfl h)))
theorem impl_CubicOf_nil (p : Int)  : ConQ Try.prog [] 23 [.int p, .nilsl] [] (.tuple [.arr (tenV p (([] : List Int))), .int (tenC p (([] : List Int)))]) := by
  have hlen : (([] : List Int)).length = 0 := by simp; try omega
  refine conW tab_ok [(0, .int p), (1, .nilsl)] 1 [] [] Try.func23 rfl rfl rfl rfl rfl rfl rfl rfl rfl ?_
  refine CW_seq ?_
  refine CW_region ?_
  refine oAlloc rfl rfl rfl rfl rfl rfl rfl ?_
  refine oQ (Q_assign rfl rfl) rfl rfl ?_
  refine OW_nil ?_
  all_goals with_reducible refine tN ?_
  all_goals (
      refine CW_seq ?_
      refine CW_seq ?_
      refine CW_region ?_
      refine oQ (Q_move rfl rfl) rfl rfl ?_
      refine oQ (Q_call0 (isPrime_con _) rfl rfl rfl) rfl rfl ?_
      refine oQ (Q_not rfl) rfl rfl ?_
      refine oQ (Q_move rfl rfl) rfl rfl ?_
      all_goals first | refine ogT rfl rfl (by with_reducible rfl) ?_ | refine og1 rfl rfl (by with_reducible rfl) rfl ?_ | refine og0 rfl rfl (by with_reducible rfl) rfl ?_ | refine ogP1 rfl rfl rfl (fun hg => ?_) (fun hg => ?_) | refine ogP0 rfl rfl rfl (fun hg => ?_) (fun hg => ?_)
      all_goals try simp only [decide_eq_true_eq, decide_eq_false_iff_not, beq_iff_eq, beq_eq_false_iff_ne, bne_iff_ne, bne_eq_false_iff_eq, Bool.not_eq_true', Bool.not_eq_false', Int.not_lt, Int.not_le, ne_eq, not_false_eq_true] at hg
      all_goals first | (refine oQ (Q_move rfl rfl) rfl rfl ?_) | skip
      all_goals first | refine ogT rfl rfl (by with_reducible rfl) ?_ | refine og1 rfl rfl (by with_reducible rfl) rfl ?_ | refine og0 rfl rfl (by with_reducible rfl) rfl ?_ | refine ogP1 rfl rfl rfl (fun hg => ?_) (fun hg => ?_) | refine ogP0 rfl rfl rfl (fun hg => ?_) (fun hg => ?_)
      all_goals try simp only [decide_eq_true_eq, decide_eq_false_iff_not, beq_iff_eq, beq_eq_false_iff_ne, bne_iff_ne, bne_eq_false_iff_eq, Bool.not_eq_true', Bool.not_eq_false', Int.not_lt, Int.not_le, ne_eq, not_false_eq_true] at hg
      all_goals first | (refine oQ (Q_call (areSmall_nil 10) [] rfl rfl (Fits.mk' vHn rfl rfl (by simp)) rfl rfl) rfl rfl ?_) | skip
      all_goals first | refine ogT rfl rfl (by with_reducible rfl) ?_ | refine og1 rfl rfl (by with_reducible rfl) rfl ?_ | refine og0 rfl rfl (by with_reducible rfl) rfl ?_ | refine ogP1 rfl rfl rfl (fun hg => ?_) (fun hg => ?_) | refine ogP0 rfl rfl rfl (fun hg => ?_) (fun hg => ?_)
      all_goals try simp only [decide_eq_true_eq, decide_eq_false_iff_not, beq_iff_eq, beq_eq_false_iff_ne, bne_iff_ne, bne_eq_false_iff_eq, Bool.not_eq_true', Bool.not_eq_false', Int.not_lt, Int.not_le, ne_eq, not_false_eq_true] at hg
      all_goals first | (refine oQ (Q_not rfl) rfl rfl ?_) | skip
      all_goals first | refine oQ (Q_pick_t rfl (by with_reducible rfl) rfl rfl) rfl rfl ?_ | refine oQ (Q_pick_f rfl (by with_reducible rfl) rfl rfl) rfl rfl ?_
      all_goals refine OW_nil ?_
      all_goals with_reducible refine tN ?_
      all_goals (
          first | refine CW_cond_t rfl (by with_reducible rfl) ?_ | refine CW_cond_f rfl (by with_reducible rfl) ?_ | refine CW_cond rfl (fun hc => ?_) (fun hc => ?_)
          all_goals try simp only [decide_eq_true_eq, decide_eq_false_iff_not, beq_iff_eq, beq_eq_false_iff_ne, bne_iff_ne, bne_eq_false_iff_eq, Bool.not_eq_true', Bool.not_eq_false', Int.not_lt, Int.not_le, ne_eq, not_false_eq_true] at hc
          all_goals try (exfalso; first | omega | (simp at hc); done)
          all_goals first
            | (
              refine CW_skip ?_)
            | (
              refine CW_seq ?_
              refine CW_region ?_
              refine oQ (Q_build rfl rfl rfl rfl rfl rfl rfl rfl) rfl rfl ?_
              first | refine oStw rfl rfl rfl rfl (by first | omega | (dsimp only; omega) | (simp; omega) | (simp; done)) (by first | omega | (dsimp only; omega) | (simp; omega) | (simp; done)) ?_ | refine oSta rfl rfl rfl rfl (by first | omega | (dsimp only; omega) | (simp; omega) | (simp; done)) (by first | omega | (dsimp only; omega) | (simp; omega) | (simp; done)) ?_
              refine oQ (Q_assign rfl rfl) rfl rfl ?_
              refine OW_nil ?_
              all_goals with_reducible refine tN ?_
              all_goals (
                  refine CW_ret ?_)))
      all_goals first
        | with_reducible refine tR ?_
        | with_reducible refine tE ?_
        | (
          with_reducible refine tN ?_
          refine CW_seq ?_
          refine CW_region ?_
          refine oQ (Q_move rfl rfl) rfl rfl ?_
          (have e10 : 0 = 10 := by simp at hc; omega)
          (subst e10)
          (have hnl : (normL p ((([] : List Int).take 10).take 10) ++ (([] : List Int).take 10).drop 10).length = 10 := by simp [normL_length]; omega)
          refine oQ (Q_s2a rfl rfl rfl (Nat.le_refl _)) rfl rfl ?_
          refine oQ (Q_lda rfl rfl rfl rfl rfl (by simpa using hn)) rfl rfl ?_
          refine oAlloc rfl rfl rfl rfl rfl rfl rfl ?_
          first | refine oStw rfl rfl rfl rfl (by first | omega | (dsimp only; omega) | (simp; omega) | (simp; done)) (by first | omega | (dsimp only; omega) | (simp; omega) | (simp; done)) ?_ | refine oSta rfl rfl rfl rfl (by first | omega | (dsimp only; omega) | (simp; omega) | (simp; done)) (by first | omega | (dsimp only; omega) | (simp; omega) | (simp; done)) ?_
          refine OW_nil ?_
          all_goals with_reducible refine tN ?_
          all_goals (
              refine CW_seq ?_
              refine CW_seq ?_
              refine CW_region ?_
              refine oQ (Q_move rfl rfl) rfl rfl ?_
              refine oQ (Q_slaF rfl rfl rfl rfl) rfl rfl ?_
              refine oCall (normal_con p 33 (([] : List Int).take 10) 10 10 (by simp; omega) (by simp_all) (by omega)) [(0, 2)] 0 rfl rfl (Fits.mk' vHn rfl rfl (by simp)) rfl rfl ?_
              rintro r H1 ⟨rfl, rfl⟩
              refine ⟨.bool (facP p ((([] : List Int).take 10).take 10) != 0), [(2, .ints 33 (normL p ((([] : List Int).take 10).take 10) ++ (([] : List Int).take 10).drop 10))], rfl, rfl, rfl, ?_⟩
              refine oQ (Q_not rfl) rfl rfl ?_
              refine OW_nil ?_
              all_goals with_reducible refine tN ?_
              all_goals (
                  first | refine CW_cond_t rfl (by with_reducible rfl) ?_ | refine CW_cond_f rfl (by with_reducible rfl) ?_ | refine CW_cond rfl (fun hc => ?_) (fun hc => ?_)
                  all_goals try simp only [decide_eq_true_eq, decide_eq_false_iff_not, beq_iff_eq, beq_eq_false_iff_ne, bne_iff_ne, bne_eq_false_iff_eq, Bool.not_eq_true', Bool.not_eq_false', Int.not_lt, Int.not_le, ne_eq, not_false_eq_true] at hc
                  all_goals try (exfalso; first | omega | (simp at hc); done)
                  all_goals first
                    | (
                      refine CW_skip ?_)
                    | (
                      refine CW_seq ?_
                      refine CW_region ?_
                      refine oQ (Q_build rfl rfl rfl rfl rfl rfl rfl rfl) rfl rfl ?_
                      first | refine oStw rfl rfl rfl rfl (by first | omega | (dsimp only; omega) | (simp; omega) | (simp; done)) (by first | omega | (dsimp only; omega) | (simp; omega) | (simp; done)) ?_ | refine oSta rfl rfl rfl rfl (by first | omega | (dsimp only; omega) | (simp; omega) | (simp; done)) (by first | omega | (dsimp only; omega) | (simp; omega) | (simp; done)) ?_
                      refine oQ (Q_assign rfl rfl) rfl rfl ?_
                      refine OW_nil ?_
                      all_goals with_reducible refine tN ?_
                      all_goals (
                          refine CW_ret ?_)))
              all_goals first
                | with_reducible refine tR ?_
                | with_reducible refine tE ?_
                | (
                  with_reducible refine tN ?_
                  refine CW_seq ?_
                  refine CW_region ?_
                  first | refine oQ (Q_ldw rfl rfl rfl rfl (by first | omega | (dsimp only; omega) | (simp; omega) | (simp; done))) rfl rfl ?_ | refine oQ (Q_lda rfl rfl rfl rfl rfl (by first | omega | (dsimp only; omega) | (simp; omega) | (simp; done))) rfl rfl ?_
                  first | refine oStw rfl rfl rfl rfl (by first | omega | (dsimp only; omega) | (simp; omega) | (simp; done)) (by first | omega | (dsimp only; omega) | (simp; omega) | (simp; done)) ?_ | refine oSta rfl rfl rfl rfl (by first | omega | (dsimp only; omega) | (simp; omega) | (simp; done)) (by first | omega | (dsimp only; omega) | (simp; omega) | (simp; done)) ?_
                  refine oQ (Q_assign rfl rfl) rfl rfl ?_
                  refine OW_nil ?_
                  all_goals with_reducible refine tN ?_
                  all_goals (
                      refine CW_ret ?_)))))
  all_goals (
      first
        | (refine exitQ (.inr rfl) 1 (.cons (.arr rfl rfl rfl rfl rfl) (.cons (.tmp rfl rfl) .nil)) ?_ rfl vHn rfl rfl
           first
             | exact ten_tup (ten_prime hg) (fun h => by cases h) (fun _ => rfl)
             | exact ten_tup (ten_bad hlen hc) (fun h => by cases h) (fun _ => rfl)
             | (have e1 : (([] : List Int).take 10).take 10 = ([] : List Int).take 10 := List.take_of_length_le (by omega)
                rw [e1] at hc
                exact ten_tup (ten_zero hg hlen (by simp_all) hc) (fun h => by cases h) (fun _ => rfl)))
        | (have e1 : (([] : List Int).take 10).take 10 = ([] : List Int).take 10 := List.take_of_length_le (by omega)
           have e2 : (([] : List Int).take 10).drop 10 = [] := List.drop_eq_nil_of_le (by omega)
           have e3 : (normL p ((([] : List Int).take 10).take 10) ++ (([] : List Int).take 10).drop 10).length = 10 := by rw [e1, e2, List.append_nil, normL_length, hlen]
           refine exitQ (.inr rfl) 1 (.cons (.arr rfl rfl rfl rfl e3) (.cons (.tmp rfl rfl) .nil)) ?_ rfl vHn rfl rfl
           rw [e1] at hc
           simp only [e1, e2, List.append_nil]
           exact ten_tup (ten_ok hg hlen (by simp_all) hc) (fun _ => rfl) (fun h => absurd rfl h)))
theorem spec_CubicOf_con (p : Int) (t : TypeId) (L : List Int) (n k : Nat) (hn : n ≤ L.length) (h6 : n ≤ 1000000) : ConQ Try.prog [] 22 [.int p, .slice 0 0 n k] [(0, .ints t L)] (.tuple [.arr (tenV p (L.take n)), .int (tenC p (L.take n))]) := by
  have hlen : (L.take n).length = n := norm_smallB L n hn
  refine conW tab_ok [(0, .int p), (1, .slice 0 0 n k)] 1 [0] [0] Try.func22 rfl rfl rfl rfl rfl rfl rfl rfl rfl ?_
  refine CW_seq ?_
  refine CW_region ?_
  refine oAlloc rfl rfl rfl rfl rfl rfl rfl ?_
  refine oQ (Q_assign rfl rfl) rfl rfl ?_
  refine OW_nil ?_
  all_goals with_reducible refine tN ?_
  all_goals (
      refine CW_seq ?_
      refine CW_seq ?_
      refine CW_region ?_
      refine oQ (Q_move rfl rfl) rfl rfl ?_
      refine oQ (Q_call0 (l01Prime_con _) rfl rfl rfl) rfl rfl ?_
      refine oQ (Q_not rfl) rfl rfl ?_
      refine oQ (Q_move rfl rfl) rfl rfl ?_
      all_goals first | refine ogT rfl rfl (by with_reducible rfl) ?_ | refine og1 rfl rfl (by with_reducible rfl) rfl ?_ | refine og0 rfl rfl (by with_reducible rfl) rfl ?_ | refine ogP1 rfl rfl rfl (fun hg => ?_) (fun hg => ?_) | refine ogP0 rfl rfl rfl (fun hg => ?_) (fun hg => ?_)
      all_goals try simp only [decide_eq_true_eq, decide_eq_false_iff_not, beq_iff_eq, beq_eq_false_iff_ne, bne_iff_ne, bne_eq_false_iff_eq, Bool.not_eq_true', Bool.not_eq_false', Int.not_lt, Int.not_le, ne_eq, not_false_eq_true] at hg
      all_goals first | (refine oQ (Q_move rfl rfl) rfl rfl ?_) | skip
      all_goals first | refine ogT rfl rfl (by with_reducible rfl) ?_ | refine og1 rfl rfl (by with_reducible rfl) rfl ?_ | refine og0 rfl rfl (by with_reducible rfl) rfl ?_ | refine ogP1 rfl rfl rfl (fun hg => ?_) (fun hg => ?_) | refine ogP0 rfl rfl rfl (fun hg => ?_) (fun hg => ?_)
      all_goals try simp only [decide_eq_true_eq, decide_eq_false_iff_not, beq_iff_eq, beq_eq_false_iff_ne, bne_iff_ne, bne_eq_false_iff_eq, Bool.not_eq_true', Bool.not_eq_false', Int.not_lt, Int.not_le, ne_eq, not_false_eq_true] at hg
      all_goals first | refine oQ (Q_len rfl rfl rfl rfl) rfl rfl ?_ | refine oQ (Q_len0 rfl rfl rfl rfl) rfl rfl ?_ | skip
      all_goals first | refine ogT rfl rfl (by with_reducible rfl) ?_ | refine og1 rfl rfl (by with_reducible rfl) rfl ?_ | refine og0 rfl rfl (by with_reducible rfl) rfl ?_ | refine ogP1 rfl rfl rfl (fun hg => ?_) (fun hg => ?_) | refine ogP0 rfl rfl rfl (fun hg => ?_) (fun hg => ?_)
      all_goals try simp only [decide_eq_true_eq, decide_eq_false_iff_not, beq_iff_eq, beq_eq_false_iff_ne, bne_iff_ne, bne_eq_false_iff_eq, Bool.not_eq_true', Bool.not_eq_false', Int.not_lt, Int.not_le, ne_eq, not_false_eq_true] at hg
      all_goals first | (refine oQ (Q_bin rfl rfl rfl) rfl rfl ?_) | skip
      all_goals first | refine oQ (Q_pick_t rfl (by with_reducible rfl) rfl rfl) rfl rfl ?_ | refine oQ (Q_pick_f rfl (by with_reducible rfl) rfl rfl) rfl rfl ?_
      all_goals refine OW_nil ?_
      all_goals with_reducible refine tN ?_
      all_goals (
          first | refine CW_cond_t rfl (by with_reducible rfl) ?_ | refine CW_cond_f rfl (by with_reducible rfl) ?_ | refine CW_cond rfl (fun hc => ?_) (fun hc => ?_)
          all_goals try simp only [decide_eq_true_eq, decide_eq_false_iff_not, beq_iff_eq, beq_eq_false_iff_ne, bne_iff_ne, bne_eq_false_iff_eq, Bool.not_eq_true', Bool.not_eq_false', Int.not_lt, Int.not_le, ne_eq, not_false_eq_true] at hc
          all_goals first
            | (
              refine CW_skip ?_)
            | (
              refine CW_seq ?_
              refine CW_region ?_
              refine oQ (Q_build rfl rfl rfl rfl rfl rfl rfl rfl) rfl rfl ?_
              first | refine oStw rfl rfl rfl rfl (by first | omega | (dsimp only; omega) | (simp; omega) | (simp; done)) (by first | omega | (dsimp only; omega) | (simp; omega) | (simp; done)) ?_ | refine oSta rfl rfl rfl rfl (by first | omega | (dsimp only; omega) | (simp; omega) | (simp; done)) (by first | omega | (dsimp only; omega) | (simp; omega) | (simp; done)) ?_
              refine oQ (Q_assign rfl rfl) rfl rfl ?_
              refine OW_nil ?_
              all_goals with_reducible refine tN ?_
              all_goals (
                  refine CW_ret ?_)))
      all_goals first
        | with_reducible refine tR ?_
        | with_reducible refine tE ?_
        | (
          with_reducible refine tN ?_
          refine CW_seq ?_
          refine CW_region ?_
          refine oBsl (zl := []) rfl rfl rfl rfl (.inl ⟨rfl, rfl⟩) rfl rfl rfl rfl rfl rfl ?_
          refine oQ (Q_assign rfl rfl) rfl rfl ?_
          refine OW_nil ?_
          all_goals with_reducible refine tN ?_
          all_goals (
              refine CW_seq ?_
              refine CW_seq ?_
              refine CW_region ?_
              refine oQ (Q_assign rfl rfl) rfl rfl ?_
              refine OW_nil ?_
              all_goals with_reducible refine tN ?_
              all_goals (
                  refine CW_block ?_
                  (have e10 : n = 10 := by omega)
                  (subst e10)
                  refine CW_loop (ι := Nat × Nat × List Int) (fun x => x.1 ≤ 10 ∧ smallB (L.take x.1) = true ∧ x.1 ≤ x.2.1 ∧ x.2.1 ≤ x.1 + x.2.2.length) (fun x => ⟨[(0, .int p), (1, .slice 0 0 10 k), (4, .ptr 1 0), (6, .slice 2 0 x.1 x.2.1), (7, .int x.1)], [(0, .ints t L), (1, .ints 33 zero10), (2, .ints 2 ((L.take x.1).map (· % p) ++ x.2.2))], 3⟩) (fun x => 10 - x.1) (0, 0, []) ?_ ?_ ?_
                  · exact ⟨Nat.zero_le _, rfl, Nat.le_refl _, Nat.le_refl _⟩
                  · refine View.mk' [] rfl rfl rfl ?_ ?_
                    repeat' first | exact vFn | refine vFc rfl ?_ | exact vHn | refine vHc rfl ?_ | refine vFc (congrArg (fun z => some (V.int z)) ?_) ?_ | refine vHc (congrArg (fun z => some (Blk.ints _ z)) ?_) ?_ | refine vFc (congrArg (fun z => some (V.bool z)) ?_) ?_
                  rintro ⟨i, k', sp⟩ ⟨hi, hs, hi2, hi3⟩
                  dsimp only at hi hs hi2 hi3 ⊢
                  have hlen2 : ((L.take i).map (· % p)).length = i * 1 := by simp; omega
                  refine CW_seq ?_
                  refine CW_seq ?_
                  refine CW_region ?_
                  refine oQ (Q_move rfl rfl) rfl rfl ?_
                  refine oQ (Q_bin rfl rfl rfl) rfl rfl ?_
                  refine OW_nil ?_
                  all_goals with_reducible refine tN ?_
                  all_goals (
                      first | refine CW_cond_t rfl (by with_reducible rfl) ?_ | refine CW_cond_f rfl (by with_reducible rfl) ?_ | refine CW_cond rfl (fun hc => ?_) (fun hc => ?_)
                      all_goals try simp only [decide_eq_true_eq, decide_eq_false_iff_not, beq_iff_eq, beq_eq_false_iff_ne, bne_iff_ne, bne_eq_false_iff_eq, Bool.not_eq_true', Bool.not_eq_false', Int.not_lt, Int.not_le, ne_eq, not_false_eq_true] at hc
                      all_goals first
                        | (
                          refine CW_skip ?_)
                        | (
                          refine CW_exit ?_))
                  all_goals first
                    | with_reducible refine tR ?_
                    | with_reducible refine tE ?_
                    | (
                      with_reducible refine tN ?_
                      refine CW_seq ?_
                      refine CW_block ?_
                      refine CW_seq ?_
                      refine CW_seq ?_
                      refine CW_region ?_
                      refine oQ (Q_move rfl rfl) rfl rfl ?_
                      refine oQ (Q_move rfl rfl) rfl rfl ?_
                      first | refine oQ (Q_ixs0 rfl rfl rfl rfl rfl rfl (by first | omega | (dsimp only; omega) | (simp; omega) | (simp; done))) rfl rfl ?_ | refine oQ (Q_ixs1 rfl rfl rfl rfl rfl rfl (by first | omega | (dsimp only; omega) | (simp; omega) | (simp; done))) rfl rfl ?_
                      refine oQ (Q_ld rfl rfl rfl rfl (by first | omega | (dsimp only; omega) | (simp; omega) | (simp; done))) rfl rfl ?_
                      refine oQ (Q_call0 (l01In_con _ _ _) rfl rfl rfl) rfl rfl ?_
                      refine oQ (Q_not rfl) rfl rfl ?_
                      refine OW_nil ?_
                      all_goals with_reducible refine tN ?_
                      all_goals (
                          first | refine CW_cond_t rfl (by with_reducible rfl) ?_ | refine CW_cond_f rfl (by with_reducible rfl) ?_ | refine CW_cond rfl (fun hc => ?_) (fun hc => ?_)
                          all_goals try simp only [decide_eq_true_eq, decide_eq_false_iff_not, beq_iff_eq, beq_eq_false_iff_ne, bne_iff_ne, bne_eq_false_iff_eq, Bool.not_eq_true', Bool.not_eq_false', Int.not_lt, Int.not_le, ne_eq, not_false_eq_true] at hc
                          all_goals first
                            | (
                              refine CW_skip ?_)
                            | (
                              refine CW_seq ?_
                              refine CW_region ?_
                              refine oQ (Q_build rfl rfl rfl rfl rfl rfl rfl rfl) rfl rfl ?_
                              first | refine oStw rfl rfl rfl rfl (by first | omega | (dsimp only; omega) | (simp; omega) | (simp; done)) (by first | omega | (dsimp only; omega) | (simp; omega) | (simp; done)) ?_ | refine oSta rfl rfl rfl rfl (by first | omega | (dsimp only; omega) | (simp; omega) | (simp; done)) (by first | omega | (dsimp only; omega) | (simp; omega) | (simp; done)) ?_
                              refine oQ (Q_assign rfl rfl) rfl rfl ?_
                              refine OW_nil ?_
                              all_goals with_reducible refine tN ?_
                              all_goals (
                                  refine CW_ret ?_)))
                      all_goals first
                        | with_reducible refine tR ?_
                        | with_reducible refine tE ?_
                        | (
                          with_reducible refine tN ?_
                          refine CW_region ?_
                          refine oQ (Q_move rfl rfl) rfl rfl ?_
                          refine oQ (Q_move rfl rfl) rfl rfl ?_
                          refine oQ (Q_move rfl rfl) rfl rfl ?_
                          refine oQ (Q_move rfl rfl) rfl rfl ?_
                          first | refine oQ (Q_ixs0 rfl rfl rfl rfl rfl rfl (by first | omega | (dsimp only; omega) | (simp; omega) | (simp; done))) rfl rfl ?_ | refine oQ (Q_ixs1 rfl rfl rfl rfl rfl rfl (by first | omega | (dsimp only; omega) | (simp; omega) | (simp; done))) rfl rfl ?_
                          refine oQ (Q_ld rfl rfl rfl rfl (by first | omega | (dsimp only; omega) | (simp; omega) | (simp; done))) rfl rfl ?_
                          (have hb := prime_bd hg); refine oQ (Q_call0 (l01Mod_con _ _ (by omega) (by omega)) rfl rfl rfl) rfl rfl ?_
                          refine oBsl (zl := []) rfl rfl rfl rfl (.inl ⟨rfl, rfl⟩) rfl rfl rfl rfl rfl rfl ?_
                          refine oApp (sz := 1) (by_ := 8) rfl rfl rfl rfl rfl rfl ⟨by decide, rfl, .inl ⟨rfl, rfl⟩⟩ rfl rfl rfl rfl rfl rfl hlen2 rfl (by omega) hi2 (by omega) (by omega) rfl rfl (fun k2 sp2 h1 h2 => ?_)
                          refine oQ (Q_assign rfl rfl) rfl rfl ?_
                          refine OW_nil ?_)
                      all_goals first | with_reducible refine bN ?_ | with_reducible refine bE ?_ | with_reducible refine bR ?_ | refine bX rfl ?_
                      all_goals first
                        | with_reducible refine tR ?_
                        | with_reducible refine tE ?_
                        | (
                          with_reducible refine tN ?_
                          refine CW_region ?_
                          refine oQ (Q_move rfl rfl) rfl rfl ?_
                          first | refine oQ (Q_binu rfl rfl rfl (by omega)) rfl rfl ?_ | refine oQ (Q_bin rfl rfl rfl) rfl rfl ?_
                          refine oQ (Q_assign rfl rfl) rfl rfl ?_
                          refine OW_nil ?_))
                  all_goals first
                    | with_reducible refine tR ?_
                    | with_reducible refine tE ?_
                    | (
                      with_reducible refine tN ?_
                      refine ⟨(i + 1, k2, sp2), ?_, ?_, View.mk' [(2, 4)] rfl rfl rfl ?_ ?_⟩
                      · exact ⟨by omega, smallB_snoc (by omega) hs (by simp_all) (by simp_all), by simpa using h1, by simpa using h2⟩
                      · omega
                      all_goals (repeat' first | exact vFn | refine vFc rfl ?_ | exact vHn | refine vHc rfl ?_ | refine vFc (congrArg (fun z => some (V.int z)) ?_) ?_ | refine vHc (congrArg (fun z => some (Blk.ints _ z)) ?_) ?_ | refine vFc (congrArg (fun z => some (V.bool z)) ?_) ?_)
                      all_goals (refine congrArg (fun z => z ++ sp2) ?_; rw [take_snoc (show i < L.length by omega)]; simp))
                  all_goals first | with_reducible refine bN ?_ | with_reducible refine bE ?_ | with_reducible refine bR ?_ | refine bX rfl ?_)
              all_goals first
                | with_reducible refine tR ?_
                | with_reducible refine tE ?_
                | (
                  with_reducible refine tN ?_
                  refine CW_seq ?_
                  refine CW_region ?_
                  refine oQ (Q_move rfl rfl) rfl rfl ?_
                  refine oQ (Q_move rfl rfl) rfl rfl ?_
                  (have e : i = 10 := by omega)
                  (subst e)
                  refine oQ (Q_call (l06List_con p 2 ((L.take 10).map (· % p) ++ sp) k' (by simp; omega) hg) [(0, 2)] rfl rfl (Fits.mk' (vHc rfl vHn) rfl rfl (by simp)) rfl rfl) rfl rfl ?_
                  (have e2 : ((L.take 10).map (· % p) ++ sp).take 10 = (L.take 10).map (· % p) := by rw [List.take_append_of_le_length (by simp; omega), List.take_of_length_le (by simp; omega)])
                  simp only [e2, norm_mod, fac_mod]
                  (have hnl : (normL p (L.take 10)).length = 10 := by rw [normL_length, hlen])
                  refine oQ (Q_move rfl rfl) rfl rfl ?_
                  refine oQ (Q_extract rfl rfl) rfl rfl ?_
                  refine oQ (Q_extract rfl rfl) rfl rfl ?_
                  refine oAlloc rfl rfl rfl rfl rfl rfl rfl ?_
                  first | refine oStw rfl rfl rfl rfl (by first | omega | (dsimp only; omega) | (simp; omega) | (simp; done)) (by first | omega | (dsimp only; omega) | (simp; omega) | (simp; done)) ?_ | refine oSta rfl rfl rfl rfl (by first | omega | (dsimp only; omega) | (simp; omega) | (simp; done)) (by first | omega | (dsimp only; omega) | (simp; omega) | (simp; done)) ?_
                  refine oQ (Q_assign rfl rfl) rfl rfl ?_
                  refine OW_nil ?_
                  all_goals with_reducible refine tN ?_
                  all_goals (
                      refine CW_seq ?_
                      refine CW_seq ?_
                      refine CW_region ?_
                      refine oQ (Q_move rfl rfl) rfl rfl ?_
                      refine oQ (Q_not rfl) rfl rfl ?_
                      refine OW_nil ?_
                      all_goals with_reducible refine tN ?_
                      all_goals (
                          first | refine CW_cond_t rfl (by with_reducible rfl) ?_ | refine CW_cond_f rfl (by with_reducible rfl) ?_ | refine CW_cond rfl (fun hc => ?_) (fun hc => ?_)
                          all_goals try simp only [decide_eq_true_eq, decide_eq_false_iff_not, beq_iff_eq, beq_eq_false_iff_ne, bne_iff_ne, bne_eq_false_iff_eq, Bool.not_eq_true', Bool.not_eq_false', Int.not_lt, Int.not_le, ne_eq, not_false_eq_true] at hc
                          all_goals first
                            | (
                              refine CW_skip ?_)
                            | (
                              refine CW_seq ?_
                              refine CW_region ?_
                              refine oQ (Q_build rfl rfl rfl rfl rfl rfl rfl rfl) rfl rfl ?_
                              first | refine oStw rfl rfl rfl rfl (by first | omega | (dsimp only; omega) | (simp; omega) | (simp; done)) (by first | omega | (dsimp only; omega) | (simp; omega) | (simp; done)) ?_ | refine oSta rfl rfl rfl rfl (by first | omega | (dsimp only; omega) | (simp; omega) | (simp; done)) (by first | omega | (dsimp only; omega) | (simp; omega) | (simp; done)) ?_
                              refine oQ (Q_assign rfl rfl) rfl rfl ?_
                              refine OW_nil ?_
                              all_goals with_reducible refine tN ?_
                              all_goals (
                                  refine CW_ret ?_)))
                      all_goals first
                        | with_reducible refine tR ?_
                        | with_reducible refine tE ?_
                        | (
                          with_reducible refine tN ?_
                          refine CW_seq ?_
                          refine CW_region ?_
                          first | refine oQ (Q_ldw rfl rfl rfl rfl (by first | omega | (dsimp only; omega) | (simp; omega) | (simp; done))) rfl rfl ?_ | refine oQ (Q_lda rfl rfl rfl rfl rfl (by first | omega | (dsimp only; omega) | (simp; omega) | (simp; done))) rfl rfl ?_
                          first | refine oStw rfl rfl rfl rfl (by first | omega | (dsimp only; omega) | (simp; omega) | (simp; done)) (by first | omega | (dsimp only; omega) | (simp; omega) | (simp; done)) ?_ | refine oSta rfl rfl rfl rfl (by first | omega | (dsimp only; omega) | (simp; omega) | (simp; done)) (by first | omega | (dsimp only; omega) | (simp; omega) | (simp; done)) ?_
                          refine oQ (Q_assign rfl rfl) rfl rfl ?_
                          refine OW_nil ?_
                          all_goals with_reducible refine tN ?_
                          all_goals (
                              refine CW_ret ?_)))))))
  all_goals (
      first
        | (refine exitQ (.inr rfl) 1 (.cons (.arr rfl rfl rfl rfl rfl) (.cons (.tmp rfl rfl) .nil)) ?_ rfl (vHc rfl vHn) rfl rfl
           first
             | exact ten_tup (ten_prime hg) (fun h => by cases h) (fun _ => rfl)
             | exact ten_tup (ten_len (by omega)) (fun h => by cases h) (fun _ => rfl)
             | exact ten_tup (ten_small (smallB_fail (by omega) (by omega) hc)) (fun h => by cases h) (fun _ => rfl)
             | exact ten_tup (ten_zero hg hlen hs hc) (fun h => by cases h) (fun _ => rfl))
        | (refine exitQ (.inr rfl) 1 (.cons (.arr rfl rfl rfl rfl hnl) (.cons (.tmp rfl rfl) .nil)) ?_ rfl (vHc rfl vHn) rfl rfl
           exact ten_tup (ten_ok hg hlen hs hc) (fun _ => rfl) (fun h => absurd rfl h)))
theorem l08Made_con (p : Int) (t : TypeId) (L : List Int) (k : Nat) (hn : 10 ≤ L.length) (hp : primeB p = true) : ConQ Try.prog [] 45 [.int p, .slice 0 0 10 k] [(0, .ints t L)] (.tuple [.arr (normL p (L.take 10)), .bool (facP p (L.take 10) != 0)]) := by
  have hlen : (normL p (L.take 10)).length = 10 := by rw [normL_length]; simp; omega
  have e9 : (normL p (L.take 10)).take 10 = normL p (L.take 10) := List.take_of_length_le (by omega)
  refine conW tab_ok [(0, .int p), (1, .slice 0 0 10 k)] 1 [0] [0] Try.func45 rfl rfl rfl rfl rfl rfl rfl rfl rfl ?_
  refine CW_seq ?_
  refine CW_region ?_
  refine oAlloc rfl rfl rfl rfl rfl rfl rfl ?_
  refine oQ (Q_assign rfl rfl) rfl rfl ?_
  refine OW_nil ?_
  all_goals with_reducible refine tN ?_
  all_goals (
      refine CW_seq ?_
      refine CW_region ?_
      refine oQ (Q_move rfl rfl) rfl rfl ?_
      refine oQ (Q_move rfl rfl) rfl rfl ?_
      refine oCall (l01Norm_con p t L 10 k hn hp (by omega)) [] 2 rfl rfl (Fits.mk' (vHc rfl vHn) rfl rfl (by simp)) rfl rfl ?_
      rintro r H1 ⟨k', sp, h1, h2, rfl, rfl⟩
      refine ⟨.tuple [.slice 3 0 10 k', .bool (facP p (L.take 10) != 0)], [(0, .ints t L), (3, .ints 2 (normL p (L.take 10) ++ sp))], rfl, rfl, rfl, ?_⟩
      refine oQ (Q_move rfl rfl) rfl rfl ?_
      refine oQ (Q_extract rfl rfl) rfl rfl ?_
      refine oQ (Q_extract rfl rfl) rfl rfl ?_
      refine oQ (Q_assign rfl rfl) rfl rfl ?_
      refine oQ (Q_assign rfl rfl) rfl rfl ?_
      refine OW_nil ?_
      all_goals with_reducible refine tN ?_
      all_goals (
          refine CW_seq ?_
          refine CW_region ?_
          refine oQ (Q_build rfl rfl rfl rfl rfl rfl rfl rfl) rfl rfl ?_
          refine oAlloc rfl rfl rfl rfl rfl rfl rfl ?_
          first | refine oStw rfl rfl rfl rfl (by first | omega | (dsimp only; omega) | (simp; omega) | (simp; done)) (by first | omega | (dsimp only; omega) | (simp; omega) | (simp; done)) ?_ | refine oSta rfl rfl rfl rfl (by first | omega | (dsimp only; omega) | (simp; omega) | (simp; done)) (by first | omega | (dsimp only; omega) | (simp; omega) | (simp; done)) ?_
          refine OW_nil ?_
          all_goals with_reducible refine tN ?_
          all_goals (
              refine CW_seq ?_
              refine CW_seq ?_
              refine CW_region ?_
              refine oQ (Q_assign rfl rfl) rfl rfl ?_
              refine OW_nil ?_
              all_goals with_reducible refine tN ?_
              all_goals (
                  refine CW_block ?_
                  refine CW_loop (ι := Nat) (fun i => i ≤ 10 ∧ (i = 0 ∨ facP p (L.take 10) ≠ 0)) (fun i => ⟨[(0, .int p), (1, .slice 0 0 10 k), (4, .ptr 1 0), (6, .slice 3 0 10 k'), (7, .bool (facP p (L.take 10) != 0)), (8, .ptr 4 0), (9, .int i)], [(0, .ints t L), (1, .ints 24 zero10), (3, .ints 2 (normL p (L.take 10) ++ sp)), (4, .ints 24 ((normL p (L.take 10)).take i ++ List.replicate (10 - i) 0))], 5⟩) (fun i => 10 - i) 0 ?_ ?_ ?_
                  · exact ⟨Nat.zero_le _, .inl rfl⟩
                  · refine View.mk' [] rfl rfl rfl ?_ ?_
                    repeat' first | exact vFn | refine vFc rfl ?_ | exact vHn | refine vHc rfl ?_ | refine vFc (congrArg (fun z => some (V.int z)) ?_) ?_ | refine vHc (congrArg (fun z => some (Blk.ints _ z)) ?_) ?_ | refine vFc (congrArg (fun z => some (V.bool z)) ?_) ?_
                  rintro i ⟨hi, hi2⟩
                  refine CW_seq ?_
                  refine CW_seq ?_
                  refine CW_region ?_
                  refine oQ (Q_move rfl rfl) rfl rfl ?_
                  refine oQ (Q_bin rfl rfl rfl) rfl rfl ?_
                  refine oQ (Q_move rfl rfl) rfl rfl ?_
                  all_goals first | refine ogT rfl rfl (by with_reducible rfl) ?_ | refine og1 rfl rfl (by with_reducible rfl) rfl ?_ | refine og0 rfl rfl (by with_reducible rfl) rfl ?_ | refine ogP1 rfl rfl rfl (fun hg => ?_) (fun hg => ?_) | refine ogP0 rfl rfl rfl (fun hg => ?_) (fun hg => ?_)
                  all_goals try simp only [decide_eq_true_eq, decide_eq_false_iff_not, beq_iff_eq, beq_eq_false_iff_ne, bne_iff_ne, bne_eq_false_iff_eq, Bool.not_eq_true', Bool.not_eq_false', Int.not_lt, Int.not_le, ne_eq, not_false_eq_true] at hg
                  all_goals first | (refine oQ (Q_move rfl rfl) rfl rfl ?_) | skip
                  all_goals first | refine oQ (Q_pick_t rfl (by with_reducible rfl) rfl rfl) rfl rfl ?_ | refine oQ (Q_pick_f rfl (by with_reducible rfl) rfl rfl) rfl rfl ?_
                  all_goals refine OW_nil ?_
                  all_goals with_reducible refine tN ?_
                  all_goals (
                      first | refine CW_cond_t rfl (by with_reducible rfl) ?_ | refine CW_cond_f rfl (by with_reducible rfl) ?_ | refine CW_cond rfl (fun hc => ?_) (fun hc => ?_)
                      all_goals try simp only [decide_eq_true_eq, decide_eq_false_iff_not, beq_iff_eq, beq_eq_false_iff_ne, bne_iff_ne, bne_eq_false_iff_eq, Bool.not_eq_true', Bool.not_eq_false', Int.not_lt, Int.not_le, ne_eq, not_false_eq_true] at hc
                      all_goals try (exfalso; first | omega | (simp at hc); done)
                      all_goals first
                        | (
                          refine CW_skip ?_)
                        | (
                          refine CW_exit ?_))
                  all_goals first
                    | with_reducible refine tR ?_
                    | with_reducible refine tE ?_
                    | (
                      with_reducible refine tN ?_
                      refine CW_seq ?_
                      refine CW_block ?_
                      refine CW_region ?_
                      refine oQ (Q_move rfl rfl) rfl rfl ?_
                      refine oQ (Q_move rfl rfl) rfl rfl ?_
                      refine oQ (Q_move rfl rfl) rfl rfl ?_
                      first | refine oQ (Q_ixs0 rfl rfl rfl rfl rfl rfl (by first | omega | (dsimp only; omega) | (simp; omega) | (simp; done))) rfl rfl ?_ | refine oQ (Q_ixs1 rfl rfl rfl rfl rfl rfl (by first | omega | (dsimp only; omega) | (simp; omega) | (simp; done))) rfl rfl ?_
                      refine oQ (Q_ldc rfl rfl rfl rfl (show (normL p (L.take 10) ++ sp)[i]? = some ((normL p (L.take 10)).getD i 0) by rw [List.getElem?_append_left (by omega)]; simp [List.getD, show i < (normL p (L.take 10)).length by omega])) rfl rfl ?_
                      first | refine oQ (Q_ixa0 rfl rfl rfl rfl rfl rfl (by first | omega | (dsimp only; omega) | (simp; omega) | (simp; done))) rfl rfl ?_ | refine oQ (Q_ixa1 rfl rfl rfl rfl rfl rfl (by first | omega | (dsimp only; omega) | (simp; omega) | (simp; done))) rfl rfl ?_
                      refine oSt rfl rfl rfl rfl rfl (by first | omega | (dsimp only; omega) | (simp; omega) | (simp; done)) ?_
                      refine OW_nil ?_
                      all_goals first | with_reducible refine bN ?_ | with_reducible refine bE ?_ | with_reducible refine bR ?_ | refine bX rfl ?_
                      all_goals with_reducible refine tN ?_
                      all_goals (
                          refine CW_region ?_
                          refine oQ (Q_move rfl rfl) rfl rfl ?_
                          first | refine oQ (Q_binu rfl rfl rfl (by omega)) rfl rfl ?_ | refine oQ (Q_bin rfl rfl rfl) rfl rfl ?_
                          refine oQ (Q_assign rfl rfl) rfl rfl ?_
                          refine OW_nil ?_))
                  all_goals first
                    | with_reducible refine tR ?_
                    | with_reducible refine tE ?_
                    | (
                      with_reducible refine tN ?_
                      refine ⟨i + 1, ?_, ?_, View.mk' [] rfl rfl rfl ?_ ?_⟩
                      · exact ⟨by omega, .inr (by simp_all)⟩
                      · omega
                      all_goals (repeat' first | exact vFn | refine vFc rfl ?_ | exact vHn | refine vHc rfl ?_ | refine vFc (congrArg (fun z => some (V.int z)) ?_) ?_ | refine vHc (congrArg (fun z => some (Blk.ints _ z)) ?_) ?_ | refine vFc (congrArg (fun z => some (V.bool z)) ?_) ?_)
                      all_goals exact fill_set (by omega) hlen)
                  all_goals first | with_reducible refine bN ?_ | with_reducible refine bE ?_ | with_reducible refine bR ?_ | refine bX rfl ?_)
              all_goals with_reducible refine tN ?_
              all_goals (
                  refine CW_seq ?_
                  refine CW_region ?_
                  first | refine oQ (Q_ldw rfl rfl rfl rfl (by first | omega | (dsimp only; omega) | (simp; omega) | (simp; done))) rfl rfl ?_ | refine oQ (Q_lda rfl rfl rfl rfl rfl (by first | omega | (dsimp only; omega) | (simp; omega) | (simp; done))) rfl rfl ?_
                  refine oQ (Q_move rfl rfl) rfl rfl ?_
                  first | refine oStw rfl rfl rfl rfl (by first | omega | (dsimp only; omega) | (simp; omega) | (simp; done)) (by first | omega | (dsimp only; omega) | (simp; omega) | (simp; done)) ?_ | refine oSta rfl rfl rfl rfl (by first | omega | (dsimp only; omega) | (simp; omega) | (simp; done)) (by first | omega | (dsimp only; omega) | (simp; omega) | (simp; done)) ?_
                  refine oQ (Q_assign rfl rfl) rfl rfl ?_
                  refine OW_nil ?_
                  all_goals with_reducible refine tN ?_
                  all_goals (
                      refine CW_ret ?_)))))
  all_goals (
      refine exitQ (.inr rfl) 1 (.cons (.arr rfl rfl rfl rfl (by simp [hlen]; try omega)) (.cons (.tmp rfl rfl) .nil)) ?_ rfl (vHc rfl vHn) rfl rfl
      first
        | (have e : i = 10 := (by omega); subst e; simp only [resV]; rw [e9]; simp; done)
        | (have e : facP p (L.take 10) = 0 := (by simp_all); have e2 : i = 0 := (by simp_all); subst e2; simp only [resV]; rw [norm_zero e, show (L.take 10).length = 10 by simp; omega]; rfl))
theorem impl_QuadricOf_con (p : Int) (t : TypeId) (L : List Int) (n k : Nat) (hn : n ≤ L.length) (h6 : n ≤ 1000000) : ConQ Try.prog [] 26 [.int p, .slice 0 0 n k] [(0, .ints t L)] (.tuple [.arr (tenV p (L.take n)), .int (tenC p (L.take n))]) := by
  have hlen : (L.take n).length = n := by simp; try omega
  refine conW tab_ok [(0, .int p), (1, .slice 0 0 n k)] 1 [0] [0] Try.func26 rfl rfl rfl rfl rfl rfl rfl rfl rfl ?_
  refine CW_seq ?_
  refine CW_region ?_
  refine oAlloc rfl rfl rfl rfl rfl rfl rfl ?_
  refine oQ (Q_assign rfl rfl) rfl rfl ?_
  refine OW_nil ?_
  all_goals with_reducible refine tN ?_
  all_goals (
      refine CW_seq ?_
      refine CW_seq ?_
      refine CW_region ?_
      refine oQ (Q_move rfl rfl) rfl rfl ?_
      refine oQ (Q_call0 (isPrime_con _) rfl rfl rfl) rfl rfl ?_
      refine oQ (Q_not rfl) rfl rfl ?_
      refine oQ (Q_move rfl rfl) rfl rfl ?_
      all_goals first | refine ogT rfl rfl (by with_reducible rfl) ?_ | refine og1 rfl rfl (by with_reducible rfl) rfl ?_ | refine og0 rfl rfl (by with_reducible rfl) rfl ?_ | refine ogP1 rfl rfl rfl (fun hg => ?_) (fun hg => ?_) | refine ogP0 rfl rfl rfl (fun hg => ?_) (fun hg => ?_)
      all_goals try simp only [decide_eq_true_eq, decide_eq_false_iff_not, beq_iff_eq, beq_eq_false_iff_ne, bne_iff_ne, bne_eq_false_iff_eq, Bool.not_eq_true', Bool.not_eq_false', Int.not_lt, Int.not_le, ne_eq, not_false_eq_true] at hg
      all_goals first | (refine oQ (Q_move rfl rfl) rfl rfl ?_) | skip
      all_goals first | refine ogT rfl rfl (by with_reducible rfl) ?_ | refine og1 rfl rfl (by with_reducible rfl) rfl ?_ | refine og0 rfl rfl (by with_reducible rfl) rfl ?_ | refine ogP1 rfl rfl rfl (fun hg => ?_) (fun hg => ?_) | refine ogP0 rfl rfl rfl (fun hg => ?_) (fun hg => ?_)
      all_goals try simp only [decide_eq_true_eq, decide_eq_false_iff_not, beq_iff_eq, beq_eq_false_iff_ne, bne_iff_ne, bne_eq_false_iff_eq, Bool.not_eq_true', Bool.not_eq_false', Int.not_lt, Int.not_le, ne_eq, not_false_eq_true] at hg
      all_goals first | (refine oQ (Q_call (areSmall_con 10 t L n k hn (by omega)) [] rfl rfl (Fits.mk' (vHc rfl vHn) rfl rfl (by simp)) rfl rfl) rfl rfl ?_) | skip
      all_goals first | refine ogT rfl rfl (by with_reducible rfl) ?_ | refine og1 rfl rfl (by with_reducible rfl) rfl ?_ | refine og0 rfl rfl (by with_reducible rfl) rfl ?_ | refine ogP1 rfl rfl rfl (fun hg => ?_) (fun hg => ?_) | refine ogP0 rfl rfl rfl (fun hg => ?_) (fun hg => ?_)
      all_goals try simp only [decide_eq_true_eq, decide_eq_false_iff_not, beq_iff_eq, beq_eq_false_iff_ne, bne_iff_ne, bne_eq_false_iff_eq, Bool.not_eq_true', Bool.not_eq_false', Int.not_lt, Int.not_le, ne_eq, not_false_eq_true] at hg
      all_goals first | (refine oQ (Q_not rfl) rfl rfl ?_) | skip
      all_goals first | refine oQ (Q_pick_t rfl (by with_reducible rfl) rfl rfl) rfl rfl ?_ | refine oQ (Q_pick_f rfl (by with_reducible rfl) rfl rfl) rfl rfl ?_
      all_goals refine OW_nil ?_
      all_goals with_reducible refine tN ?_
      all_goals (
          first | refine CW_cond_t rfl (by with_reducible rfl) ?_ | refine CW_cond_f rfl (by with_reducible rfl) ?_ | refine CW_cond rfl (fun hc => ?_) (fun hc => ?_)
          all_goals try simp only [decide_eq_true_eq, decide_eq_false_iff_not, beq_iff_eq, beq_eq_false_iff_ne, bne_iff_ne, bne_eq_false_iff_eq, Bool.not_eq_true', Bool.not_eq_false', Int.not_lt, Int.not_le, ne_eq, not_false_eq_true] at hc
          all_goals first
            | (
              refine CW_skip ?_)
            | (
              refine CW_seq ?_
              refine CW_region ?_
              refine oQ (Q_build rfl rfl rfl rfl rfl rfl rfl rfl) rfl rfl ?_
              first | refine oStw rfl rfl rfl rfl (by first | omega | (dsimp only; omega) | (simp; omega) | (simp; done)) (by first | omega | (dsimp only; omega) | (simp; omega) | (simp; done)) ?_ | refine oSta rfl rfl rfl rfl (by first | omega | (dsimp only; omega) | (simp; omega) | (simp; done)) (by first | omega | (dsimp only; omega) | (simp; omega) | (simp; done)) ?_
              refine oQ (Q_assign rfl rfl) rfl rfl ?_
              refine OW_nil ?_
              all_goals with_reducible refine tN ?_
              all_goals (
                  refine CW_ret ?_)))
      all_goals first
        | with_reducible refine tR ?_
        | with_reducible refine tE ?_
        | (
          with_reducible refine tN ?_
          refine CW_seq ?_
          refine CW_region ?_
          refine oQ (Q_move rfl rfl) rfl rfl ?_
          (have e10 : n = 10 := by simp at hc; omega)
          (subst e10)
          (have hnl : (normL p ((L.take 10).take 10) ++ (L.take 10).drop 10).length = 10 := by simp [normL_length]; omega)
          refine oQ (Q_s2a rfl rfl rfl (Nat.le_refl _)) rfl rfl ?_
          refine oQ (Q_lda rfl rfl rfl rfl rfl (by simpa using hn)) rfl rfl ?_
          refine oAlloc rfl rfl rfl rfl rfl rfl rfl ?_
          first | refine oStw rfl rfl rfl rfl (by first | omega | (dsimp only; omega) | (simp; omega) | (simp; done)) (by first | omega | (dsimp only; omega) | (simp; omega) | (simp; done)) ?_ | refine oSta rfl rfl rfl rfl (by first | omega | (dsimp only; omega) | (simp; omega) | (simp; done)) (by first | omega | (dsimp only; omega) | (simp; omega) | (simp; done)) ?_
          refine OW_nil ?_
          all_goals with_reducible refine tN ?_
          all_goals (
              refine CW_seq ?_
              refine CW_seq ?_
              refine CW_region ?_
              refine oQ (Q_move rfl rfl) rfl rfl ?_
              refine oQ (Q_slaF rfl rfl rfl rfl) rfl rfl ?_
              refine oCall (normal_con p 24 (L.take 10) 10 10 (by simp; omega) (by simp_all) (by omega)) [(0, 2)] 0 rfl rfl (Fits.mk' (vHc rfl vHn) rfl rfl (by simp)) rfl rfl ?_
              rintro r H1 ⟨rfl, rfl⟩
              refine ⟨.bool (facP p ((L.take 10).take 10) != 0), [(2, .ints 24 (normL p ((L.take 10).take 10) ++ (L.take 10).drop 10))], rfl, rfl, rfl, ?_⟩
              refine oQ (Q_not rfl) rfl rfl ?_
              refine OW_nil ?_
              all_goals with_reducible refine tN ?_
              all_goals (
                  first | refine CW_cond_t rfl (by with_reducible rfl) ?_ | refine CW_cond_f rfl (by with_reducible rfl) ?_ | refine CW_cond rfl (fun hc => ?_) (fun hc => ?_)
                  all_goals try simp only [decide_eq_true_eq, decide_eq_false_iff_not, beq_iff_eq, beq_eq_false_iff_ne, bne_iff_ne, bne_eq_false_iff_eq, Bool.not_eq_true', Bool.not_eq_false', Int.not_lt, Int.not_le, ne_eq, not_false_eq_true] at hc
                  all_goals first
                    | (
                      refine CW_skip ?_)
                    | (
                      refine CW_seq ?_
                      refine CW_region ?_
                      refine oQ (Q_build rfl rfl rfl rfl rfl rfl rfl rfl) rfl rfl ?_
                      first | refine oStw rfl rfl rfl rfl (by first | omega | (dsimp only; omega) | (simp; omega) | (simp; done)) (by first | omega | (dsimp only; omega) | (simp; omega) | (simp; done)) ?_ | refine oSta rfl rfl rfl rfl (by first | omega | (dsimp only; omega) | (simp; omega) | (simp; done)) (by first | omega | (dsimp only; omega) | (simp; omega) | (simp; done)) ?_
                      refine oQ (Q_assign rfl rfl) rfl rfl ?_
                      refine OW_nil ?_
                      all_goals with_reducible refine tN ?_
                      all_goals (
                          refine CW_ret ?_)))
              all_goals first
                | with_reducible refine tR ?_
                | with_reducible refine tE ?_
                | (
                  with_reducible refine tN ?_
                  refine CW_seq ?_
                  refine CW_region ?_
                  first | refine oQ (Q_ldw rfl rfl rfl rfl (by first | omega | (dsimp only; omega) | (simp; omega) | (simp; done))) rfl rfl ?_ | refine oQ (Q_lda rfl rfl rfl rfl rfl (by first | omega | (dsimp only; omega) | (simp; omega) | (simp; done))) rfl rfl ?_
                  first | refine oStw rfl rfl rfl rfl (by first | omega | (dsimp only; omega) | (simp; omega) | (simp; done)) (by first | omega | (dsimp only; omega) | (simp; omega) | (simp; done)) ?_ | refine oSta rfl rfl rfl rfl (by first | omega | (dsimp only; omega) | (simp; omega) | (simp; done)) (by first | omega | (dsimp only; omega) | (simp; omega) | (simp; done)) ?_
                  refine oQ (Q_assign rfl rfl) rfl rfl ?_
                  refine OW_nil ?_
                  all_goals with_reducible refine tN ?_
                  all_goals (
                      refine CW_ret ?_)))))
  all_goals (
      first
        | (refine exitQ (.inr rfl) 1 (.cons (.arr rfl rfl rfl rfl rfl) (.cons (.tmp rfl rfl) .nil)) ?_ rfl (vHc rfl vHn) rfl rfl
           first
             | exact ten_tup (ten_prime hg) (fun h => by cases h) (fun _ => rfl)
             | exact ten_tup (ten_bad hlen hc) (fun h => by cases h) (fun _ => rfl)
             | (have e1 : (L.take 10).take 10 = L.take 10 := List.take_of_length_le (by omega)
                rw [e1] at hc
                exact ten_tup (ten_zero hg hlen (by simp_all) hc) (fun h => by cases h) (fun _ => rfl)))
        | (have e1 : (L.take 10).take 10 = L.take 10 := List.take_of_length_le (by omega)
           have e2 : (L.take 10).drop 10 = [] := List.drop_eq_nil_of_le (by omega)
           have e3 : (normL p ((L.take 10).take 10) ++ (L.take 10).drop 10).length = 10 := by rw [e1, e2, List.append_nil, normL_length, hlen]
           refine exitQ (.inr rfl) 1 (.cons (.arr rfl rfl rfl rfl e3) (.cons (.tmp rfl rfl) .nil)) ?_ rfl (vHc rfl vHn) rfl rfl
           rw [e1] at hc
           simp only [e1, e2, List.append_nil]
           exact ten_tup (ten_ok hg hlen (by simp_all) hc) (fun _ => rfl) (fun h => absurd rfl h)))
theorem impl_QuadricOf_nil (p : Int)  : ConQ Try.prog [] 26 [.int p, .nilsl] [] (.tuple [.arr (tenV p (([] : List Int))), .int (tenC p (([] : List Int)))]) := by
  have hlen : (([] : List Int)).length = 0 := by simp; try omega
  refine conW tab_ok [(0, .int p), (1, .nilsl)] 1 [] [] Try.func26 rfl rfl rfl rfl rfl rfl rfl rfl rfl ?_
  refine CW_seq ?_
  refine CW_region ?_
  refine oAlloc rfl rfl rfl rfl rfl rfl rfl ?_
  refine oQ (Q_assign rfl rfl) rfl rfl ?_
  refine OW_nil ?_
  all_goals with_reducible refine tN ?_
  all_goals (
      refine CW_seq ?_
      refine CW_seq ?_
      refine CW_region ?_
      refine oQ (Q_move rfl rfl) rfl rfl ?_
      refine oQ (Q_call0 (isPrime_con _) rfl rfl rfl) rfl rfl ?_
      refine oQ (Q_not rfl) rfl rfl ?_
      refine oQ (Q_move rfl rfl) rfl rfl ?_
      all_goals first | refine ogT rfl rfl (by with_reducible rfl) ?_ | refine og1 rfl rfl (by with_reducible rfl) rfl ?_ | refine og0 rfl rfl (by with_reducible rfl) rfl ?_ | refine ogP1 rfl rfl rfl (fun hg => ?_) (fun hg => ?_) | refine ogP0 rfl rfl rfl (fun hg => ?_) (fun hg => ?_)
      all_goals try simp only [decide_eq_true_eq, decide_eq_false_iff_not, beq_iff_eq, beq_eq_false_iff_ne, bne_iff_ne, bne_eq_false_iff_eq, Bool.not_eq_true', Bool.not_eq_false', Int.not_lt, Int.not_le, ne_eq, not_false_eq_true] at hg
      all_goals first | (refine oQ (Q_move rfl rfl) rfl rfl ?_) | skip
      all_goals first | refine ogT rfl rfl (by with_reducible rfl) ?_ | refine og1 rfl rfl (by with_reducible rfl) rfl ?_ | refine og0 rfl rfl (by with_reducible rfl) rfl ?_ | refine ogP1 rfl rfl rfl (fun hg => ?_) (fun hg => ?_) | refine ogP0 rfl rfl rfl (fun hg => ?_) (fun hg => ?_)
      all_goals try simp only [decide_eq_true_eq, decide_eq_false_iff_not, beq_iff_eq, beq_eq_false_iff_ne, bne_iff_ne, bne_eq_false_iff_eq, Bool.not_eq_true', Bool.not_eq_false', Int.not_lt, Int.not_le, ne_eq, not_false_eq_true] at hg
      all_goals first | (refine oQ (Q_call (areSmall_nil 10) [] rfl rfl (Fits.mk' vHn rfl rfl (by simp)) rfl rfl) rfl rfl ?_) | skip
      all_goals first | refine ogT rfl rfl (by with_reducible rfl) ?_ | refine og1 rfl rfl (by with_reducible rfl) rfl ?_ | refine og0 rfl rfl (by with_reducible rfl) rfl ?_ | refine ogP1 rfl rfl rfl (fun hg => ?_) (fun hg => ?_) | refine ogP0 rfl rfl rfl (fun hg => ?_) (fun hg => ?_)
      all_goals try simp only [decide_eq_true_eq, decide_eq_false_iff_not, beq_iff_eq, beq_eq_false_iff_ne, bne_iff_ne, bne_eq_false_iff_eq, Bool.not_eq_true', Bool.not_eq_false', Int.not_lt, Int.not_le, ne_eq, not_false_eq_true] at hg
      all_goals first | (refine oQ (Q_not rfl) rfl rfl ?_) | skip
      all_goals first | refine oQ (Q_pick_t rfl (by with_reducible rfl) rfl rfl) rfl rfl ?_ | refine oQ (Q_pick_f rfl (by with_reducible rfl) rfl rfl) rfl rfl ?_
      all_goals refine OW_nil ?_
      all_goals with_reducible refine tN ?_
      all_goals (
          first | refine CW_cond_t rfl (by with_reducible rfl) ?_ | refine CW_cond_f rfl (by with_reducible rfl) ?_ | refine CW_cond rfl (fun hc => ?_) (fun hc => ?_)
          all_goals try simp only [decide_eq_true_eq, decide_eq_false_iff_not, beq_iff_eq, beq_eq_false_iff_ne, bne_iff_ne, bne_eq_false_iff_eq, Bool.not_eq_true', Bool.not_eq_false', Int.not_lt, Int.not_le, ne_eq, not_false_eq_true] at hc
          all_goals try (exfalso; first | omega | (simp at hc); done)
          all_goals first
            | (
              refine CW_skip ?_)
            | (
              refine CW_seq ?_
              refine CW_region ?_
              refine oQ (Q_build rfl rfl rfl rfl rfl rfl rfl rfl) rfl rfl ?_
              first | refine oStw rfl rfl rfl rfl (by first | omega | (dsimp only; omega) | (simp; omega) | (simp; done)) (by first | omega | (dsimp only; omega) | (simp; omega) | (simp; done)) ?_ | refine oSta rfl rfl rfl rfl (by first | omega | (dsimp only; omega) | (simp; omega) | (simp; done)) (by first | omega | (dsimp only; omega) | (simp; omega) | (simp; done)) ?_
              refine oQ (Q_assign rfl rfl) rfl rfl ?_
              refine OW_nil ?_
              all_goals with_reducible refine tN ?_
              all_goals (
                  refine CW_ret ?_)))
      all_goals first
        | with_reducible refine tR ?_
        | with_reducible refine tE ?_
        | (
          with_reducible refine tN ?_
          refine CW_seq ?_
          refine CW_region ?_
          refine oQ (Q_move rfl rfl) rfl rfl ?_
          (have e10 : 0 = 10 := by simp at hc; omega)
          (subst e10)
          (have hnl : (normL p ((([] : List Int).take 10).take 10) ++ (([] : List Int).take 10).drop 10).length = 10 := by simp [normL_length]; omega)
          refine oQ (Q_s2a rfl rfl rfl (Nat.le_refl _)) rfl rfl ?_
          refine oQ (Q_lda rfl rfl rfl rfl rfl (by simpa using hn)) rfl rfl ?_
          refine oAlloc rfl rfl rfl rfl rfl rfl rfl ?_
          first | refine oStw rfl rfl rfl rfl (by first | omega | (dsimp only; omega) | (simp; omega) | (simp; done)) (by first | omega | (dsimp only; omega) | (simp; omega) | (simp; done)) ?_ | refine oSta rfl rfl rfl rfl (by first | omega | (dsimp only; omega) | (simp; omega) | (simp; done)) (by first | omega | (dsimp only; omega) | (simp; omega) | (simp; done)) ?_
          refine OW_nil ?_
          all_goals with_reducible refine tN ?_
          all_goals (
              refine CW_seq ?_
              refine CW_seq ?_
              refine CW_region ?_
              refine oQ (Q_move rfl rfl) rfl rfl ?_
              refine oQ (Q_slaF rfl rfl rfl rfl) rfl rfl ?_
              refine oCall (normal_con p 24 (([] : List Int).take 10) 10 10 (by simp; omega) (by simp_all) (by omega)) [(0, 2)] 0 rfl rfl (Fits.mk' vHn rfl rfl (by simp)) rfl rfl ?_
              rintro r H1 ⟨rfl, rfl⟩
              refine ⟨.bool (facP p ((([] : List Int).take 10).take 10) != 0), [(2, .ints 24 (normL p ((([] : List Int).take 10).take 10) ++ (([] : List Int).take 10).drop 10))], rfl, rfl, rfl, ?_⟩
              refine oQ (Q_not rfl) rfl rfl ?_
              refine OW_nil ?_
              all_goals with_reducible refine tN ?_
              all_goals (
                  first | refine CW_cond_t rfl (by with_reducible rfl) ?_ | refine CW_cond_f rfl (by with_reducible rfl) ?_ | refine CW_cond rfl (fun hc => ?_) (fun hc => ?_)
                  all_goals try simp only [decide_eq_true_eq, decide_eq_false_iff_not, beq_iff_eq, beq_eq_false_iff_ne, bne_iff_ne, bne_eq_false_iff_eq, Bool.not_eq_true', Bool.not_eq_false', Int.not_lt, Int.not_le, ne_eq, not_false_eq_true] at hc
                  all_goals try (exfalso; first | omega | (simp at hc); done)
                  all_goals first
                    | (
                      refine CW_skip ?_)
                    | (
                      refine CW_seq ?_
                      refine CW_region ?_
                      refine oQ (Q_build rfl rfl rfl rfl rfl rfl rfl rfl) rfl rfl ?_
                      first | refine oStw rfl rfl rfl rfl (by first | omega | (dsimp only; omega) | (simp; omega) | (simp; done)) (by first | omega | (dsimp only; omega) | (simp; omega) | (simp; done)) ?_ | refine oSta rfl rfl rfl rfl (by first | omega | (dsimp only; omega) | (simp; omega) | (simp; done)) (by first | omega | (dsimp only; omega) | (simp; omega) | (simp; done)) ?_
                      refine oQ (Q_assign rfl rfl) rfl rfl ?_
                      refine OW_nil ?_
                      all_goals with_reducible refine tN ?_
                      all_goals (
                          refine CW_ret ?_)))
              all_goals first
                | with_reducible refine tR ?_
                | with_reducible refine tE ?_
                | (
                  with_reducible refine tN ?_
                  refine CW_seq ?_
                  refine CW_region ?_
                  first | refine oQ (Q_ldw rfl rfl rfl rfl (by first | omega | (dsimp only; omega) | (simp; omega) | (simp; done))) rfl rfl ?_ | refine oQ (Q_lda rfl rfl rfl rfl rfl (by first | omega | (dsimp only; omega) | (simp; omega) | (simp; done))) rfl rfl ?_
                  first | refine oStw rfl rfl rfl rfl (by first | omega | (dsimp only; omega) | (simp; omega) | (simp; done)) (by first | omega | (dsimp only; omega) | (simp; omega) | (simp; done)) ?_ | refine oSta rfl rfl rfl rfl (by first | omega | (dsimp only; omega) | (simp; omega) | (simp; done)) (by first | omega | (dsimp only; omega) | (simp; omega) | (simp; done)) ?_
                  refine oQ (Q_assign rfl rfl) rfl rfl ?_
                  refine OW_nil ?_
                  all_goals with_reducible refine tN ?_
                  all_goals (
                      refine CW_ret ?_)))))
  all_goals (
      first
        | (refine exitQ (.inr rfl) 1 (.cons (.arr rfl rfl rfl rfl rfl) (.cons (.tmp rfl rfl) .nil)) ?_ rfl vHn rfl rfl
           first
             | exact ten_tup (ten_prime hg) (fun h => by cases h) (fun _ => rfl)
             | exact ten_tup (ten_bad hlen hc) (fun h => by cases h) (fun _ => rfl)
             | (have e1 : (([] : List Int).take 10).take 10 = ([] : List Int).take 10 := List.take_of_length_le (by omega)
                rw [e1] at hc
                exact ten_tup (ten_zero hg hlen (by simp_all) hc) (fun h => by cases h) (fun _ => rfl)))
        | (have e1 : (([] : List Int).take 10).take 10 = ([] : List Int).take 10 := List.take_of_length_le (by omega)
           have e2 : (([] : List Int).take 10).drop 10 = [] := List.drop_eq_nil_of_le (by omega)
           have e3 : (normL p ((([] : List Int).take 10).take 10) ++ (([] : List Int).take 10).drop 10).length = 10 := by rw [e1, e2, List.append_nil, normL_length, hlen]
           refine exitQ (.inr rfl) 1 (.cons (.arr rfl rfl rfl rfl e3) (.cons (.tmp rfl rfl) .nil)) ?_ rfl vHn rfl rfl
           rw [e1] at hc
           simp only [e1, e2, List.append_nil]
           exact ten_tup (ten_ok hg hlen (by simp_all) hc) (fun _ => rfl) (fun h => absurd rfl h)))
theorem spec_QuadricOf_con (p : Int) (t : TypeId) (L : List Int) (n k : Nat) (hn : n ≤ L.length) (h6 : n ≤ 1000000) : ConQ Try.prog [] 25 [.int p, .slice 0 0 n k] [(0, .ints t L)] (.tuple [.arr (tenV p (L.take n)), .int (tenC p (L.take n))]) := by
  have hlen : (L.take n).length = n := norm_smallB L n hn
  refine conW tab_ok [(0, .int p), (1, .slice 0 0 n k)] 1 [0] [0] Try.func25 rfl rfl rfl rfl rfl rfl rfl rfl rfl ?_
  refine CW_seq ?_
  refine CW_region ?_
  refine oAlloc rfl rfl rfl rfl rfl rfl rfl ?_
  refine oQ (Q_assign rfl rfl) rfl rfl ?_
  refine OW_nil ?_
  all_goals with_reducible refine tN ?_
  all_goals (
      refine CW_seq ?_
      refine CW_seq ?_
      refine CW_region ?_
      refine oQ (Q_move rfl rfl) rfl rfl ?_
      refine oQ (Q_call0 (l01Prime_con _) rfl rfl rfl) rfl rfl ?_
      refine oQ (Q_not rfl) rfl rfl ?_
      refine oQ (Q_move rfl rfl) rfl rfl ?_
      all_goals first | refine ogT rfl rfl (by with_reducible rfl) ?_ | refine og1 rfl rfl (by with_reducible rfl) rfl ?_ | refine og0 rfl rfl (by with_reducible rfl) rfl ?_ | refine ogP1 rfl rfl rfl (fun hg => ?_) (fun hg => ?_) | refine ogP0 rfl rfl rfl (fun hg => ?_) (fun hg => ?_)
      all_goals try simp only [decide_eq_true_eq, decide_eq_false_iff_not, beq_iff_eq, beq_eq_false_iff_ne, bne_iff_ne, bne_eq_false_iff_eq, Bool.not_eq_true', Bool.not_eq_false', Int.not_lt, Int.not_le, ne_eq, not_false_eq_true] at hg
      all_goals first | (refine oQ (Q_move rfl rfl) rfl rfl ?_) | skip
      all_goals first | refine ogT rfl rfl (by with_reducible rfl) ?_ | refine og1 rfl rfl (by with_reducible rfl) rfl ?_ | refine og0 rfl rfl (by with_reducible rfl) rfl ?_ | refine ogP1 rfl rfl rfl (fun hg => ?_) (fun hg => ?_) | refine ogP0 rfl rfl rfl (fun hg => ?_) (fun hg => ?_)
      all_goals try simp only [decide_eq_true_eq, decide_eq_false_iff_not, beq_iff_eq, beq_eq_false_iff_ne, bne_iff_ne, bne_eq_false_iff_eq, Bool.not_eq_true', Bool.not_eq_false', Int.not_lt, Int.not_le, ne_eq, not_false_eq_true] at hg
      all_goals first | refine oQ (Q_len rfl rfl rfl rfl) rfl rfl ?_ | refine oQ (Q_len0 rfl rfl rfl rfl) rfl rfl ?_ | skip
      all_goals first | refine ogT rfl rfl (by with_reducible rfl) ?_ | refine og1 rfl rfl (by with_reducible rfl) rfl ?_ | refine og0 rfl rfl (by with_reducible rfl) rfl ?_ | refine ogP1 rfl rfl rfl (fun hg => ?_) (fun hg => ?_) | refine ogP0 rfl rfl rfl (fun hg => ?_) (fun hg => ?_)
      all_goals try simp only [decide_eq_true_eq, decide_eq_false_iff_not, beq_iff_eq, beq_eq_false_iff_ne, bne_iff_ne, bne_eq_false_iff_eq, Bool.not_eq_true', Bool.not_eq_false', Int.not_lt, Int.not_le, ne_eq, not_false_eq_true] at hg
      all_goals first | (refine oQ (Q_bin rfl rfl rfl) rfl rfl ?_) | skip
      all_goals first | refine oQ (Q_pick_t rfl (by with_reducible rfl) rfl rfl) rfl rfl ?_ | refine oQ (Q_pick_f rfl (by with_reducible rfl) rfl rfl) rfl rfl ?_
      all_goals refine OW_nil ?_
      all_goals with_reducible refine tN ?_
      all_goals (
          first | refine CW_cond_t rfl (by with_reducible rfl) ?_ | refine CW_cond_f rfl (by with_reducible rfl) ?_ | refine CW_cond rfl (fun hc => ?_) (fun hc => ?_)
          all_goals try simp only [decide_eq_true_eq, decide_eq_false_iff_not, beq_iff_eq, beq_eq_false_iff_ne, bne_iff_ne, bne_eq_false_iff_eq, Bool.not_eq_true', Bool.not_eq_false', Int.not_lt, Int.not_le, ne_eq, not_false_eq_true] at hc
          all_goals first
            | (
              refine CW_skip ?_)
            | (
              refine CW_seq ?_
              refine CW_region ?_
              refine oQ (Q_build rfl rfl rfl rfl rfl rfl rfl rfl) rfl rfl ?_
              first | refine oStw rfl rfl rfl rfl (by first | omega | (dsimp only; omega) | (simp; omega) | (simp; done)) (by first | omega | (dsimp only; omega) | (simp; omega) | (simp; done)) ?_ | refine oSta rfl rfl rfl rfl (by first | omega | (dsimp only; omega) | (simp; omega) | (simp; done)) (by first | omega | (dsimp only; omega) | (simp; omega) | (simp; done)) ?_
              refine oQ (Q_assign rfl rfl) rfl rfl ?_
              refine OW_nil ?_
              all_goals with_reducible refine tN ?_
              all_goals (
                  refine CW_ret ?_)))
      all_goals first
        | with_reducible refine tR ?_
        | with_reducible refine tE ?_
        | (
          with_reducible refine tN ?_
          refine CW_seq ?_
          refine CW_region ?_
          refine oBsl (zl := []) rfl rfl rfl rfl (.inl ⟨rfl, rfl⟩) rfl rfl rfl rfl rfl rfl ?_
          refine oQ (Q_assign rfl rfl) rfl rfl ?_
          refine OW_nil ?_
          all_goals with_reducible refine tN ?_
          all_goals (
              refine CW_seq ?_
              refine CW_seq ?_
              refine CW_region ?_
              refine oQ (Q_assign rfl rfl) rfl rfl ?_
              refine OW_nil ?_
              all_goals with_reducible refine tN ?_
              all_goals (
                  refine CW_block ?_
                  (have e10 : n = 10 := by omega)
                  (subst e10)
                  refine CW_loop (ι := Nat × Nat × List Int) (fun x => x.1 ≤ 10 ∧ smallB (L.take x.1) = true ∧ x.1 ≤ x.2.1 ∧ x.2.1 ≤ x.1 + x.2.2.length) (fun x => ⟨[(0, .int p), (1, .slice 0 0 10 k), (4, .ptr 1 0), (6, .slice 2 0 x.1 x.2.1), (7, .int x.1)], [(0, .ints t L), (1, .ints 24 zero10), (2, .ints 2 ((L.take x.1).map (· % p) ++ x.2.2))], 3⟩) (fun x => 10 - x.1) (0, 0, []) ?_ ?_ ?_
                  · exact ⟨Nat.zero_le _, rfl, Nat.le_refl _, Nat.le_refl _⟩
                  · refine View.mk' [] rfl rfl rfl ?_ ?_
                    repeat' first | exact vFn | refine vFc rfl ?_ | exact vHn | refine vHc rfl ?_ | refine vFc (congrArg (fun z => some (V.int z)) ?_) ?_ | refine vHc (congrArg (fun z => some (Blk.ints _ z)) ?_) ?_ | refine vFc (congrArg (fun z => some (V.bool z)) ?_) ?_
                  rintro ⟨i, k', sp⟩ ⟨hi, hs, hi2, hi3⟩
                  dsimp only at hi hs hi2 hi3 ⊢
                  have hlen2 : ((L.take i).map (· % p)).length = i * 1 := by simp; omega
                  refine CW_seq ?_
                  refine CW_seq ?_
                  refine CW_region ?_
                  refine oQ (Q_move rfl rfl) rfl rfl ?_
                  refine oQ (Q_bin rfl rfl rfl) rfl rfl ?_
                  refine OW_nil ?_
                  all_goals with_reducible refine tN ?_
                  all_goals (
                      first | refine CW_cond_t rfl (by with_reducible rfl) ?_ | refine CW_cond_f rfl (by with_reducible rfl) ?_ | refine CW_cond rfl (fun hc => ?_) (fun hc => ?_)
                      all_goals try simp only [decide_eq_true_eq, decide_eq_false_iff_not, beq_iff_eq, beq_eq_false_iff_ne, bne_iff_ne, bne_eq_false_iff_eq, Bool.not_eq_true', Bool.not_eq_false', Int.not_lt, Int.not_le, ne_eq, not_false_eq_true] at hc
                      all_goals first
                        | (
                          refine CW_skip ?_)
                        | (
                          refine CW_exit ?_))
                  all_goals first
                    | with_reducible refine tR ?_
                    | with_reducible refine tE ?_
                    | (
                      with_reducible refine tN ?_
                      refine CW_seq ?_
                      refine CW_block ?_
                      refine CW_seq ?_
                      refine CW_seq ?_
                      refine CW_region ?_
                      refine oQ (Q_move rfl rfl) rfl rfl ?_
                      refine oQ (Q_move rfl rfl) rfl rfl ?_
                      first | refine oQ (Q_ixs0 rfl rfl rfl rfl rfl rfl (by first | omega | (dsimp only; omega) | (simp; omega) | (simp; done))) rfl rfl ?_ | refine oQ (Q_ixs1 rfl rfl rfl rfl rfl rfl (by first | omega | (dsimp only; omega) | (simp; omega) | (simp; done))) rfl rfl ?_
                      refine oQ (Q_ld rfl rfl rfl rfl (by first | omega | (dsimp only; omega) | (simp; omega) | (simp; done))) rfl rfl ?_
                      refine oQ (Q_call0 (l01In_con _ _ _) rfl rfl rfl) rfl rfl ?_
                      refine oQ (Q_not rfl) rfl rfl ?_
                      refine OW_nil ?_
                      all_goals with_reducible refine tN ?_
                      all_goals (
                          first | refine CW_cond_t rfl (by with_reducible rfl) ?_ | refine CW_cond_f rfl (by with_reducible rfl) ?_ | refine CW_cond rfl (fun hc => ?_) (fun hc => ?_)
                          all_goals try simp only [decide_eq_true_eq, decide_eq_false_iff_not, beq_iff_eq, beq_eq_false_iff_ne, bne_iff_ne, bne_eq_false_iff_eq, Bool.not_eq_true', Bool.not_eq_false', Int.not_lt, Int.not_le, ne_eq, not_false_eq_true] at hc
                          all_goals first
                            | (
                              refine CW_skip ?_)
                            | (
                              refine CW_seq ?_
                              refine CW_region ?_
                              refine oQ (Q_build rfl rfl rfl rfl rfl rfl rfl rfl) rfl rfl ?_
                              first | refine oStw rfl rfl rfl rfl (by first | omega | (dsimp only; omega) | (simp; omega) | (simp; done)) (by first | omega | (dsimp only; omega) | (simp; omega) | (simp; done)) ?_ | refine oSta rfl rfl rfl rfl (by first | omega | (dsimp only; omega) | (simp; omega) | (simp; done)) (by first | omega | (dsimp only; omega) | (simp; omega) | (simp; done)) ?_
                              refine oQ (Q_assign rfl rfl) rfl rfl ?_
                              refine OW_nil ?_
                              all_goals with_reducible refine tN ?_
                              all_goals (
                                  refine CW_ret ?_)))
                      all_goals first
                        | with_reducible refine tR ?_
                        | with_reducible refine tE ?_
                        | (
                          with_reducible refine tN ?_
                          refine CW_region ?_
                          refine oQ (Q_move rfl rfl) rfl rfl ?_
                          refine oQ (Q_move rfl rfl) rfl rfl ?_
                          refine oQ (Q_move rfl rfl) rfl rfl ?_
                          refine oQ (Q_move rfl rfl) rfl rfl ?_
                          first | refine oQ (Q_ixs0 rfl rfl rfl rfl rfl rfl (by first | omega | (dsimp only; omega) | (simp; omega) | (simp; done))) rfl rfl ?_ | refine oQ (Q_ixs1 rfl rfl rfl rfl rfl rfl (by first | omega | (dsimp only; omega) | (simp; omega) | (simp; done))) rfl rfl ?_
                          refine oQ (Q_ld rfl rfl rfl rfl (by first | omega | (dsimp only; omega) | (simp; omega) | (simp; done))) rfl rfl ?_
                          (have hb := prime_bd hg); refine oQ (Q_call0 (l01Mod_con _ _ (by omega) (by omega)) rfl rfl rfl) rfl rfl ?_
                          refine oBsl (zl := []) rfl rfl rfl rfl (.inl ⟨rfl, rfl⟩) rfl rfl rfl rfl rfl rfl ?_
                          refine oApp (sz := 1) (by_ := 8) rfl rfl rfl rfl rfl rfl ⟨by decide, rfl, .inl ⟨rfl, rfl⟩⟩ rfl rfl rfl rfl rfl rfl hlen2 rfl (by omega) hi2 (by omega) (by omega) rfl rfl (fun k2 sp2 h1 h2 => ?_)
                          refine oQ (Q_assign rfl rfl) rfl rfl ?_
                          refine OW_nil ?_)
                      all_goals first | with_reducible refine bN ?_ | with_reducible refine bE ?_ | with_reducible refine bR ?_ | refine bX rfl ?_
                      all_goals first
                        | with_reducible refine tR ?_
                        | with_reducible refine tE ?_
                        | (
                          with_reducible refine tN ?_
                          refine CW_region ?_
                          refine oQ (Q_move rfl rfl) rfl rfl ?_
                          first | refine oQ (Q_binu rfl rfl rfl (by omega)) rfl rfl ?_ | refine oQ (Q_bin rfl rfl rfl) rfl rfl ?_
                          refine oQ (Q_assign rfl rfl) rfl rfl ?_
                          refine OW_nil ?_))
                  all_goals first
                    | with_reducible refine tR ?_
                    | with_reducible refine tE ?_
                    | (
                      with_reducible refine tN ?_
                      refine ⟨(i + 1, k2, sp2), ?_, ?_, View.mk' [(2, 4)] rfl rfl rfl ?_ ?_⟩
                      · exact ⟨by omega, smallB_snoc (by omega) hs (by simp_all) (by simp_all), by simpa using h1, by simpa using h2⟩
                      · omega
                      all_goals (repeat' first | exact vFn | refine vFc rfl ?_ | exact vHn | refine vHc rfl ?_ | refine vFc (congrArg (fun z => some (V.int z)) ?_) ?_ | refine vHc (congrArg (fun z => some (Blk.ints _ z)) ?_) ?_ | refine vFc (congrArg (fun z => some (V.bool z)) ?_) ?_)
                      all_goals (refine congrArg (fun z => z ++ sp2) ?_; rw [take_snoc (show i < L.length by omega)]; simp))
                  all_goals first | with_reducible refine bN ?_ | with_reducible refine bE ?_ | with_reducible refine bR ?_ | refine bX rfl ?_)
              all_goals first
                | with_reducible refine tR ?_
                | with_reducible refine tE ?_
                | (
                  with_reducible refine tN ?_
                  refine CW_seq ?_
                  refine CW_region ?_
                  refine oQ (Q_move rfl rfl) rfl rfl ?_
                  refine oQ (Q_move rfl rfl) rfl rfl ?_
                  (have e : i = 10 := by omega)
                  (subst e)
                  refine oQ (Q_call (l08Made_con p 2 ((L.take 10).map (· % p) ++ sp) k' (by simp; omega) hg) [(0, 2)] rfl rfl (Fits.mk' (vHc rfl vHn) rfl rfl (by simp)) rfl rfl) rfl rfl ?_
                  (have e2 : ((L.take 10).map (· % p) ++ sp).take 10 = (L.take 10).map (· % p) := by rw [List.take_append_of_le_length (by simp; omega), List.take_of_length_le (by simp; omega)])
                  simp only [e2, norm_mod, fac_mod]
                  (have hnl : (normL p (L.take 10)).length = 10 := by rw [normL_length, hlen])
                  refine oQ (Q_move rfl rfl) rfl rfl ?_
                  refine oQ (Q_extract rfl rfl) rfl rfl ?_
                  refine oQ (Q_extract rfl rfl) rfl rfl ?_
                  refine oAlloc rfl rfl rfl rfl rfl rfl rfl ?_
                  first | refine oStw rfl rfl rfl rfl (by first | omega | (dsimp only; omega) | (simp; omega) | (simp; done)) (by first | omega | (dsimp only; omega) | (simp; omega) | (simp; done)) ?_ | refine oSta rfl rfl rfl rfl (by first | omega | (dsimp only; omega) | (simp; omega) | (simp; done)) (by first | omega | (dsimp only; omega) | (simp; omega) | (simp; done)) ?_
                  refine oQ (Q_assign rfl rfl) rfl rfl ?_
                  refine OW_nil ?_
                  all_goals with_reducible refine tN ?_
                  all_goals (
                      refine CW_seq ?_
                      refine CW_seq ?_
                      refine CW_region ?_
                      refine oQ (Q_move rfl rfl) rfl rfl ?_
                      refine oQ (Q_not rfl) rfl rfl ?_
                      refine OW_nil ?_
                      all_goals with_reducible refine tN ?_
                      all_goals (
                          first | refine CW_cond_t rfl (by with_reducible rfl) ?_ | refine CW_cond_f rfl (by with_reducible rfl) ?_ | refine CW_cond rfl (fun hc => ?_) (fun hc => ?_)
                          all_goals try simp only [decide_eq_true_eq, decide_eq_false_iff_not, beq_iff_eq, beq_eq_false_iff_ne, bne_iff_ne, bne_eq_false_iff_eq, Bool.not_eq_true', Bool.not_eq_false', Int.not_lt, Int.not_le, ne_eq, not_false_eq_true] at hc
                          all_goals first
                            | (
                              refine CW_skip ?_)
                            | (
                              refine CW_seq ?_
                              refine CW_region ?_
                              refine oQ (Q_build rfl rfl rfl rfl rfl rfl rfl rfl) rfl rfl ?_
                              first | refine oStw rfl rfl rfl rfl (by first | omega | (dsimp only; omega) | (simp; omega) | (simp; done)) (by first | omega | (dsimp only; omega) | (simp; omega) | (simp; done)) ?_ | refine oSta rfl rfl rfl rfl (by first | omega | (dsimp only; omega) | (simp; omega) | (simp; done)) (by first | omega | (dsimp only; omega) | (simp; omega) | (simp; done)) ?_
                              refine oQ (Q_assign rfl rfl) rfl rfl ?_
                              refine OW_nil ?_
                              all_goals with_reducible refine tN ?_
                              all_goals (
                                  refine CW_ret ?_)))
                      all_goals first
                        | with_reducible refine tR ?_
                        | with_reducible refine tE ?_
                        | (
                          with_reducible refine tN ?_
                          refine CW_seq ?_
                          refine CW_region ?_
                          first | refine oQ (Q_ldw rfl rfl rfl rfl (by first | omega | (dsimp only; omega) | (simp; omega) | (simp; done))) rfl rfl ?_ | refine oQ (Q_lda rfl rfl rfl rfl rfl (by first | omega | (dsimp only; omega) | (simp; omega) | (simp; done))) rfl rfl ?_
                          first | refine oStw rfl rfl rfl rfl (by first | omega | (dsimp only; omega) | (simp; omega) | (simp; done)) (by first | omega | (dsimp only; omega) | (simp; omega) | (simp; done)) ?_ | refine oSta rfl rfl rfl rfl (by first | omega | (dsimp only; omega) | (simp; omega) | (simp; done)) (by first | omega | (dsimp only; omega) | (simp; omega) | (simp; done)) ?_
                          refine oQ (Q_assign rfl rfl) rfl rfl ?_
                          refine OW_nil ?_
                          all_goals with_reducible refine tN ?_
                          all_goals (
                              refine CW_ret ?_)))))))
  all_goals (
      first
        | (refine exitQ (.inr rfl) 1 (.cons (.arr rfl rfl rfl rfl rfl) (.cons (.tmp rfl rfl) .nil)) ?_ rfl (vHc rfl vHn) rfl rfl
           first
             | exact ten_tup (ten_prime hg) (fun h => by cases h) (fun _ => rfl)
             | exact ten_tup (ten_len (by omega)) (fun h => by cases h) (fun _ => rfl)
             | exact ten_tup (ten_small (smallB_fail (by omega) (by omega) hc)) (fun h => by cases h) (fun _ => rfl)
             | exact ten_tup (ten_zero hg hlen hs hc) (fun h => by cases h) (fun _ => rfl))
        | (refine exitQ (.inr rfl) 1 (.cons (.arr rfl rfl rfl rfl hnl) (.cons (.tmp rfl rfl) .nil)) ?_ rfl (vHc rfl vHn) rfl rfl
           exact ten_tup (ten_ok hg hlen hs hc) (fun _ => rfl) (fun h => absurd rfl h)))
end Go.Proofs.Ytkjbfdjbbgbgdaa
