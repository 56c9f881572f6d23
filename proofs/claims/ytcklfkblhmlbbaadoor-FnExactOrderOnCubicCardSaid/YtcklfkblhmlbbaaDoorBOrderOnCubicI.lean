/- What the last text of OrderOnCubic needs, part 9: contracts of functions and plain mathematics. No conditions beyond those each theorem states. -/
import Derived.Test.YtcklfkblhmlbbaaDoorBOrderOnCubicH
namespace Go.Proofs.YtcklfkblhmlbbaaDoor
set_option maxRecDepth 10000
set_option linter.unusedSimpArgs false
set_option linter.unusedVariables false
def mkN (n : Nat) : Nat → Nat
  | 0 => 0
  | k + 1 => mkN n k + exF n k
theorem mk_f {n k r : Nat} (hn : n < 10) (hk : k < 3) (h0 : 0 < r) (hr : r ≤ exF n k) : cuF n (mkN n k + (exF n k - r)) = k ∧ mkN n k + (exF n k - r) < 3 := by
  have h := (show ∀ n : Fin 10, ∀ k : Fin 3, ∀ r : Fin 4, 0 < r.1 → r.1 ≤ exF n.1 k.1 → cuF n.1 (mkN n.1 k.1 + (exF n.1 k.1 - r.1)) = k.1 ∧ mkN n.1 k.1 + (exF n.1 k.1 - r.1) < 3 by decide) ⟨n, hn⟩ ⟨k, hk⟩ ⟨r, by have := ex_le hn hk; omega⟩
  exact h h0 hr
theorem mk_3 {n : Nat} (hn : n < 10) : mkN n 3 = 3 := (show ∀ n : Fin 10, mkN n.1 3 = 3 by decide) ⟨n, hn⟩
@[simp] theorem nxL_len (p x y : Int) (P : List Int) : ∀ j, (nxL p x y P j).length = P.length + 1
  | 0 => by simp [nxL]
  | j + 1 => by simp [nxL, nxH, nxL_len p x y P j]
@[simp] theorem plM_len (p : Int) (c u v : List Int) (n : Nat) : ∀ m, (plM p c u v n m).length = m + 1
  | 0 => rfl
  | m + 1 => by simp [plM, mulL, plM_len p c u v n m]
theorem sm_set {B : Int} {l : List Int} {i : Nat} {x : Int} (h : smN B l) (hx : 0 ≤ x ∧ x ≤ B) : smN B (l.set i x) := fun y hy => by
  rcases List.mem_or_eq_of_mem_set hy with h1 | rfl
  · exact h y h1
  · exact hx
theorem em_b {p : Int} (hp : primeB p = true) (x : Int) : 0 ≤ x % p ∧ x % p ≤ 12 := by
  have hb := prime_bd hp
  have h1 := Int.emod_nonneg x (show p ≠ 0 by omega)
  have h2 := Int.emod_lt_of_pos x (show 0 < p by omega)
  omega
theorem nxL_sm {p : Int} (hp : primeB p = true) (x y : Int) (P : List Int) : ∀ j, smN 12 (nxL p x y P j)
  | 0 => fun z hz => by rw [List.eq_of_mem_replicate hz]; decide
  | j + 1 => sm_set (sm_set (nxL_sm hp x y P j) (em_b hp _)) (em_b hp _)
theorem nxH_sm {p : Int} (hp : primeB p = true) (x y : Int) (P : List Int) (j : Nat) : smN 12 (nxH p x P (nxL p x y P j) j) := sm_set (nxL_sm hp x y P j) (em_b hp _)
theorem plM_sm {p : Int} (hp : primeB p = true) {c : List Int} (qc : smN 12 c) (u v : List Int) (n : Nat) : ∀ m, smN 12 (plM p c u v n m)
  | 0 => fun z hz => by
    simp only [plM, List.mem_singleton] at hz
    subst hz; exact smN_get qc (by decide) n
  | m + 1 => nxL_sm hp _ _ _ _
def lnP (p : Int) (c u v : List Int) (n j : Nat) (i : Nat) : Int := if i < j then ((lnO p c u v n).getD i 0 + (plM p c u v n 3).getD i 0) % p else (lnO p c u v n).getD i 0
def lnL (p : Int) (c u v : List Int) (n j : Nat) : List Int := [lnP p c u v n j 0, lnP p c u v n j 1, lnP p c u v n j 2, lnP p c u v n j 3]
@[simp] theorem lnL_len (p : Int) (c u v : List Int) (n j : Nat) : (lnL p c u v n j).length = 4 := rfl
@[simp] theorem lnO_len (p : Int) (c u v : List Int) : ∀ n, (lnO p c u v n).length = 4
  | 0 => rfl
  | n + 1 => rfl
theorem lnL_zero (p : Int) (c u v : List Int) (n : Nat) : lnL p c u v n 0 = lnO p c u v n := by
  have h := lnO_len p c u v n
  simp only [lnL, lnP, Nat.not_lt_zero, if_false]
  generalize lnO p c u v n = L at *
  match L, h with
  | [a, b, c, d], _ => rfl
theorem lnL_end (p : Int) (c u v : List Int) (n : Nat) : lnL p c u v n 4 = lnO p c u v (n + 1) := by simp [lnL, lnP, lnO]
theorem lnL_set {p : Int} {c u v : List Int} {n j : Nat} (hj : j < 4) : (lnL p c u v n j).set j (((lnO p c u v n).getD j 0 + (plM p c u v n 3).getD j 0) % p) = lnL p c u v n (j + 1) := by
  have h : j = 0 ∨ j = 1 ∨ j = 2 ∨ j = 3 := by omega
  rcases h with rfl | rfl | rfl | rfl <;> simp [lnL, lnP]
theorem lnL_get {p : Int} {c u v : List Int} {n j : Nat} (hj : j < 4) : (lnL p c u v n j).getD j 0 = (lnO p c u v n).getD j 0 := by
  have h : j = 0 ∨ j = 1 ∨ j = 2 ∨ j = 3 := by omega
  rcases h with rfl | rfl | rfl | rfl <;> simp [lnL, lnP]
theorem lnO_sm {p : Int} (hp : primeB p = true) (c u v : List Int) : ∀ n, smN 12 (lnO p c u v n)
  | 0 => fun z hz => by simp [lnO] at hz; omega
  | n + 1 => fun z hz => by
    simp only [lnO, List.mem_cons, List.not_mem_nil, or_false] at hz
    rcases hz with rfl | rfl | rfl | rfl <;> exact em_b hp _
theorem ex_get {n k : Nat} (hn : n < 10) (hk : k < 3) : exT.getD (n * 3 + k) 0 = (exF n k : Int) := (show ∀ n : Fin 10, ∀ k : Fin 3, exT.getD (n.1 * 3 + k.1) 0 = (exF n.1 k.1 : Int) by decide) ⟨n, hn⟩ ⟨k, hk⟩
attribute [local irreducible] CW OW QW QOp Con thenP inBlockP AW QX RW
theorem l06Line_con (p : Int) (c u v : List Int) (hp : primeB p = true) (hcl : c.length = 10) (hul : u.length = 3) (hvl : v.length = 3) (qc : smN 12 c) (qu : smN 12 u) (qv : smN 12 v) : Con Tryd.prog [] 92 [.int p, .arr c, .arr u, .arr v] [] (fun r H' => r = .slice 0 0 4 4 ∧ H' = [(0, .ints 2 (lnO p c u v 10))]) := by
  have hpb := prime_bd hp
  have hsl : exT.length = 30 := rfl
  refine conW tab_ok [(0, .int p), (1, .arr c), (2, .arr u), (3, .arr v)] 0 [] [] Tryd.func92 rfl rfl rfl rfl rfl rfl rfl rfl rfl ?_
  refine cR ?_
  iterate 3 refine oBox rfl rfl rfl rfl rfl rfl ?_
  refine oA rfl rfl ?_
  refine oN ?_
  refine CW_seq ?_
  refine CW_any (fun i => List.elem i [4]) 5 rfl lateOk (by decide +kernel) (fun hst => ?_)
  refine aQ 1 hst rfl rfl (by decide +kernel) (QX_call0 (l06Products_con) rfl rfl rfl) rfl rfl ?_
  refine AW_two (i := 0) (j := 2) (by decide +kernel) ?_ ?_
  all_goals first
    | (
     refine gMk rfl rfl rfl rfl rfl ⟨by decide, rfl, .inl ⟨rfl, rfl⟩⟩ rfl rfl rfl (by first | omega | (dsimp only; omega) | (simp; omega) | (simp; done)) (by first | omega | (dsimp only; omega) | (simp; omega) | (simp; done)) (by first | omega | (dsimp only; omega) | (simp; omega) | (simp; done)) rfl rfl ?_
     refine AW_one (i := 2) (by decide +kernel) ?_
     refine gAlloc rfl rfl rfl rfl rfl rfl rfl rfl rfl ?_
     refine aQ 3 hst rfl rfl (by decide +kernel) (QX_of (Q_assign rfl rfl) NE_assign) rfl rfl ?_
     refine AW_last [4] rfl (by decide +kernel) rfl ?_
     first | refine oSw rfl rfl rfl rfl ?_ | refine oSa rfl rfl rfl rfl ?_
     refine OW_nil (npN ?_))
    | (
     refine gAlloc rfl rfl rfl rfl rfl rfl rfl rfl rfl ?_
     refine AW_one (i := 0) (by decide +kernel) ?_
     refine gMk rfl rfl rfl rfl rfl ⟨by decide, rfl, .inl ⟨rfl, rfl⟩⟩ rfl rfl rfl (by first | omega | (dsimp only; omega) | (simp; omega) | (simp; done)) (by first | omega | (dsimp only; omega) | (simp; omega) | (simp; done)) (by first | omega | (dsimp only; omega) | (simp; omega) | (simp; done)) rfl rfl ?_
     refine aQ 3 hst rfl rfl (by decide +kernel) (QX_of (Q_assign rfl rfl) NE_assign) rfl rfl ?_
     refine AW_last [4] rfl (by decide +kernel) rfl ?_
     first | refine oSw rfl rfl rfl rfl ?_ | refine oSa rfl rfl rfl rfl ?_
     refine OW_nil (npN ?_))
  all_goals with_reducible refine tN ?_
  all_goals (
   refine CW_seq ?_
   refine cR ?_
   refine oA rfl rfl ?_
   refine oN ?_
   refine CW_block ?_
   refine CW_loop (ι := Nat) (fun n => n ≤ 10) (fun n => ⟨[(0, .int p), (5, .ptr 0 0), (6, .ptr 1 0), (7, .ptr 2 0), (9, .slice 3 0 4 4), (10, .ptr 4 0), (11, .int (n : Nat))], [(0, .ints 27 c), (1, .ints 29 u), (2, .ints 29 v), (3, .ints 2 (lnO p c u v n)), (4, .ints 118 exT)], 5⟩) (fun n => 10 - n) 0 ?_ ?_ ?_
   · first | trivial | omega | (simp; done) | (simp; omega)
   · first
       | (refine View.mk' [] rfl rfl rfl ?_ ?_
          repeat' first | exact vFn | refine vFc rfl ?_ | exact vHn | refine vHc rfl ?_ | refine vFc (congrArg (fun z => some (V.int z)) ?_) ?_ | refine vHc (congrArg (fun z => some (Blk.ints _ z)) ?_) ?_ | refine vFc (congrArg (fun z => some (V.bool z)) ?_) ?_ | refine vFs rfl rfl ?_ ?_
          done)
       | (refine View.mk' [(3, 4), (4, 3)] rfl rfl rfl ?_ ?_
          repeat' first | exact vFn | refine vFc rfl ?_ | exact vHn | refine vHc rfl ?_ | refine vFc (congrArg (fun z => some (V.int z)) ?_) ?_ | refine vHc (congrArg (fun z => some (Blk.ints _ z)) ?_) ?_ | refine vFc (congrArg (fun z => some (V.bool z)) ?_) ?_ | refine vFs rfl rfl ?_ ?_
          done)
   intro n hn
   have hcn := smN_get qc (by decide) n
   refine CW_seq ?_
   refine cR ?_
   refine oM rfl rfl ?_
   refine oQ (Q_bin rfl rfl rfl) rfl rfl ?_
   refine oN ?_
   first | refine cT rfl ?_ | refine cF rfl ?_ | refine CW_cond rfl (fun hc => ?_) (fun hc => ?_)
   all_goals try simp only [s1, s2, s3, s4, s5, s6, s7, s8, s9, s10, s11, s12] at hc
   all_goals first
     | (
      refine CW_skip ?_)
     | (
      refine CW_exit ?_)
   all_goals first
     | with_reducible refine tR ?_
     | with_reducible refine tE ?_
     | (
      with_reducible refine tN ?_
      refine CW_seq ?_
      refine CW_block ?_
      refine cR ?_
      refine oM rfl rfl ?_
      first | refine oQ (Ia0 rfl rfl rfl rfl rfl rfl) rfl rfl ?_ | refine oQ (Ia1 rfl rfl rfl rfl rfl rfl) rfl rfl ?_
      refine oQ (Ld rfl rfl rfl rfl) rfl rfl ?_
      (have hn10 : n < 10 := by omega); refine oBsl (zl := []) (r := [_]) rfl rfl rfl rfl (.inl ⟨rfl, rfl⟩) rfl rfl rfl rfl rfl rfl ?_
      refine oA rfl rfl ?_
      refine oN ?_
      refine CW_seq ?_
      refine cR ?_
      refine oA rfl rfl ?_
      refine oN ?_
      refine CW_block ?_
      refine CW_loop (ι := Nat) (fun k => k ≤ 3) (fun k => ⟨[(0, .int p), (5, .ptr 0 0), (6, .ptr 1 0), (7, .ptr 2 0), (9, .slice 3 0 4 4), (10, .ptr 4 0), (11, .int (n : Nat)), (12, .slice 5 0 (mkN n k + 1) (mkN n k + 1)), (13, .int (k : Nat))], [(0, .ints 27 c), (1, .ints 29 u), (2, .ints 29 v), (3, .ints 2 (lnO p c u v n)), (4, .ints 118 exT), (5, .ints 2 (plM p c u v n (mkN n k)))], 6⟩) (fun k => 3 - k) 0 ?_ ?_ ?_
      · first | trivial | omega | (simp; done) | (simp; omega)
      · refine View.mk' [] rfl rfl rfl ?_ ?_
        repeat' first | exact vFn | refine vFc rfl ?_ | exact vHn | refine vHc rfl ?_ | refine vFc (congrArg (fun z => some (V.int z)) ?_) ?_ | refine vHc (congrArg (fun z => some (Blk.ints _ z)) ?_) ?_ | refine vFc (congrArg (fun z => some (V.bool z)) ?_) ?_ | refine vFs rfl rfl ?_ ?_
      intro k hk
      refine CW_seq ?_
      refine cR ?_
      refine oM rfl rfl ?_
      refine oQ (Q_bin rfl rfl rfl) rfl rfl ?_
      refine oN ?_
      first | refine cT rfl ?_ | refine cF rfl ?_ | refine CW_cond rfl (fun hc => ?_) (fun hc => ?_)
      all_goals try simp only [s1, s2, s3, s4, s5, s6, s7, s8, s9, s10, s11, s12] at hc
      all_goals first
        | (
         refine CW_skip ?_)
        | (
         refine CW_exit ?_)
      all_goals first
        | with_reducible refine tR ?_
        | with_reducible refine tE ?_
        | (
         with_reducible refine tN ?_
         refine CW_seq ?_
         refine CW_block ?_
         refine cR ?_
         iterate 2 refine oM rfl rfl ?_
         (have hk3 : k < 3 := by omega); (have hel := ex_le hn10 hk3); refine oQ (Q_ixa0z 3 rfl rfl rfl rfl rfl rfl (by omega)) rfl rfl ?_
         first | refine oQ (Ia0 rfl rfl rfl rfl rfl rfl) rfl rfl ?_ | refine oQ (Ia1 rfl rfl rfl rfl rfl rfl) rfl rfl ?_
         refine oQ (Ld rfl rfl rfl rfl) rfl rfl ?_; rw [ex_get hn10 hk3]
         refine oA rfl rfl ?_
         refine oN ?_
         refine CW_block ?_
         refine CW_loop (ι := Nat) (fun r => r ≤ exF n k) (fun r => ⟨[(0, .int p), (5, .ptr 0 0), (6, .ptr 1 0), (7, .ptr 2 0), (9, .slice 3 0 4 4), (10, .ptr 4 0), (11, .int (n : Nat)), (12, .slice 5 0 ((mkN n k + (exF n k - r)) + 1) ((mkN n k + (exF n k - r)) + 1)), (13, .int (k : Nat)), (14, .int (r : Nat))], [(0, .ints 27 c), (1, .ints 29 u), (2, .ints 29 v), (3, .ints 2 (lnO p c u v n)), (4, .ints 118 exT), (5, .ints 2 (plM p c u v n (mkN n k + (exF n k - r))))], 6⟩) (fun r => r) (exF n k) ?_ ?_ ?_
         · first | trivial | omega | (simp; done) | (simp; omega)
         · refine View.mk' [] rfl rfl rfl ?_ ?_ <;> simp only [Nat.sub_self, Nat.add_zero]
           repeat' first | exact vFn | refine vFc rfl ?_ | exact vHn | refine vHc rfl ?_ | refine vFc (congrArg (fun z => some (V.int z)) ?_) ?_ | refine vHc (congrArg (fun z => some (Blk.ints _ z)) ?_) ?_ | refine vFc (congrArg (fun z => some (V.bool z)) ?_) ?_ | refine vFs rfl rfl ?_ ?_
         intro r hr
         have hmf := fun h : 0 < r => mk_f hn10 hk3 h hr
         have hpl := plM_len p c u v n (mkN n k + (exF n k - r))
         have huk := smN_get qu (by decide) k
         have hvk := smN_get qv (by decide) k
         refine CW_seq ?_
         refine cR ?_
         refine oM rfl rfl ?_
         refine oQ (Q_bin rfl rfl rfl) rfl rfl ?_
         refine oN ?_
         first | refine cT rfl ?_ | refine cF rfl ?_ | refine CW_cond rfl (fun hc => ?_) (fun hc => ?_)
         all_goals try simp only [s1, s2, s3, s4, s5, s6, s7, s8, s9, s10, s11, s12] at hc
         all_goals first
           | (
            refine CW_skip ?_)
           | (
            refine CW_exit ?_)
         all_goals first
           | with_reducible refine tR ?_
           | with_reducible refine tE ?_
           | (
            with_reducible refine tN ?_
            refine CW_seq ?_
            refine CW_block ?_
            refine cR ?_
            refine oM rfl rfl ?_
            first | refine oQ (Q_len rfl rfl rfl rfl) rfl rfl ?_ | refine oQ (Q_len0 rfl rfl rfl rfl) rfl rfl ?_
            (have hr0 : 0 < r := by omega); obtain ⟨hm1, hm2⟩ := hmf hr0; refine oQ (Q_binu (z := (((mkN n k + (exF n k - r)) + 2 : Nat) : Int)) rfl rfl (congrArg some (by omega)) (by omega)) rfl rfl ?_
            refine oMk rfl rfl rfl ⟨by decide, rfl, .inl ⟨rfl, rfl⟩⟩ rfl rfl rfl (by first | omega | (dsimp only; omega) | (simp; omega) | (simp; done)) (by first | omega | (dsimp only; omega) | (simp; omega) | (simp; done)) (by first | omega | (dsimp only; omega) | (simp; omega) | (simp; done)) rfl rfl ?_
            refine oA rfl rfl ?_
            refine oN ?_
            refine CW_seq ?_
            refine cR ?_
            refine oA rfl rfl ?_
            refine oN ?_
            refine CW_block ?_
            refine CW_loop (ι := Nat) (fun j => j ≤ (mkN n k + (exF n k - r)) + 1) (fun j => ⟨[(0, .int p), (5, .ptr 0 0), (6, .ptr 1 0), (7, .ptr 2 0), (9, .slice 3 0 4 4), (10, .ptr 4 0), (11, .int (n : Nat)), (12, .slice 5 0 ((mkN n k + (exF n k - r)) + 1) ((mkN n k + (exF n k - r)) + 1)), (13, .int (k : Nat)), (14, .int (r : Nat)), (15, .slice 6 0 ((mkN n k + (exF n k - r)) + 2) ((mkN n k + (exF n k - r)) + 2)), (16, .int (j : Nat))], [(0, .ints 27 c), (1, .ints 29 u), (2, .ints 29 v), (3, .ints 2 (lnO p c u v n)), (4, .ints 118 exT), (5, .ints 2 (plM p c u v n (mkN n k + (exF n k - r)))), (6, .ints 2 (nxL p (u.getD k 0) (v.getD k 0) (plM p c u v n (mkN n k + (exF n k - r))) j))], 7⟩) (fun j => (mkN n k + (exF n k - r)) + 1 - j) 0 ?_ ?_ ?_
            · first | trivial | omega | (simp; done) | (simp; omega)
            · refine View.mk' [] rfl rfl rfl ?_ ?_
              repeat' first | exact vFn | refine vFc rfl ?_ | exact vHn | refine vHc rfl ?_ | refine vFc (congrArg (fun z => some (V.int z)) ?_) ?_ | refine vHc (congrArg (fun z => some (Blk.ints _ z)) ?_) ?_ | refine vFc (congrArg (fun z => some (V.bool z)) ?_) ?_ | refine vFs rfl rfl ?_ ?_
              all_goals simp [nxL]
            intro j hj
            have hnl := nxL_len p (u.getD k 0) (v.getD k 0) (plM p c u v n (mkN n k + (exF n k - r))) j
            have hpj := smN_get (plM_sm hp qc u v n (mkN n k + (exF n k - r))) (by decide) j
            have hnj := smN_get (nxL_sm hp (u.getD k 0) (v.getD k 0) (plM p c u v n (mkN n k + (exF n k - r))) j) (by decide) j
            have hhj := smN_get (nxH_sm hp (u.getD k 0) (v.getD k 0) (plM p c u v n (mkN n k + (exF n k - r))) j) (by decide) (j + 1)
            unfold nxH at hhj
            refine CW_seq ?_
            refine cR ?_
            iterate 2 refine oM rfl rfl ?_
            first | refine oQ (Q_len rfl rfl rfl rfl) rfl rfl ?_ | refine oQ (Q_len0 rfl rfl rfl rfl) rfl rfl ?_
            refine oQ (Q_bin rfl rfl rfl) rfl rfl ?_
            refine oN ?_
            first | refine cT rfl ?_ | refine cF rfl ?_ | refine CW_cond rfl (fun hc => ?_) (fun hc => ?_)
            all_goals try simp only [s1, s2, s3, s4, s5, s6, s7, s8, s9, s10, s11, s12] at hc
            all_goals first
              | (
               refine CW_skip ?_)
              | (
               refine CW_exit ?_)
            all_goals first
              | with_reducible refine tR ?_
              | with_reducible refine tE ?_
              | (
               with_reducible refine tN ?_
               refine CW_seq ?_
               refine CW_block ?_
               refine CW_seq ?_
               refine CW_any (fun i => List.elem i [18]) 19 rfl lateOk (by decide +kernel) (fun hst => ?_)
               refine aP 0 hst rfl rfl (by decide +kernel) (PX_move rfl rfl) rfl rfl ?_
               refine aP 1 hst rfl rfl (by decide +kernel) (PX_move rfl rfl) rfl rfl ?_
               refine aP 2 hst rfl rfl (by decide +kernel) (PX_move rfl rfl) rfl rfl ?_
               refine aP 3 hst rfl rfl (by decide +kernel) (PX_move rfl rfl) rfl rfl ?_
               first | refine aQ 4 hst rfl rfl (by decide +kernel) (QX_of (Is0 rfl rfl rfl rfl rfl rfl) NE_ix) rfl rfl ?_ | refine aQ 4 hst rfl rfl (by decide +kernel) (QX_of (Is1 rfl rfl rfl rfl rfl rfl) NE_ix) rfl rfl ?_
               refine aQ 5 hst rfl rfl (by decide +kernel) (QX_of (Ld rfl rfl rfl rfl) NE_load) rfl rfl ?_
               refine aP 6 hst rfl rfl (by decide +kernel) (PX_move rfl rfl) rfl rfl ?_
               refine aP 7 hst rfl rfl (by decide +kernel) (PX_move rfl rfl) rfl rfl ?_
               first | refine aQ 8 hst rfl rfl (by decide +kernel) (QX_of (Is0 rfl rfl rfl rfl rfl rfl) NE_ix) rfl rfl ?_ | refine aQ 8 hst rfl rfl (by decide +kernel) (QX_of (Is1 rfl rfl rfl rfl rfl rfl) NE_ix) rfl rfl ?_
               refine aQ 9 hst rfl rfl (by decide +kernel) (QX_of (Ld rfl rfl rfl rfl) NE_load) rfl rfl ?_
               refine aP 10 hst rfl rfl (by decide +kernel) (PX_move rfl rfl) rfl rfl ?_
               first | refine aQ 11 hst rfl rfl (by decide +kernel) (QX_of (Ia0 rfl rfl rfl rfl rfl rfl) NE_ix) rfl rfl ?_ | refine aQ 11 hst rfl rfl (by decide +kernel) (QX_of (Ia1 rfl rfl rfl rfl rfl rfl) NE_ix) rfl rfl ?_
               refine aQ 12 hst rfl rfl (by decide +kernel) (QX_of (Ld rfl rfl rfl rfl) NE_load) rfl rfl ?_
               refine aMulN 13 hst rfl rfl (by decide +kernel) 12 12 rfl rfl (by omega) (by omega) (by decide) rfl (fun z64 hz64 hl64 hu64 => ?_)
               first | refine aP 14 hst rfl rfl (by decide +kernel) (PX_binu rfl rfl rfl (by omega)) rfl rfl ?_ | refine aP 14 hst rfl rfl (by decide +kernel) (PX_bin rfl rfl rfl) rfl rfl ?_
               refine aP 15 hst rfl rfl (by decide +kernel) (PX_move rfl rfl) rfl rfl ?_
               refine aRemN 16 hst rfl rfl (by decide +kernel) rfl rfl (by omega) (by omega) rfl (fun z67 hz67 hl67 hu67 => ?_)
               first | refine aQ 17 hst rfl rfl (by decide +kernel) (QX_of (Is0 rfl rfl rfl rfl rfl rfl) NE_ix) rfl rfl ?_ | refine aQ 17 hst rfl rfl (by decide +kernel) (QX_of (Is1 rfl rfl rfl rfl rfl rfl) NE_ix) rfl rfl ?_
               refine AW_last [18] rfl (by decide +kernel) rfl ?_
               refine oS rfl rfl rfl rfl rfl ?_
               refine OW_nil (npN ?_)
               all_goals with_reducible refine tN ?_
               all_goals (
                refine CW_any (fun i => List.elem i [20]) 21 rfl lateOk (by decide +kernel) (fun hst => ?_)
                subst hz67 hz64; refine aP 0 hst rfl rfl (by decide +kernel) (PX_move rfl rfl) rfl rfl ?_
                refine aP 1 hst rfl rfl (by decide +kernel) (PX_move rfl rfl) rfl rfl ?_
                first | refine aP 2 hst rfl rfl (by decide +kernel) (PX_binu rfl rfl rfl (by omega)) rfl rfl ?_ | refine aP 2 hst rfl rfl (by decide +kernel) (PX_bin rfl rfl rfl) rfl rfl ?_
                refine aP 3 hst rfl rfl (by decide +kernel) (PX_move rfl rfl) rfl rfl ?_
                refine aP 4 hst rfl rfl (by decide +kernel) (PX_move rfl rfl) rfl rfl ?_
                first | refine aP 5 hst rfl rfl (by decide +kernel) (PX_binu rfl rfl rfl (by omega)) rfl rfl ?_ | refine aP 5 hst rfl rfl (by decide +kernel) (PX_bin rfl rfl rfl) rfl rfl ?_
                first | refine aQ 6 hst rfl rfl (by decide +kernel) (QX_of (Is0 rfl rfl rfl rfl rfl rfl) NE_ix) rfl rfl ?_ | refine aQ 6 hst rfl rfl (by decide +kernel) (QX_of (Is1 rfl rfl rfl rfl rfl rfl) NE_ix) rfl rfl ?_
                refine aQ 7 hst rfl rfl (by decide +kernel) (QX_of (v := .int (((nxL p (u.getD k 0) (v.getD k 0) (plM p c u v n (mkN n k + (exF n k - r))) j).set j (((nxL p (u.getD k 0) (v.getD k 0) (plM p c u v n (mkN n k + (exF n k - r))) j).getD j 0 + (plM p c u v n (mkN n k + (exF n k - r))).getD j 0 * u.getD k 0) % p)).getD (j + 1) 0)) (Ld rfl rfl rfl rfl) NE_load) rfl rfl ?_
                refine aP 8 hst rfl rfl (by decide +kernel) (PX_move rfl rfl) rfl rfl ?_
                refine aP 9 hst rfl rfl (by decide +kernel) (PX_move rfl rfl) rfl rfl ?_
                first | refine aQ 10 hst rfl rfl (by decide +kernel) (QX_of (Is0 rfl rfl rfl rfl rfl rfl) NE_ix) rfl rfl ?_ | refine aQ 10 hst rfl rfl (by decide +kernel) (QX_of (Is1 rfl rfl rfl rfl rfl rfl) NE_ix) rfl rfl ?_
                refine aQ 11 hst rfl rfl (by decide +kernel) (QX_of (Ld rfl rfl rfl rfl) NE_load) rfl rfl ?_
                refine aP 12 hst rfl rfl (by decide +kernel) (PX_move rfl rfl) rfl rfl ?_
                first | refine aQ 13 hst rfl rfl (by decide +kernel) (QX_of (Ia0 rfl rfl rfl rfl rfl rfl) NE_ix) rfl rfl ?_ | refine aQ 13 hst rfl rfl (by decide +kernel) (QX_of (Ia1 rfl rfl rfl rfl rfl rfl) NE_ix) rfl rfl ?_
                refine aQ 14 hst rfl rfl (by decide +kernel) (QX_of (Ld rfl rfl rfl rfl) NE_load) rfl rfl ?_
                refine aMulN 15 hst rfl rfl (by decide +kernel) 12 12 rfl rfl (by omega) (by omega) (by decide) rfl (fun z84 hz84 hl84 hu84 => ?_)
                first | refine aP 16 hst rfl rfl (by decide +kernel) (PX_binu rfl rfl rfl (by omega)) rfl rfl ?_ | refine aP 16 hst rfl rfl (by decide +kernel) (PX_bin rfl rfl rfl) rfl rfl ?_
                refine aP 17 hst rfl rfl (by decide +kernel) (PX_move rfl rfl) rfl rfl ?_
                refine aRemN 18 hst rfl rfl (by decide +kernel) rfl rfl (by omega) (by omega) rfl (fun z87 hz87 hl87 hu87 => ?_)
                first | refine aQ 19 hst rfl rfl (by decide +kernel) (QX_of (Is0 rfl rfl rfl rfl rfl rfl) NE_ix) rfl rfl ?_ | refine aQ 19 hst rfl rfl (by decide +kernel) (QX_of (Is1 rfl rfl rfl rfl rfl rfl) NE_ix) rfl rfl ?_
                refine AW_last [20] rfl (by decide +kernel) rfl ?_
                refine oS rfl rfl rfl rfl rfl ?_
                refine OW_nil (npN ?_))
               all_goals first | with_reducible refine bN ?_ | with_reducible refine bE ?_ | with_reducible refine bR ?_ | refine bX rfl ?_
               all_goals with_reducible refine tN ?_
               all_goals (
                refine CW_region ?_
                refine oM rfl rfl ?_
                first | refine oQ (Q_binu rfl rfl rfl (by omega)) rfl rfl ?_ | refine oQ (Q_bin rfl rfl rfl) rfl rfl ?_
                refine oA rfl rfl ?_
                refine OW_nil ?_))
            all_goals first
              | with_reducible refine tR ?_
              | with_reducible refine tE ?_
              | (
               with_reducible refine tN ?_
               refine ⟨j + 1, ?_, ?_, View.mk' [] rfl rfl rfl ?_ ?_⟩
               · omega
               · omega
               all_goals (repeat' first | exact vFn | refine vFc rfl ?_ | exact vHn | refine vHc rfl ?_ | refine vFc (congrArg (fun z => some (V.int z)) ?_) ?_ | refine vHc (congrArg (fun z => some (Blk.ints _ z)) ?_) ?_ | refine vFc (congrArg (fun z => some (V.bool z)) ?_) ?_ | refine vFs rfl rfl ?_ ?_)
               all_goals subst hz87 hz84
               all_goals rfl)
            all_goals first | with_reducible refine bN ?_ | with_reducible refine bE ?_ | with_reducible refine bR ?_ | refine bX rfl ?_
            all_goals with_reducible refine tN ?_
            all_goals (
             refine CW_region ?_
             refine oM rfl rfl ?_
             refine oA rfl rfl ?_
             refine OW_nil ?_)
            all_goals first | with_reducible refine bN ?_ | with_reducible refine bE ?_ | with_reducible refine bR ?_ | refine bX rfl ?_
            all_goals with_reducible refine tN ?_
            all_goals (
             refine CW_region ?_
             refine oM rfl rfl ?_
             first | refine oQ (Q_binu rfl rfl rfl (by omega)) rfl rfl ?_ | refine oQ (Q_bin rfl rfl rfl) rfl rfl ?_
             refine oA rfl rfl ?_
             refine OW_nil ?_))
         all_goals first
           | with_reducible refine tR ?_
           | with_reducible refine tE ?_
           | (
            with_reducible refine tN ?_
            refine ⟨r - 1, ?_, ?_, View.mk' [(5, 6)] rfl rfl rfl ?_ ?_⟩
            · omega
            · omega
            all_goals (repeat' first | exact vFn | refine vFc rfl ?_ | exact vHn | refine vHc rfl ?_ | refine vFc (congrArg (fun z => some (V.int z)) ?_) ?_ | refine vHc (congrArg (fun z => some (Blk.ints _ z)) ?_) ?_ | refine vFc (congrArg (fun z => some (V.bool z)) ?_) ?_ | refine vFs rfl rfl ?_ ?_)
            all_goals (have e9 : mkN n k + (exF n k - (r - 1)) = mkN n k + (exF n k - r) + 1 := by omega)
            all_goals (have e8 : j = mkN n k + (exF n k - r) + 1 := by omega)
            all_goals (have e7 : ((r : Int) - 1) = ((r - 1 : Nat) : Int) := by omega)
            all_goals simp only [e9, e7, plM, mulL, hpl, hm1]
            all_goals subst e8
            all_goals (repeat' first | rfl | exact vFn | refine vFc rfl ?_ | exact vHn | refine vHc rfl ?_))
         all_goals first | with_reducible refine bN ?_ | with_reducible refine bE ?_ | with_reducible refine bR ?_ | refine bX rfl ?_
         all_goals first | with_reducible refine bN ?_ | with_reducible refine bE ?_ | with_reducible refine bR ?_ | refine bX rfl ?_
         all_goals with_reducible refine tN ?_
         all_goals (
          refine CW_region ?_
          refine oM rfl rfl ?_
          first | refine oQ (Q_binu rfl rfl rfl (by omega)) rfl rfl ?_ | refine oQ (Q_bin rfl rfl rfl) rfl rfl ?_
          refine oA rfl rfl ?_
          refine OW_nil ?_))
      all_goals first
        | with_reducible refine tR ?_
        | with_reducible refine tE ?_
        | (
         with_reducible refine tN ?_
         refine ⟨k + 1, ?_, ?_, View.mk' [] rfl rfl rfl ?_ ?_⟩
         · omega
         · omega
         all_goals (repeat' first | exact vFn | refine vFc rfl ?_ | exact vHn | refine vHc rfl ?_ | refine vFc (congrArg (fun z => some (V.int z)) ?_) ?_ | refine vHc (congrArg (fun z => some (Blk.ints _ z)) ?_) ?_ | refine vFc (congrArg (fun z => some (V.bool z)) ?_) ?_ | refine vFs rfl rfl ?_ ?_)
         all_goals (have e : r = 0 := by omega)
         all_goals subst e
         all_goals (repeat' first | rfl | exact vFn | refine vFc rfl ?_ | exact vHn | refine vHc rfl ?_))
      all_goals first | with_reducible refine bN ?_ | with_reducible refine bE ?_ | with_reducible refine bR ?_ | refine bX rfl ?_
      all_goals with_reducible refine tN ?_
      all_goals (
       refine cR ?_
       refine oA rfl rfl ?_
       refine oN ?_
       refine CW_block ?_
       refine CW_loop (ι := Nat) (fun j => j ≤ 4) (fun j => ⟨[(0, .int p), (5, .ptr 0 0), (6, .ptr 1 0), (7, .ptr 2 0), (9, .slice 3 0 4 4), (10, .ptr 4 0), (11, .int (n : Nat)), (12, .slice 5 0 4 4), (17, .int (j : Nat))], [(0, .ints 27 c), (1, .ints 29 u), (2, .ints 29 v), (3, .ints 2 (lnL p c u v n j)), (4, .ints 118 exT), (5, .ints 2 (plM p c u v n 3))], 6⟩) (fun j => 4 - j) 0 ?_ ?_ ?_
       · first | trivial | omega | (simp; done) | (simp; omega)
       · refine View.mk' [] rfl rfl rfl ?_ ?_ <;> (have e : k = 3 := (by omega)) <;> subst e <;> simp only [mk_3 hn10, lnL_zero, Nat.reduceAdd]
         repeat' first | exact vFn | refine vFc rfl ?_ | exact vHn | refine vHc rfl ?_ | refine vFc (congrArg (fun z => some (V.int z)) ?_) ?_ | refine vHc (congrArg (fun z => some (Blk.ints _ z)) ?_) ?_ | refine vFc (congrArg (fun z => some (V.bool z)) ?_) ?_ | refine vFs rfl rfl ?_ ?_
       intro j hj
       have hg := fun h : j < 4 => lnL_get (p := p) (c := c) (u := u) (v := v) (n := n) h
       have hoj := smN_get (lnO_sm hp c u v n) (by decide) j
       have hpj := smN_get (plM_sm hp qc u v n 3) (by decide) j
       refine CW_seq ?_
       refine cR ?_
       refine oM rfl rfl ?_
       refine oQ (Q_bin rfl rfl rfl) rfl rfl ?_
       refine oN ?_
       first | refine cT rfl ?_ | refine cF rfl ?_ | refine CW_cond rfl (fun hc => ?_) (fun hc => ?_)
       all_goals try simp only [s1, s2, s3, s4, s5, s6, s7, s8, s9, s10, s11, s12] at hc
       all_goals first
         | (
          refine CW_skip ?_)
         | (
          refine CW_exit ?_)
       all_goals first
         | with_reducible refine tR ?_
         | with_reducible refine tE ?_
         | (
          with_reducible refine tN ?_
          refine CW_seq ?_
          refine CW_block ?_
          refine CW_any (fun i => List.elem i [14]) 15 rfl lateOk (by decide +kernel) (fun hst => ?_)
          refine aP 0 hst rfl rfl (by decide +kernel) (PX_move rfl rfl) rfl rfl ?_
          refine aP 1 hst rfl rfl (by decide +kernel) (PX_move rfl rfl) rfl rfl ?_
          refine aP 2 hst rfl rfl (by decide +kernel) (PX_move rfl rfl) rfl rfl ?_
          refine aP 3 hst rfl rfl (by decide +kernel) (PX_move rfl rfl) rfl rfl ?_
          first | refine aQ 4 hst rfl rfl (by decide +kernel) (QX_of (Is0 rfl rfl rfl rfl rfl rfl) NE_ix) rfl rfl ?_ | refine aQ 4 hst rfl rfl (by decide +kernel) (QX_of (Is1 rfl rfl rfl rfl rfl rfl) NE_ix) rfl rfl ?_
          (have hj4 : j < 4 := by omega); refine aQ 5 hst rfl rfl (by decide +kernel) (QX_of (Ld rfl rfl rfl rfl) NE_load) rfl rfl ?_; rw [hg hj4]
          refine aP 6 hst rfl rfl (by decide +kernel) (PX_move rfl rfl) rfl rfl ?_
          refine aP 7 hst rfl rfl (by decide +kernel) (PX_move rfl rfl) rfl rfl ?_
          first | refine aQ 8 hst rfl rfl (by decide +kernel) (QX_of (Is0 rfl rfl rfl rfl rfl rfl) NE_ix) rfl rfl ?_ | refine aQ 8 hst rfl rfl (by decide +kernel) (QX_of (Is1 rfl rfl rfl rfl rfl rfl) NE_ix) rfl rfl ?_
          refine aQ 9 hst rfl rfl (by decide +kernel) (QX_of (Ld rfl rfl rfl rfl) NE_load) rfl rfl ?_
          first | refine aP 10 hst rfl rfl (by decide +kernel) (PX_binu rfl rfl rfl (by omega)) rfl rfl ?_ | refine aP 10 hst rfl rfl (by decide +kernel) (PX_bin rfl rfl rfl) rfl rfl ?_
          refine aP 11 hst rfl rfl (by decide +kernel) (PX_move rfl rfl) rfl rfl ?_
          refine aRemN 12 hst rfl rfl (by decide +kernel) rfl rfl (by omega) (by omega) rfl (fun z106 hz106 hl106 hu106 => ?_)
          first | refine aQ 13 hst rfl rfl (by decide +kernel) (QX_of (Is0 rfl rfl rfl rfl rfl rfl) NE_ix) rfl rfl ?_ | refine aQ 13 hst rfl rfl (by decide +kernel) (QX_of (Is1 rfl rfl rfl rfl rfl rfl) NE_ix) rfl rfl ?_
          refine AW_last [14] rfl (by decide +kernel) rfl ?_
          refine oS rfl rfl rfl rfl rfl ?_
          refine OW_nil (npN ?_)
          all_goals first | with_reducible refine bN ?_ | with_reducible refine bE ?_ | with_reducible refine bR ?_ | refine bX rfl ?_
          all_goals with_reducible refine tN ?_
          all_goals (
           refine CW_region ?_
           refine oM rfl rfl ?_
           first | refine oQ (Q_binu rfl rfl rfl (by omega)) rfl rfl ?_ | refine oQ (Q_bin rfl rfl rfl) rfl rfl ?_
           refine oA rfl rfl ?_
           refine OW_nil ?_))
       all_goals first
         | with_reducible refine tR ?_
         | with_reducible refine tE ?_
         | (
          with_reducible refine tN ?_
          refine ⟨j + 1, ?_, ?_, View.mk' [] rfl rfl rfl ?_ ?_⟩
          · omega
          · omega
          all_goals (repeat' first | exact vFn | refine vFc rfl ?_ | exact vHn | refine vHc rfl ?_ | refine vFc (congrArg (fun z => some (V.int z)) ?_) ?_ | refine vHc (congrArg (fun z => some (Blk.ints _ z)) ?_) ?_ | refine vFc (congrArg (fun z => some (V.bool z)) ?_) ?_ | refine vFs rfl rfl ?_ ?_)
          all_goals subst hz106
          all_goals exact lnL_set hj4)
       all_goals first | with_reducible refine bN ?_ | with_reducible refine bE ?_ | with_reducible refine bR ?_ | refine bX rfl ?_)
      all_goals first | with_reducible refine bN ?_ | with_reducible refine bE ?_ | with_reducible refine bR ?_ | refine bX rfl ?_
      all_goals with_reducible refine tN ?_
      all_goals (
       refine CW_region ?_
       refine oM rfl rfl ?_
       first | refine oQ (Q_binu rfl rfl rfl (by omega)) rfl rfl ?_ | refine oQ (Q_bin rfl rfl rfl) rfl rfl ?_
       refine oA rfl rfl ?_
       refine OW_nil ?_))
   all_goals first
     | with_reducible refine tR ?_
     | with_reducible refine tE ?_
     | (
      with_reducible refine tN ?_
      refine ⟨n + 1, ?_, ?_, View.mk' [] rfl rfl rfl ?_ ?_⟩
      · omega
      · omega
      all_goals (repeat' first | exact vFn | refine vFc rfl ?_ | exact vHn | refine vHc rfl ?_ | refine vFc (congrArg (fun z => some (V.int z)) ?_) ?_ | refine vHc (congrArg (fun z => some (Blk.ints _ z)) ?_) ?_ | refine vFc (congrArg (fun z => some (V.bool z)) ?_) ?_ | refine vFs rfl rfl ?_ ?_)
      all_goals (have e : j = 4 := by omega)
      all_goals subst e
      all_goals exact lnL_end p c u v n)
   all_goals first | with_reducible refine bN ?_ | with_reducible refine bE ?_ | with_reducible refine bR ?_ | refine bX rfl ?_
   all_goals with_reducible refine tN ?_
   all_goals (
    refine cR ?_
    refine oM rfl rfl ?_
    refine oA rfl rfl ?_
    refine oN ?_
    refine CW_ret ?_))
  all_goals (
   have e : n = 10 := by omega
   subst e
   exact exitH (r0 := .slice 0 0 4 4) (H0 := [(0, .ints 2 (lnO p c u v 10))]) (.inr rfl) [(0, 3)] 1 (.cons (.tmp rfl rfl) .nil) rfl rfl rfl (vHc rfl vHn) rfl rfl ⟨rfl, rfl⟩)
end Go.Proofs.YtcklfkblhmlbbaaDoor
namespace Go.Proofs.YtcklfkblhmlbbaaDoor
attribute [local irreducible] CW OW QW QOp Con thenP inBlockP AW QX
set_option maxRecDepth 10000
set_option linter.unusedSimpArgs false
set_option linter.unusedVariables false
/-- the code of a prime, and of what has to be valid -/
def codeB (p : Int) (b : Bool) : Int := if primeB p = true then (if b = true then 0 else 1) else 2
theorem codeB_zero {p : Int} {b : Bool} : codeB p b = 0 ↔ primeB p = true ∧ b = true := by
  unfold codeB
  cases primeB p <;> cases b <;> simp
theorem allF_two {g : List Int → Bool} {sz : Nat} {A B : List Int} (ha : A.length = sz) (hb : B.length = sz) : allF g sz (A ++ B) 2 = (g A && g B) := by
  subst ha
  simp [allF, elemAt, List.range_succ, ← hb]
theorem pointB_prime {p : Int} {l : List Int} (h : pointB p l = true) : primeB p = true := by
  simp only [pointB, Bool.and_eq_true] at h; exact h.1
theorem pointB_mod {p : Int} {l : List Int} (h : pointB p l = true) : modB p l = true := by
  simp only [pointB, normB, Bool.and_eq_true] at h; exact h.2.1
end Go.Proofs.YtcklfkblhmlbbaaDoor
namespace Go.Proofs.YtcklfkblhmlbbaaDoor
/-! ### a line has p + 1 points -/
abbrev N3 := Nat × Nat × Nat
def toL (x : N3) : List Int := [(x.1 : Int), (x.2.1 : Int), (x.2.2 : Int)]
def allN (n : Nat) : List N3 := [(0, 0, 1)] ++ (List.range n).map (fun z => (0, 1, z)) ++ (List.range n).flatMap fun y => (List.range n).map fun z => (1, y, z)
def onN (n : Nat) (x m : N3) : Bool := (x.1 * m.1 + x.2.1 * m.2.1 + x.2.2 * m.2.2) % n == 0
theorem allN_eq (n : Nat) : allPts (n : Int) = (allN n).map toL := by
  simp [allPts, allN, row1, rows2, row2, toL, List.map_flatMap, Function.comp_def]
theorem onN_eq (n : Nat) (x m : N3) : onB (n : Int) (toL x) (toL m) = onN n x m := by
  have e : dotV (toL x) (toL m) = ((x.1 * m.1 + x.2.1 * m.2.1 + x.2.2 * m.2.2 : Nat) : Int) := by
    simp only [dotV, dotT, toL, List.getD_cons_zero, List.getD_cons_succ, Int.zero_add, Int.natCast_add, Int.natCast_mul]
  rw [onB, onN, e, ← Int.natCast_emod, Bool.eq_iff_iff, beq_iff_eq, beq_iff_eq]
  omega
def lineN (n : Nat) : Bool := (allN n).all fun m => ((allN n).filter fun x => onN n x m).length == n + 1
theorem lineN_3 : lineN 3 = true := by decide +kernel
theorem lineN_5 : lineN 5 = true := by decide +kernel
theorem lineN_7 : lineN 7 = true := by decide +kernel
theorem lineN_11 : lineN 11 = true := by decide +kernel
theorem lineN_13 : lineN 13 = true := by decide +kernel
theorem line_count {p : Int} (hp : primeB p = true) {m : List Int} (hm : m ∈ allPts p) : (((allPts p).filter fun x => onB p x m).length : Int) = p + 1 := by
  obtain ⟨n, rfl, hn⟩ : ∃ n : Nat, p = (n : Int) ∧ lineN n = true := by
    rcases prime_cases hp with h | h | h | h | h
    · exact ⟨3, h, lineN_3⟩
    · exact ⟨5, h, lineN_5⟩
    · exact ⟨7, h, lineN_7⟩
    · exact ⟨11, h, lineN_11⟩
    · exact ⟨13, h, lineN_13⟩
  rw [allN_eq] at hm ⊢
  obtain ⟨y, hy, rfl⟩ := List.mem_map.1 hm
  rw [List.filter_map, List.length_map]
  have h1 := List.all_eq_true.1 hn y hy
  have e : ((fun x => onB (n : Int) x (toL y)) ∘ toL) = fun x => onN n x y := funext fun x => onN_eq n x y
  rw [e]
  have := eq_of_beq h1
  omega
end Go.Proofs.YtcklfkblhmlbbaaDoor
namespace Go.Proofs.YtcklfkblhmlbbaaDoor
theorem point_mem {p : Int} {a : List Int} (ha : a.length = 3) (h : pointB p a = true) : a ∈ allPts p := by
  match a, ha with
  | [x, y, z], _ =>
    have hp := pointB_prime h
    have hb := prime_bd hp
    have hm := mod_list (pointB_mod h)
    simp only [pointB, normB, Bool.and_eq_true, beq_iff_eq] at h
    have hf := h.2.2
    have hx := hm x (by simp)
    have hy := hm y (by simp)
    have hz := hm z (by simp)
    have hof : ∀ w : Int, 0 ≤ w → w < p → ∃ k : Nat, k < p.toNat ∧ w = (k : Int) := fun w h0 h1 => ⟨w.toNat, by omega, by omega⟩
    simp only [allPts, row1, rows2, row2, List.mem_append, List.mem_map, List.mem_flatMap, List.mem_singleton, List.mem_range]
    simp only [fnz] at hf
    by_cases h1 : x = 0
    · subst h1
      by_cases h2 : y = 0
      · subst h2
        by_cases h3 : z = 0
        · subst h3; simp at hf
        · left; left
          simp at hf
          simp_all
      · left; right
        simp [h2] at hf
        subst hf
        obtain ⟨k, hk, rfl⟩ := hof z hz.1 hz.2
        exact ⟨k, hk, rfl⟩
    · right
      simp [h1] at hf
      subst hf
      obtain ⟨j, hj, rfl⟩ := hof y hy.1 hy.2
      obtain ⟨k, hk, rfl⟩ := hof z hz.1 hz.2
      exact ⟨j, hj, k, hk, rfl⟩
end Go.Proofs.YtcklfkblhmlbbaaDoor
namespace Go.Proofs.YtcklfkblhmlbbaaDoor
set_option linter.unusedVariables false
set_option linter.unusedSimpArgs false
def detT (a b c : List Int) : Int := a.getD 0 0 * (b.getD 1 0 * c.getD 2 0 - b.getD 2 0 * c.getD 1 0) + a.getD 1 0 * (b.getD 2 0 * c.getD 0 0 - b.getD 0 0 * c.getD 2 0) + a.getD 2 0 * (b.getD 0 0 * c.getD 1 0 - b.getD 1 0 * c.getD 0 0)
theorem onB_iff {p : Int} {a b c x y z : Int} : onB p [a, b, c] [x, y, z] = true ↔ (a * x + b * y + c * z) % p = 0 := by
  rw [onB, beq_iff_eq]
  have e : dotV [a, b, c] [x, y, z] = a * x + b * y + c * z := by
    simp only [dotV, dotT, List.getD_cons_zero, List.getD_cons_succ, Int.zero_add]
  rw [e]
theorem det_of_on {p : Int} {a b c l : List Int} (hl : l ∈ allPts p) (ha : a.length = 3) (hb : b.length = 3) (hc : c.length = 3) (h1 : onB p a l = true) (h2 : onB p b l = true) (h3 : onB p c l = true) : detT a b c % p = 0 := by
  match a, ha, b, hb, c, hc with
  | [a0, a1, a2], _, [b0, b1, b2], _, [c0, c1, c2], _ =>
    have hl' : (∃ z : Int, l = [0, 0, 1] ∧ z = 0) ∨ (∃ z : Int, l = [0, 1, z]) ∨ (∃ y z : Int, l = [1, y, z]) := by
      simp only [allPts, row1, rows2, row2, List.mem_append, List.mem_map, List.mem_flatMap, List.mem_singleton] at hl
      rcases hl with (rfl | ⟨z, _, rfl⟩) | ⟨y, _, z, _, rfl⟩
      · exact .inl ⟨0, rfl, rfl⟩
      · exact .inr (.inl ⟨_, rfl⟩)
      · exact .inr (.inr ⟨_, _, rfl⟩)
    apply Int.emod_eq_zero_of_dvd
    have hd : detT [a0, a1, a2] [b0, b1, b2] [c0, c1, c2] = a0 * (b1 * c2 - b2 * c1) + a1 * (b2 * c0 - b0 * c2) + a2 * (b0 * c1 - b1 * c0) := by
      simp only [detT, List.getD_cons_zero, List.getD_cons_succ]
    rw [hd]
    rcases hl' with ⟨z, rfl, _⟩ | ⟨z, rfl⟩ | ⟨y, z, rfl⟩
    all_goals (rw [onB_iff] at h1 h2 h3; obtain ⟨q1, e1⟩ := Int.dvd_of_emod_eq_zero h1; obtain ⟨q2, e2⟩ := Int.dvd_of_emod_eq_zero h2; obtain ⟨q3, e3⟩ := Int.dvd_of_emod_eq_zero h3)
    · exact ⟨q1 * (b0 * c1 - b1 * c0) + q2 * (c0 * a1 - c1 * a0) + q3 * (a0 * b1 - a1 * b0), by grind⟩
    · exact ⟨q1 * (b2 * c0 - b0 * c2) + q2 * (c2 * a0 - c0 * a2) + q3 * (a2 * b0 - a0 * b2), by grind⟩
    · exact ⟨q1 * (b1 * c2 - b2 * c1) + q2 * (c1 * a2 - c2 * a1) + q3 * (a1 * b2 - a2 * b1), by grind⟩
/-! ### the join of two points -/
def crN (n : Nat) (a b : N3) : N3 := ((a.2.1 * b.2.2 + (n - 1) * (a.2.2 * b.2.1)) % n, (a.2.2 * b.1 + (n - 1) * (a.1 * b.2.2)) % n, (a.1 * b.2.1 + (n - 1) * (a.2.1 * b.1)) % n)
def nzN (a : N3) : Bool := !(a.1 == 0 && a.2.1 == 0 && a.2.2 == 0)
def eqN (a b : N3) : Bool := a.1 == b.1 && a.2.1 == b.2.1 && a.2.2 == b.2.2
def crossN (n : Nat) : Bool := (allN n).all fun a => (allN n).all fun b => eqN a b || nzN (crN n a b)
theorem crossN_3 : crossN 3 = true := by decide +kernel
theorem crossN_5 : crossN 5 = true := by decide +kernel
theorem crossN_7 : crossN 7 = true := by decide +kernel
theorem crossN_11 : crossN 11 = true := by decide +kernel
theorem crossN_13 : crossN 13 = true := by decide +kernel
end Go.Proofs.YtcklfkblhmlbbaaDoor
namespace Go.Proofs.YtcklfkblhmlbbaaDoor
set_option linter.unusedVariables false
theorem scale_mod (p s v : Int) : ∃ k : Int, v % p * s % p = v * s - p * k := by
  refine ⟨v / p * s + v % p * s / p, ?_⟩
  have h1 := Int.emod_def v p
  have h2 := Int.emod_def (v % p * s) p
  grind
theorem on_norm {p m0 m1 m2 v0 v1 v2 t : Int} (ht : t * facP p [v0, v1, v2] % p = 1) : onB p [m0, m1, m2] (normL p [v0, v1, v2]) = true ↔ (m0 * v0 + m1 * v1 + m2 * v2) % p = 0 := by
  have e : normL p [v0, v1, v2] = [v0 % p * facP p [v0, v1, v2] % p, v1 % p * facP p [v0, v1, v2] % p, v2 % p * facP p [v0, v1, v2] % p] := rfl
  rw [e, onB_iff]
  generalize facP p [v0, v1, v2] = s at ht
  obtain ⟨k0, h0⟩ := scale_mod p s v0
  obtain ⟨k1, h1⟩ := scale_mod p s v1
  obtain ⟨k2, h2⟩ := scale_mod p s v2
  rw [h0, h1, h2]
  have h3 := Int.emod_def (t * s) p
  constructor
  · intro h
    obtain ⟨q, hq⟩ := Int.dvd_of_emod_eq_zero h
    refine Int.emod_eq_zero_of_dvd ⟨t * (q + m0 * k0 + m1 * k1 + m2 * k2) - (t * s / p) * (m0 * v0 + m1 * v1 + m2 * v2), ?_⟩
    grind
  · intro h
    obtain ⟨q, hq⟩ := Int.dvd_of_emod_eq_zero h
    refine Int.emod_eq_zero_of_dvd ⟨q * s - (m0 * k0 + m1 * k1 + m2 * k2), ?_⟩
    grind
theorem fac_inv {p : Int} (hp : primeB p = true) {l : List Int} (h : fnz (l.map (· % p)) ≠ 0) : fnz (l.map (· % p)) * facP p l % p = 1 := by
  have hb := prime_bd hp
  rcases fnz_mem (l.map (· % p)) with h0 | h0
  · exact absurd h0 h
  · obtain ⟨x, _, hx⟩ := List.mem_map.1 h0
    have h1 := Int.emod_nonneg x (show p ≠ 0 by omega)
    have h2 := Int.emod_lt_of_pos x (show 0 < p by omega)
    exact (inv_spec hp (by omega) (by omega)).2.2
theorem cross_nz {p : Int} (hp : primeB p = true) {a b : List Int} (ha : a ∈ allPts p) (hb : b ∈ allPts p) (hne : a ≠ b) : ∃ x ∈ [a.getD 1 0 * b.getD 2 0 - a.getD 2 0 * b.getD 1 0, a.getD 2 0 * b.getD 0 0 - a.getD 0 0 * b.getD 2 0, a.getD 0 0 * b.getD 1 0 - a.getD 1 0 * b.getD 0 0], ¬ x % p = 0 := by
  obtain ⟨n, rfl, hn1, hn0⟩ : ∃ n : Nat, p = (n : Int) ∧ crossN n = true ∧ 1 ≤ n := by
    rcases prime_cases hp with h | h | h | h | h
    · exact ⟨3, h, crossN_3, by decide⟩
    · exact ⟨5, h, crossN_5, by decide⟩
    · exact ⟨7, h, crossN_7, by decide⟩
    · exact ⟨11, h, crossN_11, by decide⟩
    · exact ⟨13, h, crossN_13, by decide⟩
  rw [allN_eq] at ha hb
  obtain ⟨x, hx, rfl⟩ := List.mem_map.1 ha
  obtain ⟨y, hy, rfl⟩ := List.mem_map.1 hb
  have h1 := List.all_eq_true.1 (List.all_eq_true.1 hn1 x hx) y hy
  have hxy : eqN x y = false := by
    rw [Bool.eq_false_iff]
    intro h
    apply hne
    obtain ⟨x0, x1, x2⟩ := x
    obtain ⟨y0, y1, y2⟩ := y
    simp only [eqN, Bool.and_eq_true, beq_iff_eq] at h
    obtain ⟨⟨rfl, rfl⟩, rfl⟩ := h
    rfl
  rw [hxy, Bool.false_or] at h1
  obtain ⟨x0, x1, x2⟩ := x
  obtain ⟨y0, y1, y2⟩ := y
  have key : ∀ u v : Nat, ((u + (n - 1) * v) % n == 0) = false → ¬ ((u : Int) - v) % (n : Int) = 0 := by
    intro u v h hz
    have h' : ¬ (u + (n - 1) * v) % n = 0 := by simpa using h
    apply h'
    obtain ⟨m, rfl⟩ : ∃ m, n = m + 1 := ⟨n - 1, by omega⟩
    rw [Nat.add_sub_cancel]
    obtain ⟨q, hq⟩ := Int.dvd_of_emod_eq_zero hz
    have : (((u + m * v : Nat) : Int)) % ((m + 1 : Nat) : Int) = 0 := by
      refine Int.emod_eq_zero_of_dvd ⟨q + v, ?_⟩
      simp only [Int.natCast_add, Int.natCast_mul] at hq ⊢
      grind
    exact_mod_cast this
  simp only [toL, List.getD_cons_zero, List.getD_cons_succ]
  simp only [nzN, crN, Bool.not_eq_true', Bool.and_eq_false_iff] at h1
  rcases h1 with (h1 | h1) | h1
  · exact ⟨_, List.mem_cons_self, by have := key _ _ h1; simpa only [Int.natCast_mul] using this⟩
  · exact ⟨_, List.mem_cons_of_mem _ List.mem_cons_self, by have := key _ _ h1; simpa only [Int.natCast_mul] using this⟩
  · exact ⟨_, List.mem_cons_of_mem _ (List.mem_cons_of_mem _ List.mem_cons_self), by have := key _ _ h1; simpa only [Int.natCast_mul] using this⟩
theorem fnz_ne {p : Int} : ∀ {l : List Int}, (∃ x ∈ l, ¬ x % p = 0) → fnz (l.map (· % p)) ≠ 0
  | [], h => by obtain ⟨x, hx, _⟩ := h; cases hx
  | a :: r, h => by
    rw [List.map_cons, fnz]
    split
    · rename_i ha
      obtain ⟨x, hx, hn⟩ := h
      rcases List.mem_cons.1 hx with rfl | hx'
      · exact absurd ha hn
      · exact fnz_ne ⟨x, hx', hn⟩
    · assumption
/-- a point is on the join of two points as their determinant tells -/
theorem join_on {p : Int} (hp : primeB p = true) {a b m : List Int} (ha : a ∈ allPts p) (hb : b ∈ allPts p) (hne : a ≠ b) (hm : m.length = 3) : onB p m (normL p [a.getD 1 0 * b.getD 2 0 - a.getD 2 0 * b.getD 1 0, a.getD 2 0 * b.getD 0 0 - a.getD 0 0 * b.getD 2 0, a.getD 0 0 * b.getD 1 0 - a.getD 1 0 * b.getD 0 0]) = true ↔ detT m a b % p = 0 := by
  match m, hm with
  | [m0, m1, m2], _ =>
    rw [on_norm (fac_inv hp (fnz_ne (cross_nz hp ha hb hne)))]
    have e : detT [m0, m1, m2] a b = m0 * (a.getD 1 0 * b.getD 2 0 - a.getD 2 0 * b.getD 1 0) + m1 * (a.getD 2 0 * b.getD 0 0 - a.getD 0 0 * b.getD 2 0) + m2 * (a.getD 0 0 * b.getD 1 0 - a.getD 1 0 * b.getD 0 0) := by
      simp only [detT, List.getD_cons_zero, List.getD_cons_succ]
    rw [e]
end Go.Proofs.YtcklfkblhmlbbaaDoor
namespace Go.Proofs.YtcklfkblhmlbbaaDoor
theorem fac_mod (p : Int) (l : List Int) : facP p (l.map (· % p)) = facP p l := by
  unfold facP
  rw [List.map_map]
  congr 2
  apply List.map_congr_left
  intro x _
  exact mod_mod_self p x
theorem normL_mod (p : Int) (l : List Int) : normL p (l.map (· % p)) = normL p l := by
  unfold normL
  rw [fac_mod, List.map_map]
  apply List.map_congr_left
  intro x _
  simp only [Function.comp_apply, mod_mod_self]
theorem norm_congr {p : Int} {l m : List Int} (h : l.map (· % p) = m.map (· % p)) : normL p l = normL p m ∧ facP p l = facP p m := by
  rw [← normL_mod p l, ← normL_mod p m, ← fac_mod p l, ← fac_mod p m, h]; exact ⟨rfl, rfl⟩
theorem normL_zero {p : Int} {l : List Int} (h : facP p l = 0) : normL p l = List.replicate l.length 0 := by
  unfold normL
  rw [h]
  apply List.ext_getElem (by simp)
  intro i h1 h2
  simp
end Go.Proofs.YtcklfkblhmlbbaaDoor
namespace Go.Proofs.YtcklfkblhmlbbaaDoor
set_option linter.unusedVariables false
set_option linter.unusedSimpArgs false
open Lean.Grind
theorem ic_sub {R : Type} [CommRing R] (x y : Int) : (ic (x - y) : R) = ic x - ic y := Ring.intCast_sub x y
theorem norm_form {p : Int} (hp : primeB p = true) {a : List Int} (ha : a ∈ allPts p) : (∃ y z, a = [1, y, z] ∧ 0 ≤ y ∧ y < p ∧ 0 ≤ z ∧ z < p) ∨ (∃ z, a = [0, 1, z] ∧ 0 ≤ z ∧ z < p) ∨ a = [0, 0, 1] := by
  have hm := allPts_mod hp ha
  simp only [allPts, row1, rows2, row2, List.mem_append, List.mem_map, List.mem_flatMap, List.mem_singleton] at ha
  rcases ha with (rfl | ⟨z, _, rfl⟩) | ⟨y, _, z, _, rfl⟩
  · exact .inr (.inr rfl)
  · have hz := hm z (by simp)
    exact .inr (.inl ⟨_, rfl, hz⟩)
  · have hy := hm y (by simp)
    have hz := hm z (by simp)
    exact .inl ⟨_, _, rfl, hy.1, hy.2, hz⟩
/-- the normal list of a multiple of a point -/
theorem norm_mul {p : Int} (hp : primeB p = true) {a X : List Int} (ha : a ∈ allPts p) {m : Int} (hm : ¬ m % p = 0) (hX : X.map (· % p) = (a.map (m * ·)).map (· % p)) : facP p X ≠ 0 ∧ normL p X = a := by
  have hb := prime_bd hp
  obtain ⟨e1, e2⟩ := norm_congr hX
  rw [e1, e2]
  have hr := Int.emod_nonneg m (show p ≠ 0 by omega)
  have hr2 := Int.emod_lt_of_pos m (show 0 < p by omega)
  obtain ⟨hi1, hi2, hi3⟩ := inv_spec hp (n := m % p) (by omega) hr2
  have key : ∀ y : Int, 0 ≤ y → y < p → m * y % p * invP p (m % p) % p = y := fun y h1 h2 => by
    have : m * y % p * invP p (m % p) % p = (m % p * invP p (m % p)) % p * y % p := by
      rw [em_mul, em_mul, Int.mul_assoc (m % p), em_mul, Int.mul_assoc, Int.mul_comm y]
    rw [this, hi3, Int.one_mul, Int.emod_eq_of_lt h1 h2]
  rcases norm_form hp ha with ⟨y, z, rfl, h1, h2, h3, h4⟩ | ⟨z, rfl, h1, h2⟩ | rfl
  · have hf : facP p (List.map (m * ·) [1, y, z]) = invP p (m % p) := by simp [facP, fnz, hm]
    refine ⟨by rw [hf]; omega, ?_⟩
    unfold normL
    rw [hf]
    simp only [List.map_cons, List.map_nil, key 1 (by omega) (by omega), key y h1 h2, key z h3 h4]
  · have hf : facP p (List.map (m * ·) [0, 1, z]) = invP p (m % p) := by simp [facP, fnz, hm]
    refine ⟨by rw [hf]; omega, ?_⟩
    unfold normL
    rw [hf]
    simp only [List.map_cons, List.map_nil, key 0 (by omega) (by omega), key 1 (by omega) (by omega), key z h1 h2]
  · have hf : facP p (List.map (m * ·) [0, 0, 1]) = invP p (m % p) := by simp [facP, fnz, hm]
    refine ⟨by rw [hf]; omega, ?_⟩
    unfold normL
    rw [hf]
    simp only [List.map_cons, List.map_nil, key 0 (by omega) (by omega), key 1 (by omega) (by omega)]
section
variable {n : Nat} [NeZero n]
/-- three points with determinant 0: each is a sum of multiples of two others -/
theorem parts_ex (hd : Dom (Fin n)) (hp : primeB (n : Int) = true) {u v a : List Int} (hu : u ∈ allPts n) (hv : v ∈ allPts n) (ha : a ∈ allPts n) (hne : u ≠ v) (hdet : detT u v a % (n : Int) = 0) :
    ∃ s t : Int, 0 ≤ s ∧ s < n ∧ 0 ≤ t ∧ t < n ∧ facP (n : Int) [s * u.getD 0 0 + t * v.getD 0 0, s * u.getD 1 0 + t * v.getD 1 0, s * u.getD 2 0 + t * v.getD 2 0] ≠ 0 ∧ normL (n : Int) [s * u.getD 0 0 + t * v.getD 0 0, s * u.getD 1 0 + t * v.getD 1 0, s * u.getD 2 0 + t * v.getD 2 0] = a := by
  have hb := prime_bd hp
  obtain ⟨m, hm, hm0⟩ := cross_nz hp hu hv hne
  have hu3 := allPts_three hu
  have hv3 := allPts_three hv
  have ha3 := allPts_three ha
  match u, hu3, v, hv3, a, ha3 with
  | [u0, u1, u2], _, [v0, v1, v2], _, [a0, a1, a2], _ =>
    simp only [List.getD_cons_zero, List.getD_cons_succ] at hm ⊢
    simp only [detT, List.getD_cons_zero, List.getD_cons_succ] at hdet
    have hd0 := (ic_z (R := Fin n) n).2 hdet
    have hb1 := fun x : Int => Int.emod_nonneg x (show (n : Int) ≠ 0 by omega)
    have hb2 := fun x : Int => Int.emod_lt_of_pos x (show (0 : Int) < n by omega)
    have fin : ∀ S T : Int, (ic m * ic a0 : Fin n) = ic S * ic u0 + ic T * ic v0 → (ic m * ic a1 : Fin n) = ic S * ic u1 + ic T * ic v1 → (ic m * ic a2 : Fin n) = ic S * ic u2 + ic T * ic v2 →
        ∃ s t : Int, 0 ≤ s ∧ s < n ∧ 0 ≤ t ∧ t < n ∧ facP (n : Int) [s * u0 + t * v0, s * u1 + t * v1, s * u2 + t * v2] ≠ 0 ∧ normL (n : Int) [s * u0 + t * v0, s * u1 + t * v1, s * u2 + t * v2] = [a0, a1, a2] := fun S T g0 g1 g2 => by
      refine ⟨S % n, T % n, hb1 _, hb2 _, hb1 _, hb2 _, ?_⟩
      refine norm_mul hp ha hm0 ?_
      simp only [List.map_cons, List.map_nil, List.cons.injEq, and_true]
      simp only [← ic_eq (R := Fin n) n, ic_add, ic_mul, ic_mod n, g0, g1, g2, and_self]
    simp only [List.mem_cons, List.not_mem_nil, or_false] at hm
    simp only [ic_add, ic_mul, ic_sub] at hd0
    rcases hm with rfl | rfl | rfl
    · exact fin (a1 * v2 - a2 * v1) (u1 * a2 - u2 * a1) (by simp only [ic_sub, ic_mul]; grind) (by simp only [ic_sub, ic_mul]; grind) (by simp only [ic_sub, ic_mul]; grind)
    · exact fin (a2 * v0 - a0 * v2) (u2 * a0 - u0 * a2) (by simp only [ic_sub, ic_mul]; grind) (by simp only [ic_sub, ic_mul]; grind) (by simp only [ic_sub, ic_mul]; grind)
    · exact fin (a0 * v1 - a1 * v0) (u0 * a1 - u1 * a0) (by simp only [ic_sub, ic_mul]; grind) (by simp only [ic_sub, ic_mul]; grind) (by simp only [ic_sub, ic_mul]; grind)
/-- what the parts tell -/
theorem parts_ic {u v a : List Int} {s t : Int} (h : normL (n : Int) [s * u.getD 0 0 + t * v.getD 0 0, s * u.getD 1 0 + t * v.getD 1 0, s * u.getD 2 0 + t * v.getD 2 0] = a) :
    ∀ k, k < 3 → (icL a k : Fin n) = ic (facP (n : Int) [s * u.getD 0 0 + t * v.getD 0 0, s * u.getD 1 0 + t * v.getD 1 0, s * u.getD 2 0 + t * v.getD 2 0]) * (ic s * icL u k + ic t * icL v k) := by
  intro k hk
  subst h
  obtain ⟨f, hf⟩ : ∃ f, facP (n : Int) [s * u.getD 0 0 + t * v.getD 0 0, s * u.getD 1 0 + t * v.getD 1 0, s * u.getD 2 0 + t * v.getD 2 0] = f := ⟨_, rfl⟩
  have h3 : k = 0 ∨ k = 1 ∨ k = 2 := by omega
  rcases h3 with rfl | rfl | rfl <;> simp only [icL, normL, List.map_cons, List.map_nil, List.getD_cons_zero, List.getD_cons_succ, ic_mod n, ic_mul, ic_add, hf] <;> exact CommSemiring.mul_comm _ _
theorem D_nz (hd : Dom (Fin n)) (hp : primeB (n : Int) = true) {u v a b : List Int} (ha : a ∈ allPts n) (hb : b ∈ allPts n) (hne : a ≠ b) {f s t : Int} {x y : Fin n}
    (hA : ∀ k, k < 3 → (icL a k : Fin n) = ic f * (ic s * icL u k + ic t * icL v k)) (hB : ∀ k, k < 3 → (icL b k : Fin n) = x * icL u k + y * icL v k) : ic t * x - ic s * y ≠ (0 : Fin n) := by
  intro e
  obtain ⟨m, hm, hm0⟩ := cross_nz hp ha hb hne
  refine (nz_iff (n := n)).1 hm0 ?_
  have a0 := hA 0 (by decide)
  have a1 := hA 1 (by decide)
  have a2 := hA 2 (by decide)
  have b0 := hB 0 (by decide)
  have b1 := hB 1 (by decide)
  have b2 := hB 2 (by decide)
  simp only [icL] at a0 a1 a2 b0 b1 b2
  simp only [List.mem_cons, List.not_mem_nil, or_false] at hm
  rcases hm with rfl | rfl | rfl <;> simp only [ic_sub, ic_mul, a0, a1, a2, b0, b1, b2] <;> grind
theorem fac_ic (hd : Dom (Fin n)) (hp : primeB (n : Int) = true) {l : List Int} (h : facP (n : Int) l ≠ 0) : (ic (facP (n : Int) l) : Fin n) ≠ 0 := by
  have hb := prime_bd hp
  have hz : fnz (l.map (· % (n : Int))) ≠ 0 := fun e => h ((fac_zero hp l).2 e)
  have := fac_inv hp hz
  intro e
  have h2 : (ic (fnz (l.map (· % (n : Int))) * facP (n : Int) l) : Fin n) = ic 1 := by
    rw [← ic_mod n, this]
  rw [ic_mul, e, Semiring.mul_zero] at h2
  exact hd.1 (h2.trans Ring.intCast_one).symm
omit [NeZero n] in
theorem parts_nz {u v : List Int} {s t : Int} (h : facP (n : Int) [s * u.getD 0 0 + t * v.getD 0 0, s * u.getD 1 0 + t * v.getD 1 0, s * u.getD 2 0 + t * v.getD 2 0] ≠ 0) : ¬ (s = 0 ∧ t = 0) := by
  rintro ⟨rfl, rfl⟩
  apply h
  simp [facP, fnz, inv_zero]
end
end Go.Proofs.YtcklfkblhmlbbaaDoor
namespace Go.Proofs.YtcklfkblhmlbbaaDoor
set_option maxRecDepth 10000
set_option linter.unusedSimpArgs false
set_option linter.unusedVariables false
def cuG (p : Int) (c m : List Int) : Bool := decide (cuA p c m = 0)
theorem allPts_smN {p : Int} (hp : primeB p = true) {m : List Int} (h : m ∈ allPts p) : smN 12 m := fun x hx => by
  have h1 := allPts_mod hp h x hx
  have h2 := prime_bd hp
  omega
attribute [local irreducible] CW OW QW QOp Con thenP inBlockP
theorem cubicCode1_con (p : Int) (v : Bool) (c : List Int) (hcl : c.length = 10) : ConQ Tryd.prog [] 83 [.ptr 0 0, .ptr 1 0, .ptr 2 0] [(0, .vals 4 [.bool v]), (1, .ints 2 [p]), (2, .ints 27 c)] (.bool (v && pointB p c)) := by
  refine conW tab_ok [(0, .ptr 0 0), (1, .ptr 1 0), (2, .ptr 2 0)] 3 [0, 1, 2] [0, 1, 2] Tryd.func83 rfl rfl rfl rfl rfl rfl rfl rfl rfl ?_
  refine cR ?_
  refine oA rfl rfl ?_
  refine oN ?_
  refine cR ?_
  refine oQ (Q_ldv rfl rfl rfl rfl rfl rfl) rfl rfl ?_
  refine oM rfl rfl ?_
  all_goals first | refine oT rfl rfl ?_ | refine o1 rfl rfl rfl ?_ | refine o0 rfl rfl rfl ?_ | refine ogP1 rfl rfl rfl (fun hg => ?_) (fun hg => ?_) | refine ogP0 rfl rfl rfl (fun hg => ?_) (fun hg => ?_)
  all_goals try simp only [s1, s2, s3, s4, s5, s6, s7, s8, s9, s10, s11, s12] at hg
  all_goals first | refine oQ (Q_ldc rfl rfl rfl rfl rfl) rfl rfl ?_ | refine oQ (Ld rfl rfl rfl rfl) rfl rfl ?_ | skip
  all_goals first | refine oT rfl rfl ?_ | refine o1 rfl rfl rfl ?_ | refine o0 rfl rfl rfl ?_ | refine ogP1 rfl rfl rfl (fun hg => ?_) (fun hg => ?_) | refine ogP0 rfl rfl rfl (fun hg => ?_) (fun hg => ?_)
  all_goals try simp only [s1, s2, s3, s4, s5, s6, s7, s8, s9, s10, s11, s12] at hg
  all_goals first | (refine oQ (Q_ldw rfl rfl rfl rfl hcl) rfl rfl ?_) | skip
  all_goals first | refine oT rfl rfl ?_ | refine o1 rfl rfl rfl ?_ | refine o0 rfl rfl rfl ?_ | refine ogP1 rfl rfl rfl (fun hg => ?_) (fun hg => ?_) | refine ogP0 rfl rfl rfl (fun hg => ?_) (fun hg => ?_)
  all_goals try simp only [s1, s2, s3, s4, s5, s6, s7, s8, s9, s10, s11, s12] at hg
  all_goals first | (refine oQ (Q_call0 (impl_IsCubic_con p c hcl) rfl rfl rfl) rfl rfl ?_) | skip
  all_goals first | refine oQ (Q_pick_t rfl (by with_reducible rfl) rfl rfl) rfl rfl ?_ | refine oQ (Q_pick_f rfl (by with_reducible rfl) rfl rfl) rfl rfl ?_
  all_goals first | (refine oA rfl rfl ?_)
  all_goals refine oN ?_
  all_goals (
   refine CW_ret ?_)
  all_goals (
   refine exitQ (.inr rfl) 3 (.cons (.tmp rfl rfl) .nil) ?_ rfl (vHc rfl (vHc rfl (vHc rfl vHn))) rfl rfl
   simp only [resV, V.bool.injEq]
   first
     | (rw [hg]; rfl)
     | rfl
     | (simp_all [pointB]; done))
theorem cubicCode_con (p : Int) (v : Bool) (c : List Int) (hcl : c.length = 10) : ConQ Tryd.prog [] 49 [.int p, .arr c, .bool v] [] (.int (codeB p (v && pointB p c))) := by
  refine conW tab_ok [(0, .int p), (1, .arr c), (2, .bool v)] 0 [] [] Tryd.func49 rfl rfl rfl rfl rfl rfl rfl rfl rfl ?_
  refine cR ?_
  iterate 3 refine oBox rfl rfl rfl rfl rfl rfl ?_
  refine oA rfl rfl ?_
  refine oN ?_
  refine cR ?_
  first | refine oQ (Q_ldc rfl rfl rfl rfl rfl) rfl rfl ?_ | refine oQ (Ld rfl rfl rfl rfl) rfl rfl ?_
  refine oQ (Q_makeFunc rfl rfl) rfl rfl ?_
  refine oQ (Q_call (planeCode_gen p 83 (v && pointB p c) [.ptr 0 0, .ptr 1 0, .ptr 2 0] [(0, .vals 4 [.bool v]), (1, .ints 2 [p]), (2, .ints 27 c)] 3 (vHc rfl (vHc rfl (vHc rfl vHn))) rfl rfl rfl rfl (fun _ => cubicCode1_con p v c hcl)) [(0, 2), (1, 0), (2, 1)] rfl rfl (Fits.mk' (vHc rfl (vHc rfl (vHc rfl vHn))) rfl rfl (by first | (simp; done) | exact glOk rfl rfl rfl)) rfl rfl) rfl rfl ?_
  refine oA rfl rfl ?_
  refine oN ?_
  refine CW_ret ?_
  all_goals (
   ((refine exitQ (.inr rfl) 0 (.cons (.tmp rfl rfl) .nil) ?_ rfl vHn rfl rfl); rfl))
theorem l06Code_row (p : Int) (c : List Int) (hcl : c.length = 10) (tM : TypeId) (M : List Int) (k ck : Nat) (hM : k * 3 ≤ M.length) (hk : k ≤ 1000000000) : ConQ Tryd.prog [] 46 [.int p, .arr c, .slice 0 0 k ck] [(0, .ints tM M)] (.int (codeB p (allF (pointB p) 3 M k && pointB p c))) := by
  refine conW tab_ok [(0, .int p), (1, .arr c), (2, .slice 0 0 k ck)] 1 [0] [0] Tryd.func46 rfl rfl rfl rfl rfl rfl rfl rfl rfl ?_
  refine cR ?_
  refine oBox rfl rfl rfl rfl rfl rfl ?_
  refine oA rfl rfl ?_
  refine oN ?_
  refine CW_seq ?_
  refine CW_block ?_
  refine cR ?_
  refine oM rfl rfl ?_
  refine oQ (Q_call0 (l01Prime_con p) rfl rfl rfl) rfl rfl ?_
  refine oQ (Q_not rfl) rfl rfl ?_
  refine oA rfl rfl ?_
  refine oN ?_
  first | refine cT rfl ?_ | refine cF rfl ?_ | refine CW_cond rfl (fun hc => ?_) (fun hc => ?_)
  all_goals try simp only [s1, s2, s3, s4, s5, s6, s7, s8, s9, s10, s11, s12] at hc
  all_goals first
    | (
     refine cR ?_
     refine oA rfl rfl ?_
     refine oN ?_
     refine CW_ret ?_)
    | (
     refine cR ?_
     refine oM rfl rfl ?_
     refine oQ (Q_ldw rfl rfl rfl rfl hcl) rfl rfl ?_
     refine oQ (Q_call0 (spec_l06Is_con p c hcl) rfl rfl rfl) rfl rfl ?_
     refine oQ (Q_not rfl) rfl rfl ?_
     refine oA rfl rfl ?_
     refine oN ?_
     first | refine cT rfl ?_ | refine cF rfl ?_ | refine CW_cond rfl (fun hc => ?_) (fun hc => ?_)
     all_goals try simp only [s1, s2, s3, s4, s5, s6, s7, s8, s9, s10, s11, s12] at hc
     all_goals first
       | (
        refine CW_skip ?_)
       | (
        refine cR ?_
        refine oA rfl rfl ?_
        refine oN ?_
        refine CW_ret ?_))
  all_goals first | with_reducible refine bN ?_ | with_reducible refine bE ?_ | with_reducible refine bR ?_ | refine bX rfl ?_
  all_goals first
    | with_reducible refine tR ?_
    | with_reducible refine tE ?_
    | (
     with_reducible refine tN ?_
     refine cR ?_
     iterate 2 refine oM rfl rfl ?_
     refine oQ (Q_call (l01Code_con p tM M k ck hM hk) [] rfl rfl (Fits.mk' (vHc rfl vHn) rfl rfl (by first | (simp; done) | exact glOk rfl rfl rfl)) rfl rfl) rfl rfl ?_
     refine oA rfl rfl ?_
     refine oN ?_
     refine CW_ret ?_)
  all_goals (
   refine exitQ (.inr rfl) 1 (.cons (.tmp rfl rfl) .nil) ?_ rfl (vHc rfl vHn) rfl rfl
   rcases Bool.eq_false_or_eq_true (primeB p) with hp | hp <;> rcases Bool.eq_false_or_eq_true (allF (pointB p) 3 M k) with ha | ha <;> rcases Bool.eq_false_or_eq_true (normB p c) with hb | hb <;> simp_all [ren, resV, codeB, pointB])
theorem l06On_con (p : Int) (c a : List Int) (hp : primeB p = true) (hcl : c.length = 10) (hal : a.length = 3) (qc : smN 12 c) (qa : smN 12 a) : ConQ Tryd.prog [] 48 [.int p, .arr c, .arr a] [] (.bool (cuG p c a)) := by
  refine conW tab_ok [(0, .int p), (1, .arr c), (2, .arr a)] 0 [] [] Tryd.func48 rfl rfl rfl rfl rfl rfl rfl rfl rfl ?_
  refine cR ?_
  iterate 2 refine oBox rfl rfl rfl rfl rfl rfl ?_
  refine oA rfl rfl ?_
  refine oN ?_
  refine cR ?_
  refine oM rfl rfl ?_
  refine oQ (Q_ldw rfl rfl rfl rfl hcl) rfl rfl ?_
  refine oQ (Q_ldw rfl rfl rfl rfl hal) rfl rfl ?_
  refine oQ (Q_call0 (l06At_con p c a hp hcl hal qc qa) rfl rfl rfl) rfl rfl ?_
  refine oQ (Q_bin rfl rfl rfl) rfl rfl ?_
  refine oA rfl rfl ?_
  refine oN ?_
  refine CW_ret ?_
  all_goals (
   ((refine exitQ (.inr rfl) 0 (.cons (.tmp rfl rfl) .nil) ?_ rfl vHn rfl rfl); rfl))
end Go.Proofs.YtcklfkblhmlbbaaDoor
namespace Go.Proofs.YtcklfkblhmlbbaaDoor
attribute [local irreducible] CW OW QW QOp Con thenP inBlockP AW QX RW
set_option maxRecDepth 10000
set_option linter.unusedSimpArgs false
set_option linter.unusedVariables false
theorem l01Made_con (p x y z : Int) (hp : primeB p = true) : ConQ Tryd.prog [] 80 [.int p, .int x, .int y, .int z] [] (.tuple [.arr (normL p [x, y, z]), .bool (facP p [x, y, z] != 0)]) := by
  have hb := prime_bd hp
  have hnl := normL_length p [x, y, z]
  have hzz := fun h => normL_zero (p := p) (l := [x, y, z]) h
  have hno := l01Norm_con p 2 [x, y, z] 3 3 (by simp) hp (by omega)
  simp only [List.take_of_length_le (show [x, y, z].length ≤ 3 from Nat.le_refl _)] at hno
  generalize hNN : normL p [x, y, z] = NN at *
  generalize hff : facP p [x, y, z] = ff at *
  match NN, hnl with
  | [n0, n1, n2], _ =>
    refine conW tab_ok [(0, .int p), (1, .int x), (2, .int y), (3, .int z)] 0 [] [] Tryd.func80 rfl rfl rfl rfl rfl rfl rfl rfl rfl ?_
    refine cR ?_
    refine oAlloc rfl rfl rfl rfl rfl rfl rfl ?_
    refine oA rfl rfl ?_
    refine oN ?_
    refine cR ?_
    iterate 4 refine oM rfl rfl ?_
    refine oBsl (r := [x, y, z]) (zl := []) rfl rfl rfl rfl (.inl ⟨rfl, rfl⟩) rfl rfl rfl rfl rfl rfl ?_
    refine oCall (hno) [(0, 1)] 2 rfl rfl (Fits.mk' (vHc rfl vHn) rfl rfl (by first | (simp; done) | exact glOk rfl rfl rfl)) rfl rfl ?_
    rintro r H1 ⟨k', sp, hk1, hk2, rfl, rfl⟩
    refine ⟨.tuple [.slice 3 0 3 k', .bool (ff != 0)], [(1, .ints 2 [x, y, z]), (3, .ints 2 ([n0, n1, n2] ++ sp))], rfl, rfl, rfl, ?_⟩
    refine oM rfl rfl ?_
    iterate 2 refine oQ (Q_extract rfl rfl) rfl rfl ?_
    iterate 2 refine oA rfl rfl ?_
    refine oN ?_
    refine CW_seq ?_
    refine cR ?_
    refine oM rfl rfl ?_
    refine oQ (Q_not rfl) rfl rfl ?_
    refine oN ?_
    first | refine cT rfl ?_ | refine cF rfl ?_ | refine CW_cond rfl (fun hc => ?_) (fun hc => ?_)
    all_goals try simp only [s1, s2, s3, s4, s5, s6, s7, s8, s9, s10, s11, s12] at hc
    all_goals first
      | (
       refine CW_skip ?_)
      | (
       refine cR ?_
       refine oQ (Q_build rfl rfl rfl rfl rfl rfl rfl rfl) rfl rfl ?_
       first | refine oSw rfl rfl rfl rfl ?_ | refine oSa rfl rfl rfl rfl ?_
       refine oA rfl rfl ?_
       refine oN ?_
       refine CW_ret ?_)
    all_goals first
      | with_reducible refine tR ?_
      | with_reducible refine tE ?_
      | (
       with_reducible refine tN ?_
       refine CW_seq ?_
       refine CW_any (fun i => List.elem i [10, 11]) 12 rfl lateOk (by decide +kernel) (fun hst => ?_)
       refine aP 0 hst rfl rfl (by decide +kernel) (PX_move rfl rfl) rfl rfl ?_
       first | refine aQ 1 hst rfl rfl (by decide +kernel) (QX_of (Is0 rfl rfl rfl rfl rfl rfl) NE_ix) rfl rfl ?_ | refine aQ 1 hst rfl rfl (by decide +kernel) (QX_of (Is1 rfl rfl rfl rfl rfl rfl) NE_ix) rfl rfl ?_
       first | refine aQ 2 hst rfl rfl (by decide +kernel) (QX_of (Q_ldc rfl rfl rfl rfl rfl) NE_load) rfl rfl ?_ | refine aQ 2 hst rfl rfl (by decide +kernel) (QX_of (Ld rfl rfl rfl rfl) NE_load) rfl rfl ?_
       refine aP 3 hst rfl rfl (by decide +kernel) (PX_move rfl rfl) rfl rfl ?_
       first | refine aQ 4 hst rfl rfl (by decide +kernel) (QX_of (Is0 rfl rfl rfl rfl rfl rfl) NE_ix) rfl rfl ?_ | refine aQ 4 hst rfl rfl (by decide +kernel) (QX_of (Is1 rfl rfl rfl rfl rfl rfl) NE_ix) rfl rfl ?_
       first | refine aQ 5 hst rfl rfl (by decide +kernel) (QX_of (Q_ldc rfl rfl rfl rfl rfl) NE_load) rfl rfl ?_ | refine aQ 5 hst rfl rfl (by decide +kernel) (QX_of (Ld rfl rfl rfl rfl) NE_load) rfl rfl ?_
       refine aP 6 hst rfl rfl (by decide +kernel) (PX_move rfl rfl) rfl rfl ?_
       first | refine aQ 7 hst rfl rfl (by decide +kernel) (QX_of (Is0 rfl rfl rfl rfl rfl rfl) NE_ix) rfl rfl ?_ | refine aQ 7 hst rfl rfl (by decide +kernel) (QX_of (Is1 rfl rfl rfl rfl rfl rfl) NE_ix) rfl rfl ?_
       first | refine aQ 8 hst rfl rfl (by decide +kernel) (QX_of (Q_ldc rfl rfl rfl rfl rfl) NE_load) rfl rfl ?_ | refine aQ 8 hst rfl rfl (by decide +kernel) (QX_of (Ld rfl rfl rfl rfl) NE_load) rfl rfl ?_
       refine aQ 9 hst rfl rfl (by decide +kernel) (QX_of (Q_build rfl rfl rfl rfl rfl rfl rfl rfl) NE_build) rfl rfl ?_
       refine AW_last [10, 11] rfl (by decide +kernel) rfl ?_
       first | refine oSw rfl rfl rfl rfl ?_ | refine oSa rfl rfl rfl rfl ?_
       refine oA rfl rfl ?_
       refine OW_nil (npN ?_)
       all_goals with_reducible refine tN ?_
       all_goals (
        refine CW_ret ?_))
    all_goals (
     refine exitQ (.inr rfl) 0 (.cons (.arr rfl rfl rfl rfl (by first | omega | (dsimp only; omega) | (simp; omega) | (simp; done))) (.cons (.tmp rfl rfl) .nil)) ?_ rfl vHn rfl rfl
     first
       | (have hf : ff = 0 := hc
          simp only [resV, hf]
          rw [hzz hf]
          rfl)
       | (have hf : ¬ ff = 0 := hc
          simp only [resV]
          rw [show (ff != 0) = true by simpa using hf]
          rfl))
end Go.Proofs.YtcklfkblhmlbbaaDoor
namespace Go.Proofs.YtcklfkblhmlbbaaDoor
set_option maxRecDepth 10000
set_option linter.unusedSimpArgs false
set_option linter.unusedVariables false
def lnV (p : Int) (l : List Int) : List (List Int) := (allPts p).filter fun m => onB p m l
def smT (p s t : Int) (a b : List Int) (i j : Nat) : Int := if j < i then (s * a.getD j 0 + t * b.getD j 0) % p else 0
def smL (p s t : Int) (a b : List Int) (i : Nat) : List Int := [smT p s t a b i 0, smT p s t a b i 1, smT p s t a b i 2]
@[simp] theorem smL_len (p s t : Int) (a b : List Int) (i : Nat) : (smL p s t a b i).length = 3 := rfl
theorem smL_set {p s t : Int} {a b : List Int} {i : Nat} (hi : i < 3) : (smL p s t a b i).set i ((s * a.getD i 0 + t * b.getD i 0) % p) = smL p s t a b (i + 1) := by
  have h : i = 0 ∨ i = 1 ∨ i = 2 := by omega
  rcases h with rfl | rfl | rfl <;> simp [smL, smT]
theorem smL_end (p s t : Int) (a b : List Int) : smL p s t a b 3 = [(s * a.getD 0 0 + t * b.getD 0 0) % p, (s * a.getD 1 0 + t * b.getD 1 0) % p, (s * a.getD 2 0 + t * b.getD 2 0) % p] := by simp [smL, smT]
theorem smL_zero (p s t : Int) (a b : List Int) : smL p s t a b 0 = [0, 0, 0] := by simp [smL, smT]
attribute [local irreducible] CW OW QW QOp Con thenP inBlockP AW QX RW
theorem pointsOn1_con (p : Int) (l m : List Int) (hp : primeB p = true) (hll : l.length = 3) (hls : sm 13 l) (hm : m ∈ allPts p) : ConQ Tryd.prog [] 120 [.arr m, .ptr 1000 0, .ptr 1001 0] [(1000, .ints 2 [p]), (1001, .ints 24 l)] (.bool (onB p m l)) := by
  have hm3 := allPts_three hm
  refine conW tab_ok [(0, .arr m), (1, .ptr 1000 0), (2, .ptr 1001 0)] 0 [1000, 1001] [1000, 1001] Tryd.func120 rfl rfl rfl rfl rfl rfl rfl rfl rfl ?_
  refine cR ?_
  refine oBox rfl rfl rfl rfl rfl rfl ?_
  refine oA rfl rfl ?_
  refine oN ?_
  refine cR ?_
  first | refine oQ (Q_ldc rfl rfl rfl rfl rfl) rfl rfl ?_ | refine oQ (Ld rfl rfl rfl rfl) rfl rfl ?_
  refine oQ (Q_ldw rfl rfl rfl rfl hm3) rfl rfl ?_
  refine oQ (Q_ldw rfl rfl rfl rfl hll) rfl rfl ?_
  refine oQ (Q_call0 (isOn_con p m l hp hm3 hll (allPts_sm hp hm) hls) rfl rfl rfl) rfl rfl ?_
  refine oA rfl rfl ?_
  refine oN ?_
  refine CW_ret ?_
  all_goals (
   ((refine exitQ (.inr rfl) 0 (.cons (.tmp rfl rfl) .nil) ?_ rfl (vHc rfl (vHc rfl vHn)) rfl rfl); rfl))
theorem pointsOn_con (p : Int) (l : List Int) (hp : primeB p = true) (hll : l.length = 3) (hls : sm 13 l) : Con Tryd.prog [] 96 [.int p, .arr l] [] (ownR 3 29 [] 0 (lnV p l)) := by
  refine conW tab_ok [(0, .int p), (1, .arr l)] 0 [] [] Tryd.func96 rfl rfl rfl rfl rfl rfl rfl rfl rfl ?_
  refine cR ?_
  iterate 2 refine oBox rfl rfl rfl rfl rfl rfl ?_
  refine oA rfl rfl ?_
  refine oN ?_
  refine cR ?_
  first | refine oQ (Q_ldc rfl rfl rfl rfl rfl) rfl rfl ?_ | refine oQ (Ld rfl rfl rfl rfl) rfl rfl ?_
  refine oQ (Q_makeFunc rfl rfl) rfl rfl ?_
  refine oCall (pointsThat_2 120 2 [p] 24 l (fun m => onB p m l) p hp (fun m hm => pointsOn1_con p l m hp hll hls hm)) [(1000, 0), (1001, 1)] 1 rfl rfl (Fits.mk' (vHc rfl (vHc rfl vHn)) rfl rfl (by first | (simp; done) | exact glOk rfl rfl rfl)) rfl rfl ?_
  rintro r H1 ⟨k9, sp9, hk9, hs9, rfl, rfl⟩
  refine ⟨.slice 2 0 (lnV p l).length k9, [(0, .ints 2 [p]), (1, .ints 24 l), (2, .ints 29 ((lnV p l).flatten ++ sp9))], rfl, rfl, rfl, ?_⟩
  refine oA rfl rfl ?_
  refine oN ?_
  refine CW_ret ?_
  all_goals (
   exact exitH (r0 := .slice 0 0 (lnV p l).length k9) (H0 := [(0, .ints 29 ((lnV p l).flatten ++ sp9))]) (.inr rfl) [(0, 2)] 1 (.cons (.tmp rfl rfl) .nil) rfl rfl rfl (vHc rfl vHn) rfl rfl ⟨k9, sp9, hk9, hs9, rfl, rfl⟩)
theorem l01Sum_con (p s t : Int) (a b : List Int) (hp : primeB p = true) (hal : a.length = 3) (hbl : b.length = 3) (qa : smN 12 a) (qb : smN 12 b) (hs : 0 ≤ s ∧ s ≤ 12) (ht : 0 ≤ t ∧ t ≤ 12) : ConQ Tryd.prog [] 117 [.int p, .arr a, .arr b, .int s, .int t] [] (.arr (smL p s t a b 3)) := by
  have hpb := prime_bd hp
  refine conW tab_ok [(0, .int p), (1, .arr a), (2, .arr b), (3, .int s), (4, .int t)] 0 [] [] Tryd.func117 rfl rfl rfl rfl rfl rfl rfl rfl rfl ?_
  refine cR ?_
  iterate 2 refine oBox rfl rfl rfl rfl rfl rfl ?_
  refine oAlloc rfl rfl rfl rfl rfl rfl rfl ?_
  refine oN ?_
  refine cR ?_
  refine oQ (Q_build rfl rfl rfl rfl rfl rfl rfl rfl) rfl rfl ?_
  refine oAlloc rfl rfl rfl rfl rfl rfl rfl ?_
  first | refine oSw rfl rfl rfl rfl ?_ | refine oSa rfl rfl rfl rfl ?_
  refine oN ?_
  refine CW_seq ?_
  refine cR ?_
  refine oA rfl rfl ?_
  refine oN ?_
  refine CW_block ?_
  refine CW_loop (ι := Nat) (fun i => i ≤ 3) (fun i => ⟨[(0, .int p), (3, .int s), (4, .int t), (6, .ptr 0 0), (7, .ptr 1 0), (10, .ptr 2 0), (11, .ptr 3 0), (12, .int (i : Nat))], [(0, .ints 29 a), (1, .ints 29 b), (2, .ints 29 [0, 0, 0]), (3, .ints 29 (smL p s t a b i))], 4⟩) (fun i => 3 - i) 0 ?_ ?_ ?_
  · first | trivial | omega | (simp; done) | (simp; omega)
  · refine View.mk' [] rfl rfl rfl ?_ ?_
    repeat' first | exact vFn | refine vFc rfl ?_ | exact vHn | refine vHc rfl ?_ | refine vFc (congrArg (fun z => some (V.int z)) ?_) ?_ | refine vHc (congrArg (fun z => some (Blk.ints _ z)) ?_) ?_ | refine vFc (congrArg (fun z => some (V.bool z)) ?_) ?_ | refine vFs rfl rfl ?_ ?_
    all_goals rw [smL_zero]
  intro i hi
  have hai := smN_get qa (by decide) i
  have hbi := smN_get qb (by decide) i
  refine CW_seq ?_
  refine cR ?_
  refine oM rfl rfl ?_
  refine oQ (Q_bin rfl rfl rfl) rfl rfl ?_
  refine oN ?_
  first | refine cT rfl ?_ | refine cF rfl ?_ | refine CW_cond rfl (fun hc => ?_) (fun hc => ?_)
  all_goals try simp only [s1, s2, s3, s4, s5, s6, s7, s8, s9, s10, s11, s12] at hc
  all_goals first
    | (
     refine CW_skip ?_)
    | (
     refine CW_exit ?_)
  all_goals first
    | with_reducible refine tR ?_
    | with_reducible refine tE ?_
    | (
     with_reducible refine tN ?_
     refine CW_seq ?_
     refine CW_block ?_
     refine CW_any (fun i => List.elem i [15]) 16 rfl lateOk (by decide +kernel) (fun hst => ?_)
     refine aP 0 hst rfl rfl (by decide +kernel) (PX_move rfl rfl) rfl rfl ?_
     refine aP 1 hst rfl rfl (by decide +kernel) (PX_move rfl rfl) rfl rfl ?_
     refine aP 2 hst rfl rfl (by decide +kernel) (PX_move rfl rfl) rfl rfl ?_
     refine aP 3 hst rfl rfl (by decide +kernel) (PX_move rfl rfl) rfl rfl ?_
     first | refine aQ 4 hst rfl rfl (by decide +kernel) (QX_of (Ia0 rfl rfl rfl rfl rfl rfl) NE_ix) rfl rfl ?_ | refine aQ 4 hst rfl rfl (by decide +kernel) (QX_of (Ia1 rfl rfl rfl rfl rfl rfl) NE_ix) rfl rfl ?_
     refine aQ 5 hst rfl rfl (by decide +kernel) (QX_of (Ld rfl rfl rfl rfl) NE_load) rfl rfl ?_
     refine aMulN 6 hst rfl rfl (by decide +kernel) 12 12 rfl rfl (by omega) (by omega) (by decide) rfl (fun z24 hz24 hl24 hu24 => ?_)
     refine aP 7 hst rfl rfl (by decide +kernel) (PX_move rfl rfl) rfl rfl ?_
     refine aP 8 hst rfl rfl (by decide +kernel) (PX_move rfl rfl) rfl rfl ?_
     first | refine aQ 9 hst rfl rfl (by decide +kernel) (QX_of (Ia0 rfl rfl rfl rfl rfl rfl) NE_ix) rfl rfl ?_ | refine aQ 9 hst rfl rfl (by decide +kernel) (QX_of (Ia1 rfl rfl rfl rfl rfl rfl) NE_ix) rfl rfl ?_
     refine aQ 10 hst rfl rfl (by decide +kernel) (QX_of (Ld rfl rfl rfl rfl) NE_load) rfl rfl ?_
     refine aMulN 11 hst rfl rfl (by decide +kernel) 12 12 rfl rfl (by omega) (by omega) (by decide) rfl (fun z29 hz29 hl29 hu29 => ?_)
     first | refine aP 12 hst rfl rfl (by decide +kernel) (PX_binu rfl rfl rfl (by omega)) rfl rfl ?_ | refine aP 12 hst rfl rfl (by decide +kernel) (PX_bin rfl rfl rfl) rfl rfl ?_
     refine aQ 13 hst rfl rfl (by decide +kernel) (QX_call0 (l01Mod_con _ p (by omega) (by omega)) rfl rfl rfl) rfl rfl ?_
     first | refine aQ 14 hst rfl rfl (by decide +kernel) (QX_of (Ia0 rfl rfl rfl rfl rfl rfl) NE_ix) rfl rfl ?_ | refine aQ 14 hst rfl rfl (by decide +kernel) (QX_of (Ia1 rfl rfl rfl rfl rfl rfl) NE_ix) rfl rfl ?_
     refine AW_last [15] rfl (by decide +kernel) rfl ?_
     refine oS rfl rfl rfl rfl rfl ?_
     refine OW_nil (npN ?_)
     all_goals first | with_reducible refine bN ?_ | with_reducible refine bE ?_ | with_reducible refine bR ?_ | refine bX rfl ?_
     all_goals with_reducible refine tN ?_
     all_goals (
      refine CW_region ?_
      refine oM rfl rfl ?_
      first | refine oQ (Q_binu rfl rfl rfl (by omega)) rfl rfl ?_ | refine oQ (Q_bin rfl rfl rfl) rfl rfl ?_
      refine oA rfl rfl ?_
      refine OW_nil ?_))
  all_goals first
    | with_reducible refine tR ?_
    | with_reducible refine tE ?_
    | (
     with_reducible refine tN ?_
     refine ⟨i + 1, ?_, ?_, View.mk' [] rfl rfl rfl ?_ ?_⟩
     · omega
     · omega
     all_goals (repeat' first | exact vFn | refine vFc rfl ?_ | exact vHn | refine vHc rfl ?_ | refine vFc (congrArg (fun z => some (V.int z)) ?_) ?_ | refine vHc (congrArg (fun z => some (Blk.ints _ z)) ?_) ?_ | refine vFc (congrArg (fun z => some (V.bool z)) ?_) ?_ | refine vFs rfl rfl ?_ ?_)
     all_goals subst hz24 hz29
     all_goals exact smL_set (by omega))
  all_goals first | with_reducible refine bN ?_ | with_reducible refine bE ?_ | with_reducible refine bR ?_ | refine bX rfl ?_
  all_goals with_reducible refine tN ?_
  all_goals (
   refine cR ?_
   first | refine oQ (Lw rfl rfl rfl rfl) rfl rfl ?_ | refine oQ (La rfl rfl rfl rfl rfl) rfl rfl ?_
   first | refine oSw rfl rfl rfl rfl ?_ | refine oSa rfl rfl rfl rfl ?_
   refine oN ?_
   refine CW_ret ?_)
  all_goals (
   have e : i = 3 := by omega
   subst e
   refine exitQ (.inr rfl) 0 (.cons (.arr rfl rfl rfl rfl (by first | omega | (dsimp only; omega) | (simp; omega) | (simp; done))) .nil) ?_ rfl vHn rfl rfl
   rfl)
end Go.Proofs.YtcklfkblhmlbbaaDoor
namespace Go.Proofs.YtcklfkblhmlbbaaDoor
set_option maxRecDepth 10000
set_option linter.unusedSimpArgs false
set_option linter.unusedVariables false
def ptM (p : Int) (u v a : List Int) (s t : Int) : Prop := facP p (smL p s t u v 3) ≠ 0 ∧ normL p (smL p s t u v 3) = a
theorem l3eq {L : List Int} (h : L.length = 3) : [L.getD 0 0, L.getD 1 0, L.getD 2 0] = L := by
  match L, h with
  | [a, b, c], _ => rfl
attribute [local irreducible] CW OW QW QOp Con thenP inBlockP AW QX RW
theorem l01PartsN_con (n : Nat) (u v a : List Int) (hp : primeB (n : Int) = true) (hul : u.length = 3) (hvl : v.length = 3) (hal : a.length = 3) (qu : smN 12 u) (qv : smN 12 v) (hex : ∃ s t : Nat, s < n ∧ t < n ∧ ptM (n : Int) u v a s t) : Con Tryd.prog [] 93 [.int (n : Int), .arr u, .arr v, .arr a] [] (fun r H' => ∃ s t : Nat, s < n ∧ t < n ∧ ptM (n : Int) u v a s t ∧ r = .tuple [.int (s : Int), .int (t : Int), .bool true] ∧ H' = []) := by
  have hpb := prime_bd hp
  refine conW tab_ok [(0, .int (n : Int)), (1, .arr u), (2, .arr v), (3, .arr a)] 0 [] [] Tryd.func93 rfl rfl rfl rfl rfl rfl rfl rfl rfl ?_
  refine cR ?_
  iterate 3 refine oBox rfl rfl rfl rfl rfl rfl ?_
  iterate 3 refine oA rfl rfl ?_
  refine oN ?_
  refine CW_seq ?_
  refine cR ?_
  refine oA rfl rfl ?_
  refine oN ?_
  refine CW_block ?_
  refine CW_loop (ι := Nat) (fun s => s ≤ n ∧ ∀ s' : Nat, s' < s → ∀ t' : Nat, t' < n → ¬ ptM (n : Int) u v a s' t') (fun s => ⟨[(0, .int (n : Int)), (5, .ptr 0 0), (6, .ptr 1 0), (7, .ptr 2 0), (11, .int (s : Nat))], [(0, .ints 29 u), (1, .ints 29 v), (2, .ints 29 a)], 3⟩) (fun s => n - s) 0 ?_ ?_ ?_
  · exact ⟨Nat.zero_le _, fun s' h => absurd h (Nat.not_lt_zero _)⟩
  · refine View.mk' [] rfl rfl rfl ?_ ?_
    repeat' first | exact vFn | refine vFc rfl ?_ | exact vHn | refine vHc rfl ?_ | refine vFc (congrArg (fun z => some (V.int z)) ?_) ?_ | refine vHc (congrArg (fun z => some (Blk.ints _ z)) ?_) ?_ | refine vFc (congrArg (fun z => some (V.bool z)) ?_) ?_ | refine vFs rfl rfl ?_ ?_
  rintro s ⟨hs, hs2⟩
  refine CW_seq ?_
  refine cR ?_
  iterate 2 refine oM rfl rfl ?_
  refine oQ (Q_bin rfl rfl rfl) rfl rfl ?_
  refine oN ?_
  first | refine cT rfl ?_ | refine cF rfl ?_ | refine CW_cond rfl (fun hc => ?_) (fun hc => ?_)
  all_goals try simp only [s1, s2, s3, s4, s5, s6, s7, s8, s9, s10, s11, s12] at hc
  all_goals first
    | (
     refine CW_skip ?_)
    | (
     refine CW_exit ?_)
  all_goals first
    | with_reducible refine tR ?_
    | with_reducible refine tE ?_
    | (
     with_reducible refine tN ?_
     refine CW_seq ?_
     refine CW_block ?_
     refine cR ?_
     refine oA rfl rfl ?_
     refine oN ?_
     refine CW_block ?_
     refine CW_loop (ι := Nat) (fun t => t ≤ n ∧ ∀ t' : Nat, t' < t → ¬ ptM (n : Int) u v a s t') (fun t => ⟨[(0, .int (n : Int)), (5, .ptr 0 0), (6, .ptr 1 0), (7, .ptr 2 0), (11, .int (s : Nat)), (12, .int (t : Nat))], [(0, .ints 29 u), (1, .ints 29 v), (2, .ints 29 a)], 3⟩) (fun t => n - t) 0 ?_ ?_ ?_
     · exact ⟨Nat.zero_le _, fun s' h => absurd h (Nat.not_lt_zero _)⟩
     · refine View.mk' [] rfl rfl rfl ?_ ?_
       repeat' first | exact vFn | refine vFc rfl ?_ | exact vHn | refine vHc rfl ?_ | refine vFc (congrArg (fun z => some (V.int z)) ?_) ?_ | refine vHc (congrArg (fun z => some (Blk.ints _ z)) ?_) ?_ | refine vFc (congrArg (fun z => some (V.bool z)) ?_) ?_ | refine vFs rfl rfl ?_ ?_
     rintro t ⟨ht, ht2⟩
     have hsl := smL_len (n : Int) s t u v 3
     have hmade := l01Made_con (n : Int) ((smL (n : Int) s t u v 3).getD 0 0) ((smL (n : Int) s t u v 3).getD 1 0) ((smL (n : Int) s t u v 3).getD 2 0) hp
     rw [l3eq hsl] at hmade
     have hsum := fun (h1 : (s : Int) < n) (h2 : (t : Int) < n) => l01Sum_con (n : Int) s t u v hp hul hvl qu qv (by omega) (by omega)
     have hnl : (normL (n : Int) (smL (n : Int) s t u v 3)).length = 3 := by rw [normL_length]; rfl
     have hpm : ptM (n : Int) u v a s t ↔ (facP (n : Int) (smL (n : Int) s t u v 3) ≠ 0 ∧ normL (n : Int) (smL (n : Int) s t u v 3) = a) := Iff.rfl
     generalize normL (n : Int) (smL (n : Int) s t u v 3) = NN at *
     generalize facP (n : Int) (smL (n : Int) s t u v 3) = ff at *
     refine CW_seq ?_
     refine cR ?_
     iterate 2 refine oM rfl rfl ?_
     refine oQ (Q_bin rfl rfl rfl) rfl rfl ?_
     refine oN ?_
     first | refine cT rfl ?_ | refine cF rfl ?_ | refine CW_cond rfl (fun hc => ?_) (fun hc => ?_)
     all_goals try simp only [s1, s2, s3, s4, s5, s6, s7, s8, s9, s10, s11, s12] at hc
     all_goals first
       | (
        refine CW_skip ?_)
       | (
        refine CW_exit ?_)
     all_goals first
       | with_reducible refine tR ?_
       | with_reducible refine tE ?_
       | (
        with_reducible refine tN ?_
        refine CW_seq ?_
        refine CW_block ?_
        refine cR ?_
        refine oM rfl rfl ?_
        (have hsum := hsum (by omega) (by omega)); refine oQ (Q_ldw rfl rfl rfl rfl hul) rfl rfl ?_
        refine oQ (Q_ldw rfl rfl rfl rfl hvl) rfl rfl ?_
        iterate 2 refine oM rfl rfl ?_
        refine oQ (Q_call0 (hsum) rfl rfl rfl) rfl rfl ?_
        refine oAlloc rfl rfl rfl rfl rfl rfl rfl ?_
        first | refine oSw rfl rfl rfl rfl ?_ | refine oSa rfl rfl rfl rfl ?_
        refine oN ?_
        refine cR ?_
        refine oM rfl rfl ?_
        first | refine oQ (Ia0 rfl rfl rfl rfl rfl rfl) rfl rfl ?_ | refine oQ (Ia1 rfl rfl rfl rfl rfl rfl) rfl rfl ?_
        refine oQ (Ld rfl rfl rfl rfl) rfl rfl ?_
        first | refine oQ (Ia0 rfl rfl rfl rfl rfl rfl) rfl rfl ?_ | refine oQ (Ia1 rfl rfl rfl rfl rfl rfl) rfl rfl ?_
        refine oQ (Ld rfl rfl rfl rfl) rfl rfl ?_
        first | refine oQ (Ia0 rfl rfl rfl rfl rfl rfl) rfl rfl ?_ | refine oQ (Ia1 rfl rfl rfl rfl rfl rfl) rfl rfl ?_
        refine oQ (Ld rfl rfl rfl rfl) rfl rfl ?_
        refine oQ (Q_call0 (hmade) rfl rfl rfl) rfl rfl ?_
        refine oM rfl rfl ?_
        iterate 2 refine oQ (Q_extract rfl rfl) rfl rfl ?_
        refine oAlloc rfl rfl rfl rfl rfl rfl rfl ?_
        first | refine oSw rfl rfl rfl rfl ?_ | refine oSa rfl rfl rfl rfl ?_
        refine oA rfl rfl ?_
        refine oN ?_
        refine cR ?_
        iterate 2 refine oM rfl rfl ?_
        all_goals first | refine oT rfl rfl ?_ | refine o1 rfl rfl rfl ?_ | refine o0 rfl rfl rfl ?_ | refine ogP1 rfl rfl rfl (fun hg => ?_) (fun hg => ?_) | refine ogP0 rfl rfl rfl (fun hg => ?_) (fun hg => ?_)
        all_goals try simp only [s1, s2, s3, s4, s5, s6, s7, s8, s9, s10, s11, s12] at hg
        all_goals first | (refine oQ (Q_ldw rfl rfl rfl rfl hnl) rfl rfl ?_) | skip
        all_goals first | refine oT rfl rfl ?_ | refine o1 rfl rfl rfl ?_ | refine o0 rfl rfl rfl ?_ | refine ogP1 rfl rfl rfl (fun hg => ?_) (fun hg => ?_) | refine ogP0 rfl rfl rfl (fun hg => ?_) (fun hg => ?_)
        all_goals try simp only [s1, s2, s3, s4, s5, s6, s7, s8, s9, s10, s11, s12] at hg
        all_goals first | (refine oQ (Q_ldw rfl rfl rfl rfl hal) rfl rfl ?_) | skip
        all_goals first | refine oT rfl rfl ?_ | refine o1 rfl rfl rfl ?_ | refine o0 rfl rfl rfl ?_ | refine ogP1 rfl rfl rfl (fun hg => ?_) (fun hg => ?_) | refine ogP0 rfl rfl rfl (fun hg => ?_) (fun hg => ?_)
        all_goals try simp only [s1, s2, s3, s4, s5, s6, s7, s8, s9, s10, s11, s12] at hg
        all_goals first | (refine oQ (Q_arrb rfl rfl rfl rfl rfl rfl rfl rfl rfl (by first | omega | (dsimp only; omega) | (simp; omega) | (simp; done)) (by first | omega | (dsimp only; omega) | (simp; omega) | (simp; done))) rfl rfl ?_) | skip
        all_goals first | refine oQ (Q_pick_t rfl (by with_reducible rfl) rfl rfl) rfl rfl ?_ | refine oQ (Q_pick_f rfl (by with_reducible rfl) rfl rfl) rfl rfl ?_
        all_goals refine oN ?_
        all_goals (
         first | refine cT rfl ?_ | refine cF rfl ?_ | refine CW_cond rfl (fun hc => ?_) (fun hc => ?_)
         all_goals try simp only [s1, s2, s3, s4, s5, s6, s7, s8, s9, s10, s11, s12] at hc
         all_goals first
           | (
            refine CW_skip ?_)
           | (
            refine cR ?_
            iterate 2 refine oM rfl rfl ?_
            iterate 3 refine oA rfl rfl ?_
            refine oN ?_
            refine CW_ret ?_))
        all_goals first | with_reducible refine bN ?_ | with_reducible refine bE ?_ | with_reducible refine bR ?_ | refine bX rfl ?_
        all_goals first
          | with_reducible refine tR ?_
          | with_reducible refine tE ?_
          | (
           with_reducible refine tN ?_
           refine CW_region ?_
           refine oM rfl rfl ?_
           first | refine oQ (Q_binu rfl rfl rfl (by omega)) rfl rfl ?_ | refine oQ (Q_bin rfl rfl rfl) rfl rfl ?_
           refine oA rfl rfl ?_
           refine OW_nil ?_))
     all_goals first
       | with_reducible refine tR ?_
       | with_reducible refine tE ?_
       | (
        with_reducible refine tN ?_
        refine ⟨t + 1, ?_, ?_, View.mk' [] rfl rfl rfl ?_ ?_⟩
        · refine ⟨by omega, fun t' h => ?_⟩
          by_cases e : t' = t
          · subst e; rw [hpm]; simp_all
          · exact ht2 t' (by omega)
        · omega
        all_goals (repeat' first | exact vFn | refine vFc rfl ?_ | exact vHn | refine vHc rfl ?_ | refine vFc (congrArg (fun z => some (V.int z)) ?_) ?_ | refine vHc (congrArg (fun z => some (Blk.ints _ z)) ?_) ?_ | refine vFc (congrArg (fun z => some (V.bool z)) ?_) ?_ | refine vFs rfl rfl ?_ ?_))
     all_goals first | with_reducible refine bN ?_ | with_reducible refine bE ?_ | with_reducible refine bR ?_ | refine bX rfl ?_
     all_goals first | with_reducible refine bN ?_ | with_reducible refine bE ?_ | with_reducible refine bR ?_ | refine bX rfl ?_
     all_goals first
       | with_reducible refine tR ?_
       | with_reducible refine tE ?_
       | (
        with_reducible refine tN ?_
        refine CW_region ?_
        refine oM rfl rfl ?_
        first | refine oQ (Q_binu rfl rfl rfl (by omega)) rfl rfl ?_ | refine oQ (Q_bin rfl rfl rfl) rfl rfl ?_
        refine oA rfl rfl ?_
        refine OW_nil ?_))
  all_goals first
    | with_reducible refine tR ?_
    | with_reducible refine tE ?_
    | (
     with_reducible refine tN ?_
     refine ⟨s + 1, ?_, ?_, View.mk' [] rfl rfl rfl ?_ ?_⟩
     · refine ⟨by omega, fun s' h => ?_⟩
       by_cases e : s' = s
       · subst e; (have e : t = n := by omega); subst e; exact fun t' h => ht2 t' h
       · exact hs2 s' (by omega)
     · omega
     all_goals (repeat' first | exact vFn | refine vFc rfl ?_ | exact vHn | refine vHc rfl ?_ | refine vFc (congrArg (fun z => some (V.int z)) ?_) ?_ | refine vHc (congrArg (fun z => some (Blk.ints _ z)) ?_) ?_ | refine vFc (congrArg (fun z => some (V.bool z)) ?_) ?_ | refine vFs rfl rfl ?_ ?_))
  all_goals first | with_reducible refine bN ?_ | with_reducible refine bE ?_ | with_reducible refine bR ?_ | refine bX rfl ?_
  all_goals first
    | with_reducible refine tR ?_
    | with_reducible refine tE ?_
    | (
     with_reducible refine tN ?_
     refine cR ?_
     iterate 3 refine oA rfl rfl ?_
     refine oN ?_
     refine CW_ret ?_)
  all_goals (
   first
     | (have hpt : ptM (n : Int) u v a s t := (by rw [hpm]; simp_all)
        exact exitH (r0 := .tuple [.int (s : Int), .int (t : Int), .bool true]) (H0 := []) (.inr rfl) [] 0 (.cons (.tmp rfl rfl) (.cons (.tmp rfl rfl) (.cons (.tmp rfl rfl) .nil))) rfl rfl rfl vHn rfl rfl ⟨s, t, by omega, by omega, hpt, rfl, rfl⟩)
     | (exfalso
        obtain ⟨s', t', h1, h2, h3⟩ := hex
        exact hs2 s' (by omega) t' h2 h3))
end Go.Proofs.YtcklfkblhmlbbaaDoor
namespace Go.Proofs.YtcklfkblhmlbbaaDoor
set_option linter.unusedVariables false
set_option linter.unusedSimpArgs false
set_option linter.unusedSectionVars false
open Lean.Grind
/-! ### the points of a line -/
def ltN (a b : N3) : Bool := Nat.blt a.1 b.1 || (Nat.beq a.1 b.1 && (Nat.blt a.2.1 b.2.1 || (Nat.beq a.2.1 b.2.1 && Nat.blt a.2.2 b.2.2)))
def sortN : List N3 → Bool
  | [] => true
  | [_] => true
  | a :: b :: r => ltN a b && sortN (b :: r)
theorem sortN_3 : sortN (allN 3) = true := by decide +kernel
theorem sortN_5 : sortN (allN 5) = true := by decide +kernel
theorem sortN_7 : sortN (allN 7) = true := by decide +kernel
theorem sortN_11 : sortN (allN 11) = true := by decide +kernel
theorem sortN_13 : sortN (allN 13) = true := by decide +kernel
theorem ltN_iff {a b : N3} : ltN a b = true ↔ a.1 < b.1 ∨ (a.1 = b.1 ∧ (a.2.1 < b.2.1 ∨ (a.2.1 = b.2.1 ∧ a.2.2 < b.2.2))) := by
  simp [ltN, Nat.blt_eq, Nat.beq_eq_true_eq]
theorem ltN_trans {a b c : N3} (h1 : ltN a b = true) (h2 : ltN b c = true) : ltN a c = true := by
  rw [ltN_iff] at *; omega
theorem ltN_ne {a b : N3} (h : ltN a b = true) : a ≠ b := by
  rintro rfl
  rw [ltN_iff] at h; omega
theorem sortN_pw : ∀ {l : List N3}, sortN l = true → l.Pairwise (fun a b => ltN a b = true)
  | [], _ => List.Pairwise.nil
  | [a], _ => by simp
  | a :: b :: r, h => by
    simp only [sortN, Bool.and_eq_true] at h
    have ih := sortN_pw h.2
    refine List.Pairwise.cons (fun x hx => ?_) ih
    rcases List.mem_cons.1 hx with rfl | hx
    · exact h.1
    · exact ltN_trans h.1 (List.rel_of_pairwise_cons ih hx)
theorem toL_inj {a b : N3} (h : toL a = toL b) : a = b := by
  obtain ⟨a0, a1, a2⟩ := a
  obtain ⟨b0, b1, b2⟩ := b
  simp only [toL, List.cons.injEq, and_true] at h
  obtain ⟨h0, h1, h2⟩ := h
  have : a0 = b0 := by omega
  have : a1 = b1 := by omega
  have : a2 = b2 := by omega
  simp_all
theorem allPts_nodup {p : Int} (hp : primeB p = true) : (allPts p).Nodup := by
  obtain ⟨n, rfl, hn⟩ : ∃ n : Nat, p = (n : Int) ∧ sortN (allN n) = true := by
    rcases prime_cases hp with h | h | h | h | h
    · exact ⟨3, h, sortN_3⟩
    · exact ⟨5, h, sortN_5⟩
    · exact ⟨7, h, sortN_7⟩
    · exact ⟨11, h, sortN_11⟩
    · exact ⟨13, h, sortN_13⟩
  rw [allN_eq, List.Nodup, List.pairwise_map]
  exact (sortN_pw hn).imp fun h e => ltN_ne h (toL_inj e)
theorem lnV_nodup {p : Int} (hp : primeB p = true) (l : List Int) : (lnV p l).Nodup := List.Pairwise.filter _ (allPts_nodup hp)
theorem lnV_mem {p : Int} {l m : List Int} (h : m ∈ lnV p l) : m ∈ allPts p ∧ onB p m l = true := by
  have := List.mem_filter.1 h
  exact this
theorem lnV_len {p : Int} (hp : primeB p = true) {l : List Int} (hl : l ∈ allPts p) : ((lnV p l).length : Int) = p + 1 := line_count hp hl
theorem lnV_get {p : Int} {l : List Int} {i : Nat} (hi : i < (lnV p l).length) : (lnV p l).getD i [] ∈ lnV p l := by
  have : (lnV p l).getD i [] = (lnV p l)[i] := by simp [List.getD, hi]
  rw [this]; exact List.getElem_mem hi
theorem lnV_ne {p : Int} (hp : primeB p = true) {l : List Int} {i j : Nat} (hi : i < (lnV p l).length) (hj : j < (lnV p l).length) (h : i ≠ j) : (lnV p l).getD i [] ≠ (lnV p l).getD j [] := by
  have e1 : (lnV p l).getD i [] = (lnV p l)[i] := by simp [List.getD, hi]
  have e2 : (lnV p l).getD j [] = (lnV p l)[j] := by simp [List.getD, hj]
  rw [e1, e2]
  intro e
  have key := List.pairwise_iff_getElem.1 (lnV_nodup hp l)
  rcases Nat.lt_or_gt_of_ne h with g | g
  · exact key i j hi hj g e
  · exact key j i hj hi g e.symm
/-! ### counts -/
def cnF (p : Int) (c : List Int) (L : List (List Int)) (i : Nat) : Nat := leadI (alV p c (L.getD i []) (L.getD ((i + 1) % L.length) []) 80)
def mPts (p : Int) (c : List Int) (L : List (List Int)) : Nat → List (List Int)
  | 0 => []
  | i + 1 => mPts p c L i ++ (if 0 < cnF p c L i then [L.getD i []] else [])
def mCts (p : Int) (c : List Int) (L : List (List Int)) : Nat → List Int
  | 0 => []
  | i + 1 => mCts p c L i ++ (if 0 < cnF p c L i then [(cnF p c L i : Int)] else [])
/-- is the line a part of the cubic? -/
def prB (p : Int) (c : List Int) (L : List (List Int)) : Bool := alV p c (L.getD 0 []) (L.getD 1 []) 80 == [0, 0, 0, 0]
theorem cnF_le (p : Int) (c : List Int) (L : List (List Int)) (i : Nat) : cnF p c L i ≤ 3 := by
  unfold cnF leadI
  split <;> (try split) <;> (try split) <;> omega
theorem mPts_len (p : Int) (c : List Int) (L : List (List Int)) : ∀ i, (mPts p c L i).length ≤ i
  | 0 => Nat.le_refl _
  | i + 1 => by
    have := mPts_len p c L i
    rw [mPts, List.length_append]
    split <;> simp <;> omega
theorem mCts_len (p : Int) (c : List Int) (L : List (List Int)) : ∀ i, (mCts p c L i).length = (mPts p c L i).length
  | 0 => rfl
  | i + 1 => by
    have := mCts_len p c L i
    rw [mPts, mCts, List.length_append, List.length_append, this]
    split <;> simp
theorem mPts_mem {p : Int} {c : List Int} {L : List (List Int)} {x : List Int} : ∀ {i}, i ≤ L.length → x ∈ mPts p c L i → x ∈ L
  | 0, _, h => by simp [mPts] at h
  | i + 1, hi, h => by
    rw [mPts, List.mem_append] at h
    rcases h with h | h
    · exact mPts_mem (by omega) h
    · split at h
      · rw [List.mem_singleton] at h
        subst h
        have : L.getD i [] = L[i] := by simp [List.getD, show i < L.length by omega]
        rw [this]; exact List.getElem_mem _
      · simp at h
theorem mCts_bd {p : Int} {c : List Int} {L : List (List Int)} {x : Int} : ∀ {i}, x ∈ mCts p c L i → 1 ≤ x ∧ x ≤ 3
  | 0, h => by simp [mCts] at h
  | i + 1, h => by
    rw [mCts, List.mem_append] at h
    rcases h with h | h
    · exact mCts_bd h
    · split at h
      · rw [List.mem_singleton] at h
        subst h
        have := cnF_le p c L i
        omega
      · simp at h
theorem smL_fac (p s t : Int) (a b : List Int) : facP p (smL p s t a b 3) = facP p [s * a.getD 0 0 + t * b.getD 0 0, s * a.getD 1 0 + t * b.getD 1 0, s * a.getD 2 0 + t * b.getD 2 0] ∧ normL p (smL p s t a b 3) = normL p [s * a.getD 0 0 + t * b.getD 0 0, s * a.getD 1 0 + t * b.getD 1 0, s * a.getD 2 0 + t * b.getD 2 0] := by
  rw [smL_end]
  have := norm_congr (p := p) (l := [(s * a.getD 0 0 + t * b.getD 0 0) % p, (s * a.getD 1 0 + t * b.getD 1 0) % p, (s * a.getD 2 0 + t * b.getD 2 0) % p]) (m := [s * a.getD 0 0 + t * b.getD 0 0, s * a.getD 1 0 + t * b.getD 1 0, s * a.getD 2 0 + t * b.getD 2 0]) (by simp [mod_mod_self])
  exact ⟨this.2, this.1⟩
section
variable {n : Nat} [NeZero n]
theorem ln_det (hp : primeB (n : Int) = true) {l : List Int} (hl : l ∈ allPts (n : Int)) {u v a : List Int} (hu : u ∈ lnV (n : Int) l) (hv : v ∈ lnV (n : Int) l) (ha : a ∈ lnV (n : Int) l) : detT u v a % (n : Int) = 0 :=
  det_of_on hl (allPts_three (lnV_mem hu).1) (allPts_three (lnV_mem hv).1) (allPts_three (lnV_mem ha).1) (lnV_mem hu).2 (lnV_mem hv).2 (lnV_mem ha).2
/-- points of a line out of two of its points -/
theorem ln_parts (hd : Dom (Fin n)) (hp : primeB (n : Int) = true) {l : List Int} (hl : l ∈ allPts (n : Int)) {u v a : List Int} (hu : u ∈ lnV (n : Int) l) (hv : v ∈ lnV (n : Int) l) (ha : a ∈ lnV (n : Int) l) (hne : u ≠ v) :
    ∃ s t : Nat, s < n ∧ t < n ∧ ptM (n : Int) u v a s t := by
  obtain ⟨s, t, h1, h2, h3, h4, h5, h6⟩ := parts_ex hd hp (lnV_mem hu).1 (lnV_mem hv).1 (lnV_mem ha).1 hne (ln_det hp hl hu hv ha)
  refine ⟨s.toNat, t.toNat, by omega, by omega, ?_⟩
  rw [Int.toNat_of_nonneg h1, Int.toNat_of_nonneg h3]
  obtain ⟨e1, e2⟩ := smL_fac (n : Int) s t u v
  exact ⟨by rw [e1]; exact h5, by rw [e2]; exact h6⟩
theorem ptM_ic {u v a : List Int} {s t : Int} (h : ptM (n : Int) u v a s t) (hd : Dom (Fin n)) (hp : primeB (n : Int) = true) : ∃ f : Int, (ic f : Fin n) ≠ 0 ∧ ¬ (s = 0 ∧ t = 0) ∧ ∀ k, k < 3 → (icL a k : Fin n) = ic f * (ic s * icL u k + ic t * icL v k) := by
  obtain ⟨e1, e2⟩ := smL_fac (n : Int) s t u v
  have h1 := h.1
  have h2 := h.2
  rw [e1] at h1
  rw [e2] at h2
  exact ⟨_, fac_ic hd hp h1, parts_nz h1, parts_ic h2⟩
/-- the counts of both sides -/
theorem ln_count (hd : Dom (Fin n)) (hp : primeB (n : Int) = true) (c : List Int) {l : List Int} (hl : l ∈ allPts (n : Int)) {u v a b : List Int} (hu : u ∈ lnV (n : Int) l) (hv : v ∈ lnV (n : Int) l) (ha : a ∈ lnV (n : Int) l) (hb : b ∈ lnV (n : Int) l) (huv : u ≠ v) (hab : a ≠ b)
    {s t : Nat} (hs : s < n) (ht : t < n) (hm : ptM (n : Int) u v a s t) :
    leadI (alV (n : Int) c a b 80) = oftI (n : Int) s t (alV (n : Int) c u v 80) ∧ (alV (n : Int) c a b 80 = [0, 0, 0, 0] → alV (n : Int) c u v 80 = [0, 0, 0, 0]) := by
  obtain ⟨f, hf, hst, hA⟩ := ptM_ic hm hd hp
  obtain ⟨s', t', hs', ht', hm'⟩ := ln_parts hd hp hl hu hv hb huv
  obtain ⟨f', hf', hst', hB⟩ := ptM_ic hm' hd hp
  have hB' : ∀ k, k < 3 → (icL b k : Fin n) = (ic f' * ic s') * icL u k + (ic f' * ic t') * icL v k := fun k hk => by rw [hB k hk]; grind
  exact count_eq hd hp c (by omega) (by omega) hf hst hA hB' (D_nz hd hp (lnV_mem ha).1 (lnV_mem hb).1 hab hA hB')
/-- a point that counts 3 is the only one -/
theorem ln_three (hd : Dom (Fin n)) (hp : primeB (n : Int) = true) (c : List Int) {l : List Int} (hl : l ∈ allPts (n : Int)) {a b d e : List Int} (ha : a ∈ lnV (n : Int) l) (hb : b ∈ lnV (n : Int) l) (hd' : d ∈ lnV (n : Int) l) (he : e ∈ lnV (n : Int) l) (hab : a ≠ b) (had : a ≠ d) (hde : d ≠ e)
    (h3 : leadI (alV (n : Int) c a b 80) = 3) (hz : alV (n : Int) c a b 80 ≠ [0, 0, 0, 0]) : leadI (alV (n : Int) c d e 80) = 0 := by
  obtain ⟨s, t, hs, ht, hm⟩ := ln_parts hd hp hl ha hb hd' hab
  obtain ⟨f, hf, hst, hA⟩ := ptM_ic hm hd hp
  obtain ⟨s', t', hs', ht', hm'⟩ := ln_parts hd hp hl ha hb he hab
  obtain ⟨f', hf', hst', hB⟩ := ptM_ic hm' hd hp
  have hone : ∀ k, k < 3 → (icL a k : Fin n) = 1 * icL a k + 0 * icL b k := fun k hk => by grind
  have hD := D_nz hd hp (lnV_mem hd').1 (lnV_mem ha).1 (fun x => had x.symm) hA hone
  have ht0 : (ic (t : Int) : Fin n) ≠ 0 := fun x => hD (by rw [x]; grind)
  obtain ⟨e0, e1, e2, e3⟩ := al_lin (R := Fin n) c (a := d) (b := e) (u := a) (v := b) (s := ic f * ic (s : Int)) (t := ic f * ic (t : Int)) (x := ic f' * ic (s' : Int)) (y := ic f' * ic (t' : Int)) (fun k hk => by rw [hA k hk]; grind) (fun k hk => by rw [hB k hk]; grind)
  have g : ∀ j, j < 4 → (alV (n : Int) c a b 80).getD j 0 = cuS c a b j 80 % (n : Int) := fun j hj => by
    have h : j = 0 ∨ j = 1 ∨ j = 2 ∨ j = 3 := by omega
    rcases h with rfl | rfl | rfl | rfl <;> rfl
  have l3 : (ic (cuS c a b 0 80) : Fin n) = 0 ∧ (ic (cuS c a b 1 80) : Fin n) = 0 ∧ (ic (cuS c a b 2 80) : Fin n) = 0 := by
    rw [ic_z (R := Fin n) n, ic_z (R := Fin n) n, ic_z (R := Fin n) n, ← g 0 (by decide), ← g 1 (by decide), ← g 2 (by decide)]
    unfold leadI at h3
    by_cases x0 : (alV (n : Int) c a b 80).getD 0 0 = 0
    · by_cases x1 : (alV (n : Int) c a b 80).getD 1 0 = 0
      · by_cases x2 : (alV (n : Int) c a b 80).getD 2 0 = 0
        · exact ⟨x0, x1, x2⟩
        · rw [if_neg (by simpa using x0), if_neg (by simpa using x1), if_pos x2] at h3; omega
      · rw [if_neg (by simpa using x0), if_pos x1] at h3; omega
    · rw [if_pos x0] at h3; omega
  have n3 : (ic (cuS c a b 3 80) : Fin n) ≠ 0 := by
    intro x
    apply hz
    unfold alV
    rw [(ic_z (R := Fin n) n).1 l3.1, (ic_z (R := Fin n) n).1 l3.2.1, (ic_z (R := Fin n) n).1 l3.2.2, (ic_z (R := Fin n) n).1 x]
  rw [l3.1, l3.2.1, l3.2.2] at e0
  have h0 : (ic (cuS c d e 0 80) : Fin n) ≠ 0 := by
    rw [e0]
    unfold cf0
    have h1 : ic f * ic (t : Int) ≠ (0 : Fin n) := hd.ml hf ht0
    have h2 := hd.ml n3 (hd.ml h1 (hd.ml h1 h1))
    intro x
    apply h2
    rw [← x]
    grind
  unfold leadI
  rw [if_pos]
  show cuS c d e 0 80 % (n : Int) ≠ 0
  exact nz_iff.2 h0
end
/-! ### the same for a prime of the five -/
theorem cn_spec {p : Int} (hp : primeB p = true) (c : List Int) {l : List Int} (hl : l ∈ allPts p) {i : Nat} (hi : i < (lnV p l).length) {s t : Nat} (hs : (s : Int) < p) (ht : (t : Int) < p) (hm : ptM p ((lnV p l).getD 0 []) ((lnV p l).getD 1 []) ((lnV p l).getD i []) s t) :
    cnF p c (lnV p l) i = oftI p s t (alV p c ((lnV p l).getD 0 []) ((lnV p l).getD 1 []) 80) := by
  have hlen := lnV_len hp hl
  have hb := prime_bd hp
  obtain ⟨n, _, rfl, hd⟩ := dom_of hp
  refine (ln_count hd hp c hl (lnV_get (by omega)) (lnV_get (by omega)) (lnV_get hi) (lnV_get (Nat.mod_lt _ (by omega))) (lnV_ne hp (by omega) (by omega) (by decide)) (lnV_ne hp hi (Nat.mod_lt _ (by omega)) ?_) (by omega) (by omega) hm).1
  intro e
  by_cases h : i + 1 < (lnV (n : Int) l).length
  · rw [Nat.mod_eq_of_lt h] at e; omega
  · have h' : i + 1 = (lnV (n : Int) l).length := by omega
    rw [h', Nat.mod_self] at e; omega
theorem cn_parts {p : Int} (hp : primeB p = true) {l : List Int} (hl : l ∈ allPts p) {i : Nat} (hi : i < (lnV p l).length) : ∃ s t : Nat, (s : Int) < p ∧ (t : Int) < p ∧ ptM p ((lnV p l).getD 0 []) ((lnV p l).getD 1 []) ((lnV p l).getD i []) s t := by
  have hlen := lnV_len hp hl
  have hb := prime_bd hp
  obtain ⟨n, _, rfl, hd⟩ := dom_of hp
  obtain ⟨s, t, h1, h2, h3⟩ := ln_parts hd hp hl (lnV_get (show 0 < _ by omega)) (lnV_get (show 1 < _ by omega)) (lnV_get hi) (lnV_ne hp (by omega) (by omega) (by decide))
  exact ⟨s, t, by omega, by omega, h3⟩
theorem nx_ne {L i : Nat} (hi : i < L) (h2 : 2 ≤ L) : i ≠ (i + 1) % L := by
  intro e
  by_cases h : i + 1 < L
  · rw [Nat.mod_eq_of_lt h] at e; omega
  · have h' : i + 1 = L := by omega
    rw [h', Nat.mod_self] at e; omega
theorem cn_nz {p : Int} (hp : primeB p = true) (c : List Int) {l : List Int} (hl : l ∈ allPts p) {i : Nat} (hi : i < (lnV p l).length) (hz : prB p c (lnV p l) = false) : alV p c ((lnV p l).getD i []) ((lnV p l).getD ((i + 1) % (lnV p l).length) []) 80 ≠ [0, 0, 0, 0] := by
  have hlen := lnV_len hp hl
  have hb := prime_bd hp
  obtain ⟨s, t, hs, ht, hm⟩ := cn_parts hp hl hi
  intro e
  rw [prB, beq_eq_false_iff_ne] at hz
  apply hz
  obtain ⟨n, _, rfl, hd⟩ := dom_of hp
  exact (ln_count hd hp c hl (lnV_get (by omega)) (lnV_get (by omega)) (lnV_get hi) (lnV_get (Nat.mod_lt _ (by omega))) (lnV_ne hp (by omega) (by omega) (by decide)) (lnV_ne hp hi (Nat.mod_lt _ (by omega)) (nx_ne hi (by omega))) (by omega) (by omega) hm).2 e
theorem cn_three {p : Int} (hp : primeB p = true) (c : List Int) {l : List Int} (hl : l ∈ allPts p) {i j : Nat} (hi : i < (lnV p l).length) (hj : j < (lnV p l).length) (hij : i ≠ j) (hz : prB p c (lnV p l) = false) (h3 : cnF p c (lnV p l) i = 3) : cnF p c (lnV p l) j = 0 := by
  have hlen := lnV_len hp hl
  have hb := prime_bd hp
  have hn := cn_nz hp c hl hi hz
  obtain ⟨n, _, rfl, hd⟩ := dom_of hp
  exact ln_three hd hp c hl (lnV_get hi) (lnV_get (Nat.mod_lt _ (by omega))) (lnV_get hj) (lnV_get (Nat.mod_lt _ (by omega))) (lnV_ne hp hi (Nat.mod_lt _ (by omega)) (nx_ne hi (by omega))) (lnV_ne hp hi hj hij) (lnV_ne hp hj (Nat.mod_lt _ (by omega)) (nx_ne hj (by omega))) h3 hn
end Go.Proofs.YtcklfkblhmlbbaaDoor
namespace Go.Proofs.YtcklfkblhmlbbaaDoor
set_option linter.unusedVariables false
/-- a heap in which some blocks may not be looked at -/
def msk (D : List Nat) (H : Hp) : Hp := (D.map fun b => (b, Blk.dead)) ++ H
theorem msk_in {H : Hp} {b : Nat} : ∀ {D : List Nat}, b ∈ D → lkB (msk D H) b = some .dead
  | d :: D, h => by
    show lkB ((d, Blk.dead) :: msk D H) b = _
    rw [lkB_cons]
    split
    · rfl
    · rename_i e
      exact msk_in ((List.mem_cons.1 h).resolve_left fun x => e x.symm)
theorem msk_out {H : Hp} {b : Nat} : ∀ {D : List Nat}, b ∉ D → lkB (msk D H) b = lkB H b
  | [], _ => rfl
  | d :: D, h => by
    show lkB ((d, Blk.dead) :: msk D H) b = _
    rw [lkB_cons, if_neg (fun e => h (by subst e; exact List.mem_cons_self)), msk_out (fun x => h (List.mem_cons_of_mem _ x))]
theorem msk_live {D : List Nat} {H : Hp} {b : Nat} {k : Blk} (h : lkB (msk D H) b = some k) (hd : k ≠ .dead) : b ∉ D ∧ lkB H b = some k := by
  by_cases hb : b ∈ D
  · rw [msk_in hb] at h; injection h with h; exact absurd h.symm hd
  · exact ⟨hb, by rw [← msk_out hb]; exact h⟩
section
variable {c : Cx} {ρ0 ρ ρ' ρ2 : Nat → Nat} {H H' H2 : Hp} {w0 w : World} {D : List Nat}
theorem Ext_msk (D : List Nat) : Ext c ρ (msk D H) ρ H := ⟨fun _ _ h hd => ⟨(msk_live h hd).2, rfl, fun _ _ => rfl⟩, fun _ _ => rfl⟩
theorem Ext.msk (h : Ext c ρ (msk D H) ρ' H') : Ext c ρ (msk D H) ρ' (msk D H') := ⟨fun b k hb hd => by
  obtain ⟨h1, h2, h3⟩ := h.lk b k hb hd
  exact ⟨by rw [msk_out (msk_live hb hd).1]; exact h1, h2, h3⟩, h.d⟩
end
section
variable {c : Cx} {ρ0 : Nat → Nat} {w0 : World} {ops : Array Oper} {Q : Exit → Act → World → Prop} {D : List Nat}
/-- whichever order comes; the blocks of D are looked at by none but stores -/
def anyX (c : Cx) (ρ0 : Nat → Nat) (w0 : World) (ops : Array Oper) (Q : Exit → Act → World → Prop) (D : List Nat) : Nat → Array Bool → Act → (Nat → Nat) → Hp → Prop
  | 0, listed, a, ρ, H => Region.ready .any ops listed = [] ∧ ∀ w, CC c ρ0 w0 ρ H w → Q .normal a w
  | m + 1, listed, a, ρ, H => (Region.ready .any ops listed = [] → ∀ w, CC c ρ0 w0 ρ H w → Q .normal a w) ∧
    ∀ i ∈ Region.ready .any ops listed, ∀ w, CC c ρ0 w0 ρ H w → wpOp c.P ops Q i (fun a' w' => ∃ ρ' H', Ext c ρ (msk D H) ρ' H' ∧ CC c ρ0 w0 ρ' H' w' ∧ anyX c ρ0 w0 ops Q D m (listed.setIfInBounds i true) a' ρ' H') a w
theorem anyX_sound : ∀ (m : Nat) (listed : Array Bool) (a : Act) (ρ : Nat → Nat) (H : Hp) (w : World), CC c ρ0 w0 ρ H w → anyX c ρ0 w0 ops Q D m listed a ρ H → wpAny c.P .any ops Q m listed a w
  | 0, _, _, _, _, w, hw, h => ⟨h.1, h.2 w hw⟩
  | m + 1, _, _, _, _, w, hw, h => ⟨fun h0 => h.1 h0 w hw, fun i hi => wpOp_mono (fun a' w' h' => by
    obtain ⟨ρ', H', _, hw', h'⟩ := h'
    exact anyX_sound m _ a' ρ' H' w' hw' h') (h.2 i hi w hw)⟩
theorem YX.yieldsD {o : Oper} {v : Value} {ρ : Nat → Nat} {H : Hp} {a : Act} (h : YX c ρ0 w0 ops o v ρ (msk D H) a) : YieldsIn c.P ops (CC c ρ0 w0 ρ H) o v a :=
  h.imp (fun ⟨h1, h2⟩ => ⟨h1, h2 ρ H (Ext_msk D)⟩) id
theorem anyX_take {i : Nat} {oi : Oper} {v : Value} (hi : ops[i]? = some oi) (hs : Region.noSelect ops = true) (hQ : ∀ ch a w, ¬ Q (.panic ch) a w) : ∀ (m : Nat) (listed : Array Bool) (a : Act) (ρ : Nat → Nat) (H : Hp),
    (∀ j oj, ops[j]? = some oj → j ≠ i → listed.getD j true = false → (∀ e ∈ oj.after, Region.binds .any e = true → e.on ≠ i) → oi.apart ops oj = true) → i ∈ Region.ready .any ops listed → YX c ρ0 w0 ops oi v ρ (msk D H) a →
    anyX c ρ0 w0 ops Q D m (listed.setIfInBounds i true) (a.put oi.dst v) ρ H → anyX c ρ0 w0 ops Q D (m + 1) listed a ρ H := by
  have his : i < ops.size := (Array.getElem?_eq_some_iff.1 hi).1
  have nsel := Region.noSelect_spec hs
  intro m
  induction m with
  | zero =>
    intro listed a ρ H _ hr hy h
    refine ⟨fun h => by rw [h] at hr; (cases hr), fun j hj w hw => ?_⟩
    by_cases hji : j = i
    · subst hji; exact wpOp_quiet hi hy.yieldsD hw fun w' hw' => ⟨ρ, H, Ext_msk D, hw', h⟩
    · have := ready_mono hj hji
      rw [h.1] at this
      cases this
  | succ m ih =>
    intro listed a ρ H hfree hr hy h
    refine ⟨fun h => by rw [h] at hr; (cases hr), fun j hj w hw => ?_⟩
    by_cases hji : j = i
    · subst hji; exact wpOp_quiet hi hy.yieldsD hw fun w' hw' => ⟨ρ, H, Ext_msk D, hw', h⟩
    · obtain ⟨hjun, oj, hoj, hall⟩ := mem_ready.1 hj
      have hnot : ∀ e ∈ oj.after, Region.binds .any e = true → e.on ≠ i := fun e he hb heq => by
        have h1 := hall e he hb
        rw [heq] at h1
        exact unl (mem_ready.1 hr).1 h1
      have hfree' : ∀ k ok, ops[k]? = some ok → k ≠ i → (listed.setIfInBounds j true).getD k true = false → (∀ e ∈ ok.after, Region.binds .any e = true → e.on ≠ i) → oi.apart ops ok = true := fun k ok hk hki hun hno => by
        refine hfree k ok hk hki ?_ hno
        by_cases hjk : j = k
        · subst hjk; exact hjun
        · rw [getD_set_ne true hjk] at hun; exact hun
      have h1 := h.2 j (ready_mono hj hji) w hw
      have h2 := wpOp_swap (Y := YX c ρ0 w0 ops oi v ρ (msk D H)) hoj (hfree j oj hoj hji hjun hnot) (fun cs b => nsel i oi cs b hi) (fun cs b => nsel j oj cs b hoj) hQ YX.same hy h1
      refine wpOp_mono (fun a' w' ⟨hy', hk⟩ => ?_) h2
      obtain ⟨ρ', H', hx, hw', hk⟩ := hk
      refine ⟨ρ', H', hx, hw', ih (listed.setIfInBounds j true) a' ρ' H' hfree' (ready_mono hr (Ne.symm hji)) (hy'.ext hx.msk) ?_⟩
      rw [Array.setIfInBounds_comm _ _ hji]
      exact hk
end
def AX (c : Cx) (ops : Array Oper) (D : List Nat) (Q : Post) (m : Nat) (listed : Array Bool) (s : S) : Prop :=
  ∀ ρ0 w0, GR c.gl c.D ρ0 → ∀ ρ a, FR c ρ s.F a → WF c s → (∀ b ∈ c.D, ρ b = ρ0 b) → anyX c ρ0 w0 ops (np (Lift c ρ0 w0 Q)) D m listed a ρ s.H
def GOpX (c : Cx) (D : List Nat) (o : Oper) (s : S) (K : S → Prop) : Prop :=
  ∀ ρ0 w0, GR c.gl c.D ρ0 → ∀ ρ a, FR c ρ s.F a → WF c s → (∀ b ∈ c.D, ρ b = ρ0 b) → ∀ w, CC c ρ0 w0 ρ s.H w → ∀ Q, o.wp c.P a w (fun a' w' => ∃ s' ρ', K s' ∧ FR c ρ' s'.F a' ∧ WF c s' ∧ CC c ρ0 w0 ρ' s'.H w' ∧ Ext c ρ (msk D s.H) ρ' s'.H) Q
theorem GOpX_of {c : Cx} {D : List Nat} {o : Oper} {s : S} {K : S → Prop} (h : GOp c o s K) : GOpX c D o s K := fun ρ0 w0 hg ρ a hf hwf hfix w hw Q =>
  Oper.wp_mono (fun a' w' ⟨s', ρ', h1, h2, h3, h4, h5⟩ => ⟨s', ρ', h1, h2, h3, h4, (Ext_msk D).trans h5⟩) (h ρ0 w0 hg ρ a hf hwf hfix w hw Q)
def GStepX (c : Cx) (ops : Array Oper) (D : List Nat) (Q : Post) (m : Nat) (listed : Array Bool) (s : S) (i : Nat) : Prop :=
  ∃ o K, ops[i]? = some o ∧ o.guard = none ∧ GOpX c D o s K ∧ ∀ s', K s' → AX c ops D Q m (listed.setIfInBounds i true) s'
section
variable {c : Cx} {s : S} {Q : Post} {ops : Array Oper} {D : List Nat} {m : Nat} {listed : Array Bool}
theorem CW_anyX {id : Nat} {l : List Oper} (D : List Nat) (m : Nat) (hsz : l.toArray.size = m) (hm : c.P.follows .mixedOrders = true) (hst : Region.noSelect l.toArray = true)
    (h : Region.noSelect l.toArray = true → AX c l.toArray D Q m (Array.replicate m false) s) : CW c (.region id l.toArray true) Q s := by
  subst hsz
  have h := h hst
  intro ρ0 w0 hg ρ a w hs
  refine Code.wp_mono (fun e a w h => h.2) (wp_region_any (Q := np (Lift c ρ0 w0 Q)) hm ?_)
  exact anyX_sound (c := c) (D := D) _ _ _ _ _ _ hs.cc.drew (h ρ0 w0 hg ρ a hs.fr hs.wf hs.cc.inv.fix)
theorem AX_done (hr : Region.ready .any ops listed = []) (h : Q .normal s) : AX c ops D Q m listed s := by
  intro ρ0 w0 hg ρ a hf hwf hfix
  have : ∀ w, CC c ρ0 w0 ρ s.H w → np (Lift c ρ0 w0 Q) .normal a w := fun w hw => ⟨fun _ h => by (cases h), s, ρ, h, hw, hf, hwf⟩
  cases m with
  | zero => exact ⟨hr, this⟩
  | succ m => exact ⟨fun _ => this, by rw [hr]; simp⟩
theorem AX_any {rs : List Nat} (hr : Region.ready .any ops listed = rs) (hne : rs ≠ []) (h : ∀ i ∈ rs, GStepX c ops D Q m listed s i) : AX c ops D Q (m + 1) listed s := by
  intro ρ0 w0 hgr ρ a hf hwf hfix
  refine ⟨fun h0 => absurd (hr ▸ h0) hne, fun i hi w hw => ?_⟩
  obtain ⟨o, K, ho, hg, hG, hk⟩ := h i (hr ▸ hi)
  unfold wpOp
  simp only [ho]
  rw [if_pos (by simp [Region.wanted, hg])]
  refine .inl (Oper.wp_mono (fun a' w' h' => ?_) (hG ρ0 w0 hgr ρ a hf hwf hfix w hw _))
  obtain ⟨s', ρ', hK, hf', hwf', hw', hx⟩ := h'
  exact ⟨ρ', s'.H, hx, hw', hk s' hK ρ0 w0 hgr ρ' a' hf' hwf' hw'.inv.fix⟩
theorem AX_one {i : Nat} (hr : Region.ready .any ops listed = [i]) (h : GStepX c ops D Q m listed s i) : AX c ops D Q (m + 1) listed s := AX_any hr (by simp) (by simpa using h)
theorem AX_two {i j : Nat} (hr : Region.ready .any ops listed = [i, j]) (h : GStepX c ops D Q m listed s i) (h' : GStepX c ops D Q m listed s j) : AX c ops D Q (m + 1) listed s := AX_any hr (by simp) (by simpa using ⟨h, h'⟩)
theorem AX_take {i : Nat} {dst : Option Tmp} {op : Op} {ty : TypeId} {pos : String} {af : Array Edge} {g : Option (Nat × Bool)} {v : V} (hi : ops[i]? = some ⟨dst, op, ty, pos, af, g⟩) (hs : Region.noSelect ops = true) (hf : (Region.free .any ops listed i && (Region.ready .any ops listed).contains i) = true)
    (hg : ∀ ρ a, FR c ρ s.F a → Region.wanted ⟨dst, op, ty, pos, af, g⟩ (yielded ops a.tmps) = true) (hq : QX c ⟨dst, op, ty, pos, af, g⟩ ⟨s.F, msk D s.H, s.n⟩ v) (hN : okDst c.N dst = true)
    (hsc : sc s.n v.ids = true) (h : AX c ops D Q m (listed.setIfInBounds i true) (s.put dst v)) : AX c ops D Q (m + 1) listed s := by
  intro ρ0 w0 hgr ρ a hfr hwf hfix
  simp only [Bool.and_eq_true] at hf
  refine anyX_take hi hs (fun ch a w h => h.1 ch rfl) m listed a ρ s.H (Region.free_spec hi hf.1) (by simpa using hf.2) (.inl ⟨hg ρ a hfr, fun ρ' H' hx w hw => hq ρ0 w0 hgr ρ a hfr hfix ρ' H' hx w hw⟩) ?_
  have := h ρ0 w0 hgr ρ _ (hfr.put' dst v _ (okDst_lt hN) (.inr rfl)) (hwf.put dst v hsc) hfix
  rwa [put_H] at this
end
section
variable {c : Cx} {Q : Post} {F : Fr} {H : Hp} {n : Nat} {ops : Array Oper} {D : List Nat} {m : Nat} {listed : Array Bool} {d : Nat} {op : Op} {ty : TypeId} {pos : String} {af : Array Edge} {v : V}
theorem xQ (i : Nat) (hst : Region.noSelect ops = true) (hi : ops[i]? = some ⟨some d, op, ty, pos, af, none⟩) (hf : (Region.free .any ops listed i && (Region.ready .any ops listed).contains i) = true) (hq : QX c ⟨some d, op, ty, pos, af, none⟩ ⟨F, msk D H, n⟩ v) (hN : Nat.blt d c.N = true)
    (hsc : sc n v.ids = true) (h : AX c ops D Q m (listed.setIfInBounds i true) ⟨(d, v) :: F, H, n⟩) : AX c ops D Q (m + 1) listed ⟨F, H, n⟩ :=
  AX_take hi hst hf (fun _ _ _ => by simp [Region.wanted]) hq hN hsc h
theorem xAlloc {i0 : Nat} {t : TypeId} {i : TI} {k0 : Blk} (hi : ops[i0]? = some ⟨some d, .alloc t, ty, pos, af, none⟩) (ht : lkT c.T t = some i) (hz : i.z = some v) (ho : one v = true) (hk : mkBlk t v = k0) (hN : Nat.blt d c.N = true) (hn : Nat.blt n 1000 = true) (hsc : sc n k0.ids = true)
    (h : AX c ops D Q m (listed.setIfInBounds i0 true) ⟨(d, .ptr n 0) :: F, (n, k0) :: H, n + 1⟩) : GStepX c ops D Q m listed ⟨F, H, n⟩ i0 := by
  subst hk
  exact ⟨_, _, hi, rfl, GOpX_of (GOp_new (k := mkBlk t v) (v := .ptr n 0) hN hn hsc (by simp [sc, V.ids, Nat.blt_eq]) (nr_alloc ht hz ho)), fun s' e => by subst e; exact h⟩
theorem oQe {rest : List Oper} {v' : V} (hq : QOp c ⟨some d, op, ty, pos, af, none⟩ ⟨F, H, n⟩ v') (e : v' = v) (hN : Nat.blt d c.N = true) (hsc : sc n v.ids = true) (h : OW c ops Q rest ⟨(d, v) :: F, H, n⟩) : OW c ops Q (⟨some d, op, ty, pos, af, none⟩ :: rest) ⟨F, H, n⟩ := by
  subst e; exact oQ hq hN hsc h
theorem CW_cut {s : S} {ι : Type} (ok : ι → Prop) (I : ι → S) {x y : Code} (h : CW c x (thenP (fun s' => ∃ j, ok j ∧ View c (I j) s') Q) s) (k : ∀ i, ok i → CW c y Q (I i)) : CW c (.seq x y) Q s :=
  CW_seq (CW_mono (fun e s' hq => by
    cases e with
    | normal => obtain ⟨j, hj, hv⟩ := hq; exact CW_view hv (k j hj)
    | _ => exact hq) h)
theorem Ext_put {ρ : Nat → Nat} {b : Nat} {k : Blk} (hb : D.elem b = true) : Ext c ρ (msk D H) ρ ((b, k) :: H) := ⟨fun b1 k1 h hd => by
  obtain ⟨h1, h2⟩ := msk_live h hd
  refine ⟨?_, rfl, fun _ _ => rfl⟩
  rw [lkB_cons, if_neg]
  · exact h2
  · rintro rfl; exact h1 (by simpa using hb), fun _ _ => rfl⟩
theorem xSta {i0 : Nat} {t t' : TypeId} {x y : Operand} {i : TI} {b o : Nat} {u l : List Int} (hi : ops[i0]? = some ⟨none, .store t x y, ty, pos, af, none⟩) (hbD : D.elem b = true) (ht : lkT c.T t = some i) (hx : ev c F x = some (.ptr b o))
    (hy : ev c F y = some (.arr u)) (hb : lkB H b = some (.ints t' l)) (hsz : u.length = i.size) (ho : o + i.size ≤ l.length) (h : AX c ops D Q m (listed.setIfInBounds i0 true) ⟨F, (b, .ints t' (putI l o u)) :: H, n⟩) : GStepX c ops D Q m listed ⟨F, H, n⟩ i0 := by
  refine ⟨_, fun s' => s' = ⟨F, (b, .ints t' (putI l o u)) :: H, n⟩, hi, rfl, ?_, fun s' e => by subst e; exact h⟩
  intro ρ0 w0 hg ρ a hf hwf hfix w hw Q
  obtain ⟨ob, ho1, ho2⟩ := hw.hr.1 b _ hb (by simp)
  simp only [BR] at ho2; subst ho2
  obtain ⟨w', hr, hwr⟩ := run_storeVar (v := .agg (icells u)) (o := o) c.tok ht ho1 (oneInts u) (by simp [Value.cells, size_icells, hsz]) (by rw [size_icells]; omega)
  have hex : (execOp a.eval ⟨none, .store t x y, ty, pos, af, none⟩).run c.P w = .ok .skip w' := by
    simp only [icells] at hr
    simp [execOp, Instr.storeAt, Instr.sureAddr, ev_rv (s := ⟨F, H, n⟩) hg hfix hf hx (by simp), ev_rv (s := ⟨F, H, n⟩) hg hfix hf hy (by simp), rv, hr]
  unfold Oper.wp
  rw [hex]
  simp only [Oper.upon]
  refine ⟨_, ρ, rfl, hf, hwf.upd hb rfl, hw.wrote hb (by simp) rfl rfl hwr ?_, Ext_put hbD⟩
  have := putA_icells u l o
  simp only [BR]
  rw [← this]
  rfl
theorem xStw {i0 : Nat} {t t' : TypeId} {x y : Operand} {i : TI} {b : Nat} {u l : List Int} (hi : ops[i0]? = some ⟨none, .store t x y, ty, pos, af, none⟩) (hbD : D.elem b = true) (ht : lkT c.T t = some i) (hx : ev c F x = some (.ptr b 0))
    (hy : ev c F y = some (.arr u)) (hb : lkB H b = some (.ints t' l)) (h : AX c ops D Q m (listed.setIfInBounds i0 true) ⟨F, (b, .ints t' u) :: H, n⟩) (hsz : u.length = i.size := by first | omega | (dsimp only; omega) | (simp; omega) | (simp; done)) (ho : l.length = i.size := by first | omega | (dsimp only; omega) | (simp; omega) | (simp; done)) : GStepX c ops D Q m listed ⟨F, H, n⟩ i0 := by
  refine xSta hi hbD ht hx hy hb hsz (by omega) ?_
  have := putI_full u l [] (by omega)
  simp only [List.nil_append, List.length_nil] at this
  rw [this]; exact h
end
end Go.Proofs.YtcklfkblhmlbbaaDoor
namespace Go.Proofs.YtcklfkblhmlbbaaDoor
set_option maxRecDepth 10000
set_option linter.unusedSimpArgs false
set_option linter.unusedVariables false
theorem mPts_pos {p : Int} {c : List Int} {L : List (List Int)} {i : Nat} (h : ((cnF p c L i : Nat) : Int) > 0) : mPts p c L (i + 1) = mPts p c L i ++ [L.getD i []] := by rw [mPts, if_pos (by omega)]
theorem mPts_neg {p : Int} {c : List Int} {L : List (List Int)} {i : Nat} (h : ((cnF p c L i : Nat) : Int) ≤ 0) : mPts p c L (i + 1) = mPts p c L i := by rw [mPts, if_neg (by omega), List.append_nil]
theorem mCts_pos {p : Int} {c : List Int} {L : List (List Int)} {i : Nat} (h : ((cnF p c L i : Nat) : Int) > 0) : mCts p c L (i + 1) = mCts p c L i ++ [(cnF p c L i : Int)] := by rw [mCts, if_pos (by omega)]
theorem mCts_neg {p : Int} {c : List Int} {L : List (List Int)} {i : Nat} (h : ((cnF p c L i : Nat) : Int) ≤ 0) : mCts p c L (i + 1) = mCts p c L i := by rw [mCts, if_neg (by omega), List.append_nil]
/-- the points and their counts, each in a list of its own -/
def meR (g : Hp) (tP tI : TypeId) (P : List (List Int)) (C : List Int) (r : V) (H' : Hp) : Prop :=
  ∃ (k : Nat) (sp : List Int) (k' : Nat) (sp' : List Int), P.length ≤ k ∧ k * 3 ≤ P.length * 3 + sp.length ∧ P.length ≤ k' ∧ k' ≤ P.length + sp'.length ∧ r = .tuple [.slice 0 0 P.length k, .slice 1 0 P.length k', .bool true] ∧ H' = g ++ [(0, .ints tP (P.flatten ++ sp)), (1, .ints tI (C ++ sp'))]
def mePts (p : Int) (c l : List Int) : List (List Int) := mPts p c (lnV p l) (lnV p l).length
def meCts (p : Int) (c l : List Int) : List Int := mCts p c (lnV p l) (lnV p l).length
def meB (p : Int) (c l : List Int) : Bool := prB p c (lnV p l)
theorem ne_four {E : List Int} (hE : E.length = 4) (h : E ≠ [0, 0, 0, 0]) (h0 : E.getD 0 0 = 0) (h1 : E.getD 1 0 = 0) (h2 : E.getD 2 0 = 0) (h3 : E.getD 3 0 = 0) : False := by
  match E, hE with
  | [a, b, c, d], _ =>
    simp only [List.getD_cons_zero, List.getD_cons_succ] at h0 h1 h2 h3
    subst h0 h1 h2 h3
    exact h rfl
theorem leadI_le (N : List Int) : leadI N ≤ 3 := by
  unfold leadI
  split <;> (try split) <;> (try split) <;> omega
theorem lead_cases (N : List Int) : (N.getD 0 0 ≠ 0 ∧ leadI N = 0) ∨ (N.getD 0 0 = 0 ∧ N.getD 1 0 ≠ 0 ∧ leadI N = 1) ∨ (N.getD 0 0 = 0 ∧ N.getD 1 0 = 0 ∧ N.getD 2 0 ≠ 0 ∧ leadI N = 2) ∨ (N.getD 0 0 = 0 ∧ N.getD 1 0 = 0 ∧ N.getD 2 0 = 0 ∧ leadI N = 3) := by
  unfold leadI
  generalize N.getD 0 0 = a
  generalize N.getD 1 0 = b
  generalize N.getD 2 0 = c
  by_cases x0 : a = 0 <;> by_cases x1 : b = 0 <;> by_cases x2 : c = 0 <;> simp [x0, x1, x2]
theorem lead_step {N : List Int} {k : Nat} (hN : N.length = 4) (hz : N ≠ [0, 0, 0, 0]) (h : k ≤ leadI N) (h0 : N.getD k 0 = 0) : k + 1 ≤ leadI N := by
  have hk := leadI_le N
  have h3 : k = 0 ∨ k = 1 ∨ k = 2 ∨ k = 3 := by omega
  rcases lead_cases N with ⟨a, e⟩ | ⟨a, b, e⟩ | ⟨a, b, d, e⟩ | ⟨a, b, d, e⟩
  · rcases h3 with rfl | rfl | rfl | rfl <;> first | omega | exact absurd h0 a
  · rcases h3 with rfl | rfl | rfl | rfl <;> first | omega | exact absurd h0 b
  · rcases h3 with rfl | rfl | rfl | rfl <;> first | omega | exact absurd h0 d
  · rcases h3 with rfl | rfl | rfl | rfl <;> first | omega | exact absurd (ne_four hN hz a b d h0) id
theorem lead_end {N : List Int} {k : Nat} (h : k ≤ leadI N) (h0 : ¬ N.getD k 0 = 0) : leadI N = k := by
  have hk := leadI_le N
  have h3 : k = 0 ∨ k = 1 ∨ k = 2 ∨ k = 3 := by omega
  rcases lead_cases N with ⟨a, e⟩ | ⟨a, b, e⟩ | ⟨a, b, d, e⟩ | ⟨a, b, d, e⟩ <;> rcases h3 with rfl | rfl | rfl | rfl <;> first | omega | exact absurd ‹_› h0
theorem alV_smN {p : Int} (hp : primeB p = true) (c a b : List Int) : smN 12 (alV p c a b 80) := by
  intro x hx
  have h : x = (alV p c a b 80).getD 0 0 ∨ x = (alV p c a b 80).getD 1 0 ∨ x = (alV p c a b 80).getD 2 0 ∨ x = (alV p c a b 80).getD 3 0 := by
    simp only [alV, List.mem_cons, List.not_mem_nil, or_false] at hx
    exact hx
  rcases h with rfl | rfl | rfl | rfl <;> exact alV_bd hp c a b 80 _
theorem toN {p : Int} (hp : primeB p = true) : ∃ n : Nat, p = (n : Int) := by
  obtain ⟨n, h, _⟩ := of_prime hp
  exact ⟨n, h⟩
attribute [local irreducible] CW OW QW QOp Con thenP inBlockP AW QX RW
theorem l06MeetN_con (n : Nat) (c l : List Int) (hp : primeB (n : Int) = true) (hcl : c.length = 10) (qc : smN 12 c) (hl : l ∈ allPts (n : Int)) (hz : meB (n : Int) c l = false) : Con Tryd.prog [] 58 [.int (n : Int), .arr c, .arr l] [] (fun r H' => meR [] 29 2 (mePts (n : Int) c l) (meCts (n : Int) c l) r H') := by
  have hp3 := allPts_three hl
  have hls := allPts_sm hp hl
  have hpb := prime_bd hp
  have hon := l01PointsOn_con (n : Int) l hp hp3 hls
  have hlen := lnV_len hp hl
  have hcn := fun (i : Nat) (hi : i < (lnV (n : Int) l).length) (s t : Nat) (hs : (s : Int) < n) (ht : (t : Int) < n) hm => cn_spec hp c hl hi (s := s) (t := t) hs ht hm
  have hex := fun (i : Nat) (hi : i < (lnV (n : Int) l).length) => cn_parts hp hl hi
  have hcz := fun (i : Nat) (hi : i < (lnV (n : Int) l).length) hz => cn_nz hp c hl hi hz
  have hmem : ∀ x ∈ lnV (n : Int) l, x ∈ allPts (n : Int) := fun x hx => (lnV_mem hx).1
  try unfold mePts meCts
  unfold meB at hz
  unfold lnV at *
  generalize hLL : ((allPts (n : Int)).filter fun m => onB (n : Int) m l) = LL at *
  have h3 : ∀ x ∈ LL, x.length = 3 := fun x hx => allPts_three (hmem x hx)
  have hf3 := flat3 h3
  have hqm : ∀ i, i < LL.length → smN 12 (LL.getD i []) := fun i hi => allPts_smN hp (hmem _ (getD_mem hi))
  have h3i : ∀ i, i < LL.length → (LL.getD i []).length = 3 := fun i hi => h3 _ (getD_mem hi)
  have hpl := fun i => mPts_len n c LL i
  have hcl2 := fun i => mCts_len n c LL i
  have hp3f : ∀ i, i ≤ LL.length → (mPts n c LL i).flatten.length = (mPts n c LL i).length * 3 := fun i hi => flat3 (fun x hx => h3 x (mPts_mem hi hx))
  have hl0 := h3i 0 (by omega)
  have hl1 := h3i 1 (by omega)
  have hln := l06Line_con (n : Int) c (LL.getD 0 []) (LL.getD 1 []) hp hcl (h3i 0 (by omega)) (h3i 1 (by omega)) qc (hqm 0 (by omega)) (hqm 1 (by omega))
  obtain ⟨m, _, rfl, hdm⟩ : ∃ (m : Nat) (_ : NeZero m), n = m ∧ Dom (Fin m) := by
    obtain ⟨m, h1, h2, h3⟩ := dom_of hp
    exact ⟨m, h1, by omega, h3⟩
  rw [lnO_eq] at hln
  have hEl : (alV (n : Int) c (LL.getD 0 []) (LL.getD 1 []) 80).length = 4 := rfl
  have hEs := alV_smN hp c (LL.getD 0 []) (LL.getD 1 [])
  unfold prB at hz
  generalize hE : alV (n : Int) c (LL.getD 0 []) (LL.getD 1 []) 80 = E at *
  refine conW tab_ok [(0, .int (n : Int)), (1, .arr c), (2, .arr l)] 0 [] [] Tryd.func58 rfl rfl rfl rfl rfl rfl rfl rfl rfl ?_
  refine cR ?_
  iterate 2 refine oBox rfl rfl rfl rfl rfl rfl ?_
  iterate 3 refine oA rfl rfl ?_
  refine oN ?_
  refine cR ?_
  refine oM rfl rfl ?_
  refine oQ (Q_ldw rfl rfl rfl rfl hp3) rfl rfl ?_
  refine oCall (hon) [] 1 rfl rfl (Fits.mk' vHn rfl rfl (by first | (simp; done) | exact glOk rfl rfl rfl)) rfl rfl ?_
  rintro r H1 ⟨k0, sp0, hk0, hs0, rfl, rfl⟩
  refine ⟨.slice 2 0 LL.length k0, [(2, .ints 29 (LL.flatten ++ sp0))], rfl, rfl, rfl, ?_⟩
  refine oA rfl rfl ?_
  refine oN ?_
  refine CW_cut (ι := Unit) (fun _ => True) (fun _ => ⟨[(0, .int (n : Int)), (4, .ptr 0 0), (5, .ptr 1 0), (9, .slice 2 0 LL.length k0), (10, .ptr 3 0), (11, .ptr 4 0)], [(0, .ints 27 c), (1, .ints 24 l), (2, .ints 29 (LL.flatten ++ sp0)), (3, .ints 29 (LL.getD 0 [])), (4, .ints 29 (LL.getD 1 []))], 5⟩) ?_ ?_
  · (
   refine CW_anyX [3, 4] 10 rfl lateOk (by decide +kernel) (fun hst => ?_)
   refine xQ 0 hst rfl (by decide +kernel) (QX_of (Q_move rfl rfl) NE_move) rfl rfl ?_
   refine xQ 1 hst rfl (by decide +kernel) (QX_of (Q_ixs0z 3 (j := 0) rfl rfl rfl rfl rfl rfl (by omega)) NE_ix) rfl rfl ?_
   refine xQ 2 hst rfl (by decide +kernel) (QX_of (Q_lda (n := 3) rfl rfl rfl rfl rfl (by rw [List.length_append, hf3]; omega)) NE_load) rfl rfl ?_; rw [flat_get h3 (show 0 < LL.length by omega)]
   refine xQ 3 hst rfl (by decide +kernel) (QX_of (Q_move rfl rfl) NE_move) rfl rfl ?_
   refine xQ 4 hst rfl (by decide +kernel) (QX_of (Q_ixs0z 3 (j := 1) rfl rfl rfl rfl rfl rfl (by omega)) NE_ix) rfl rfl ?_
   refine xQ 5 hst rfl (by decide +kernel) (QX_of (Q_lda (n := 3) rfl rfl rfl rfl rfl (by rw [List.length_append, hf3]; omega)) NE_load) rfl rfl ?_; rw [flat_get h3 (show 1 < LL.length by omega)]
   refine AX_two (i := 6) (j := 7) (by decide +kernel) ?_ ?_
   all_goals first
     | (
      refine xAlloc rfl rfl rfl rfl rfl rfl rfl rfl ?_
      refine AX_one (i := 7) (by decide +kernel) ?_
      refine xAlloc rfl rfl rfl rfl rfl rfl rfl rfl ?_
      refine AX_one (i := 8) (by decide +kernel) ?_
      refine xStw rfl (by decide) rfl rfl rfl rfl ?_
      refine AX_one (i := 9) (by decide +kernel) ?_
      refine xStw rfl (by decide) rfl rfl rfl rfl ?_
      refine AX_done (by decide +kernel) ?_)
     | (
      refine xAlloc rfl rfl rfl rfl rfl rfl rfl rfl ?_
      refine AX_one (i := 6) (by decide +kernel) ?_
      refine xAlloc rfl rfl rfl rfl rfl rfl rfl rfl ?_
      refine AX_one (i := 8) (by decide +kernel) ?_
      refine xStw rfl (by decide) rfl rfl rfl rfl ?_
      refine AX_one (i := 9) (by decide +kernel) ?_
      refine xStw rfl (by decide) rfl rfl rfl rfl ?_
      refine AX_done (by decide +kernel) ?_)
   all_goals with_reducible refine tN ?_
   all_goals (
    first
      | (
       refine ⟨(), ?_, View.mk' [] rfl rfl rfl ?_ ?_⟩
       · first | trivial | omega
       all_goals (repeat' first | exact vFn | refine vFc rfl ?_ | exact vHn | refine vHc rfl ?_ | refine vFc (congrArg (fun z => some (V.int z)) ?_) ?_ | refine vHc (congrArg (fun z => some (Blk.ints _ z)) ?_) ?_ | refine vFc (congrArg (fun z => some (V.bool z)) ?_) ?_ | refine vFs rfl rfl ?_ ?_)
       done)
      | (
       refine ⟨(), ?_, View.mk' [(3, 4), (4, 3)] rfl rfl rfl ?_ ?_⟩
       · first | trivial | omega
       all_goals (repeat' first | exact vFn | refine vFc rfl ?_ | exact vHn | refine vHc rfl ?_ | refine vFc (congrArg (fun z => some (V.int z)) ?_) ?_ | refine vHc (congrArg (fun z => some (Blk.ints _ z)) ?_) ?_ | refine vFc (congrArg (fun z => some (V.bool z)) ?_) ?_ | refine vFs rfl rfl ?_ ?_)
       done)))
  intro _ _
  refine cR ?_
  refine oM rfl rfl ?_
  refine oQ (Q_ldw rfl rfl rfl rfl hcl) rfl rfl ?_
  refine oQ (Q_ldw rfl rfl rfl rfl hl0) rfl rfl ?_
  refine oQ (Q_ldw rfl rfl rfl rfl hl1) rfl rfl ?_
  refine oCall (hln) [] 1 rfl rfl (Fits.mk' vHn rfl rfl (by first | (simp; done) | exact glOk rfl rfl rfl)) rfl rfl ?_
  rintro r H1 ⟨rfl, rfl⟩
  refine ⟨.slice 5 0 4 4, [(5, .ints 2 E)], rfl, rfl, rfl, ?_⟩
  refine oBsl rfl rfl rfl rfl (.inr ⟨rfl, rfl, by decide⟩) rfl rfl rfl rfl rfl rfl ?_
  refine oBsl (zl := []) rfl rfl rfl rfl (.inl ⟨rfl, rfl⟩) rfl rfl rfl rfl rfl rfl ?_
  iterate 3 refine oA rfl rfl ?_
  refine oN ?_
  refine CW_seq ?_
  refine CW_cut (ι := Unit) (fun _ => True) (fun _ => ⟨[(0, .int (n : Int)), (9, .slice 2 0 LL.length k0), (10, .ptr 3 0), (11, .ptr 4 0), (12, .slice 5 0 4 4), (13, .slice 6 0 0 0), (14, .slice 7 0 0 0), (57, .bool false)], [(2, .ints 29 (LL.flatten ++ sp0)), (3, .ints 29 (LL.getD 0 [])), (4, .ints 29 (LL.getD 1 [])), (5, .ints 2 E), (6, .ints 29 []), (7, .ints 2 [])], 8⟩) ?_ ?_
  · (
   refine CW_region ?_
   refine oM rfl rfl ?_
   first | refine oQ (Is0 rfl rfl rfl rfl rfl rfl) rfl rfl ?_ | refine oQ (Is1 rfl rfl rfl rfl rfl rfl) rfl rfl ?_
   refine oQ (Ld rfl rfl rfl rfl) rfl rfl ?_
   refine oQ (Q_bin rfl rfl rfl) rfl rfl ?_
   refine oM rfl rfl ?_
   all_goals first | refine oT rfl rfl ?_ | refine o1 rfl rfl rfl ?_ | refine o0 rfl rfl rfl ?_ | refine ogP1 rfl rfl rfl (fun hg => ?_) (fun hg => ?_) | refine ogP0 rfl rfl rfl (fun hg => ?_) (fun hg => ?_)
   all_goals try simp only [s1, s2, s3, s4, s5, s6, s7, s8, s9, s10, s11, s12] at hg
   all_goals first | (refine oM rfl rfl ?_) | skip
   all_goals first | refine oT rfl rfl ?_ | refine o1 rfl rfl rfl ?_ | refine o0 rfl rfl rfl ?_ | refine ogP1 rfl rfl rfl (fun hg => ?_) (fun hg => ?_) | refine ogP0 rfl rfl rfl (fun hg => ?_) (fun hg => ?_)
   all_goals try simp only [s1, s2, s3, s4, s5, s6, s7, s8, s9, s10, s11, s12] at hg
   all_goals first | refine oQ (Is0 rfl rfl rfl rfl rfl rfl) rfl rfl ?_ | refine oQ (Is1 rfl rfl rfl rfl rfl rfl) rfl rfl ?_ | skip
   all_goals first | refine oT rfl rfl ?_ | refine o1 rfl rfl rfl ?_ | refine o0 rfl rfl rfl ?_ | refine ogP1 rfl rfl rfl (fun hg => ?_) (fun hg => ?_) | refine ogP0 rfl rfl rfl (fun hg => ?_) (fun hg => ?_)
   all_goals try simp only [s1, s2, s3, s4, s5, s6, s7, s8, s9, s10, s11, s12] at hg
   all_goals first | (refine oQ (Ld rfl rfl rfl rfl) rfl rfl ?_) | skip
   all_goals first | refine oT rfl rfl ?_ | refine o1 rfl rfl rfl ?_ | refine o0 rfl rfl rfl ?_ | refine ogP1 rfl rfl rfl (fun hg => ?_) (fun hg => ?_) | refine ogP0 rfl rfl rfl (fun hg => ?_) (fun hg => ?_)
   all_goals try simp only [s1, s2, s3, s4, s5, s6, s7, s8, s9, s10, s11, s12] at hg
   all_goals first | (refine oQ (Q_bin rfl rfl rfl) rfl rfl ?_) | skip
   all_goals first | refine oQ (Q_pick_t rfl (by with_reducible rfl) rfl rfl) rfl rfl ?_ | refine oQ (Q_pick_f rfl (by with_reducible rfl) rfl rfl) rfl rfl ?_
   all_goals first | (refine oM rfl rfl ?_)
   all_goals first | refine oT rfl rfl ?_ | refine o1 rfl rfl rfl ?_ | refine o0 rfl rfl rfl ?_ | refine ogP1 rfl rfl rfl (fun hg => ?_) (fun hg => ?_) | refine ogP0 rfl rfl rfl (fun hg => ?_) (fun hg => ?_)
   all_goals try simp only [s1, s2, s3, s4, s5, s6, s7, s8, s9, s10, s11, s12] at hg
   all_goals first | (refine oM rfl rfl ?_) | skip
   all_goals first | refine oT rfl rfl ?_ | refine o1 rfl rfl rfl ?_ | refine o0 rfl rfl rfl ?_ | refine ogP1 rfl rfl rfl (fun hg => ?_) (fun hg => ?_) | refine ogP0 rfl rfl rfl (fun hg => ?_) (fun hg => ?_)
   all_goals try simp only [s1, s2, s3, s4, s5, s6, s7, s8, s9, s10, s11, s12] at hg
   all_goals first | refine oQ (Is0 rfl rfl rfl rfl rfl rfl) rfl rfl ?_ | refine oQ (Is1 rfl rfl rfl rfl rfl rfl) rfl rfl ?_ | skip
   all_goals first | refine oT rfl rfl ?_ | refine o1 rfl rfl rfl ?_ | refine o0 rfl rfl rfl ?_ | refine ogP1 rfl rfl rfl (fun hg => ?_) (fun hg => ?_) | refine ogP0 rfl rfl rfl (fun hg => ?_) (fun hg => ?_)
   all_goals try simp only [s1, s2, s3, s4, s5, s6, s7, s8, s9, s10, s11, s12] at hg
   all_goals first | (refine oQ (Ld rfl rfl rfl rfl) rfl rfl ?_) | skip
   all_goals first | refine oT rfl rfl ?_ | refine o1 rfl rfl rfl ?_ | refine o0 rfl rfl rfl ?_ | refine ogP1 rfl rfl rfl (fun hg => ?_) (fun hg => ?_) | refine ogP0 rfl rfl rfl (fun hg => ?_) (fun hg => ?_)
   all_goals try simp only [s1, s2, s3, s4, s5, s6, s7, s8, s9, s10, s11, s12] at hg
   all_goals first | (refine oQ (Q_bin rfl rfl rfl) rfl rfl ?_) | skip
   all_goals first | refine oQ (Q_pick_t rfl (by with_reducible rfl) rfl rfl) rfl rfl ?_ | refine oQ (Q_pick_f rfl (by with_reducible rfl) rfl rfl) rfl rfl ?_
   all_goals first | (refine oM rfl rfl ?_)
   all_goals first | refine oT rfl rfl ?_ | refine o1 rfl rfl rfl ?_ | refine o0 rfl rfl rfl ?_ | refine ogP1 rfl rfl rfl (fun hg => ?_) (fun hg => ?_) | refine ogP0 rfl rfl rfl (fun hg => ?_) (fun hg => ?_)
   all_goals try simp only [s1, s2, s3, s4, s5, s6, s7, s8, s9, s10, s11, s12] at hg
   all_goals first | (refine oM rfl rfl ?_) | skip
   all_goals first | refine oT rfl rfl ?_ | refine o1 rfl rfl rfl ?_ | refine o0 rfl rfl rfl ?_ | refine ogP1 rfl rfl rfl (fun hg => ?_) (fun hg => ?_) | refine ogP0 rfl rfl rfl (fun hg => ?_) (fun hg => ?_)
   all_goals try simp only [s1, s2, s3, s4, s5, s6, s7, s8, s9, s10, s11, s12] at hg
   all_goals first | refine oQ (Is0 rfl rfl rfl rfl rfl rfl) rfl rfl ?_ | refine oQ (Is1 rfl rfl rfl rfl rfl rfl) rfl rfl ?_ | skip
   all_goals first | refine oT rfl rfl ?_ | refine o1 rfl rfl rfl ?_ | refine o0 rfl rfl rfl ?_ | refine ogP1 rfl rfl rfl (fun hg => ?_) (fun hg => ?_) | refine ogP0 rfl rfl rfl (fun hg => ?_) (fun hg => ?_)
   all_goals try simp only [s1, s2, s3, s4, s5, s6, s7, s8, s9, s10, s11, s12] at hg
   all_goals first | (refine oQ (Ld rfl rfl rfl rfl) rfl rfl ?_) | skip
   all_goals first | refine oT rfl rfl ?_ | refine o1 rfl rfl rfl ?_ | refine o0 rfl rfl rfl ?_ | refine ogP1 rfl rfl rfl (fun hg => ?_) (fun hg => ?_) | refine ogP0 rfl rfl rfl (fun hg => ?_) (fun hg => ?_)
   all_goals try simp only [s1, s2, s3, s4, s5, s6, s7, s8, s9, s10, s11, s12] at hg
   all_goals first | (refine oQ (Q_bin rfl rfl rfl) rfl rfl ?_) | skip
   all_goals first | refine oQ (Q_pick_t rfl (by with_reducible rfl) rfl rfl) rfl rfl ?_ | refine oQ (Q_pick_f rfl (by with_reducible rfl) rfl rfl) rfl rfl ?_
   all_goals refine OW_nil ?_
   all_goals with_reducible refine tN ?_
   all_goals (
    refine ⟨(), ?_, View.mk' [] rfl rfl rfl ?_ ?_⟩
    · first | trivial | omega
    all_goals (repeat' first | exact vFn | refine vFc rfl ?_ | exact vHn | refine vHc rfl ?_ | refine vFc (congrArg (fun z => some (V.int z)) ?_) ?_ | refine vHc (congrArg (fun z => some (Blk.ints _ z)) ?_) ?_ | refine vFc (congrArg (fun z => some (V.bool z)) ?_) ?_ | refine vFs rfl rfl ?_ ?_)
    all_goals rw [beq_eq_false_iff_ne]
    all_goals first | assumption | (intro hh; exact ne_four hEl (by simpa using hz) (by assumption) (by assumption) (by assumption) hh)))
  intro _ _
  first | refine cT rfl ?_ | refine cF rfl ?_ | refine CW_cond rfl (fun hc => ?_) (fun hc => ?_)
  all_goals try simp only [s1, s2, s3, s4, s5, s6, s7, s8, s9, s10, s11, s12] at hc
  all_goals first
    | (
     refine CW_skip ?_)
    | (
     refine cR ?_
     iterate 3 refine oA rfl rfl ?_
     refine oN ?_
     refine CW_ret ?_)
  all_goals first
    | with_reducible refine tR ?_
    | with_reducible refine tE ?_
    | (
     with_reducible refine tN ?_
     refine CW_seq ?_
     refine cR ?_
     refine oA rfl rfl ?_
     refine oN ?_
     refine CW_block ?_
     refine CW_loop (ι := Nat × Nat × List Int × Nat × List Int) (fun x => x.1 ≤ LL.length ∧ (mPts n c LL x.1).length ≤ x.2.1 ∧ x.2.1 * 3 ≤ (mPts n c LL x.1).length * 3 + x.2.2.1.length ∧ (mPts n c LL x.1).length ≤ x.2.2.2.1 ∧ x.2.2.2.1 ≤ (mPts n c LL x.1).length + x.2.2.2.2.length) (fun x => ⟨[(0, .int (n : Int)), (9, .slice 2 0 LL.length k0), (10, .ptr 3 0), (11, .ptr 4 0), (12, .slice 5 0 4 4), (13, .slice 6 0 (mPts n c LL x.1).length x.2.1), (14, .slice 7 0 (mPts n c LL x.1).length x.2.2.2.1), (15, .int (x.1 : Nat))], [(2, .ints 29 (LL.flatten ++ sp0)), (3, .ints 29 (LL.getD 0 [])), (4, .ints 29 (LL.getD 1 [])), (5, .ints 2 E), (6, .ints 29 ((mPts n c LL x.1).flatten ++ x.2.2.1)), (7, .ints 2 ((mCts n c LL x.1) ++ x.2.2.2.2))], 8⟩) (fun x => LL.length - x.1) (0, 0, [], 0, []) ?_ ?_ ?_
     · exact ⟨Nat.zero_le _, Nat.le_refl _, Nat.le_refl _, Nat.le_refl _, Nat.le_refl _⟩
     · refine View.mk' [] rfl rfl rfl ?_ ?_
       repeat' first | exact vFn | refine vFc rfl ?_ | exact vHn | refine vHc rfl ?_ | refine vFc (congrArg (fun z => some (V.int z)) ?_) ?_ | refine vHc (congrArg (fun z => some (Blk.ints _ z)) ?_) ?_ | refine vFc (congrArg (fun z => some (V.bool z)) ?_) ?_ | refine vFs rfl rfl ?_ ?_
     rintro ⟨i, k, sp, k', sp'⟩ ⟨hi, hk, hsp, hk', hsp'⟩
     dsimp only at hi hk hsp hk' hsp' ⊢
     have h3j := fun h : i < LL.length => h3i i h
     have hfl := hp3f i hi
     have hpli := hpl i
     have hcli := hcl2 i
     have hcmN : (mCts n c LL i).length = (mPts n c LL i).length * 1 := by omega
     have hprt := fun h : i < LL.length => l01PartsN_con n (LL.getD 0 []) (LL.getD 1 []) (LL.getD i []) hp hl0 hl1 (h3i i h) (hqm 0 (by omega)) (hqm 1 (by omega)) (by
       obtain ⟨s, t, h1, h2, h3⟩ := hex i h
       exact ⟨s, t, by omega, by omega, h3⟩)
     have hoft := fun (s t : Nat) (hs : s < n) (ht : t < n) => l06Often_con (n : Int) s t E [] 2 4 hp hEl hEs (by omega) (by omega)
     simp only [List.append_nil] at hoft
     refine CW_seq ?_
     refine cR ?_
     iterate 2 refine oM rfl rfl ?_
     first | refine oQ (Q_len rfl rfl rfl rfl) rfl rfl ?_ | refine oQ (Q_len0 rfl rfl rfl rfl) rfl rfl ?_
     refine oQ (Q_bin rfl rfl rfl) rfl rfl ?_
     refine oN ?_
     first | refine cT rfl ?_ | refine cF rfl ?_ | refine CW_cond rfl (fun hc => ?_) (fun hc => ?_)
     all_goals try simp only [s1, s2, s3, s4, s5, s6, s7, s8, s9, s10, s11, s12] at hc
     all_goals first
       | (
        refine CW_skip ?_)
       | (
        refine CW_exit ?_)
     all_goals first
       | with_reducible refine tR ?_
       | with_reducible refine tE ?_
       | (
        with_reducible refine tN ?_
        refine CW_seq ?_
        refine CW_block ?_
        refine CW_seq ?_
        refine CW_any (fun _ => false) 15 rfl lateOk (by decide +kernel) (fun hst => ?_)
        refine aP 0 hst rfl rfl (by decide +kernel) (PX_move rfl rfl) rfl rfl ?_
        refine aQ 1 hst rfl rfl (by decide +kernel) (QX_of (Q_ldw rfl rfl rfl rfl hl0) NE_load) rfl rfl ?_
        refine aQ 2 hst rfl rfl (by decide +kernel) (QX_of (Q_ldw rfl rfl rfl rfl hl1) NE_load) rfl rfl ?_
        refine aP 3 hst rfl rfl (by decide +kernel) (PX_move rfl rfl) rfl rfl ?_
        refine aP 4 hst rfl rfl (by decide +kernel) (PX_move rfl rfl) rfl rfl ?_
        (have hiL : i < LL.length := by omega); (have h3j := h3j hiL); refine aQ 5 hst rfl rfl (by decide +kernel) (QX_of (Q_ixs0z 3 rfl rfl rfl rfl rfl rfl (by omega)) NE_ix) rfl rfl ?_
        refine aQ 6 hst rfl rfl (by decide +kernel) (QX_of (Q_lda (n := 3) rfl rfl rfl rfl rfl (by rw [List.length_append, hf3]; omega)) NE_load) rfl rfl ?_; rw [flat_get h3 hiL]
        refine AW_one (i := 7) (by decide +kernel) ?_
        refine gCall rfl rfl ((hprt hiL)) [] 0 rfl rfl (Fits.mk' vHn rfl rfl (by first | (simp; done) | exact glOk rfl rfl rfl)) rfl rfl rfl ?_
        rintro r H1 ⟨s, t, hs, ht, hpm, rfl, rfl⟩
        refine ⟨.tuple [.int (s : Int), .int (t : Int), .bool true], [], rfl, keep_pre _ _, rfl, rfl, ?_⟩
        refine aP 8 hst rfl rfl (by decide +kernel) (PX_move rfl rfl) rfl rfl ?_
        refine aExt 9 hst rfl rfl (by decide +kernel) rfl rfl rfl rfl ?_
        refine aExt 10 hst rfl rfl (by decide +kernel) rfl rfl rfl rfl ?_
        refine aExt 11 hst rfl rfl (by decide +kernel) rfl rfl rfl rfl ?_
        refine aQ 12 hst rfl rfl (by decide +kernel) (QX_of (Q_assign rfl rfl) NE_assign) rfl rfl ?_
        refine aQ 13 hst rfl rfl (by decide +kernel) (QX_of (Q_assign rfl rfl) NE_assign) rfl rfl ?_
        refine aQ 14 hst rfl rfl (by decide +kernel) (QX_of (Q_assign rfl rfl) NE_assign) rfl rfl ?_
        refine AW_done (by decide +kernel) ?_
        all_goals with_reducible refine tN ?_
        all_goals (
         refine cR ?_
         iterate 4 refine oM rfl rfl ?_
         refine oQ (Q_call (hoft s t hs ht) [(0, 5)] rfl rfl (Fits.mk' (vHc rfl vHn) rfl rfl (by first | (simp; done) | exact glOk rfl rfl rfl)) rfl rfl) rfl rfl ?_
         rw [← hcn i hiL s t (by omega) (by omega) hpm]
         refine oA rfl rfl ?_
         refine oN ?_
         refine cR ?_
         refine oM rfl rfl ?_
         refine oQ (Q_bin rfl rfl rfl) rfl rfl ?_
         refine oN ?_
         first | refine cT rfl ?_ | refine cF rfl ?_ | refine CW_cond rfl (fun hc => ?_) (fun hc => ?_)
         all_goals try simp only [s1, s2, s3, s4, s5, s6, s7, s8, s9, s10, s11, s12] at hc
         all_goals first
           | (
            refine CW_skip ?_)
           | (
            refine cR ?_
            iterate 3 refine oM rfl rfl ?_
            first | refine oQ (Q_ixs0z 3 rfl rfl rfl rfl rfl rfl (by first | omega | (dsimp only; omega) | (simp; omega) | (simp; done))) rfl rfl ?_ | refine oQ (Q_ixsz 3 rfl rfl rfl rfl rfl rfl (by first | omega | (dsimp only; omega) | (simp; omega) | (simp; done))) rfl rfl ?_
            refine oQ (Q_lda (n := 3) rfl rfl rfl rfl rfl (by rw [List.length_append, hf3]; omega)) rfl rfl ?_; rw [flat_get h3 hiL]
            refine oBsl1 h3j rfl rfl rfl rfl rfl rfl rfl rfl rfl rfl ?_
            refine oApp (sz := 3) (by_ := 24) (xl := LL.getD i []) rfl rfl rfl rfl rfl rfl ⟨by decide, rfl, .inr rfl⟩ rfl rfl rfl rfl rfl rfl hfl (by rw [h3j]) (by omega) (by omega) (by omega) (by omega) rfl rfl (fun k2 sp2 h1 h2 => ?_)
            refine oA rfl rfl ?_
            refine oN ?_
            refine CW_region ?_
            iterate 2 refine oM rfl rfl ?_
            refine oBsl (zl := []) rfl rfl rfl rfl (.inl ⟨rfl, rfl⟩) rfl rfl rfl rfl rfl rfl ?_
            refine oApp (sz := 1) (by_ := 8) (xl := [((cnF (n : Int) c LL i : Nat) : Int)]) rfl rfl rfl rfl rfl rfl ⟨by decide, rfl, .inl ⟨rfl, rfl⟩⟩ rfl rfl rfl rfl rfl rfl hcmN rfl (by omega) (by omega) (by omega) (by omega) rfl rfl (fun k3 sp3 g1 g2 => ?_)
            refine oA rfl rfl ?_
            refine OW_nil ?_))
        all_goals first | with_reducible refine bN ?_ | with_reducible refine bE ?_ | with_reducible refine bR ?_ | refine bX rfl ?_
        all_goals with_reducible refine tN ?_
        all_goals (
         refine CW_region ?_
         refine oM rfl rfl ?_
         first | refine oQ (Q_binu rfl rfl rfl (by omega)) rfl rfl ?_ | refine oQ (Q_bin rfl rfl rfl) rfl rfl ?_
         refine oA rfl rfl ?_
         refine OW_nil ?_))
     all_goals first
       | with_reducible refine tR ?_
       | with_reducible refine tE ?_
       | (
        with_reducible refine tN ?_
        first
          | (
           refine ⟨(i + 1, k2, sp2, k3, sp3), ?_, ?_, View.mk' [(6, 9), (7, 11)] rfl rfl rfl ?_ ?_⟩
           · dsimp only
             first
               | (rw [mPts_pos hc, List.length_append, List.length_singleton]; exact ⟨by omega, h1, h2, g1, by omega⟩)
               | (rw [mPts_neg hc]; exact ⟨by omega, hk, hsp, hk', hsp'⟩)
           · omega
           all_goals (repeat' first | exact vFn | refine vFc rfl ?_ | exact vHn | refine vHc rfl ?_ | refine vFc (congrArg (fun z => some (V.int z)) ?_) ?_ | refine vHc (congrArg (fun z => some (Blk.ints _ z)) ?_) ?_ | refine vFc (congrArg (fun z => some (V.bool z)) ?_) ?_ | refine vFs rfl rfl ?_ ?_)
           all_goals dsimp only
           all_goals first
             | (rw [mPts_pos hc]; simp; done)
             | (rw [mCts_pos hc]; done)
             | (rw [mPts_neg hc]; done)
             | (rw [mCts_neg hc]; done))
          | (
           refine ⟨(i + 1, k, sp, k', sp'), ?_, ?_, View.mk' [] rfl rfl rfl ?_ ?_⟩
           · dsimp only
             first
               | (rw [mPts_pos hc, List.length_append, List.length_singleton]; exact ⟨by omega, h1, h2, g1, by omega⟩)
               | (rw [mPts_neg hc]; exact ⟨by omega, hk, hsp, hk', hsp'⟩)
           · omega
           all_goals (repeat' first | exact vFn | refine vFc rfl ?_ | exact vHn | refine vHc rfl ?_ | refine vFc (congrArg (fun z => some (V.int z)) ?_) ?_ | refine vHc (congrArg (fun z => some (Blk.ints _ z)) ?_) ?_ | refine vFc (congrArg (fun z => some (V.bool z)) ?_) ?_ | refine vFs rfl rfl ?_ ?_)
           all_goals dsimp only
           all_goals first
             | (rw [mPts_pos hc]; simp; done)
             | (rw [mCts_pos hc]; done)
             | (rw [mPts_neg hc]; done)
             | (rw [mCts_neg hc]; done)))
     all_goals first | with_reducible refine bN ?_ | with_reducible refine bE ?_ | with_reducible refine bR ?_ | refine bX rfl ?_
     all_goals with_reducible refine tN ?_
     all_goals (
      refine cR ?_
      iterate 2 refine oM rfl rfl ?_
      iterate 3 refine oA rfl rfl ?_
      refine oN ?_
      refine CW_ret ?_))
  all_goals (
   have e : i = LL.length := by omega
   subst e
   exact exitH (r0 := .tuple [.slice 0 0 (mPts n c LL LL.length).length k, .slice 1 0 (mPts n c LL LL.length).length k', .bool true]) (H0 := [(0, .ints 29 ((mPts n c LL LL.length).flatten ++ sp)), (1, .ints 2 (mCts n c LL LL.length ++ sp'))]) (.inr rfl) [(0, 6), (1, 7)] 2 (.cons (.tmp rfl rfl) (.cons (.tmp rfl rfl) (.cons (.tmp rfl rfl) .nil))) rfl rfl rfl (vHc rfl (vHc rfl vHn)) rfl rfl ⟨k, sp, k', sp', hk, hsp, hk', hsp', rfl, rfl⟩)
theorem l06MeetZ_con (n : Nat) (c l : List Int) (hp : primeB (n : Int) = true) (hcl : c.length = 10) (qc : smN 12 c) (hl : l ∈ allPts (n : Int)) (hz : meB (n : Int) c l = true) : ConQ Tryd.prog [] 58 [.int (n : Int), .arr c, .arr l] [] (.tuple [.nilsl, .nilsl, .bool false]) := by
  have hp3 := allPts_three hl
  have hls := allPts_sm hp hl
  have hpb := prime_bd hp
  have hon := l01PointsOn_con (n : Int) l hp hp3 hls
  have hlen := lnV_len hp hl
  have hcn := fun (i : Nat) (hi : i < (lnV (n : Int) l).length) (s t : Nat) (hs : (s : Int) < n) (ht : (t : Int) < n) hm => cn_spec hp c hl hi (s := s) (t := t) hs ht hm
  have hex := fun (i : Nat) (hi : i < (lnV (n : Int) l).length) => cn_parts hp hl hi
  have hcz := fun (i : Nat) (hi : i < (lnV (n : Int) l).length) hz => cn_nz hp c hl hi hz
  have hmem : ∀ x ∈ lnV (n : Int) l, x ∈ allPts (n : Int) := fun x hx => (lnV_mem hx).1
  try unfold mePts meCts
  unfold meB at hz
  unfold lnV at *
  generalize hLL : ((allPts (n : Int)).filter fun m => onB (n : Int) m l) = LL at *
  have h3 : ∀ x ∈ LL, x.length = 3 := fun x hx => allPts_three (hmem x hx)
  have hf3 := flat3 h3
  have hqm : ∀ i, i < LL.length → smN 12 (LL.getD i []) := fun i hi => allPts_smN hp (hmem _ (getD_mem hi))
  have h3i : ∀ i, i < LL.length → (LL.getD i []).length = 3 := fun i hi => h3 _ (getD_mem hi)
  have hpl := fun i => mPts_len n c LL i
  have hcl2 := fun i => mCts_len n c LL i
  have hp3f : ∀ i, i ≤ LL.length → (mPts n c LL i).flatten.length = (mPts n c LL i).length * 3 := fun i hi => flat3 (fun x hx => h3 x (mPts_mem hi hx))
  have hl0 := h3i 0 (by omega)
  have hl1 := h3i 1 (by omega)
  have hln := l06Line_con (n : Int) c (LL.getD 0 []) (LL.getD 1 []) hp hcl (h3i 0 (by omega)) (h3i 1 (by omega)) qc (hqm 0 (by omega)) (hqm 1 (by omega))
  obtain ⟨m, _, rfl, hdm⟩ : ∃ (m : Nat) (_ : NeZero m), n = m ∧ Dom (Fin m) := by
    obtain ⟨m, h1, h2, h3⟩ := dom_of hp
    exact ⟨m, h1, by omega, h3⟩
  rw [lnO_eq] at hln
  have hEl : (alV (n : Int) c (LL.getD 0 []) (LL.getD 1 []) 80).length = 4 := rfl
  have hEs := alV_smN hp c (LL.getD 0 []) (LL.getD 1 [])
  unfold prB at hz
  generalize hE : alV (n : Int) c (LL.getD 0 []) (LL.getD 1 []) 80 = E at *
  have hE0 : E = [0, 0, 0, 0] := by simpa using hz
  subst hE0
  refine conW tab_ok [(0, .int (n : Int)), (1, .arr c), (2, .arr l)] 0 [] [] Tryd.func58 rfl rfl rfl rfl rfl rfl rfl rfl rfl ?_
  refine cR ?_
  iterate 2 refine oBox rfl rfl rfl rfl rfl rfl ?_
  iterate 3 refine oA rfl rfl ?_
  refine oN ?_
  refine cR ?_
  refine oM rfl rfl ?_
  refine oQ (Q_ldw rfl rfl rfl rfl hp3) rfl rfl ?_
  refine oCall (hon) [] 1 rfl rfl (Fits.mk' vHn rfl rfl (by first | (simp; done) | exact glOk rfl rfl rfl)) rfl rfl ?_
  rintro r H1 ⟨k0, sp0, hk0, hs0, rfl, rfl⟩
  refine ⟨.slice 2 0 LL.length k0, [(2, .ints 29 (LL.flatten ++ sp0))], rfl, rfl, rfl, ?_⟩
  refine oA rfl rfl ?_
  refine oN ?_
  refine CW_cut (ι := Unit) (fun _ => True) (fun _ => ⟨[(0, .int (n : Int)), (4, .ptr 0 0), (5, .ptr 1 0), (9, .slice 2 0 LL.length k0), (10, .ptr 3 0), (11, .ptr 4 0)], [(0, .ints 27 c), (1, .ints 24 l), (2, .ints 29 (LL.flatten ++ sp0)), (3, .ints 29 (LL.getD 0 [])), (4, .ints 29 (LL.getD 1 []))], 5⟩) ?_ ?_
  · (
   refine CW_anyX [3, 4] 10 rfl lateOk (by decide +kernel) (fun hst => ?_)
   refine xQ 0 hst rfl (by decide +kernel) (QX_of (Q_move rfl rfl) NE_move) rfl rfl ?_
   refine xQ 1 hst rfl (by decide +kernel) (QX_of (Q_ixs0z 3 (j := 0) rfl rfl rfl rfl rfl rfl (by omega)) NE_ix) rfl rfl ?_
   refine xQ 2 hst rfl (by decide +kernel) (QX_of (Q_lda (n := 3) rfl rfl rfl rfl rfl (by rw [List.length_append, hf3]; omega)) NE_load) rfl rfl ?_; rw [flat_get h3 (show 0 < LL.length by omega)]
   refine xQ 3 hst rfl (by decide +kernel) (QX_of (Q_move rfl rfl) NE_move) rfl rfl ?_
   refine xQ 4 hst rfl (by decide +kernel) (QX_of (Q_ixs0z 3 (j := 1) rfl rfl rfl rfl rfl rfl (by omega)) NE_ix) rfl rfl ?_
   refine xQ 5 hst rfl (by decide +kernel) (QX_of (Q_lda (n := 3) rfl rfl rfl rfl rfl (by rw [List.length_append, hf3]; omega)) NE_load) rfl rfl ?_; rw [flat_get h3 (show 1 < LL.length by omega)]
   refine AX_two (i := 6) (j := 7) (by decide +kernel) ?_ ?_
   all_goals first
     | (
      refine xAlloc rfl rfl rfl rfl rfl rfl rfl rfl ?_
      refine AX_one (i := 7) (by decide +kernel) ?_
      refine xAlloc rfl rfl rfl rfl rfl rfl rfl rfl ?_
      refine AX_one (i := 8) (by decide +kernel) ?_
      refine xStw rfl (by decide) rfl rfl rfl rfl ?_
      refine AX_one (i := 9) (by decide +kernel) ?_
      refine xStw rfl (by decide) rfl rfl rfl rfl ?_
      refine AX_done (by decide +kernel) ?_)
     | (
      refine xAlloc rfl rfl rfl rfl rfl rfl rfl rfl ?_
      refine AX_one (i := 6) (by decide +kernel) ?_
      refine xAlloc rfl rfl rfl rfl rfl rfl rfl rfl ?_
      refine AX_one (i := 8) (by decide +kernel) ?_
      refine xStw rfl (by decide) rfl rfl rfl rfl ?_
      refine AX_one (i := 9) (by decide +kernel) ?_
      refine xStw rfl (by decide) rfl rfl rfl rfl ?_
      refine AX_done (by decide +kernel) ?_)
   all_goals with_reducible refine tN ?_
   all_goals (
    first
      | (
       refine ⟨(), ?_, View.mk' [] rfl rfl rfl ?_ ?_⟩
       · first | trivial | omega
       all_goals (repeat' first | exact vFn | refine vFc rfl ?_ | exact vHn | refine vHc rfl ?_ | refine vFc (congrArg (fun z => some (V.int z)) ?_) ?_ | refine vHc (congrArg (fun z => some (Blk.ints _ z)) ?_) ?_ | refine vFc (congrArg (fun z => some (V.bool z)) ?_) ?_ | refine vFs rfl rfl ?_ ?_)
       done)
      | (
       refine ⟨(), ?_, View.mk' [(3, 4), (4, 3)] rfl rfl rfl ?_ ?_⟩
       · first | trivial | omega
       all_goals (repeat' first | exact vFn | refine vFc rfl ?_ | exact vHn | refine vHc rfl ?_ | refine vFc (congrArg (fun z => some (V.int z)) ?_) ?_ | refine vHc (congrArg (fun z => some (Blk.ints _ z)) ?_) ?_ | refine vFc (congrArg (fun z => some (V.bool z)) ?_) ?_ | refine vFs rfl rfl ?_ ?_)
       done)))
  intro _ _
  refine cR ?_
  refine oM rfl rfl ?_
  refine oQ (Q_ldw rfl rfl rfl rfl hcl) rfl rfl ?_
  refine oQ (Q_ldw rfl rfl rfl rfl hl0) rfl rfl ?_
  refine oQ (Q_ldw rfl rfl rfl rfl hl1) rfl rfl ?_
  refine oCall (hln) [] 1 rfl rfl (Fits.mk' vHn rfl rfl (by first | (simp; done) | exact glOk rfl rfl rfl)) rfl rfl ?_
  rintro r H1 ⟨rfl, rfl⟩
  refine ⟨.slice 5 0 4 4, [(5, .ints 2 [0, 0, 0, 0])], rfl, rfl, rfl, ?_⟩
  refine oBsl rfl rfl rfl rfl (.inr ⟨rfl, rfl, by decide⟩) rfl rfl rfl rfl rfl rfl ?_
  refine oBsl (zl := []) rfl rfl rfl rfl (.inl ⟨rfl, rfl⟩) rfl rfl rfl rfl rfl rfl ?_
  iterate 3 refine oA rfl rfl ?_
  refine oN ?_
  refine CW_seq ?_
  refine cR ?_
  refine oM rfl rfl ?_
  first | refine oQ (Is0 rfl rfl rfl rfl rfl rfl) rfl rfl ?_ | refine oQ (Is1 rfl rfl rfl rfl rfl rfl) rfl rfl ?_
  first | refine oQ (Q_ldc rfl rfl rfl rfl rfl) rfl rfl ?_ | refine oQ (Ld rfl rfl rfl rfl) rfl rfl ?_
  refine oQ (v := .bool true) (Q_bin rfl rfl rfl) rfl rfl ?_
  refine oM rfl rfl ?_
  all_goals first | refine oT rfl rfl ?_ | refine o1 rfl rfl rfl ?_ | refine o0 rfl rfl rfl ?_ | refine ogP1 rfl rfl rfl (fun hg => ?_) (fun hg => ?_) | refine ogP0 rfl rfl rfl (fun hg => ?_) (fun hg => ?_)
  all_goals try simp only [s1, s2, s3, s4, s5, s6, s7, s8, s9, s10, s11, s12] at hg
  all_goals first | (refine oM rfl rfl ?_) | skip
  all_goals first | refine oT rfl rfl ?_ | refine o1 rfl rfl rfl ?_ | refine o0 rfl rfl rfl ?_ | refine ogP1 rfl rfl rfl (fun hg => ?_) (fun hg => ?_) | refine ogP0 rfl rfl rfl (fun hg => ?_) (fun hg => ?_)
  all_goals try simp only [s1, s2, s3, s4, s5, s6, s7, s8, s9, s10, s11, s12] at hg
  all_goals first | refine oQ (Is0 rfl rfl rfl rfl rfl rfl) rfl rfl ?_ | refine oQ (Is1 rfl rfl rfl rfl rfl rfl) rfl rfl ?_ | skip
  all_goals first | refine oT rfl rfl ?_ | refine o1 rfl rfl rfl ?_ | refine o0 rfl rfl rfl ?_ | refine ogP1 rfl rfl rfl (fun hg => ?_) (fun hg => ?_) | refine ogP0 rfl rfl rfl (fun hg => ?_) (fun hg => ?_)
  all_goals try simp only [s1, s2, s3, s4, s5, s6, s7, s8, s9, s10, s11, s12] at hg
  all_goals first | refine oQ (Q_ldc rfl rfl rfl rfl rfl) rfl rfl ?_ | refine oQ (Ld rfl rfl rfl rfl) rfl rfl ?_ | skip
  all_goals first | refine oT rfl rfl ?_ | refine o1 rfl rfl rfl ?_ | refine o0 rfl rfl rfl ?_ | refine ogP1 rfl rfl rfl (fun hg => ?_) (fun hg => ?_) | refine ogP0 rfl rfl rfl (fun hg => ?_) (fun hg => ?_)
  all_goals try simp only [s1, s2, s3, s4, s5, s6, s7, s8, s9, s10, s11, s12] at hg
  all_goals first | (refine oQ (v := .bool true) (Q_bin rfl rfl rfl) rfl rfl ?_) | skip
  all_goals first | refine oQ (Q_pick_t rfl (by with_reducible rfl) rfl rfl) rfl rfl ?_ | refine oQ (Q_pick_f rfl (by with_reducible rfl) rfl rfl) rfl rfl ?_
  all_goals first | (refine oM rfl rfl ?_)
  all_goals first | refine oT rfl rfl ?_ | refine o1 rfl rfl rfl ?_ | refine o0 rfl rfl rfl ?_ | refine ogP1 rfl rfl rfl (fun hg => ?_) (fun hg => ?_) | refine ogP0 rfl rfl rfl (fun hg => ?_) (fun hg => ?_)
  all_goals try simp only [s1, s2, s3, s4, s5, s6, s7, s8, s9, s10, s11, s12] at hg
  all_goals first | (refine oM rfl rfl ?_) | skip
  all_goals first | refine oT rfl rfl ?_ | refine o1 rfl rfl rfl ?_ | refine o0 rfl rfl rfl ?_ | refine ogP1 rfl rfl rfl (fun hg => ?_) (fun hg => ?_) | refine ogP0 rfl rfl rfl (fun hg => ?_) (fun hg => ?_)
  all_goals try simp only [s1, s2, s3, s4, s5, s6, s7, s8, s9, s10, s11, s12] at hg
  all_goals first | refine oQ (Is0 rfl rfl rfl rfl rfl rfl) rfl rfl ?_ | refine oQ (Is1 rfl rfl rfl rfl rfl rfl) rfl rfl ?_ | skip
  all_goals first | refine oT rfl rfl ?_ | refine o1 rfl rfl rfl ?_ | refine o0 rfl rfl rfl ?_ | refine ogP1 rfl rfl rfl (fun hg => ?_) (fun hg => ?_) | refine ogP0 rfl rfl rfl (fun hg => ?_) (fun hg => ?_)
  all_goals try simp only [s1, s2, s3, s4, s5, s6, s7, s8, s9, s10, s11, s12] at hg
  all_goals first | refine oQ (Q_ldc rfl rfl rfl rfl rfl) rfl rfl ?_ | refine oQ (Ld rfl rfl rfl rfl) rfl rfl ?_ | skip
  all_goals first | refine oT rfl rfl ?_ | refine o1 rfl rfl rfl ?_ | refine o0 rfl rfl rfl ?_ | refine ogP1 rfl rfl rfl (fun hg => ?_) (fun hg => ?_) | refine ogP0 rfl rfl rfl (fun hg => ?_) (fun hg => ?_)
  all_goals try simp only [s1, s2, s3, s4, s5, s6, s7, s8, s9, s10, s11, s12] at hg
  all_goals first | (refine oQ (v := .bool true) (Q_bin rfl rfl rfl) rfl rfl ?_) | skip
  all_goals first | refine oQ (Q_pick_t rfl (by with_reducible rfl) rfl rfl) rfl rfl ?_ | refine oQ (Q_pick_f rfl (by with_reducible rfl) rfl rfl) rfl rfl ?_
  all_goals first | (refine oM rfl rfl ?_)
  all_goals first | refine oT rfl rfl ?_ | refine o1 rfl rfl rfl ?_ | refine o0 rfl rfl rfl ?_ | refine ogP1 rfl rfl rfl (fun hg => ?_) (fun hg => ?_) | refine ogP0 rfl rfl rfl (fun hg => ?_) (fun hg => ?_)
  all_goals try simp only [s1, s2, s3, s4, s5, s6, s7, s8, s9, s10, s11, s12] at hg
  all_goals first | (refine oM rfl rfl ?_) | skip
  all_goals first | refine oT rfl rfl ?_ | refine o1 rfl rfl rfl ?_ | refine o0 rfl rfl rfl ?_ | refine ogP1 rfl rfl rfl (fun hg => ?_) (fun hg => ?_) | refine ogP0 rfl rfl rfl (fun hg => ?_) (fun hg => ?_)
  all_goals try simp only [s1, s2, s3, s4, s5, s6, s7, s8, s9, s10, s11, s12] at hg
  all_goals first | refine oQ (Is0 rfl rfl rfl rfl rfl rfl) rfl rfl ?_ | refine oQ (Is1 rfl rfl rfl rfl rfl rfl) rfl rfl ?_ | skip
  all_goals first | refine oT rfl rfl ?_ | refine o1 rfl rfl rfl ?_ | refine o0 rfl rfl rfl ?_ | refine ogP1 rfl rfl rfl (fun hg => ?_) (fun hg => ?_) | refine ogP0 rfl rfl rfl (fun hg => ?_) (fun hg => ?_)
  all_goals try simp only [s1, s2, s3, s4, s5, s6, s7, s8, s9, s10, s11, s12] at hg
  all_goals first | refine oQ (Q_ldc rfl rfl rfl rfl rfl) rfl rfl ?_ | refine oQ (Ld rfl rfl rfl rfl) rfl rfl ?_ | skip
  all_goals first | refine oT rfl rfl ?_ | refine o1 rfl rfl rfl ?_ | refine o0 rfl rfl rfl ?_ | refine ogP1 rfl rfl rfl (fun hg => ?_) (fun hg => ?_) | refine ogP0 rfl rfl rfl (fun hg => ?_) (fun hg => ?_)
  all_goals try simp only [s1, s2, s3, s4, s5, s6, s7, s8, s9, s10, s11, s12] at hg
  all_goals first | (refine oQ (v := .bool true) (Q_bin rfl rfl rfl) rfl rfl ?_) | skip
  all_goals first | refine oQ (Q_pick_t rfl (by with_reducible rfl) rfl rfl) rfl rfl ?_ | refine oQ (Q_pick_f rfl (by with_reducible rfl) rfl rfl) rfl rfl ?_
  all_goals refine oN ?_
  all_goals (
   first | refine cT rfl ?_ | refine cF rfl ?_ | refine CW_cond rfl (fun hc => ?_) (fun hc => ?_)
   all_goals try simp only [s1, s2, s3, s4, s5, s6, s7, s8, s9, s10, s11, s12] at hc
   all_goals first
     | (
      refine CW_skip ?_)
     | (
      refine cR ?_
      iterate 3 refine oA rfl rfl ?_
      refine oN ?_
      refine CW_ret ?_))
  all_goals first
    | with_reducible refine tR ?_
    | with_reducible refine tE ?_
    | (
     with_reducible refine tN ?_
     refine CW_seq ?_
     refine cR ?_
     refine oA rfl rfl ?_
     refine oN ?_
     refine CW_block ?_
     (exfalso; simp at hc; done)
     · first | trivial | omega | (simp; done) | (simp; omega)
     · refine View.mk' [] rfl rfl rfl ?_ ?_
       repeat' first | exact vFn | refine vFc rfl ?_ | exact vHn | refine vHc rfl ?_ | refine vFc (congrArg (fun z => some (V.int z)) ?_) ?_ | refine vHc (congrArg (fun z => some (Blk.ints _ z)) ?_) ?_ | refine vFc (congrArg (fun z => some (V.bool z)) ?_) ?_ | refine vFs rfl rfl ?_ ?_
     intro i hi
     refine CW_seq ?_
     refine cR ?_
     iterate 2 refine oM rfl rfl ?_
     first | refine oQ (Q_len rfl rfl rfl rfl) rfl rfl ?_ | refine oQ (Q_len0 rfl rfl rfl rfl) rfl rfl ?_
     refine oQ (Q_bin rfl rfl rfl) rfl rfl ?_
     refine oN ?_
     first | refine cT rfl ?_ | refine cF rfl ?_ | refine CW_cond rfl (fun hc => ?_) (fun hc => ?_)
     all_goals try simp only [s1, s2, s3, s4, s5, s6, s7, s8, s9, s10, s11, s12] at hc
     all_goals first
       | (
        refine CW_skip ?_)
       | (
        refine CW_exit ?_)
     all_goals first
       | with_reducible refine tR ?_
       | with_reducible refine tE ?_
       | (
        with_reducible refine tN ?_
        refine CW_seq ?_
        refine CW_block ?_
        refine CW_seq ?_
        refine CW_draw lateOk (by decide +kernel) ?_
        refine qM rfl rfl ?_
        first | refine qQ (Lw rfl rfl rfl rfl) rfl rfl ?_ | refine qQ (La rfl rfl rfl rfl rfl) rfl rfl ?_
        first | refine qQ (Lw rfl rfl rfl rfl) rfl rfl ?_ | refine qQ (La rfl rfl rfl rfl rfl) rfl rfl ?_
        iterate 2 refine qM rfl rfl ?_
        first | refine qQ (Q_ixs0z 3 rfl rfl rfl rfl rfl rfl (by first | omega | (dsimp only; omega) | (simp; omega) | (simp; done))) rfl rfl ?_ | refine qQ (Q_ixsz 3 rfl rfl rfl rfl rfl rfl (by first | omega | (dsimp only; omega) | (simp; omega) | (simp; done))) rfl rfl ?_
        first | refine qQ (Lw rfl rfl rfl rfl) rfl rfl ?_ | refine qQ (La rfl rfl rfl rfl rfl) rfl rfl ?_
        fail "call of loop.example/g01310/spec.l01Parts at slot 72"
        refine qM rfl rfl ?_
        iterate 3 refine qQ (Q_extract rfl rfl) rfl rfl ?_
        iterate 3 refine qA rfl rfl ?_
        refine QW_nil ?_
        all_goals with_reducible refine tN ?_
        all_goals (
         refine cR ?_
         iterate 4 refine oM rfl rfl ?_
         fail "call of loop.example/g01310/spec.l06Often at slot 80"
         refine oA rfl rfl ?_
         refine oN ?_
         refine cR ?_
         refine oM rfl rfl ?_
         refine oQ (Q_bin rfl rfl rfl) rfl rfl ?_
         refine oN ?_
         first | refine cT rfl ?_ | refine cF rfl ?_ | refine CW_cond rfl (fun hc => ?_) (fun hc => ?_)
         all_goals try simp only [s1, s2, s3, s4, s5, s6, s7, s8, s9, s10, s11, s12] at hc
         all_goals first
           | (
            refine CW_skip ?_)
           | (
            refine cR ?_
            iterate 3 refine oM rfl rfl ?_
            first | refine oQ (Q_ixs0z 3 rfl rfl rfl rfl rfl rfl (by first | omega | (dsimp only; omega) | (simp; omega) | (simp; done))) rfl rfl ?_ | refine oQ (Q_ixsz 3 rfl rfl rfl rfl rfl rfl (by first | omega | (dsimp only; omega) | (simp; omega) | (simp; done))) rfl rfl ?_
            first | refine oQ (Lw rfl rfl rfl rfl) rfl rfl ?_ | refine oQ (La rfl rfl rfl rfl rfl) rfl rfl ?_
            refine oBsl rfl rfl rfl rfl (.inr ⟨rfl, rfl, by decide⟩) rfl rfl rfl rfl rfl rfl ?_
            fail "builtin append at slot 89"
            refine oA rfl rfl ?_
            refine oN ?_
            refine CW_region ?_
            iterate 2 refine oM rfl rfl ?_
            refine oBsl (zl := []) rfl rfl rfl rfl (.inl ⟨rfl, rfl⟩) rfl rfl rfl rfl rfl rfl ?_
            fail "builtin append at slot 93"
            refine oA rfl rfl ?_
            refine OW_nil ?_))
        all_goals first | with_reducible refine bN ?_ | with_reducible refine bE ?_ | with_reducible refine bR ?_ | refine bX rfl ?_
        all_goals with_reducible refine tN ?_
        all_goals (
         refine CW_region ?_
         refine oM rfl rfl ?_
         first | refine oQ (Q_binu rfl rfl rfl (by omega)) rfl rfl ?_ | refine oQ (Q_bin rfl rfl rfl) rfl rfl ?_
         refine oA rfl rfl ?_
         refine OW_nil ?_))
     all_goals first
       | with_reducible refine tR ?_
       | with_reducible refine tE ?_
       | (
        with_reducible refine tN ?_
        fail "again 0")
     all_goals first | with_reducible refine bN ?_ | with_reducible refine bE ?_ | with_reducible refine bR ?_ | refine bX rfl ?_
     all_goals with_reducible refine tN ?_
     all_goals (
      refine cR ?_
      iterate 2 refine oM rfl rfl ?_
      iterate 3 refine oA rfl rfl ?_
      refine oN ?_
      refine CW_ret ?_))
  all_goals (
   refine exitQ (.inr rfl) 0 (.cons (.tmp rfl rfl) (.cons (.tmp rfl rfl) (.cons (.tmp rfl rfl) .nil))) ?_ rfl vHn rfl rfl
   rfl)
theorem multN_con (n : Nat) (c l : List Int) (hp : primeB (n : Int) = true) (hcl : c.length = 10) (qc : smN 12 c) (hl : l ∈ allPts (n : Int)) (hz : meB (n : Int) c l = false) : Con Tryd.prog [(0, 2000)] 60 [.arr c, .int (n : Int), .arr l] [(2000, .ro 0 cuT)] (fun r H' => meR [(2000, .ro 0 cuT)] 29 2 (mePts (n : Int) c l) (meCts (n : Int) c l) r H') := by
  have hp3 := allPts_three hl
  have hls := allPts_sm hp hl
  have hpb := prime_bd hp
  have hon := pointsOn_con (n : Int) l hp hp3 hls
  have hlen := lnV_len hp hl
  have hcn := fun (i : Nat) (hi : i < (lnV (n : Int) l).length) (s t : Nat) (hs : (s : Int) < n) (ht : (t : Int) < n) hm => cn_spec hp c hl hi (s := s) (t := t) hs ht hm
  have hex := fun (i : Nat) (hi : i < (lnV (n : Int) l).length) => cn_parts hp hl hi
  have hcz := fun (i : Nat) (hi : i < (lnV (n : Int) l).length) hz => cn_nz hp c hl hi hz
  have hmem : ∀ x ∈ lnV (n : Int) l, x ∈ allPts (n : Int) := fun x hx => (lnV_mem hx).1
  try unfold mePts meCts
  unfold meB at hz
  unfold lnV at *
  generalize hLL : ((allPts (n : Int)).filter fun m => onB (n : Int) m l) = LL at *
  have h3 : ∀ x ∈ LL, x.length = 3 := fun x hx => allPts_three (hmem x hx)
  have hf3 := flat3 h3
  have hqm : ∀ i, i < LL.length → smN 12 (LL.getD i []) := fun i hi => allPts_smN hp (hmem _ (getD_mem hi))
  have h3i : ∀ i, i < LL.length → (LL.getD i []).length = 3 := fun i hi => h3 _ (getD_mem hi)
  have hpl := fun i => mPts_len n c LL i
  have hcl2 := fun i => mCts_len n c LL i
  have hp3f : ∀ i, i ≤ LL.length → (mPts n c LL i).flatten.length = (mPts n c LL i).length * 3 := fun i hi => flat3 (fun x hx => h3 x (mPts_mem hi hx))
  have hal := fun (i j : Nat) (hi : i < LL.length) (hj : j < LL.length) => along_con (n : Int) c (LL.getD i []) (LL.getD j []) hp hcl (h3i i hi) (h3i j hj) qc (hqm i hi) (hqm j hj)
  have hE1 := hal 0 1 (by omega) (by omega)
  have hEl : (alV (n : Int) c (LL.getD 0 []) (LL.getD 1 []) 80).length = 4 := rfl
  have hz0 := hz
  unfold prB at hz
  generalize hE : alV (n : Int) c (LL.getD 0 []) (LL.getD 1 []) 80 = E at *
  have hz2 : ¬ E = [0, 0, 0, 0] := by simpa using hz
  refine conW tab_ok [(0, .arr c), (1, .int (n : Int)), (2, .arr l)] 0 [2000] [] Tryd.func60 rfl rfl rfl rfl rfl rfl rfl rfl rfl ?_
  refine cR ?_
  iterate 2 refine oBox rfl rfl rfl rfl rfl rfl ?_
  iterate 3 refine oA rfl rfl ?_
  refine oN ?_
  refine cR ?_
  refine oBsl rfl rfl rfl rfl (.inr ⟨rfl, rfl, by decide⟩) rfl rfl rfl rfl rfl rfl ?_
  refine oBsl (zl := []) rfl rfl rfl rfl (.inl ⟨rfl, rfl⟩) rfl rfl rfl rfl rfl rfl ?_
  refine oM rfl rfl ?_
  refine oQ (Q_ldw rfl rfl rfl rfl hp3) rfl rfl ?_
  refine oCall (hon) [] 1 rfl rfl (Fits.mk' vHn rfl rfl (by first | (simp; done) | exact glOk rfl rfl rfl)) rfl rfl ?_
  rintro r H1 ⟨k0, sp0, hk0, hs0, rfl, rfl⟩
  refine ⟨.slice 4 0 LL.length k0, [(4, .ints 29 (LL.flatten ++ sp0))], rfl, rfl, rfl, ?_⟩
  iterate 3 refine oA rfl rfl ?_
  refine oN ?_
  iterate 2 refine CW_seq ?_
  refine CW_draw lateOk (by decide +kernel) ?_
  refine qQ (Q_ldw rfl rfl rfl rfl hcl) rfl rfl ?_
  iterate 2 refine qM rfl rfl ?_
  refine qQ (Q_ixs0z 3 (j := 0) rfl rfl rfl rfl rfl rfl (by omega)) rfl rfl ?_
  refine qQ (Q_lda (n := 3) rfl rfl rfl rfl rfl (by rw [List.length_append, hf3]; omega)) rfl rfl ?_; rw [flat_get h3 (show 0 < LL.length by omega)]
  refine qM rfl rfl ?_
  refine qQ (Q_ixs0z 3 (j := 1) rfl rfl rfl rfl rfl rfl (by omega)) rfl rfl ?_
  refine qQ (Q_lda (n := 3) rfl rfl rfl rfl rfl (by rw [List.length_append, hf3]; omega)) rfl rfl ?_; rw [flat_get h3 (show 1 < LL.length by omega)]
  refine qQ (Q_call (hE1) [] rfl rfl (Fits.mk' (vHc rfl vHn) rfl rfl (by first | (simp; done) | exact glOk rfl rfl rfl)) rfl rfl) rfl rfl ?_
  refine qQ (v := .arr [0, 0, 0, 0]) (Q_build rfl rfl rfl rfl rfl rfl rfl rfl) rfl rfl ?_
  refine qQ (Q_arrb rfl rfl rfl rfl rfl rfl rfl rfl rfl hEl rfl) rfl rfl ?_
  refine QW_nil ?_
  all_goals with_reducible refine tN ?_
  all_goals (
   first | refine cT rfl ?_ | refine cF rfl ?_ | refine CW_cond rfl (fun hc => ?_) (fun hc => ?_)
   all_goals try simp only [s1, s2, s3, s4, s5, s6, s7, s8, s9, s10, s11, s12] at hc
   all_goals try (exfalso; exact absurd hc hz2; done)
   all_goals first
     | (
      refine CW_skip ?_)
     | (
      refine cR ?_
      iterate 3 refine oA rfl rfl ?_
      refine oN ?_
      refine CW_ret ?_))
  all_goals first
    | with_reducible refine tR ?_
    | with_reducible refine tE ?_
    | (
     with_reducible refine tN ?_
     refine CW_seq ?_
     refine cR ?_
     refine oM rfl rfl ?_
     first | refine oQ (Q_len rfl rfl rfl rfl) rfl rfl ?_ | refine oQ (Q_len0 rfl rfl rfl rfl) rfl rfl ?_
     refine oM rfl rfl ?_
     refine oN ?_
     refine CW_block ?_
     refine CW_loop (ι := Nat × Nat × List Int × Nat × List Int) (fun x => x.1 ≤ LL.length ∧ (mPts n c LL x.1).length ≤ x.2.1 ∧ x.2.1 * 3 ≤ (mPts n c LL x.1).length * 3 + x.2.2.1.length ∧ (mPts n c LL x.1).length ≤ x.2.2.2.1 ∧ x.2.2.2.1 ≤ (mPts n c LL x.1).length + x.2.2.2.2.length) (fun x => ⟨[(1, .int (n : Int)), (3, .ptr 0 0), (9, .slice 2 0 (mPts n c LL x.1).length x.2.1), (10, .slice 3 0 (mPts n c LL x.1).length x.2.2.2.1), (11, .slice 4 0 LL.length k0), (32, .slice 4 0 LL.length k0), (33, .int (LL.length : Nat)), (34, .int (x.1 : Nat))], [(0, .ints 27 c), (2, .ints 29 ((mPts n c LL x.1).flatten ++ x.2.2.1)), (3, .ints 2 ((mCts n c LL x.1) ++ x.2.2.2.2)), (4, .ints 29 (LL.flatten ++ sp0)), (2000, .ro 0 cuT)], 5⟩) (fun x => LL.length - x.1) (0, 0, [], 0, []) ?_ ?_ ?_
     · exact ⟨Nat.zero_le _, Nat.le_refl _, Nat.le_refl _, Nat.le_refl _, Nat.le_refl _⟩
     · refine View.mk' [] rfl rfl rfl ?_ ?_
       repeat' first | exact vFn | refine vFc rfl ?_ | exact vHn | refine vHc rfl ?_ | refine vFc (congrArg (fun z => some (V.int z)) ?_) ?_ | refine vHc (congrArg (fun z => some (Blk.ints _ z)) ?_) ?_ | refine vFc (congrArg (fun z => some (V.bool z)) ?_) ?_ | refine vFs rfl rfl ?_ ?_
     rintro ⟨i, k, sp, k', sp'⟩ ⟨hi, hk, hsp, hk', hsp'⟩
     dsimp only at hi hk hsp hk' hsp' ⊢
     have hfl := hp3f i hi
     have hpli := hpl i
     have hcli := hcl2 i
     have hml : (i + 1) % LL.length < LL.length := Nat.mod_lt _ (by omega)
     have hcmN : (mCts n c LL i).length = (mPts n c LL i).length * 1 := by omega
     refine cR ?_
     refine oQ (Q_bin rfl rfl rfl) rfl rfl ?_
     refine oN ?_
     refine CW_seq ?_
     first | refine cT rfl ?_ | refine cF rfl ?_ | refine CW_cond rfl (fun hc => ?_) (fun hc => ?_)
     all_goals try simp only [s1, s2, s3, s4, s5, s6, s7, s8, s9, s10, s11, s12] at hc
     all_goals try (exfalso; exact absurd hc hz2; done)
     all_goals first
       | (
        refine CW_skip ?_)
       | (
        refine CW_exit ?_)
     all_goals first
       | with_reducible refine tR ?_
       | with_reducible refine tE ?_
       | (
        with_reducible refine tN ?_
        refine CW_seq ?_
        refine CW_block ?_
        refine cR ?_
        refine oM rfl rfl ?_
        (have hiL : i < LL.length := by omega); (have h3j := h3i i hiL); (have h3m := h3i _ hml); refine oQ (Q_ixs0z 3 rfl rfl rfl rfl rfl rfl (by omega)) rfl rfl ?_
        refine oQ (Q_lda (n := 3) rfl rfl rfl rfl rfl (by rw [List.length_append, hf3]; omega)) rfl rfl ?_; rw [flat_get h3 hiL]
        refine oAlloc rfl rfl rfl rfl rfl rfl rfl ?_
        refine oA rfl rfl ?_
        first | refine oSw rfl rfl rfl rfl ?_ | refine oSa rfl rfl rfl rfl ?_
        refine oN ?_
        refine CW_seq ?_
        refine CW_any (fun i => List.elem i [13, 14]) 15 rfl lateOk (by decide +kernel) (fun hst => ?_)
        refine aQ 0 hst rfl rfl (by decide +kernel) (QX_of (Q_ldw rfl rfl rfl rfl hcl) NE_load) rfl rfl ?_
        refine aP 1 hst rfl rfl (by decide +kernel) (PX_move rfl rfl) rfl rfl ?_
        refine aQ 2 hst rfl rfl (by decide +kernel) (QX_of (Q_ldw rfl rfl rfl rfl h3j) NE_load) rfl rfl ?_
        refine aP 3 hst rfl rfl (by decide +kernel) (PX_move rfl rfl) rfl rfl ?_
        refine aP 4 hst rfl rfl (by decide +kernel) (PX_move rfl rfl) rfl rfl ?_
        first | refine aP 5 hst rfl rfl (by decide +kernel) (PX_binu rfl rfl rfl (by omega)) rfl rfl ?_ | refine aP 5 hst rfl rfl (by decide +kernel) (PX_bin rfl rfl rfl) rfl rfl ?_
        refine aP 6 hst rfl rfl (by decide +kernel) (PX_move rfl rfl) rfl rfl ?_
        first | refine aQ 7 hst rfl rfl (by decide +kernel) (QX_of (Q_len rfl rfl rfl rfl) NE_len) rfl rfl ?_ | refine aQ 7 hst rfl rfl (by decide +kernel) (QX_of (Q_len0 rfl rfl rfl rfl) NE_len) rfl rfl ?_
        refine aQ 8 hst rfl rfl (by decide +kernel) (QX_of (Q_nrem (a := i + 1) (b := LL.length) rfl rfl (by omega)) NE_bin) rfl rfl ?_
        refine aQ 9 hst rfl rfl (by decide +kernel) (QX_of (Q_ixs0z 3 rfl rfl rfl rfl rfl rfl (by omega)) NE_ix) rfl rfl ?_
        refine aQ 10 hst rfl rfl (by decide +kernel) (QX_of (Q_lda (n := 3) rfl rfl rfl rfl rfl (by rw [List.length_append, hf3]; omega)) NE_load) rfl rfl ?_; rw [flat_get h3 hml]
        refine aQ 11 hst rfl rfl (by decide +kernel) (QX_call (hal i ((i + 1) % LL.length) hiL hml) [] rfl rfl (Fits.mk' (vHc rfl vHn) rfl rfl (by first | (simp; done) | exact glOk rfl rfl rfl)) rfl rfl rfl) rfl rfl ?_
        refine AW_one (i := 12) (by decide +kernel) ?_
        refine gAlloc rfl rfl rfl rfl rfl rfl rfl rfl rfl ?_
        refine AW_last [13, 14] rfl (by decide +kernel) rfl ?_
        first | refine oSw rfl rfl rfl rfl ?_ | refine oSa rfl rfl rfl rfl ?_
        refine oA rfl rfl ?_
        refine OW_nil (npN ?_)
        all_goals with_reducible refine tN ?_
        all_goals (
         refine CW_seq ?_
         refine CW_block ?_
         refine CW_loop (ι := Nat) (fun j => j ≤ leadI (alV (n : Int) c (LL.getD i []) (LL.getD ((i + 1) % LL.length) []) 80)) (fun j => ⟨[(1, .int (n : Int)), (3, .ptr 0 0), (9, .slice 2 0 (mPts n c LL i).length k), (10, .slice 3 0 (mPts n c LL i).length k'), (11, .slice 4 0 LL.length k0), (32, .slice 4 0 LL.length k0), (33, .int (LL.length : Nat)), (34, .int (i : Nat)), (13, .ptr 5 0), (14, .ptr 6 0), (15, .int (j : Nat))], [(0, .ints 27 c), (2, .ints 29 ((mPts n c LL i).flatten ++ sp)), (3, .ints 2 ((mCts n c LL i) ++ sp')), (4, .ints 29 (LL.flatten ++ sp0)), (5, .ints 29 (LL.getD i [])), (6, .ints 104 (alV (n : Int) c (LL.getD i []) (LL.getD ((i + 1) % LL.length) []) 80)), (2000, .ro 0 cuT)], 7⟩) (fun j => 4 - j) 0 ?_ ?_ ?_
         · exact Nat.zero_le _
         · refine View.mk' [] rfl rfl rfl ?_ ?_
           repeat' first | exact vFn | refine vFc rfl ?_ | exact vHn | refine vHc rfl ?_ | refine vFc (congrArg (fun z => some (V.int z)) ?_) ?_ | refine vHc (congrArg (fun z => some (Blk.ints _ z)) ?_) ?_ | refine vFc (congrArg (fun z => some (V.bool z)) ?_) ?_ | refine vFs rfl rfl ?_ ?_
         intro j hj
         have hj3 := leadI_le (alV (n : Int) c (LL.getD i []) (LL.getD ((i + 1) % LL.length) []) 80)
         have hNl : (alV (n : Int) c (LL.getD i []) (LL.getD ((i + 1) % LL.length) []) 80).length = 4 := rfl
         have hNz := hcz i hiL hz0
         refine CW_seq ?_
         refine cR ?_
         refine oM rfl rfl ?_
         first | refine oQ (Ia0 rfl rfl rfl rfl rfl rfl) rfl rfl ?_ | refine oQ (Ia1 rfl rfl rfl rfl rfl rfl) rfl rfl ?_
         refine oQ (Ld rfl rfl rfl rfl) rfl rfl ?_
         refine oQ (Q_bin rfl rfl rfl) rfl rfl ?_
         refine oN ?_
         first | refine cT rfl ?_ | refine cF rfl ?_ | refine CW_cond rfl (fun hc => ?_) (fun hc => ?_)
         all_goals try simp only [s1, s2, s3, s4, s5, s6, s7, s8, s9, s10, s11, s12] at hc
         all_goals try (exfalso; exact absurd hc hz2; done)
         all_goals first
           | (
            refine CW_skip ?_)
           | (
            refine CW_exit ?_)
         all_goals first
           | with_reducible refine tR ?_
           | with_reducible refine tE ?_
           | (
            with_reducible refine tN ?_
            refine CW_block ?_
            refine CW_region ?_
            refine oM rfl rfl ?_
            first | refine oQ (Q_binu rfl rfl rfl (by omega)) rfl rfl ?_ | refine oQ (Q_bin rfl rfl rfl) rfl rfl ?_
            refine oA rfl rfl ?_
            refine OW_nil ?_
            all_goals first | with_reducible refine bN ?_ | with_reducible refine bE ?_ | with_reducible refine bR ?_ | refine bX rfl ?_)
         all_goals first
           | with_reducible refine tR ?_
           | with_reducible refine tE ?_
           | (
            with_reducible refine tN ?_
            refine ⟨j + 1, ?_, ?_, View.mk' [] rfl rfl rfl ?_ ?_⟩
            · exact lead_step hNl hNz hj hc
            · omega
            all_goals (repeat' first | exact vFn | refine vFc rfl ?_ | exact vHn | refine vHc rfl ?_ | refine vFc (congrArg (fun z => some (V.int z)) ?_) ?_ | refine vHc (congrArg (fun z => some (Blk.ints _ z)) ?_) ?_ | refine vFc (congrArg (fun z => some (V.bool z)) ?_) ?_ | refine vFs rfl rfl ?_ ?_))
         all_goals first | with_reducible refine bN ?_ | with_reducible refine bE ?_ | with_reducible refine bR ?_ | refine bX rfl ?_
         all_goals with_reducible refine tN ?_
         all_goals (
          refine cR ?_
          (have ej : j = cnF (n : Int) c LL i := (lead_end hj hc).symm); subst ej; refine oM rfl rfl ?_
          refine oQ (Q_bin rfl rfl rfl) rfl rfl ?_
          refine oN ?_
          first | refine cT rfl ?_ | refine cF rfl ?_ | refine CW_cond rfl (fun hc => ?_) (fun hc => ?_)
          all_goals try simp only [s1, s2, s3, s4, s5, s6, s7, s8, s9, s10, s11, s12] at hc
          all_goals try (exfalso; exact absurd hc hz2; done)
          all_goals first
            | (
             refine CW_skip ?_)
            | (
             refine CW_region ?_
             refine oM rfl rfl ?_
             refine oQ (Q_ldw rfl rfl rfl rfl h3j) rfl rfl ?_
             refine oBsl1 h3j rfl rfl rfl rfl rfl rfl rfl rfl rfl rfl ?_
             refine oApp (sz := 3) (by_ := 24) (xl := LL.getD i []) rfl rfl rfl rfl rfl rfl ⟨by decide, rfl, .inr rfl⟩ rfl rfl rfl rfl rfl rfl hfl (by rw [h3j]) (by omega) (by omega) (by omega) (by omega) rfl rfl (fun k2 sp2 h1 h2 => ?_)
             iterate 2 refine oM rfl rfl ?_
             refine oBsl (zl := []) rfl rfl rfl rfl (.inl ⟨rfl, rfl⟩) rfl rfl rfl rfl rfl rfl ?_
             refine oApp (sz := 1) (by_ := 8) (xl := [((cnF (n : Int) c LL i : Nat) : Int)]) rfl rfl rfl rfl rfl rfl ⟨by decide, rfl, .inl ⟨rfl, rfl⟩⟩ rfl rfl rfl rfl rfl rfl hcmN rfl (by omega) (by omega) (by omega) (by omega) rfl rfl (fun k3 sp3 g1 g2 => ?_)
             iterate 2 refine oA rfl rfl ?_
             refine OW_nil ?_)))
        all_goals first | with_reducible refine bN ?_ | with_reducible refine bE ?_ | with_reducible refine bR ?_ | refine bX rfl ?_
        all_goals with_reducible refine tN ?_
        all_goals (
         refine CW_region ?_
         first | refine oQ (Q_binu rfl rfl rfl (by omega)) rfl rfl ?_ | refine oQ (Q_bin rfl rfl rfl) rfl rfl ?_
         refine oM rfl rfl ?_
         refine OW_nil ?_))
     all_goals first
       | with_reducible refine tR ?_
       | with_reducible refine tE ?_
       | (
        with_reducible refine tN ?_
        first
          | (
           refine ⟨(i + 1, k2, sp2, k3, sp3), ?_, ?_, View.mk' [(2, 8), (3, 10)] rfl rfl rfl ?_ ?_⟩
           · dsimp only
             first
               | (rw [mPts_pos hc, List.length_append, List.length_singleton]; exact ⟨by omega, h1, h2, g1, by omega⟩)
               | (rw [mPts_neg hc]; exact ⟨by omega, hk, hsp, hk', hsp'⟩)
           · omega
           all_goals (repeat' first | exact vFn | refine vFc rfl ?_ | exact vHn | refine vHc rfl ?_ | refine vFc (congrArg (fun z => some (V.int z)) ?_) ?_ | refine vHc (congrArg (fun z => some (Blk.ints _ z)) ?_) ?_ | refine vFc (congrArg (fun z => some (V.bool z)) ?_) ?_ | refine vFs rfl rfl ?_ ?_)
           all_goals dsimp only
           all_goals first
             | (rw [mPts_pos hc]; simp; done)
             | (rw [mCts_pos hc]; done)
             | (rw [mPts_neg hc]; done)
             | (rw [mCts_neg hc]; done))
          | (
           refine ⟨(i + 1, k, sp, k', sp'), ?_, ?_, View.mk' [] rfl rfl rfl ?_ ?_⟩
           · dsimp only
             first
               | (rw [mPts_pos hc, List.length_append, List.length_singleton]; exact ⟨by omega, h1, h2, g1, by omega⟩)
               | (rw [mPts_neg hc]; exact ⟨by omega, hk, hsp, hk', hsp'⟩)
           · omega
           all_goals (repeat' first | exact vFn | refine vFc rfl ?_ | exact vHn | refine vHc rfl ?_ | refine vFc (congrArg (fun z => some (V.int z)) ?_) ?_ | refine vHc (congrArg (fun z => some (Blk.ints _ z)) ?_) ?_ | refine vFc (congrArg (fun z => some (V.bool z)) ?_) ?_ | refine vFs rfl rfl ?_ ?_)
           all_goals dsimp only
           all_goals first
             | (rw [mPts_pos hc]; simp; done)
             | (rw [mCts_pos hc]; done)
             | (rw [mPts_neg hc]; done)
             | (rw [mCts_neg hc]; done)))
     all_goals first | with_reducible refine bN ?_ | with_reducible refine bE ?_ | with_reducible refine bR ?_ | refine bX rfl ?_
     all_goals with_reducible refine tN ?_
     all_goals (
      refine cR ?_
      iterate 2 refine oM rfl rfl ?_
      iterate 3 refine oA rfl rfl ?_
      refine oN ?_
      refine CW_ret ?_))
  all_goals (
   have e : i = LL.length := by omega
   subst e
   exact exitH (r0 := .tuple [.slice 0 0 (mPts n c LL LL.length).length k, .slice 1 0 (mPts n c LL LL.length).length k', .bool true]) (H0 := [(2000, .ro 0 cuT), (0, .ints 29 ((mPts n c LL LL.length).flatten ++ sp)), (1, .ints 2 (mCts n c LL LL.length ++ sp'))]) (.inr rfl) [(0, 2), (1, 3)] 2 (.cons (.tmp rfl rfl) (.cons (.tmp rfl rfl) (.cons (.tmp rfl rfl) .nil))) rfl rfl rfl (vHc rfl (vHc rfl (vHc rfl vHn))) rfl rfl ⟨k, sp, k', sp', hk, hsp, hk', hsp', rfl, rfl⟩)
theorem multZ_con (n : Nat) (c l : List Int) (hp : primeB (n : Int) = true) (hcl : c.length = 10) (qc : smN 12 c) (hl : l ∈ allPts (n : Int)) (hz : meB (n : Int) c l = true) : ConQ Tryd.prog [(0, 2000)] 60 [.arr c, .int (n : Int), .arr l] [(2000, .ro 0 cuT)] (.tuple [.nilsl, .nilsl, .bool false]) := by
  have hp3 := allPts_three hl
  have hls := allPts_sm hp hl
  have hpb := prime_bd hp
  have hon := pointsOn_con (n : Int) l hp hp3 hls
  have hlen := lnV_len hp hl
  have hcn := fun (i : Nat) (hi : i < (lnV (n : Int) l).length) (s t : Nat) (hs : (s : Int) < n) (ht : (t : Int) < n) hm => cn_spec hp c hl hi (s := s) (t := t) hs ht hm
  have hex := fun (i : Nat) (hi : i < (lnV (n : Int) l).length) => cn_parts hp hl hi
  have hcz := fun (i : Nat) (hi : i < (lnV (n : Int) l).length) hz => cn_nz hp c hl hi hz
  have hmem : ∀ x ∈ lnV (n : Int) l, x ∈ allPts (n : Int) := fun x hx => (lnV_mem hx).1
  try unfold mePts meCts
  unfold meB at hz
  unfold lnV at *
  generalize hLL : ((allPts (n : Int)).filter fun m => onB (n : Int) m l) = LL at *
  have h3 : ∀ x ∈ LL, x.length = 3 := fun x hx => allPts_three (hmem x hx)
  have hf3 := flat3 h3
  have hqm : ∀ i, i < LL.length → smN 12 (LL.getD i []) := fun i hi => allPts_smN hp (hmem _ (getD_mem hi))
  have h3i : ∀ i, i < LL.length → (LL.getD i []).length = 3 := fun i hi => h3 _ (getD_mem hi)
  have hpl := fun i => mPts_len n c LL i
  have hcl2 := fun i => mCts_len n c LL i
  have hp3f : ∀ i, i ≤ LL.length → (mPts n c LL i).flatten.length = (mPts n c LL i).length * 3 := fun i hi => flat3 (fun x hx => h3 x (mPts_mem hi hx))
  have hal := fun (i j : Nat) (hi : i < LL.length) (hj : j < LL.length) => along_con (n : Int) c (LL.getD i []) (LL.getD j []) hp hcl (h3i i hi) (h3i j hj) qc (hqm i hi) (hqm j hj)
  have hE1 := hal 0 1 (by omega) (by omega)
  have hEl : (alV (n : Int) c (LL.getD 0 []) (LL.getD 1 []) 80).length = 4 := rfl
  have hz0 := hz
  unfold prB at hz
  generalize hE : alV (n : Int) c (LL.getD 0 []) (LL.getD 1 []) 80 = E at *
  have hE0 : E = [0, 0, 0, 0] := by simpa using hz
  subst hE0
  refine conW tab_ok [(0, .arr c), (1, .int (n : Int)), (2, .arr l)] 0 [2000] [] Tryd.func60 rfl rfl rfl rfl rfl rfl rfl rfl rfl ?_
  refine cR ?_
  iterate 2 refine oBox rfl rfl rfl rfl rfl rfl ?_
  iterate 3 refine oA rfl rfl ?_
  refine oN ?_
  refine cR ?_
  refine oBsl rfl rfl rfl rfl (.inr ⟨rfl, rfl, by decide⟩) rfl rfl rfl rfl rfl rfl ?_
  refine oBsl (zl := []) rfl rfl rfl rfl (.inl ⟨rfl, rfl⟩) rfl rfl rfl rfl rfl rfl ?_
  refine oM rfl rfl ?_
  refine oQ (Q_ldw rfl rfl rfl rfl hp3) rfl rfl ?_
  refine oCall (hon) [] 1 rfl rfl (Fits.mk' vHn rfl rfl (by first | (simp; done) | exact glOk rfl rfl rfl)) rfl rfl ?_
  rintro r H1 ⟨k0, sp0, hk0, hs0, rfl, rfl⟩
  refine ⟨.slice 4 0 LL.length k0, [(4, .ints 29 (LL.flatten ++ sp0))], rfl, rfl, rfl, ?_⟩
  iterate 3 refine oA rfl rfl ?_
  refine oN ?_
  iterate 2 refine CW_seq ?_
  refine CW_draw lateOk (by decide +kernel) ?_
  refine qQ (Q_ldw rfl rfl rfl rfl hcl) rfl rfl ?_
  iterate 2 refine qM rfl rfl ?_
  refine qQ (Q_ixs0z 3 (j := 0) rfl rfl rfl rfl rfl rfl (by omega)) rfl rfl ?_
  refine qQ (Q_lda (n := 3) rfl rfl rfl rfl rfl (by rw [List.length_append, hf3]; omega)) rfl rfl ?_; rw [flat_get h3 (show 0 < LL.length by omega)]
  refine qM rfl rfl ?_
  refine qQ (Q_ixs0z 3 (j := 1) rfl rfl rfl rfl rfl rfl (by omega)) rfl rfl ?_
  refine qQ (Q_lda (n := 3) rfl rfl rfl rfl rfl (by rw [List.length_append, hf3]; omega)) rfl rfl ?_; rw [flat_get h3 (show 1 < LL.length by omega)]
  refine qQ (Q_call (hE1) [] rfl rfl (Fits.mk' (vHc rfl vHn) rfl rfl (by first | (simp; done) | exact glOk rfl rfl rfl)) rfl rfl) rfl rfl ?_
  refine qQ (v := .arr [0, 0, 0, 0]) (Q_build rfl rfl rfl rfl rfl rfl rfl rfl) rfl rfl ?_
  refine qQ (Q_arrb rfl rfl rfl rfl rfl rfl rfl rfl rfl hEl rfl) rfl rfl ?_
  refine QW_nil ?_
  all_goals with_reducible refine tN ?_
  all_goals (
   first | refine cT rfl ?_ | refine cF rfl ?_ | refine CW_cond rfl (fun hc => ?_) (fun hc => ?_)
   all_goals try simp only [s1, s2, s3, s4, s5, s6, s7, s8, s9, s10, s11, s12] at hc
   all_goals try (exfalso; first | exact hc trivial | exact absurd rfl hc; done)
   all_goals first
     | (
      refine CW_skip ?_)
     | (
      refine cR ?_
      iterate 3 refine oA rfl rfl ?_
      refine oN ?_
      refine CW_ret ?_))
  all_goals first
    | with_reducible refine tR ?_
    | with_reducible refine tE ?_
    | (
     with_reducible refine tN ?_
     refine CW_seq ?_
     refine cR ?_
     refine oM rfl rfl ?_
     first | refine oQ (Q_len rfl rfl rfl rfl) rfl rfl ?_ | refine oQ (Q_len0 rfl rfl rfl rfl) rfl rfl ?_
     refine oM rfl rfl ?_
     refine oN ?_
     refine CW_block ?_
     (exfalso; exact hc rfl)
     · first | trivial | omega | (simp; done) | (simp; omega)
     · refine View.mk' [] rfl rfl rfl ?_ ?_
       repeat' first | exact vFn | refine vFc rfl ?_ | exact vHn | refine vHc rfl ?_ | refine vFc (congrArg (fun z => some (V.int z)) ?_) ?_ | refine vHc (congrArg (fun z => some (Blk.ints _ z)) ?_) ?_ | refine vFc (congrArg (fun z => some (V.bool z)) ?_) ?_ | refine vFs rfl rfl ?_ ?_
     intro i hi
     refine cR ?_
     refine oQ (Q_bin rfl rfl rfl) rfl rfl ?_
     refine oN ?_
     refine CW_seq ?_
     first | refine cT rfl ?_ | refine cF rfl ?_ | refine CW_cond rfl (fun hc => ?_) (fun hc => ?_)
     all_goals try simp only [s1, s2, s3, s4, s5, s6, s7, s8, s9, s10, s11, s12] at hc
     all_goals try (exfalso; first | exact hc trivial | exact absurd rfl hc; done)
     all_goals first
       | (
        refine CW_skip ?_)
       | (
        refine CW_exit ?_)
     all_goals first
       | with_reducible refine tR ?_
       | with_reducible refine tE ?_
       | (
        with_reducible refine tN ?_
        refine CW_seq ?_
        refine CW_block ?_
        refine cR ?_
        refine oM rfl rfl ?_
        first | refine oQ (Q_ixs0z 3 rfl rfl rfl rfl rfl rfl (by first | omega | (dsimp only; omega) | (simp; omega) | (simp; done))) rfl rfl ?_ | refine oQ (Q_ixsz 3 rfl rfl rfl rfl rfl rfl (by first | omega | (dsimp only; omega) | (simp; omega) | (simp; done))) rfl rfl ?_
        first | refine oQ (Lw rfl rfl rfl rfl) rfl rfl ?_ | refine oQ (La rfl rfl rfl rfl rfl) rfl rfl ?_
        refine oAlloc rfl rfl rfl rfl rfl rfl rfl ?_
        refine oA rfl rfl ?_
        first | refine oSw rfl rfl rfl rfl ?_ | refine oSa rfl rfl rfl rfl ?_
        refine oN ?_
        refine CW_seq ?_
        refine CW_any (fun i => List.elem i [13, 14]) 15 rfl lateOk (by decide +kernel) (fun hst => ?_)
        first | refine aQ 0 hst rfl rfl (by decide +kernel) (QX_of (Lw rfl rfl rfl rfl) NE_load) rfl rfl ?_ | refine aQ 0 hst rfl rfl (by decide +kernel) (QX_of (La rfl rfl rfl rfl rfl) NE_load) rfl rfl ?_
        refine aP 1 hst rfl rfl (by decide +kernel) (PX_move rfl rfl) rfl rfl ?_
        first | refine aQ 2 hst rfl rfl (by decide +kernel) (QX_of (Lw rfl rfl rfl rfl) NE_load) rfl rfl ?_ | refine aQ 2 hst rfl rfl (by decide +kernel) (QX_of (La rfl rfl rfl rfl rfl) NE_load) rfl rfl ?_
        refine aP 3 hst rfl rfl (by decide +kernel) (PX_move rfl rfl) rfl rfl ?_
        refine aP 4 hst rfl rfl (by decide +kernel) (PX_move rfl rfl) rfl rfl ?_
        first | refine aP 5 hst rfl rfl (by decide +kernel) (PX_binu rfl rfl rfl (by omega)) rfl rfl ?_ | refine aP 5 hst rfl rfl (by decide +kernel) (PX_bin rfl rfl rfl) rfl rfl ?_
        refine aP 6 hst rfl rfl (by decide +kernel) (PX_move rfl rfl) rfl rfl ?_
        first | refine aQ 7 hst rfl rfl (by decide +kernel) (QX_of (Q_len rfl rfl rfl rfl) NE_len) rfl rfl ?_ | refine aQ 7 hst rfl rfl (by decide +kernel) (QX_of (Q_len0 rfl rfl rfl rfl) NE_len) rfl rfl ?_
        refine aQ 8 hst rfl rfl (by decide +kernel) (QX_of (Q_rem rfl rfl (by omega)) NE_bin) rfl rfl ?_
        first | refine aQ 9 hst rfl rfl (by decide +kernel) (QX_of (Q_ixs0z 3 rfl rfl rfl rfl rfl rfl (by first | omega | (dsimp only; omega) | (simp; omega) | (simp; done))) NE_ix) rfl rfl ?_ | refine aQ 9 hst rfl rfl (by decide +kernel) (QX_of (Q_ixsz 3 rfl rfl rfl rfl rfl rfl (by first | omega | (dsimp only; omega) | (simp; omega) | (simp; done))) NE_ix) rfl rfl ?_
        first | refine aQ 10 hst rfl rfl (by decide +kernel) (QX_of (Lw rfl rfl rfl rfl) NE_load) rfl rfl ?_ | refine aQ 10 hst rfl rfl (by decide +kernel) (QX_of (La rfl rfl rfl rfl rfl) NE_load) rfl rfl ?_
        fail "call of (loop.example/g01310/impl.Cubic).along at slot 50"
        refine AW_one (i := 12) (by decide +kernel) ?_
        refine gAlloc rfl rfl rfl rfl rfl rfl rfl rfl rfl ?_
        refine AW_last [13, 14] rfl (by decide +kernel) rfl ?_
        first | refine oSw rfl rfl rfl rfl ?_ | refine oSa rfl rfl rfl rfl ?_
        refine oA rfl rfl ?_
        refine OW_nil (npN ?_)
        all_goals with_reducible refine tN ?_
        all_goals (
         refine CW_seq ?_
         refine CW_block ?_
         fail "loop 1 wants its states"
         · first | trivial | omega | (simp; done) | (simp; omega)
         · refine View.mk' [] rfl rfl rfl ?_ ?_
           repeat' first | exact vFn | refine vFc rfl ?_ | exact vHn | refine vHc rfl ?_ | refine vFc (congrArg (fun z => some (V.int z)) ?_) ?_ | refine vHc (congrArg (fun z => some (Blk.ints _ z)) ?_) ?_ | refine vFc (congrArg (fun z => some (V.bool z)) ?_) ?_ | refine vFs rfl rfl ?_ ?_
         intro i hi
         refine CW_seq ?_
         refine cR ?_
         refine oM rfl rfl ?_
         first | refine oQ (Ia0 rfl rfl rfl rfl rfl rfl) rfl rfl ?_ | refine oQ (Ia1 rfl rfl rfl rfl rfl rfl) rfl rfl ?_
         first | refine oQ (Q_ldc rfl rfl rfl rfl rfl) rfl rfl ?_ | refine oQ (Ld rfl rfl rfl rfl) rfl rfl ?_
         refine oQ (Q_bin rfl rfl rfl) rfl rfl ?_
         refine oN ?_
         first | refine cT rfl ?_ | refine cF rfl ?_ | refine CW_cond rfl (fun hc => ?_) (fun hc => ?_)
         all_goals try simp only [s1, s2, s3, s4, s5, s6, s7, s8, s9, s10, s11, s12] at hc
         all_goals try (exfalso; first | exact hc trivial | exact absurd rfl hc; done)
         all_goals first
           | (
            refine CW_skip ?_)
           | (
            refine CW_exit ?_)
         all_goals first
           | with_reducible refine tR ?_
           | with_reducible refine tE ?_
           | (
            with_reducible refine tN ?_
            refine CW_block ?_
            refine CW_region ?_
            refine oM rfl rfl ?_
            first | refine oQ (Q_binu rfl rfl rfl (by omega)) rfl rfl ?_ | refine oQ (Q_bin rfl rfl rfl) rfl rfl ?_
            refine oA rfl rfl ?_
            refine OW_nil ?_
            all_goals first | with_reducible refine bN ?_ | with_reducible refine bE ?_ | with_reducible refine bR ?_ | refine bX rfl ?_)
         all_goals first
           | with_reducible refine tR ?_
           | with_reducible refine tE ?_
           | (
            with_reducible refine tN ?_
            fail "again 1")
         all_goals first | with_reducible refine bN ?_ | with_reducible refine bE ?_ | with_reducible refine bR ?_ | refine bX rfl ?_
         all_goals with_reducible refine tN ?_
         all_goals (
          refine cR ?_
          refine oM rfl rfl ?_
          refine oQ (Q_bin rfl rfl rfl) rfl rfl ?_
          refine oN ?_
          first | refine cT rfl ?_ | refine cF rfl ?_ | refine CW_cond rfl (fun hc => ?_) (fun hc => ?_)
          all_goals try simp only [s1, s2, s3, s4, s5, s6, s7, s8, s9, s10, s11, s12] at hc
          all_goals try (exfalso; first | exact hc trivial | exact absurd rfl hc; done)
          all_goals first
            | (
             refine CW_skip ?_)
            | (
             refine CW_region ?_
             refine oM rfl rfl ?_
             first | refine oQ (Lw rfl rfl rfl rfl) rfl rfl ?_ | refine oQ (La rfl rfl rfl rfl rfl) rfl rfl ?_
             refine oBsl rfl rfl rfl rfl (.inr ⟨rfl, rfl, by decide⟩) rfl rfl rfl rfl rfl rfl ?_
             fail "builtin append at slot 62"
             iterate 2 refine oM rfl rfl ?_
             refine oBsl (zl := []) rfl rfl rfl rfl (.inl ⟨rfl, rfl⟩) rfl rfl rfl rfl rfl rfl ?_
             fail "builtin append at slot 66"
             iterate 2 refine oA rfl rfl ?_
             refine OW_nil ?_)))
        all_goals first | with_reducible refine bN ?_ | with_reducible refine bE ?_ | with_reducible refine bR ?_ | refine bX rfl ?_
        all_goals with_reducible refine tN ?_
        all_goals (
         refine CW_region ?_
         first | refine oQ (Q_binu rfl rfl rfl (by omega)) rfl rfl ?_ | refine oQ (Q_bin rfl rfl rfl) rfl rfl ?_
         refine oM rfl rfl ?_
         refine OW_nil ?_))
     all_goals first
       | with_reducible refine tR ?_
       | with_reducible refine tE ?_
       | (
        with_reducible refine tN ?_
        fail "again 0")
     all_goals first | with_reducible refine bN ?_ | with_reducible refine bE ?_ | with_reducible refine bR ?_ | refine bX rfl ?_
     all_goals with_reducible refine tN ?_
     all_goals (
      refine cR ?_
      iterate 2 refine oM rfl rfl ?_
      iterate 3 refine oA rfl rfl ?_
      refine oN ?_
      refine CW_ret ?_))
  all_goals (
   refine exitQ (.inr rfl) 0 (.cons (.tmp rfl rfl) (.cons (.tmp rfl rfl) (.cons (.tmp rfl rfl) .nil))) ?_ rfl (vHc rfl vHn) rfl rfl
   rfl)
end Go.Proofs.YtcklfkblhmlbbaaDoor
namespace Go.Proofs.YtcklfkblhmlbbaaDoor
set_option linter.unusedVariables false
section
variable {c : Cx} {ρ0 : Nat → Nat} {w0 : World} {ops : Array Oper} {Q : Exit → Act → World → Prop} {j b N : Nat} {t : TypeId} {nw : List Int} {ρ : Nat → Nat} {H : Hp}
/-- the world before and behind the store -/
def CJ (c : Cx) (ρ0 : Nat → Nat) (w0 : World) (j b : Nat) (t : TypeId) (N : Nat) (nw : List Int) (ρ : Nat → Nat) (H : Hp) (listed : Array Bool) (w : World) : Prop :=
  (listed.getD j false = true ∧ CC c ρ0 w0 ρ ((b, .ints t nw) :: H) w) ∨ (listed.getD j false = false ∧ ∃ l : List Int, l.length = N ∧ CC c ρ0 w0 ρ ((b, .ints t l) :: H) w)
theorem CJ_set {i : Nat} {listed : Array Bool} {w : World} (h : i ≠ j) : CJ c ρ0 w0 j b t N nw ρ H (listed.setIfInBounds i true) w ↔ CJ c ρ0 w0 j b t N nw ρ H listed w := by
  unfold CJ
  rw [getD_set_ne false h]
def anyV (c : Cx) (ρ0 : Nat → Nat) (w0 : World) (ops : Array Oper) (Q : Exit → Act → World → Prop) (j b : Nat) (t : TypeId) (N : Nat) (nw : List Int) (ρ : Nat → Nat) (H : Hp) : Nat → Array Bool → Act → Prop
  | 0, listed, a => Region.ready .any ops listed = [] ∧ ∀ w, CJ c ρ0 w0 j b t N nw ρ H listed w → Q .normal a w
  | m + 1, listed, a => (Region.ready .any ops listed = [] → ∀ w, CJ c ρ0 w0 j b t N nw ρ H listed w → Q .normal a w) ∧
    ∀ i ∈ Region.ready .any ops listed, ∀ w, CJ c ρ0 w0 j b t N nw ρ H listed w → wpOp c.P ops Q i (fun a' w' => CJ c ρ0 w0 j b t N nw ρ H (listed.setIfInBounds i true) w' ∧ anyV c ρ0 w0 ops Q j b t N nw ρ H m (listed.setIfInBounds i true) a') a w
theorem anyV_sound : ∀ (m : Nat) (listed : Array Bool) (a : Act) (w : World), CJ c ρ0 w0 j b t N nw ρ H listed w → anyV c ρ0 w0 ops Q j b t N nw ρ H m listed a → wpAny c.P .any ops Q m listed a w
  | 0, _, _, w, hw, h => ⟨h.1, h.2 w hw⟩
  | m + 1, _, _, w, hw, h => ⟨fun h0 => h.1 h0 w hw, fun i hi => wpOp_mono (fun a' w' h' => anyV_sound m _ a' w' h'.1 h'.2) (h.2 i hi w hw)⟩
theorem quietAt_mono {P : Program} {o : Oper} {a : Act} {T T' : World → Prop} {w : World} {v : Value} (h : o.quietAt P a T w v) (hT : ∀ w, T w → T' w) : o.quietAt P a T' w v := by
  unfold Oper.quietAt at h ⊢
  generalize (execOp a.eval o).run P w = r at *
  cases r with
  | ok n w' =>
    cases n <;> simp only [Oper.quietUpon] at h ⊢ <;> first | exact h | skip
    case enter f args => exact ⟨h.1, h.2.mono fun e w'' ⟨he, hw''⟩ => ⟨he, hT _ hw''⟩⟩
  | halt x w' => simp only [Oper.quietUpon] at h
theorem Ext_revive {k : Blk} (hd : lkB H b = some .dead) : Ext c ρ H ρ ((b, k) :: H) := by
  refine ⟨fun b' k' hl hne => ⟨?_, rfl, fun _ _ => rfl⟩, fun _ _ => rfl⟩
  rw [lkB_cons, if_neg]
  · exact hl
  · intro e
    subst e
    rw [hd] at hl
    injection hl with hl
    exact hne hl.symm
theorem YX.yieldsJ {o : Oper} {v : Value} {a : Act} {listed : Array Bool} (hd : lkB H b = some .dead) (h : YX c ρ0 w0 ops o v ρ H a) : YieldsIn c.P ops (CJ c ρ0 w0 j b t N nw ρ H listed) o v a := by
  refine h.imp (fun ⟨h1, h2⟩ => ⟨h1, fun w hw => ?_⟩) id
  rcases hw with ⟨hl, hw⟩ | ⟨hl, l, hlen, hw⟩
  · exact quietAt_mono (h2 ρ _ (Ext_revive hd) w hw) fun w hw => .inl ⟨hl, hw⟩
  · exact quietAt_mono (h2 ρ _ (Ext_revive hd) w hw) fun w hw => .inr ⟨hl, l, hlen, hw⟩
theorem anyV_take {i : Nat} {oi : Oper} {v : Value} (hi : ops[i]? = some oi) (hs : Region.noSelect ops = true) (hij : i ≠ j) (hd : lkB H b = some .dead) (hQ : ∀ ch a w, ¬ Q (.panic ch) a w) : ∀ (m : Nat) (listed : Array Bool) (a : Act),
    (∀ j oj, ops[j]? = some oj → j ≠ i → listed.getD j true = false → (∀ e ∈ oj.after, Region.binds .any e = true → e.on ≠ i) → oi.apart ops oj = true) → i ∈ Region.ready .any ops listed → YX c ρ0 w0 ops oi v ρ H a →
    anyV c ρ0 w0 ops Q j b t N nw ρ H m (listed.setIfInBounds i true) (a.put oi.dst v) → anyV c ρ0 w0 ops Q j b t N nw ρ H (m + 1) listed a := by
  have nsel := Region.noSelect_spec hs
  intro m
  induction m with
  | zero =>
    intro listed a _ hr hy h
    refine ⟨fun h => by rw [h] at hr; (cases hr), fun j' hj w hw => ?_⟩
    by_cases hji : j' = i
    · subst hji; exact wpOp_quiet hi (hy.yieldsJ hd) hw fun w' hw' => ⟨(CJ_set hij).2 hw', h⟩
    · have := ready_mono hj hji
      rw [h.1] at this
      cases this
  | succ m ih =>
    intro listed a hfree hr hy h
    refine ⟨fun h => by rw [h] at hr; (cases hr), fun j' hj w hw => ?_⟩
    by_cases hji : j' = i
    · subst hji; exact wpOp_quiet hi (hy.yieldsJ hd) hw fun w' hw' => ⟨(CJ_set hij).2 hw', h⟩
    · obtain ⟨hjun, oj, hoj, hall⟩ := mem_ready.1 hj
      have hnot : ∀ e ∈ oj.after, Region.binds .any e = true → e.on ≠ i := fun e he hb heq => by
        have h1 := hall e he hb
        rw [heq] at h1
        exact unl (mem_ready.1 hr).1 h1
      have hfree' : ∀ k ok, ops[k]? = some ok → k ≠ i → (listed.setIfInBounds j' true).getD k true = false → (∀ e ∈ ok.after, Region.binds .any e = true → e.on ≠ i) → oi.apart ops ok = true := fun k ok hk hki hun hno => by
        refine hfree k ok hk hki ?_ hno
        by_cases hjk : j' = k
        · subst hjk; exact hjun
        · rw [getD_set_ne true hjk] at hun; exact hun
      have h1 := h.2 j' (ready_mono hj hji) w ((CJ_set hij).2 hw)
      have h2 := wpOp_swap (Y := YX c ρ0 w0 ops oi v ρ H) hoj (hfree j' oj hoj hji hjun hnot) (fun cs b => nsel i oi cs b hi) (fun cs b => nsel j' oj cs b hoj) hQ YX.same hy h1
      refine wpOp_mono (fun a' w' ⟨hy', hk⟩ => ?_) h2
      obtain ⟨hcj, hk⟩ := hk
      rw [Array.setIfInBounds_comm _ _ (Ne.symm hji)] at hcj hk
      exact ⟨(CJ_set hij).1 hcj, ih (listed.setIfInBounds j' true) a' hfree' (ready_mono hr (Ne.symm hji)) hy' hk⟩
end
/-- on states: the block b is dead in the state's heap -/
def AV (c : Cx) (ops : Array Oper) (j b : Nat) (t : TypeId) (N : Nat) (nw : List Int) (Q : Post) (m : Nat) (listed : Array Bool) (s : S) : Prop :=
  ∀ ρ0 w0, GR c.gl c.D ρ0 → ∀ ρ a, FR c ρ s.F a → WF c s → (∀ b ∈ c.D, ρ b = ρ0 b) → anyV c ρ0 w0 ops (np (Lift c ρ0 w0 Q)) j b t N nw ρ s.H m listed a
section
variable {c : Cx} {Q : Post} {F : Fr} {H : Hp} {n : Nat} {ops : Array Oper} {m : Nat} {listed : Array Bool} {d : Nat} {op : Op} {ty : TypeId} {pos : String} {af : Array Edge} {v : V} {j b N : Nat} {t : TypeId} {nw : List Int}
theorem CW_anyV {id : Nat} {l : List Oper} {l0 : List Int} (j b m : Nat) (nw : List Int) (hsz : l.toArray.size = m) (hm : c.P.follows .mixedOrders = true) (hns : Region.noSelect l.toArray = true) (hj : Nat.blt j m = true) (hb : lkB H b = some (.ints t l0)) (hl0 : l0.length = N)
    (h : Region.noSelect l.toArray = true → AV c l.toArray j b t N nw Q m (Array.replicate m false) ⟨F, (b, .dead) :: H, n⟩) : CW c (.region id l.toArray true) Q ⟨F, H, n⟩ := by
  subst hsz
  have h := h hns
  intro ρ0 w0 hg ρ a w hs
  refine Code.wp_mono (fun e a w h => h.2) (wp_region_any (Q := np (Lift c ρ0 w0 Q)) hm ?_)
  refine anyV_sound (b := b) (t := t) (N := N) (nw := nw) (j := j) (ρ := ρ) (H := (b, .dead) :: H) _ _ _ _ ?_ (h ρ0 w0 hg ρ a hs.fr (hs.wf.kill hb) hs.cc.drew.inv.fix)
  have hjs : j < l.length := by simpa [Nat.blt_eq] using hj
  refine .inr ⟨by simp [Array.getD_eq_getD_getElem?, hjs], l0, hl0, ?_⟩
  refine CC.sub (H' := H) (ρ' := ρ) ⟨fun b' k hk hd => ⟨?_, rfl, fun _ _ => rfl⟩, fun _ _ => rfl⟩ hs.cc.drew
  rw [lkB_cons] at hk
  split at hk
  · rename_i e; subst e; injection hk with hk; rw [← hk]; exact hb
  · rename_i e; rw [lkB_cons, if_neg e] at hk; exact hk
theorem AV_take {s : S} {i : Nat} {o : Oper} (hns : Region.noSelect ops = true) (hi : ops[i]? = some o) (hg : o.guard = none) (hij : Nat.beq i j = false) (hd : lkB s.H b = some .dead) (hf : (Region.free .any ops listed i && (Region.ready .any ops listed).contains i) = true) (hq : QX c o s v) (hN : okDst c.N o.dst = true) (hsc : sc s.n v.ids = true)
    (h : AV c ops j b t N nw Q m (listed.setIfInBounds i true) (s.put o.dst v)) : AV c ops j b t N nw Q (m + 1) listed s := by
  intro ρ0 w0 hgr ρ a hfr hwf hfix
  simp only [Bool.and_eq_true] at hf
  refine anyV_take hi hns (Nat.ne_of_beq_eq_false hij) hd (fun ch a w h => h.1 ch rfl) m listed a (Region.free_spec hi hf.1) (by simpa using hf.2) (.inl ⟨by simp [Region.wanted, hg], fun ρ' H' hx w hw => hq ρ0 w0 hgr ρ a hfr hfix ρ' H' hx w hw⟩) ?_
  have := h ρ0 w0 hgr ρ _ (hfr.put' o.dst v _ (okDst_lt hN) (.inr rfl)) (hwf.put o.dst v hsc) hfix
  rwa [put_H] at this
theorem vQ (i : Nat) (hns : Region.noSelect ops = true) (hi : ops[i]? = some ⟨some d, op, ty, pos, af, none⟩) (hij : Nat.beq i j = false) (hd : lkB H b = some .dead) (hf : (Region.free .any ops listed i && (Region.ready .any ops listed).contains i) = true) (hq : QX c ⟨some d, op, ty, pos, af, none⟩ ⟨F, H, n⟩ v) (hN : Nat.blt d c.N = true)
    (hsc : sc n v.ids = true) (h : AV c ops j b t N nw Q m (listed.setIfInBounds i true) ⟨(d, v) :: F, H, n⟩) : AV c ops j b t N nw Q (m + 1) listed ⟨F, H, n⟩ := AV_take hns hi rfl hij hd hf hq hN hsc h
theorem vQg (i : Nat) {k e : Nat} {want : Bool} (hns : Region.noSelect ops = true) (hi : ops[i]? = some ⟨some d, op, ty, pos, af, some (k, want)⟩) (hij : Nat.beq i j = false) (hd : lkB H b = some .dead) (hf : (Region.free .any ops listed i && (Region.ready .any ops listed).contains i) = true)
    (hk : (ops[k]?).bind (·.dst) = some e) (hb : lkV F e = some (.bool want)) (hq : QX c ⟨some d, op, ty, pos, af, some (k, want)⟩ ⟨F, H, n⟩ v) (hN : Nat.blt d c.N = true) (hsc : sc n v.ids = true) (h : AV c ops j b t N nw Q m (listed.setIfInBounds i true) ⟨(d, v) :: F, H, n⟩) : AV c ops j b t N nw Q (m + 1) listed ⟨F, H, n⟩ := by
  intro ρ0 w0 hgr ρ a hfr hwf hfix
  simp only [Bool.and_eq_true] at hf
  refine anyV_take hi hns (Nat.ne_of_beq_eq_false hij) hd (fun ch a w h => h.1 ch rfl) m listed a (Region.free_spec hi hf.1) (by simpa using hf.2) (.inl ⟨by rw [wanted_eq rfl hfr hk hb]; simp, fun ρ' H' hx w hw => hq ρ0 w0 hgr ρ a hfr hfix ρ' H' hx w hw⟩) ?_
  exact h ρ0 w0 hgr ρ _ (hfr.put' (some d) v _ (okDst_lt (d := some d) hN) (.inr rfl)) (hwf.put (some d) v hsc) hfix
theorem vSkip (i : Nat) {k e : Nat} {want x : Bool} (hns : Region.noSelect ops = true) (hi : ops[i]? = some ⟨some d, op, ty, pos, af, some (k, want)⟩) (hij : Nat.beq i j = false) (hd : lkB H b = some .dead) (hf : (Region.free .any ops listed i && (Region.ready .any ops listed).contains i) = true)
    (hk : (ops[k]?).bind (·.dst) = some e) (hb : lkV F e = some (.bool x)) (hne : (x == want) = false) (hN : Nat.blt d c.N = true) (h : AV c ops j b t N nw Q m (listed.setIfInBounds i true) ⟨(d, .bot) :: F, H, n⟩) : AV c ops j b t N nw Q (m + 1) listed ⟨F, H, n⟩ := by
  intro ρ0 w0 hgr ρ a hfr hwf hfix
  simp only [Bool.and_eq_true] at hf
  refine anyV_take hi hns (Nat.ne_of_beq_eq_false hij) hd (fun ch a w h => h.1 ch rfl) m listed a (Region.free_spec hi hf.1) (by simpa using hf.2) (.inr ⟨by rw [wanted_eq rfl hfr hk hb]; simp [hne], rfl⟩) ?_
  exact h ρ0 w0 hgr ρ _ (hfr.put' (some d) .bot undef (okDst_lt (d := some d) hN) (.inl rfl)) (hwf.put (some d) .bot rfl) hfix
/-- the store, of a whole array, when nothing else may come -/
theorem AV_store {t0 : TypeId} {x y : Operand} {i : TI} (hj : ops[j]? = some ⟨none, .store t0 x y, ty, pos, af, none⟩) (hr : (Region.ready .any ops listed == [j] && (listed.setIfInBounds j true).getD j false && !(listed.getD j false)) = true) (ht : lkT c.T t0 = some i)
    (hx : ev c F x = some (.ptr b 0)) (hy : ev c F y = some (.arr nw)) (hd : lkB H b = some .dead) (hsz : nw.length = i.size) (hN : N = i.size) (h : AV c ops j b t N nw Q m (listed.setIfInBounds j true) ⟨F, H, n⟩) : AV c ops j b t N nw Q (m + 1) listed ⟨F, H, n⟩ := by
  subst hN
  simp only [Bool.and_eq_true, beq_iff_eq, Bool.not_eq_true'] at hr
  obtain ⟨⟨hr1, hr3⟩, hr4⟩ := hr
  intro ρ0 w0 hg ρ a hf hwf hfix
  refine ⟨fun h0 => by rw [hr1] at h0; (cases h0), fun k hk w hw => ?_⟩
  rw [hr1] at hk
  obtain rfl : k = j := by simpa using hk
  rcases hw with ⟨hl, _⟩ | ⟨_, l, hlen, hw⟩
  · rw [hr4] at hl; cases hl
  have hb : lkB ((b, Blk.ints t l) :: H) b = some (.ints t l) := by rw [lkB_cons, if_pos rfl]
  obtain ⟨ob, ho1, ho2⟩ := hw.hr.1 b _ hb (by simp)
  simp only [BR] at ho2; subst ho2
  obtain ⟨w', hrun, hwr⟩ := run_storeVar (v := .agg (icells nw)) (o := 0) c.tok ht ho1 (oneInts nw) (by simp [Value.cells, size_icells, hsz]) (by rw [size_icells]; omega)
  have hcc : CC c ρ0 w0 ρ ((b, .ints t nw) :: (b, .ints t l) :: H) w' := by
    refine hw.wrote hb (by simp) rfl rfl hwr ?_
    have h1 := putA_icells nw l 0
    have h2 := putI_full nw l [] (by omega)
    simp only [List.nil_append, List.length_nil] at h2
    rw [h2] at h1
    have h3 : putA (icells l) 0 (Value.agg (icells nw)).cells.toList = icells nw := h1
    simp only [BR]
    rw [h3]
  have hcc2 : CC c ρ0 w0 ρ ((b, .ints t nw) :: H) w' := by
    refine CC.sub (ρ' := ρ) (H' := (b, .ints t nw) :: (b, .ints t l) :: H) ⟨fun b' k hk hd => ⟨?_, rfl, fun _ _ => rfl⟩, fun _ _ => rfl⟩ hcc
    rw [lkB_cons] at hk ⊢
    split at hk
    · rename_i e; rw [if_pos e]; exact hk
    · rename_i e; rw [if_neg e, lkB_cons, if_neg e]; exact hk
  unfold wpOp
  simp only [hj]
  rw [if_pos (by simp [Region.wanted])]
  refine .inl ?_
  unfold Oper.wp
  have hex : (execOp a.eval ⟨none, .store t0 x y, ty, pos, af, none⟩).run c.P w = .ok .skip w' := by
    simp only [icells] at hrun
    simp [execOp, Instr.storeAt, Instr.sureAddr, ev_rv hg hfix hf hx (by simp), ev_rv hg hfix hf hy (by simp), rv, hrun]
  rw [hex]
  simp only [Oper.upon]
  exact ⟨.inl ⟨hr3, hcc2⟩, h ρ0 w0 hg ρ a hf hwf hfix⟩
theorem AV_done (hr : ((Region.ready .any ops listed).isEmpty && listed.getD j false) = true) (hd : lkB H b = some .dead) (h : Q .normal ⟨F, (b, .ints t nw) :: H, n⟩) : AV c ops j b t N nw Q m listed ⟨F, H, n⟩ := by
  simp only [Bool.and_eq_true, List.isEmpty_iff] at hr
  intro ρ0 w0 hg ρ a hf hwf hfix
  have key : ∀ w, CJ c ρ0 w0 j b t N nw ρ H listed w → np (Lift c ρ0 w0 Q) .normal a w := fun w hw => by
    rcases hw with ⟨_, hw⟩ | ⟨hl, _⟩
    · exact ⟨fun _ h => by (cases h), _, ρ, h, hw, hf, hwf.upd hd rfl⟩
    · rw [hr.2] at hl; cases hl
  cases m with
  | zero => exact ⟨hr.1, key⟩
  | succ m => exact ⟨fun _ => key, by rw [hr.1]; simp⟩
end
end Go.Proofs.YtcklfkblhmlbbaaDoor
namespace Go.Proofs.YtcklfkblhmlbbaaDoor
set_option maxRecDepth 10000
set_option linter.unusedSimpArgs false
set_option linter.unusedVariables false
def slL (p : Int) (c a : List Int) : List Int := [cuD p c a 0, cuD p c a 1, cuD p c a 2]
theorem slL_len (p : Int) (c a : List Int) : (slL p c a).length = 3 := rfl
theorem slN_len (p : Int) (c a : List Int) : (normL p (slL p c a)).length = 3 := by rw [normL_length]; rfl
theorem cuD_md {p : Int} (hp : primeB p = true) (c a : List Int) (y : Nat) : cuD p c a y % p = cuD p c a y := Int.emod_emod_of_dvd _ (Int.dvd_refl p)
theorem sl_zero {p : Int} (hp : primeB p = true) (c a : List Int) : (!(facP p (slL p c a) != 0)) = decide (slL p c a = [0, 0, 0]) := by
  have h := fac_zero hp (slL p c a)
  simp only [slL, List.map_cons, List.map_nil, cuD_md hp, fnz] at h
  have e : facP p (slL p c a) = 0 ↔ slL p c a = [0, 0, 0] := by
    unfold slL
    rw [h]
    constructor
    · intro h1
      by_cases h2 : cuD p c a 0 = 0 <;> by_cases h3 : cuD p c a 1 = 0 <;> by_cases h4 : cuD p c a 2 = 0 <;> simp_all
    · intro h1
      simp only [List.cons.injEq] at h1
      simp [h1]
  rw [Bool.eq_iff_iff]
  simp [e]
attribute [local irreducible] CW OW QW QOp Con thenP inBlockP AW QX RW
theorem tangent_con (p : Int) (c a : List Int) (hp : primeB p = true) (hcl : c.length = 10) (hal : a.length = 3) (qc : smN 12 c) (qa : smN 12 a) : ConQ Tryd.prog [(0, 2000)] 51 [.arr c, .int p, .arr a] [(2000, .ro 0 cuT)] (.tuple [.arr (normL p (slL p c a)), .bool ((facP p (slL p c a) != 0) && cuG p c a)]) := by
  have hnl := slN_len p c a
  have hsl := slL_len p c a
  have hslo := slopes_con p c a hp hcl hal qc qa
  change ConQ _ _ _ _ _ (.arr (slL p c a)) at hslo
  generalize hfb : (facP p (slL p c a) != 0) = fb
  cases fb with
  | false =>
    refine conW tab_ok [(0, .arr c), (1, .int p), (2, .arr a)] 0 [2000] [] Tryd.func51 rfl rfl rfl rfl rfl rfl rfl rfl rfl ?_
    refine cR ?_
    iterate 2 refine oBox rfl rfl rfl rfl rfl rfl ?_
    refine oAlloc rfl rfl rfl rfl rfl rfl rfl ?_
    refine oA rfl rfl ?_
    refine oN ?_
    refine cR ?_
    refine oQ (Q_ldw rfl rfl rfl rfl hcl) rfl rfl ?_
    refine oM rfl rfl ?_
    refine oQ (Q_ldw rfl rfl rfl rfl hal) rfl rfl ?_
    refine oQ (Q_call (hslo) [] rfl rfl (Fits.mk' (vHc rfl vHn) rfl rfl (by first | (simp; done) | exact glOk rfl rfl rfl)) rfl rfl) rfl rfl ?_
    refine oAlloc rfl rfl rfl rfl rfl rfl rfl ?_
    first | refine oSw rfl rfl rfl rfl ?_ | refine oSa rfl rfl rfl rfl ?_
    refine oN ?_
    refine cR ?_
    refine oM rfl rfl ?_
    refine oQ (Q_slaF rfl rfl rfl rfl) rfl rfl ?_
    refine oCall (normal_con p 24 (slL p c a) 3 3 (Nat.le_of_eq hsl.symm) hp (by omega)) [(0, 3)] 0 rfl rfl (Fits.mk' (vHc rfl vHn) rfl rfl (by first | (simp; done) | exact glOk rfl rfl rfl)) rfl rfl ?_
    rintro r H1 ⟨rfl, rfl⟩
    simp only [List.take_of_length_le (show (slL p c a).length ≤ 3 from Nat.le_refl _), List.drop_eq_nil_of_le (show (slL p c a).length ≤ 3 from Nat.le_refl _), List.append_nil]
    rw [hfb]
    refine ⟨.bool false, [(3, .ints 24 (normL p (slL p c a)))], rfl, rfl, rfl, ?_⟩
    refine oA rfl rfl ?_
    refine oN ?_
    refine CW_seq ?_
    refine CW_anyV 9 2 11 (normL p (slL p c a)) rfl lateOk (by decide +kernel) rfl rfl rfl (fun hst => ?_)
    refine vQ 0 hst rfl rfl rfl (by decide +kernel) (QX_of (Q_ldw rfl rfl rfl rfl hnl) NE_load) rfl rfl ?_
    refine vQ 1 hst rfl rfl rfl (by decide +kernel) (QX_of (Q_move rfl rfl) NE_move) rfl rfl ?_
    refine vQ 2 hst rfl rfl rfl (by decide +kernel) (QX_of (Q_move rfl rfl) NE_move) rfl rfl ?_
    first | (refine vQg 3 hst rfl rfl rfl (by decide +kernel) rfl rfl (QX_of (Q_ldw rfl rfl rfl rfl hcl) NE_load) rfl rfl ?_) | refine vSkip 3 hst rfl rfl rfl (by decide +kernel) rfl rfl rfl rfl ?_
    first | (refine vQg 4 hst rfl rfl rfl (by decide +kernel) rfl rfl (QX_of (Q_move rfl rfl) NE_move) rfl rfl ?_) | refine vSkip 4 hst rfl rfl rfl (by decide +kernel) rfl rfl rfl rfl ?_
    first | (refine vQg 5 hst rfl rfl rfl (by decide +kernel) rfl rfl (QX_of (Q_ldw rfl rfl rfl rfl hal) NE_load) rfl rfl ?_) | refine vSkip 5 hst rfl rfl rfl (by decide +kernel) rfl rfl rfl rfl ?_
    first | (refine vQg 6 hst rfl rfl rfl (by decide +kernel) rfl rfl (QX_call (at_con p c a hp hcl hal qc qa) [] rfl rfl (Fits.mk' (vHc rfl vHn) rfl rfl (by first | (simp; done) | exact glOk rfl rfl rfl)) rfl rfl rfl) rfl rfl ?_) | refine vSkip 6 hst rfl rfl rfl (by decide +kernel) rfl rfl rfl rfl ?_
    first | (refine vQg 7 hst rfl rfl rfl (by decide +kernel) rfl rfl (QX_of (Q_bin rfl rfl rfl) NE_bin) rfl rfl ?_) | refine vSkip 7 hst rfl rfl rfl (by decide +kernel) rfl rfl rfl rfl ?_
    first | refine vQ 8 hst rfl rfl rfl (by decide +kernel) (QX_of (Q_pick_t rfl (by with_reducible rfl) rfl rfl) NE_pick) rfl rfl ?_ | refine vQ 8 hst rfl rfl rfl (by decide +kernel) (QX_of (Q_pick_f rfl (by with_reducible rfl) rfl rfl) NE_pick) rfl rfl ?_
    refine AV_store rfl (by decide +kernel) rfl rfl rfl rfl (by first | assumption | rfl | omega | (simp; omega)) rfl ?_
    refine vQ 10 hst rfl rfl rfl (by decide +kernel) (QX_of (Q_assign rfl rfl) NE_assign) rfl rfl ?_
    refine AV_done (by decide +kernel) rfl ?_
    all_goals with_reducible refine tN ?_
    all_goals (
     refine CW_ret ?_)
    all_goals (
     refine exitQ (.inr rfl) 0 (.cons (.arr rfl rfl rfl rfl (by first | omega | (dsimp only; omega) | (simp; omega) | (simp; done))) (.cons (.tmp rfl rfl) .nil)) ?_ rfl (vHc rfl vHn) rfl rfl
     rfl)
  | true =>
    refine conW tab_ok [(0, .arr c), (1, .int p), (2, .arr a)] 0 [2000] [] Tryd.func51 rfl rfl rfl rfl rfl rfl rfl rfl rfl ?_
    refine cR ?_
    iterate 2 refine oBox rfl rfl rfl rfl rfl rfl ?_
    refine oAlloc rfl rfl rfl rfl rfl rfl rfl ?_
    refine oA rfl rfl ?_
    refine oN ?_
    refine cR ?_
    refine oQ (Q_ldw rfl rfl rfl rfl hcl) rfl rfl ?_
    refine oM rfl rfl ?_
    refine oQ (Q_ldw rfl rfl rfl rfl hal) rfl rfl ?_
    refine oQ (Q_call (hslo) [] rfl rfl (Fits.mk' (vHc rfl vHn) rfl rfl (by first | (simp; done) | exact glOk rfl rfl rfl)) rfl rfl) rfl rfl ?_
    refine oAlloc rfl rfl rfl rfl rfl rfl rfl ?_
    first | refine oSw rfl rfl rfl rfl ?_ | refine oSa rfl rfl rfl rfl ?_
    refine oN ?_
    refine cR ?_
    refine oM rfl rfl ?_
    refine oQ (Q_slaF rfl rfl rfl rfl) rfl rfl ?_
    refine oCall (normal_con p 24 (slL p c a) 3 3 (Nat.le_of_eq hsl.symm) hp (by omega)) [(0, 3)] 0 rfl rfl (Fits.mk' (vHc rfl vHn) rfl rfl (by first | (simp; done) | exact glOk rfl rfl rfl)) rfl rfl ?_
    rintro r H1 ⟨rfl, rfl⟩
    simp only [List.take_of_length_le (show (slL p c a).length ≤ 3 from Nat.le_refl _), List.drop_eq_nil_of_le (show (slL p c a).length ≤ 3 from Nat.le_refl _), List.append_nil]
    rw [hfb]
    refine ⟨.bool true, [(3, .ints 24 (normL p (slL p c a)))], rfl, rfl, rfl, ?_⟩
    refine oA rfl rfl ?_
    refine oN ?_
    refine CW_seq ?_
    refine CW_anyV 9 2 11 (normL p (slL p c a)) rfl lateOk (by decide +kernel) rfl rfl rfl (fun hst => ?_)
    refine vQ 0 hst rfl rfl rfl (by decide +kernel) (QX_of (Q_ldw rfl rfl rfl rfl hnl) NE_load) rfl rfl ?_
    refine vQ 1 hst rfl rfl rfl (by decide +kernel) (QX_of (Q_move rfl rfl) NE_move) rfl rfl ?_
    refine vQ 2 hst rfl rfl rfl (by decide +kernel) (QX_of (Q_move rfl rfl) NE_move) rfl rfl ?_
    first | (refine vQg 3 hst rfl rfl rfl (by decide +kernel) rfl rfl (QX_of (Q_ldw rfl rfl rfl rfl hcl) NE_load) rfl rfl ?_) | refine vSkip 3 hst rfl rfl rfl (by decide +kernel) rfl rfl rfl rfl ?_
    first | (refine vQg 4 hst rfl rfl rfl (by decide +kernel) rfl rfl (QX_of (Q_move rfl rfl) NE_move) rfl rfl ?_) | refine vSkip 4 hst rfl rfl rfl (by decide +kernel) rfl rfl rfl rfl ?_
    first | (refine vQg 5 hst rfl rfl rfl (by decide +kernel) rfl rfl (QX_of (Q_ldw rfl rfl rfl rfl hal) NE_load) rfl rfl ?_) | refine vSkip 5 hst rfl rfl rfl (by decide +kernel) rfl rfl rfl rfl ?_
    first | (refine vQg 6 hst rfl rfl rfl (by decide +kernel) rfl rfl (QX_call (at_con p c a hp hcl hal qc qa) [] rfl rfl (Fits.mk' (vHc rfl vHn) rfl rfl (by first | (simp; done) | exact glOk rfl rfl rfl)) rfl rfl rfl) rfl rfl ?_) | refine vSkip 6 hst rfl rfl rfl (by decide +kernel) rfl rfl rfl rfl ?_
    first | (refine vQg 7 hst rfl rfl rfl (by decide +kernel) rfl rfl (QX_of (Q_bin rfl rfl rfl) NE_bin) rfl rfl ?_) | refine vSkip 7 hst rfl rfl rfl (by decide +kernel) rfl rfl rfl rfl ?_
    first | refine vQ 8 hst rfl rfl rfl (by decide +kernel) (QX_of (Q_pick_t rfl (by with_reducible rfl) rfl rfl) NE_pick) rfl rfl ?_ | refine vQ 8 hst rfl rfl rfl (by decide +kernel) (QX_of (Q_pick_f rfl (by with_reducible rfl) rfl rfl) NE_pick) rfl rfl ?_
    refine AV_store rfl (by decide +kernel) rfl rfl rfl rfl (by first | assumption | rfl | omega | (simp; omega)) rfl ?_
    refine vQ 10 hst rfl rfl rfl (by decide +kernel) (QX_of (Q_assign rfl rfl) NE_assign) rfl rfl ?_
    refine AV_done (by decide +kernel) rfl ?_
    all_goals with_reducible refine tN ?_
    all_goals (
     refine CW_ret ?_)
    all_goals (
     refine exitQ (.inr rfl) 0 (.cons (.arr rfl rfl rfl rfl (by first | omega | (dsimp only; omega) | (simp; omega) | (simp; done))) (.cons (.tmp rfl rfl) .nil)) ?_ rfl (vHc rfl vHn) rfl rfl
     rfl)
theorem l06Tangent_con (p : Int) (c a : List Int) (hp : primeB p = true) (hcl : c.length = 10) (hal : a.length = 3) (qc : smN 12 c) (qa : smN 12 a) : ConQ Tryd.prog [] 47 [.int p, .arr c, .arr a] [] (.tuple [.arr (normL p (slL p c a)), .bool (facP p (slL p c a) != 0)]) := by
  have hnl := slN_len p c a
  have hsl := slL_len p c a
  have hmd := l01Made_con p (cuD p c a 0) (cuD p c a 1) (cuD p c a 2) hp
  change ConQ _ _ _ _ _ (.tuple [.arr (normL p (slL p c a)), .bool (facP p (slL p c a) != 0)]) at hmd
  refine conW tab_ok [(0, .int p), (1, .arr c), (2, .arr a)] 0 [] [] Tryd.func47 rfl rfl rfl rfl rfl rfl rfl rfl rfl ?_
  refine cR ?_
  iterate 2 refine oBox rfl rfl rfl rfl rfl rfl ?_
  refine oAlloc rfl rfl rfl rfl rfl rfl rfl ?_
  refine oA rfl rfl ?_
  refine oN ?_
  refine CW_seq ?_
  refine CW_any (fun i => List.elem i [18, 19]) 20 rfl lateOk (by decide +kernel) (fun hst => ?_)
  refine aP 0 hst rfl rfl (by decide +kernel) (PX_move rfl rfl) rfl rfl ?_
  refine aP 1 hst rfl rfl (by decide +kernel) (PX_move rfl rfl) rfl rfl ?_
  refine aQ 2 hst rfl rfl (by decide +kernel) (QX_of (Q_ldw rfl rfl rfl rfl hcl) NE_load) rfl rfl ?_
  refine aQ 3 hst rfl rfl (by decide +kernel) (QX_of (Q_ldw rfl rfl rfl rfl hal) NE_load) rfl rfl ?_
  refine aQ 4 hst rfl rfl (by decide +kernel) (QX_call0 (l06Atd_con p c a 0 (by decide) hp hcl hal qc qa) rfl rfl rfl) rfl rfl ?_
  refine aP 5 hst rfl rfl (by decide +kernel) (PX_move rfl rfl) rfl rfl ?_
  refine aQ 6 hst rfl rfl (by decide +kernel) (QX_of (Q_ldw rfl rfl rfl rfl hcl) NE_load) rfl rfl ?_
  refine aQ 7 hst rfl rfl (by decide +kernel) (QX_of (Q_ldw rfl rfl rfl rfl hal) NE_load) rfl rfl ?_
  refine aQ 8 hst rfl rfl (by decide +kernel) (QX_call0 (l06Atd_con p c a 1 (by decide) hp hcl hal qc qa) rfl rfl rfl) rfl rfl ?_
  refine aP 9 hst rfl rfl (by decide +kernel) (PX_move rfl rfl) rfl rfl ?_
  refine aQ 10 hst rfl rfl (by decide +kernel) (QX_of (Q_ldw rfl rfl rfl rfl hcl) NE_load) rfl rfl ?_
  refine aQ 11 hst rfl rfl (by decide +kernel) (QX_of (Q_ldw rfl rfl rfl rfl hal) NE_load) rfl rfl ?_
  refine aQ 12 hst rfl rfl (by decide +kernel) (QX_call0 (l06Atd_con p c a 2 (by decide) hp hcl hal qc qa) rfl rfl rfl) rfl rfl ?_
  refine aQ 13 hst rfl rfl (by decide +kernel) (QX_call0 (hmd) rfl rfl rfl) rfl rfl ?_
  refine aP 14 hst rfl rfl (by decide +kernel) (PX_move rfl rfl) rfl rfl ?_
  refine aExt 15 hst rfl rfl (by decide +kernel) rfl rfl rfl rfl ?_
  refine aExt 16 hst rfl rfl (by decide +kernel) rfl rfl rfl rfl ?_
  refine AW_one (i := 17) (by decide +kernel) ?_
  refine gAlloc rfl rfl rfl rfl rfl rfl rfl rfl rfl ?_
  refine AW_last [18, 19] rfl (by decide +kernel) rfl ?_
  first | refine oSw rfl rfl rfl rfl ?_ | refine oSa rfl rfl rfl rfl ?_
  refine oA rfl rfl ?_
  refine OW_nil (npN ?_)
  all_goals with_reducible refine tN ?_
  all_goals (
   refine cR ?_
   refine oQ (Q_ldw rfl rfl rfl rfl hnl) rfl rfl ?_
   refine oM rfl rfl ?_
   first | refine oSw rfl rfl rfl rfl ?_ | refine oSa rfl rfl rfl rfl ?_
   refine oA rfl rfl ?_
   refine oN ?_
   refine CW_ret ?_)
  all_goals (
   ((refine exitQ (.inr rfl) 0 (.cons (.arr rfl rfl rfl rfl (by first | omega | (dsimp only; omega) | (simp; omega) | (simp; done))) (.cons (.tmp rfl rfl) .nil)) ?_ rfl vHn rfl rfl); rfl))
end Go.Proofs.YtcklfkblhmlbbaaDoor
namespace Go.Proofs.YtcklfkblhmlbbaaDoor
set_option maxRecDepth 10000
set_option linter.unusedSimpArgs false
set_option linter.unusedVariables false
theorem fnz_norm {p f : Int} (hp : primeB p = true) : ∀ l : List Int, fnz (l.map (· % p)) * f % p = 1 → fnz (l.map fun x => x % p * f % p) = 1
  | [], h => by simp [fnz] at h
  | a :: r, h => by
    simp only [List.map_cons, fnz] at h ⊢
    by_cases h0 : a % p = 0
    · rw [if_pos h0] at h
      rw [if_pos (by rw [h0]; simp)]
      exact fnz_norm hp r h
    · rw [if_neg h0] at h
      rw [if_neg (by rw [h]; decide)]
      exact h
theorem norm_mem {p : Int} (hp : primeB p = true) {l : List Int} (hl : l.length = 3) (h : facP p l ≠ 0) : normL p l ∈ allPts p := by
  have hb := prime_bd hp
  refine point_mem (by rw [normL_length]; exact hl) ?_
  have hz : fnz (l.map (· % p)) ≠ 0 := fun e => h ((fac_zero hp l).2 e)
  simp only [pointB, normB, Bool.and_eq_true, beq_iff_eq]
  refine ⟨hp, ?_, fnz_norm hp l (fac_inv hp hz)⟩
  rw [modB, List.all_eq_true]
  intro x hx
  obtain ⟨y, _, rfl⟩ := List.mem_map.1 hx
  have h1 := Int.emod_nonneg (y % p * facP p l) (show p ≠ 0 by omega)
  have h2 := Int.emod_lt_of_pos (y % p * facP p l) (show 0 < p by omega)
  simp only [Bool.and_eq_true, decide_eq_true_eq]
  omega
attribute [local irreducible] CW OW QW QOp Con thenP inBlockP AW QX RW
def crossT (a b : List Int) : List Int := [a.getD 1 0 * b.getD 2 0 - a.getD 2 0 * b.getD 1 0, a.getD 2 0 * b.getD 0 0 - a.getD 0 0 * b.getD 2 0, a.getD 0 0 * b.getD 1 0 - a.getD 1 0 * b.getD 0 0]
attribute [local simp] normL_length
@[simp] theorem crossT_len (a b : List Int) : (crossT a b).length = 3 := rfl
theorem crN_len (p : Int) (a b : List Int) : (normL p (crossT a b)).length = 3 := by rw [normL_length]; rfl
theorem pointOf_con (p x y z : Int) (hp : primeB p = true) : ConQ Tryd.prog [] 143 [.int p, .int x, .int y, .int z] [] (.arr (normL p [x, y, z])) := by
  have hnl : (normL p [x, y, z]).length = 3 := by simp [normL, crossT]
  refine conW tab_ok [(0, .int p), (1, .int x), (2, .int y), (3, .int z)] 0 [] [] Tryd.func143 rfl rfl rfl rfl rfl rfl rfl rfl rfl ?_
  refine cR ?_
  refine oAlloc rfl rfl rfl rfl rfl rfl rfl ?_
  refine oN ?_
  refine cR ?_
  iterate 3 refine oM rfl rfl ?_
  refine oQ (Q_build rfl rfl rfl rfl rfl rfl rfl rfl) rfl rfl ?_
  refine oAlloc rfl rfl rfl rfl rfl rfl rfl ?_
  first | refine oSw rfl rfl rfl rfl ?_ | refine oSa rfl rfl rfl rfl ?_
  refine oN ?_
  refine cR ?_
  refine oM rfl rfl ?_
  refine oQ (Q_slaF rfl rfl rfl rfl) rfl rfl ?_
  refine oCall (normal_con p 29 [x, y, z] 3 3 (by simp) hp (by omega)) [(0, 1)] 0 rfl rfl (Fits.mk' (vHc rfl vHn) rfl rfl (by first | (simp; done) | exact glOk rfl rfl rfl)) rfl rfl ?_
  rintro r H1 ⟨rfl, rfl⟩
  refine ⟨.bool (facP p [x, y, z] != 0), [(1, .ints 29 (normL p [x, y, z]))], rfl, rfl, rfl, ?_⟩
  refine oN ?_
  refine cR ?_
  refine oQ (Q_ldw rfl rfl rfl rfl hnl) rfl rfl ?_
  first | refine oSw rfl rfl rfl rfl ?_ | refine oSa rfl rfl rfl rfl ?_
  refine oN ?_
  refine CW_ret ?_
  all_goals (
   ((refine exitQ (.inr rfl) 0 (.cons (.arr rfl rfl rfl rfl (by first | omega | (dsimp only; omega) | (simp; omega) | (simp; done))) .nil) ?_ rfl vHn rfl rfl); rfl))
theorem cross_con3 (p a b c x y z : Int) (hp : primeB p = true) (h1 : sm 13 [a, b, c]) (h2 : sm 13 [x, y, z]) : ConQ Tryd.prog [] 123 [.int p, .arr [a, b, c], .arr [x, y, z]] [] (.arr (normL p (crossT [a, b, c] [x, y, z]))) := by
  obtain ⟨ha, hb, hc⟩ := sm3.1 h1
  obtain ⟨hx, hy, hz⟩ := sm3.1 h2
  have hpb := prime_bd hp
  have hnl : ∀ u v w, (normL p [u, v, w]).length = 3 := fun _ _ _ => by simp [normL]
  refine conW tab_ok [(0, .int p), (1, .arr [a, b, c]), (2, .arr [x, y, z])] 0 [] [] Tryd.func123 rfl rfl rfl rfl rfl rfl rfl rfl rfl ?_
  refine cR ?_
  iterate 2 refine oBox rfl rfl rfl rfl rfl rfl ?_
  refine oAlloc rfl rfl rfl rfl rfl rfl rfl ?_
  refine oN ?_
  refine cR ?_
  refine oM rfl rfl ?_
  first | refine oQ (Ia0 rfl rfl rfl rfl rfl rfl) rfl rfl ?_ | refine oQ (Ia1 rfl rfl rfl rfl rfl rfl) rfl rfl ?_
  first | refine oQ (Q_ldc rfl rfl rfl rfl rfl) rfl rfl ?_ | refine oQ (Ld rfl rfl rfl rfl) rfl rfl ?_
  first | refine oQ (Ia0 rfl rfl rfl rfl rfl rfl) rfl rfl ?_ | refine oQ (Ia1 rfl rfl rfl rfl rfl rfl) rfl rfl ?_
  first | refine oQ (Q_ldc rfl rfl rfl rfl rfl) rfl rfl ?_ | refine oQ (Ld rfl rfl rfl rfl) rfl rfl ?_
  refine oMul 13 13 rfl rfl (by omega) (by omega) (by decide) rfl (fun z12 hz12 hl12 hu12 => ?_)
  first | refine oQ (Ia0 rfl rfl rfl rfl rfl rfl) rfl rfl ?_ | refine oQ (Ia1 rfl rfl rfl rfl rfl rfl) rfl rfl ?_
  first | refine oQ (Q_ldc rfl rfl rfl rfl rfl) rfl rfl ?_ | refine oQ (Ld rfl rfl rfl rfl) rfl rfl ?_
  first | refine oQ (Ia0 rfl rfl rfl rfl rfl rfl) rfl rfl ?_ | refine oQ (Ia1 rfl rfl rfl rfl rfl rfl) rfl rfl ?_
  first | refine oQ (Q_ldc rfl rfl rfl rfl rfl) rfl rfl ?_ | refine oQ (Ld rfl rfl rfl rfl) rfl rfl ?_
  refine oMul 13 13 rfl rfl (by omega) (by omega) (by decide) rfl (fun z17 hz17 hl17 hu17 => ?_)
  first | refine oQ (Q_binu rfl rfl rfl (by omega)) rfl rfl ?_ | refine oQ (Q_bin rfl rfl rfl) rfl rfl ?_
  first | refine oQ (Ia0 rfl rfl rfl rfl rfl rfl) rfl rfl ?_ | refine oQ (Ia1 rfl rfl rfl rfl rfl rfl) rfl rfl ?_
  first | refine oQ (Q_ldc rfl rfl rfl rfl rfl) rfl rfl ?_ | refine oQ (Ld rfl rfl rfl rfl) rfl rfl ?_
  first | refine oQ (Ia0 rfl rfl rfl rfl rfl rfl) rfl rfl ?_ | refine oQ (Ia1 rfl rfl rfl rfl rfl rfl) rfl rfl ?_
  first | refine oQ (Q_ldc rfl rfl rfl rfl rfl) rfl rfl ?_ | refine oQ (Ld rfl rfl rfl rfl) rfl rfl ?_
  refine oMul 13 13 rfl rfl (by omega) (by omega) (by decide) rfl (fun z23 hz23 hl23 hu23 => ?_)
  first | refine oQ (Ia0 rfl rfl rfl rfl rfl rfl) rfl rfl ?_ | refine oQ (Ia1 rfl rfl rfl rfl rfl rfl) rfl rfl ?_
  first | refine oQ (Q_ldc rfl rfl rfl rfl rfl) rfl rfl ?_ | refine oQ (Ld rfl rfl rfl rfl) rfl rfl ?_
  first | refine oQ (Ia0 rfl rfl rfl rfl rfl rfl) rfl rfl ?_ | refine oQ (Ia1 rfl rfl rfl rfl rfl rfl) rfl rfl ?_
  first | refine oQ (Q_ldc rfl rfl rfl rfl rfl) rfl rfl ?_ | refine oQ (Ld rfl rfl rfl rfl) rfl rfl ?_
  refine oMul 13 13 rfl rfl (by omega) (by omega) (by decide) rfl (fun z28 hz28 hl28 hu28 => ?_)
  first | refine oQ (Q_binu rfl rfl rfl (by omega)) rfl rfl ?_ | refine oQ (Q_bin rfl rfl rfl) rfl rfl ?_
  first | refine oQ (Ia0 rfl rfl rfl rfl rfl rfl) rfl rfl ?_ | refine oQ (Ia1 rfl rfl rfl rfl rfl rfl) rfl rfl ?_
  first | refine oQ (Q_ldc rfl rfl rfl rfl rfl) rfl rfl ?_ | refine oQ (Ld rfl rfl rfl rfl) rfl rfl ?_
  first | refine oQ (Ia0 rfl rfl rfl rfl rfl rfl) rfl rfl ?_ | refine oQ (Ia1 rfl rfl rfl rfl rfl rfl) rfl rfl ?_
  first | refine oQ (Q_ldc rfl rfl rfl rfl rfl) rfl rfl ?_ | refine oQ (Ld rfl rfl rfl rfl) rfl rfl ?_
  refine oMul 13 13 rfl rfl (by omega) (by omega) (by decide) rfl (fun z34 hz34 hl34 hu34 => ?_)
  first | refine oQ (Ia0 rfl rfl rfl rfl rfl rfl) rfl rfl ?_ | refine oQ (Ia1 rfl rfl rfl rfl rfl rfl) rfl rfl ?_
  first | refine oQ (Q_ldc rfl rfl rfl rfl rfl) rfl rfl ?_ | refine oQ (Ld rfl rfl rfl rfl) rfl rfl ?_
  first | refine oQ (Ia0 rfl rfl rfl rfl rfl rfl) rfl rfl ?_ | refine oQ (Ia1 rfl rfl rfl rfl rfl rfl) rfl rfl ?_
  first | refine oQ (Q_ldc rfl rfl rfl rfl rfl) rfl rfl ?_ | refine oQ (Ld rfl rfl rfl rfl) rfl rfl ?_
  refine oMul 13 13 rfl rfl (by omega) (by omega) (by decide) rfl (fun z39 hz39 hl39 hu39 => ?_)
  first | refine oQ (Q_binu rfl rfl rfl (by omega)) rfl rfl ?_ | refine oQ (Q_bin rfl rfl rfl) rfl rfl ?_
  refine oQ (Q_call0 (pointOf_con _ _ _ _ hp) rfl rfl rfl) rfl rfl ?_
  first | refine oSw rfl rfl rfl rfl ?_ | refine oSa rfl rfl rfl rfl ?_
  refine oN ?_
  refine CW_ret ?_
  all_goals (
   subst hz12 hz17 hz23 hz28 hz34 hz39
   refine exitQ (.inr rfl) 0 (.cons (.arr rfl rfl rfl rfl (by first | omega | (dsimp only; omega) | (simp; omega) | (simp; done))) .nil) ?_ rfl vHn rfl rfl
   rfl)
theorem cross_con (p : Int) (a b : List Int) (hp : primeB p = true) (ha : a.length = 3) (hb : b.length = 3) (h1 : sm 13 a) (h2 : sm 13 b) : ConQ Tryd.prog [] 123 [.int p, .arr a, .arr b] [] (.arr (normL p (crossT a b))) := by
  match a, ha, b, hb with
  | [a, b, c], _, [x, y, z], _ => exact cross_con3 p a b c x y z hp h1 h2
theorem join_con (p : Int) (a b : List Int) (hp : primeB p = true) (ha : a.length = 3) (hb : b.length = 3) (h1 : sm 13 a) (h2 : sm 13 b) : ConQ Tryd.prog [] 99 [.int p, .arr a, .arr b] [] (.arr (normL p (crossT a b))) := by
  have hnl : (normL p (crossT a b)).length = 3 := by simp [normL, crossT]
  refine conW tab_ok [(0, .int p), (1, .arr a), (2, .arr b)] 0 [] [] Tryd.func99 rfl rfl rfl rfl rfl rfl rfl rfl rfl ?_
  refine cR ?_
  iterate 2 refine oBox rfl rfl rfl rfl rfl rfl ?_
  refine oAlloc rfl rfl rfl rfl rfl rfl rfl ?_
  refine oN ?_
  refine cR ?_
  refine oM rfl rfl ?_
  refine oQ (Q_ldw rfl rfl rfl rfl ha) rfl rfl ?_
  refine oQ (Q_ldw rfl rfl rfl rfl hb) rfl rfl ?_
  refine oQ (Q_call0 (cross_con p a b hp ha hb h1 h2) rfl rfl rfl) rfl rfl ?_
  first | refine oSw rfl rfl rfl rfl ?_ | refine oSa rfl rfl rfl rfl ?_
  refine oN ?_
  refine CW_ret ?_
  all_goals (
   ((refine exitQ (.inr rfl) 0 (.cons (.arr rfl rfl rfl rfl (by first | omega | (dsimp only; omega) | (simp; omega) | (simp; done))) .nil) ?_ rfl vHn rfl rfl); rfl))
theorem l01Cross_con3 (p a b c x y z : Int) (hp : primeB p = true) (h1 : sm 13 [a, b, c]) (h2 : sm 13 [x, y, z]) : ConQ Tryd.prog [] 122 [.int p, .arr [a, b, c], .arr [x, y, z]] [] (.tuple [.arr (normL p (crossT [a, b, c] [x, y, z])), .bool (facP p (crossT [a, b, c] [x, y, z]) != 0)]) := by
  obtain ⟨ha, hb, hc⟩ := sm3.1 h1
  obtain ⟨hx, hy, hz⟩ := sm3.1 h2
  have hpb := prime_bd hp
  refine conW tab_ok [(0, .int p), (1, .arr [a, b, c]), (2, .arr [x, y, z])] 0 [] [] Tryd.func122 rfl rfl rfl rfl rfl rfl rfl rfl rfl ?_
  refine cR ?_
  iterate 2 refine oBox rfl rfl rfl rfl rfl rfl ?_
  refine oAlloc rfl rfl rfl rfl rfl rfl rfl ?_
  refine oA rfl rfl ?_
  refine oN ?_
  refine cR ?_
  refine oM rfl rfl ?_
  first | refine oQ (Ia0 rfl rfl rfl rfl rfl rfl) rfl rfl ?_ | refine oQ (Ia1 rfl rfl rfl rfl rfl rfl) rfl rfl ?_
  first | refine oQ (Q_ldc rfl rfl rfl rfl rfl) rfl rfl ?_ | refine oQ (Ld rfl rfl rfl rfl) rfl rfl ?_
  first | refine oQ (Ia0 rfl rfl rfl rfl rfl rfl) rfl rfl ?_ | refine oQ (Ia1 rfl rfl rfl rfl rfl rfl) rfl rfl ?_
  first | refine oQ (Q_ldc rfl rfl rfl rfl rfl) rfl rfl ?_ | refine oQ (Ld rfl rfl rfl rfl) rfl rfl ?_
  refine oMul 13 13 rfl rfl (by omega) (by omega) (by decide) rfl (fun z13 hz13 hl13 hu13 => ?_)
  first | refine oQ (Ia0 rfl rfl rfl rfl rfl rfl) rfl rfl ?_ | refine oQ (Ia1 rfl rfl rfl rfl rfl rfl) rfl rfl ?_
  first | refine oQ (Q_ldc rfl rfl rfl rfl rfl) rfl rfl ?_ | refine oQ (Ld rfl rfl rfl rfl) rfl rfl ?_
  first | refine oQ (Ia0 rfl rfl rfl rfl rfl rfl) rfl rfl ?_ | refine oQ (Ia1 rfl rfl rfl rfl rfl rfl) rfl rfl ?_
  first | refine oQ (Q_ldc rfl rfl rfl rfl rfl) rfl rfl ?_ | refine oQ (Ld rfl rfl rfl rfl) rfl rfl ?_
  refine oMul 13 13 rfl rfl (by omega) (by omega) (by decide) rfl (fun z18 hz18 hl18 hu18 => ?_)
  first | refine oQ (Q_binu rfl rfl rfl (by omega)) rfl rfl ?_ | refine oQ (Q_bin rfl rfl rfl) rfl rfl ?_
  first | refine oQ (Ia0 rfl rfl rfl rfl rfl rfl) rfl rfl ?_ | refine oQ (Ia1 rfl rfl rfl rfl rfl rfl) rfl rfl ?_
  first | refine oQ (Q_ldc rfl rfl rfl rfl rfl) rfl rfl ?_ | refine oQ (Ld rfl rfl rfl rfl) rfl rfl ?_
  first | refine oQ (Ia0 rfl rfl rfl rfl rfl rfl) rfl rfl ?_ | refine oQ (Ia1 rfl rfl rfl rfl rfl rfl) rfl rfl ?_
  first | refine oQ (Q_ldc rfl rfl rfl rfl rfl) rfl rfl ?_ | refine oQ (Ld rfl rfl rfl rfl) rfl rfl ?_
  refine oMul 13 13 rfl rfl (by omega) (by omega) (by decide) rfl (fun z24 hz24 hl24 hu24 => ?_)
  first | refine oQ (Ia0 rfl rfl rfl rfl rfl rfl) rfl rfl ?_ | refine oQ (Ia1 rfl rfl rfl rfl rfl rfl) rfl rfl ?_
  first | refine oQ (Q_ldc rfl rfl rfl rfl rfl) rfl rfl ?_ | refine oQ (Ld rfl rfl rfl rfl) rfl rfl ?_
  first | refine oQ (Ia0 rfl rfl rfl rfl rfl rfl) rfl rfl ?_ | refine oQ (Ia1 rfl rfl rfl rfl rfl rfl) rfl rfl ?_
  first | refine oQ (Q_ldc rfl rfl rfl rfl rfl) rfl rfl ?_ | refine oQ (Ld rfl rfl rfl rfl) rfl rfl ?_
  refine oMul 13 13 rfl rfl (by omega) (by omega) (by decide) rfl (fun z29 hz29 hl29 hu29 => ?_)
  first | refine oQ (Q_binu rfl rfl rfl (by omega)) rfl rfl ?_ | refine oQ (Q_bin rfl rfl rfl) rfl rfl ?_
  first | refine oQ (Ia0 rfl rfl rfl rfl rfl rfl) rfl rfl ?_ | refine oQ (Ia1 rfl rfl rfl rfl rfl rfl) rfl rfl ?_
  first | refine oQ (Q_ldc rfl rfl rfl rfl rfl) rfl rfl ?_ | refine oQ (Ld rfl rfl rfl rfl) rfl rfl ?_
  first | refine oQ (Ia0 rfl rfl rfl rfl rfl rfl) rfl rfl ?_ | refine oQ (Ia1 rfl rfl rfl rfl rfl rfl) rfl rfl ?_
  first | refine oQ (Q_ldc rfl rfl rfl rfl rfl) rfl rfl ?_ | refine oQ (Ld rfl rfl rfl rfl) rfl rfl ?_
  refine oMul 13 13 rfl rfl (by omega) (by omega) (by decide) rfl (fun z35 hz35 hl35 hu35 => ?_)
  first | refine oQ (Ia0 rfl rfl rfl rfl rfl rfl) rfl rfl ?_ | refine oQ (Ia1 rfl rfl rfl rfl rfl rfl) rfl rfl ?_
  first | refine oQ (Q_ldc rfl rfl rfl rfl rfl) rfl rfl ?_ | refine oQ (Ld rfl rfl rfl rfl) rfl rfl ?_
  first | refine oQ (Ia0 rfl rfl rfl rfl rfl rfl) rfl rfl ?_ | refine oQ (Ia1 rfl rfl rfl rfl rfl rfl) rfl rfl ?_
  first | refine oQ (Q_ldc rfl rfl rfl rfl rfl) rfl rfl ?_ | refine oQ (Ld rfl rfl rfl rfl) rfl rfl ?_
  refine oMul 13 13 rfl rfl (by omega) (by omega) (by decide) rfl (fun z40 hz40 hl40 hu40 => ?_)
  first | refine oQ (Q_binu rfl rfl rfl (by omega)) rfl rfl ?_ | refine oQ (Q_bin rfl rfl rfl) rfl rfl ?_
  refine oQ (Q_call0 (l01Made_con _ _ _ _ hp) rfl rfl rfl) rfl rfl ?_
  iterate 2 refine oQ (Q_extract rfl rfl) rfl rfl ?_
  first | refine oSw rfl rfl rfl rfl ?_ | refine oSa rfl rfl rfl rfl ?_
  refine oA rfl rfl ?_
  refine oN ?_
  refine CW_ret ?_
  all_goals (
   subst hz13 hz18 hz24 hz29 hz35 hz40
   refine exitQ (.inr rfl) 0 (.cons (.arr rfl rfl rfl rfl (by first | omega | (dsimp only; omega) | (simp; omega) | (simp; done))) (.cons (.tmp rfl rfl) .nil)) ?_ rfl vHn rfl rfl
   rfl)
theorem l01Cross_con (p : Int) (a b : List Int) (hp : primeB p = true) (ha : a.length = 3) (hb : b.length = 3) (h1 : sm 13 a) (h2 : sm 13 b) : ConQ Tryd.prog [] 122 [.int p, .arr a, .arr b] [] (.tuple [.arr (normL p (crossT a b)), .bool (facP p (crossT a b) != 0)]) := by
  match a, ha, b, hb with
  | [a, b, c], _, [x, y, z], _ => exact l01Cross_con3 p a b c x y z hp h1 h2
theorem l01Join_con (p : Int) (a b : List Int) (hp : primeB p = true) (ha : a.length = 3) (hb : b.length = 3) (h1 : sm 13 a) (h2 : sm 13 b) : ConQ Tryd.prog [] 98 [.int p, .arr a, .arr b] [] (.tuple [.arr (normL p (crossT a b)), .bool (facP p (crossT a b) != 0)]) := by
  have hnl := crN_len p a b
  refine conW tab_ok [(0, .int p), (1, .arr a), (2, .arr b)] 0 [] [] Tryd.func98 rfl rfl rfl rfl rfl rfl rfl rfl rfl ?_
  refine cR ?_
  iterate 2 refine oBox rfl rfl rfl rfl rfl rfl ?_
  refine oAlloc rfl rfl rfl rfl rfl rfl rfl ?_
  refine oA rfl rfl ?_
  refine oN ?_
  refine cR ?_
  refine oM rfl rfl ?_
  refine oQ (Q_ldw rfl rfl rfl rfl ha) rfl rfl ?_
  refine oQ (Q_ldw rfl rfl rfl rfl hb) rfl rfl ?_
  refine oQ (Q_call0 (l01Cross_con p a b hp ha hb h1 h2) rfl rfl rfl) rfl rfl ?_
  refine oM rfl rfl ?_
  iterate 2 refine oQ (Q_extract rfl rfl) rfl rfl ?_
  refine oAlloc rfl rfl rfl rfl rfl rfl rfl ?_
  first | refine oSw rfl rfl rfl rfl ?_ | refine oSa rfl rfl rfl rfl ?_
  refine oA rfl rfl ?_
  refine oN ?_
  refine cR ?_
  refine oQ (Q_ldw rfl rfl rfl rfl hnl) rfl rfl ?_
  refine oM rfl rfl ?_
  first | refine oSw rfl rfl rfl rfl ?_ | refine oSa rfl rfl rfl rfl ?_
  refine oA rfl rfl ?_
  refine oN ?_
  refine CW_ret ?_
  all_goals (
   ((refine exitQ (.inr rfl) 0 (.cons (.arr rfl rfl rfl rfl (by first | omega | (dsimp only; omega) | (simp; omega) | (simp; done))) (.cons (.tmp rfl rfl) .nil)) ?_ rfl vHn rfl rfl); rfl))
end Go.Proofs.YtcklfkblhmlbbaaDoor
