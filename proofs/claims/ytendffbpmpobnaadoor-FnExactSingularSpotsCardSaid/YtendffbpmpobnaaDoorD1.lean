/- Quadrics: the table of squares, codes, values. Printed by gen_d1.py. -/
import Derived.Test.YtendffbpmpobnaaDoorQ3
import Derived.Test.YtendffbpmpobnaaDoorEngJ
import Derived.Test.YtendffbpmpobnaaDoorEngL
namespace Go.Proofs.YtendffbpmpobnaaDoor
set_option maxRecDepth 10000
set_option linter.unusedSimpArgs false
set_option linter.unusedVariables false
/-- the table of squares, as it lies -/
def sqT : List Int := [0, 0, 0, 1, 0, 2, 0, 3, 1, 1, 1, 2, 1, 3, 2, 2, 2, 3, 3, 3]
def sqF (i : Nat) : Nat := [0, 0, 0, 0, 1, 1, 1, 2, 2, 3].getD i 0
def sqG (i : Nat) : Nat := [0, 1, 2, 3, 1, 2, 3, 2, 3, 3].getD i 0
theorem ten_cases {P : Nat → Prop} (h : ∀ i : Fin 10, P i.1) {i : Nat} (hi : i < 10) : P i := h ⟨i, hi⟩
theorem sq_row {i : Nat} (hi : i < 10) : (sqT.drop (i * 2)).take 2 = [(sqF i : Int), (sqG i : Int)] := ten_cases (P := fun i => (sqT.drop (i * 2)).take 2 = [(sqF i : Int), (sqG i : Int)]) (by decide) hi
theorem sq_0 {i : Nat} (hi : i < 10) : sqT.getD (i * 2 + 0) 0 = (sqF i : Int) := ten_cases (P := fun i => sqT.getD (i * 2 + 0) 0 = (sqF i : Int)) (by decide) hi
theorem sq_1 {i : Nat} (hi : i < 10) : sqT.getD (i * 2 + 1) 0 = (sqG i : Int) := ten_cases (P := fun i => sqT.getD (i * 2 + 1) 0 = (sqG i : Int)) (by decide) hi
theorem sq_lt {i : Nat} (hi : i < 10) : sqF i < 4 ∧ sqG i < 4 := ten_cases (P := fun i => sqF i < 4 ∧ sqG i < 4) (by decide) hi
/-- numbers from 0 to B -/
def smN (B : Int) (l : List Int) : Prop := ∀ x ∈ l, 0 ≤ x ∧ x ≤ B
theorem smN_get {B : Int} {l : List Int} (h : smN B l) (hB : 0 ≤ B) (i : Nat) : 0 ≤ l.getD i 0 ∧ l.getD i 0 ≤ B := by
  by_cases hi : i < l.length
  · have : l.getD i 0 = l[i] := by simp [List.getD, hi]
    rw [this]; exact h _ (List.getElem_mem hi)
  · have : l.getD i 0 = 0 := by simp [List.getD, hi]
    rw [this]; omega
theorem smN_norm {p : Int} {l : List Int} (hp : primeB p = true) (h : modB p l = true) : smN 12 l := fun x hx => by
  have := prime_bd hp
  have := mod_list h x hx; omega
theorem smN_point {p : Int} {l : List Int} (h : pointB p l = true) : smN 12 l := by
  simp only [pointB, normB, Bool.and_eq_true] at h
  exact smN_norm h.1 h.2.1
/-- the sum of the first n products -/
def quS (q a : List Int) : Nat → Int
  | 0 => 0
  | n + 1 => quS q a n + q.getD n 0 * a.getD (sqF n) 0 * a.getD (sqG n) 0
theorem quS_bd {q a : List Int} (hq : smN 12 q) (ha : smN 12 a) : ∀ n : Nat, 0 ≤ quS q a n ∧ quS q a n ≤ n * 1728
  | 0 => by simp [quS]
  | n + 1 => by
    have ih := quS_bd hq ha n
    have h1 := smN_get hq (by decide) n
    have h2 := smN_get ha (by decide) (sqF n)
    have h3 := smN_get ha (by decide) (sqG n)
    have h4 := mulN_bds h1.1 h1.2 h2.1 h2.2
    have h5 := mulN_bds h4.1 h4.2 h3.1 h3.2
    simp only [quS, Int.natCast_add, Int.natCast_one, Int.add_mul, Int.one_mul]
    omega
def quV (p : Int) (q a : List Int) : Int := quS q a 10 % p
/-- the products, and their sum -/
def prV (p : Int) (a : List Int) (i : Nat) : Int := a.getD (sqF i) 0 * a.getD (sqG i) 0 % p
def prL (p : Int) (a : List Int) (n : Nat) : List Int := (List.range n).map (prV p a)
theorem prL_snoc (p : Int) (a : List Int) (n : Nat) : prL p a (n + 1) = prL p a n ++ [prV p a n] := by simp [prL, List.range_succ]
theorem prL_len (p : Int) (a : List Int) (n : Nat) : (prL p a n).length = n := by simp [prL]
theorem prL_get {p : Int} {a : List Int} {n i : Nat} (h : i < n) : (prL p a n).getD i 0 = prV p a i := by simp [prL, List.getD, h]
def quT (p : Int) (q a : List Int) : Nat → Int
  | 0 => 0
  | n + 1 => quT p q a n + q.getD n 0 * prV p a n
theorem prV_bd {p : Int} (hp : primeB p = true) (a : List Int) (i : Nat) : 0 ≤ prV p a i ∧ prV p a i ≤ 12 := by
  have hb := prime_bd hp
  have h1 := Int.emod_nonneg (a.getD (sqF i) 0 * a.getD (sqG i) 0) (show p ≠ 0 by omega)
  have h2 := Int.emod_lt_of_pos (a.getD (sqF i) 0 * a.getD (sqG i) 0) (show 0 < p by omega)
  unfold prV
  omega
theorem quT_bd {p : Int} {q a : List Int} (hp : primeB p = true) (hq : smN 12 q) : ∀ n : Nat, 0 ≤ quT p q a n ∧ quT p q a n ≤ n * 144
  | 0 => by simp [quT]
  | n + 1 => by
    have ih := quT_bd (a := a) hp hq n
    have h1 := smN_get hq (by decide) n
    have h2 := prV_bd hp a n
    have h4 := mulN_bds h1.1 h1.2 h2.1 h2.2
    simp only [quT, Int.natCast_add, Int.natCast_one, Int.add_mul, Int.one_mul]
    omega
theorem quT_eq (p : Int) (q a : List Int) : ∀ n : Nat, quT p q a n % p = quS q a n % p
  | 0 => rfl
  | n + 1 => by
    have ih := quT_eq p q a n
    rw [quT, quS, Int.add_emod, ih, Int.add_emod (quS q a n)]
    congr 2
    rw [prV, Int.mul_emod, Int.emod_emod_of_dvd _ (Int.dvd_refl p), ← Int.mul_emod, Int.mul_assoc]
attribute [local irreducible] CW OW QW QOp Con thenP inBlockP

theorem at_con (p : Int) (q a : List Int) (hp : primeB p = true) (hql : q.length = 10) (hal : a.length = 4) (hq : smN 12 q) (ha : smN 12 a) : ConQ Tryd.prog [(0, 2000)] 51 [.arr q, .int p, .arr a] [(2000, .ro 0 sqT)] (.int (quV p q a)) := by
  have hpb := prime_bd hp
  refine conW tab_ok [(0, .arr q), (1, .int p), (2, .arr a)] 0 [2000] [] Tryd.func51 rfl rfl rfl rfl rfl rfl rfl rfl rfl ?_
  refine cR ?_
  iterate 2 refine oBox rfl rfl rfl rfl rfl rfl ?_
  refine oA rfl rfl ?_
  refine oN ?_
  refine cR ?_
  refine oA rfl rfl ?_
  refine oN ?_
  refine CW_seq ?_
  refine cR ?_
  refine oQ (Q_ldra (j := 0) (n := 20) rfl rfl rfl rfl rfl rfl (by decide)) rfl rfl ?_
  refine oM rfl rfl ?_
  refine oN ?_
  refine CW_block ?_
  refine CW_loop (ι := Nat) (fun i => i ≤ 10) (fun i => ⟨[(1, .int p), (3, .ptr 0 0), (5, .ptr 1 0), (7, .int (quS q a i)), (10, .arr sqT), (11, .int (i : Nat))], [(0, .ints 26 q), (1, .ints 23 a), (2000, .ro 0 sqT)], 2⟩) (fun i => 10 - i) 0 ?_ ?_ ?_
  · first | trivial | omega | (simp; done) | (simp; omega)
  · refine View.mk' [] rfl rfl rfl ?_ ?_
    repeat' first | exact vFn | refine vFc rfl ?_ | exact vHn | refine vHc rfl ?_ | refine vFc (congrArg (fun z => some (V.int z)) ?_) ?_ | refine vHc (congrArg (fun z => some (Blk.ints _ z)) ?_) ?_ | refine vFc (congrArg (fun z => some (V.bool z)) ?_) ?_ | refine vFs rfl rfl ?_ ?_
  intro i hi
  have hS := quS_bd hq ha i
  have hi9 : (i : Int) * 1728 ≤ 17280 := by omega
  have hqi := smN_get hq (by decide) i
  have hai := smN_get ha (by decide) (sqF i)
  have haj := smN_get ha (by decide) (sqG i)
  have hlt := fun h : i < 10 => sq_lt h
  refine cR ?_
  refine oQ (Q_bin rfl rfl rfl) rfl rfl ?_
  refine oN ?_
  refine CW_seq ?_
  first | refine cT rfl ?_ | refine cF rfl ?_ | refine CW_cond rfl (fun hc => ?_) (fun hc => ?_)
  all_goals try simp only [s1, s2, s3, s4, s5, s6, s7, s8, s9, s10, s11, s12] at hc
  all_goals first
    | (
     refine CW_skip ?_)
    | (
     refine CW_exit ?_)
  all_goals first
    | with_reducible refine tR ?_
    | with_reducible refine tE ?_
    | (
     with_reducible refine tN ?_
     refine CW_seq ?_
     refine CW_block ?_
     refine cR ?_
     refine oM rfl rfl ?_
     (have hlt := hlt (by omega)); refine oQ (Q_indexz 2 rfl rfl rfl rfl rfl rfl rfl (by omega)) rfl rfl ?_; rw [sq_row (show i < 10 by omega)]
     refine oAlloc rfl rfl rfl rfl rfl rfl rfl ?_
     refine oA rfl rfl ?_
     first | refine oSw rfl rfl rfl rfl ?_ | refine oSa rfl rfl rfl rfl ?_
     refine oN ?_
     refine CW_draw lateOk (by decide +kernel) ?_
     iterate 2 refine qM rfl rfl ?_
     first | refine qQ (Ia0 rfl rfl rfl rfl rfl rfl) rfl rfl ?_ | refine qQ (Ia1 rfl rfl rfl rfl rfl rfl) rfl rfl ?_
     refine qQ (Ld rfl rfl rfl rfl) rfl rfl ?_
     first | refine qQ (Ia0 rfl rfl rfl rfl rfl rfl) rfl rfl ?_ | refine qQ (Ia1 rfl rfl rfl rfl rfl rfl) rfl rfl ?_
     refine qQ (Q_ldc rfl rfl rfl rfl rfl) rfl rfl ?_
     first | refine qQ (Ia0 rfl rfl rfl rfl rfl rfl) rfl rfl ?_ | refine qQ (Ia1 rfl rfl rfl rfl rfl rfl) rfl rfl ?_
     refine qQ (Ld rfl rfl rfl rfl) rfl rfl ?_
     refine qMulN 12 12 rfl rfl (by omega) (by omega) (by decide) rfl (fun z23 hz23 hl23 hu23 => ?_)
     first | refine qQ (Ia0 rfl rfl rfl rfl rfl rfl) rfl rfl ?_ | refine qQ (Ia1 rfl rfl rfl rfl rfl rfl) rfl rfl ?_
     refine qQ (Q_ldc rfl rfl rfl rfl rfl) rfl rfl ?_
     first | refine qQ (Ia0 rfl rfl rfl rfl rfl rfl) rfl rfl ?_ | refine qQ (Ia1 rfl rfl rfl rfl rfl rfl) rfl rfl ?_
     refine qQ (Ld rfl rfl rfl rfl) rfl rfl ?_
     refine qMulN 144 12 rfl rfl (by omega) (by omega) (by decide) rfl (fun z28 hz28 hl28 hu28 => ?_)
     first | refine qQ (Q_binu rfl rfl rfl (by omega)) rfl rfl ?_ | refine qQ (Q_bin rfl rfl rfl) rfl rfl ?_
     refine qA rfl rfl ?_
     refine QW_nil ?_
     all_goals first | with_reducible refine bN ?_ | with_reducible refine bE ?_ | with_reducible refine bR ?_ | refine bX rfl ?_
     all_goals with_reducible refine tN ?_
     all_goals (
      refine CW_region ?_
      first | refine oQ (Q_binu rfl rfl rfl (by omega)) rfl rfl ?_ | refine oQ (Q_bin rfl rfl rfl) rfl rfl ?_
      refine oM rfl rfl ?_
      refine OW_nil ?_))
  all_goals first
    | with_reducible refine tR ?_
    | with_reducible refine tE ?_
    | (
     with_reducible refine tN ?_
     refine ⟨i + 1, ?_, ?_, View.mk' [] rfl rfl rfl ?_ ?_⟩
     · omega
     · omega
     all_goals (repeat' first | exact vFn | refine vFc rfl ?_ | exact vHn | refine vHc rfl ?_ | refine vFc (congrArg (fun z => some (V.int z)) ?_) ?_ | refine vHc (congrArg (fun z => some (Blk.ints _ z)) ?_) ?_ | refine vFc (congrArg (fun z => some (V.bool z)) ?_) ?_ | refine vFs rfl rfl ?_ ?_)
     all_goals subst hz23 hz28
     all_goals rfl)
  all_goals first | with_reducible refine bN ?_ | with_reducible refine bE ?_ | with_reducible refine bR ?_ | refine bX rfl ?_
  all_goals with_reducible refine tN ?_
  all_goals (
   refine cR ?_
   iterate 2 refine oM rfl rfl ?_
   refine oQ (Q_call0 (mod_con _ p (by omega) (by omega)) rfl rfl rfl) rfl rfl ?_
   refine oA rfl rfl ?_
   refine oN ?_
   refine CW_ret ?_)
  all_goals (
   have e : i = 10 := by omega
   subst e
   refine exitQ (.inr rfl) 0 (.cons (.tmp rfl rfl) .nil) ?_ rfl (vHc rfl vHn) rfl rfl
   rfl)
theorem l08Pairs_con  : ConQ Tryd.prog [] 98 [] [] (.arr sqT) := by
  have hsl : sqT.length = 20 := rfl
  refine conW tab_ok [] 0 [] [] Tryd.func98 rfl rfl rfl rfl rfl rfl rfl rfl rfl ?_
  refine cR ?_
  refine oAlloc rfl rfl rfl rfl rfl rfl rfl ?_
  refine oN ?_
  refine cR ?_
  iterate 10 refine oQ (Q_build rfl rfl rfl rfl rfl rfl rfl rfl) rfl rfl ?_
  refine oQ (v := .arr sqT) (Q_build rfl rfl rfl rfl rfl rfl rfl rfl) rfl rfl ?_
  first | refine oSw rfl rfl rfl rfl ?_ | refine oSa rfl rfl rfl rfl ?_
  refine oN ?_
  refine CW_ret ?_
  all_goals (
   ((refine exitQ (.inr rfl) 0 (.cons (.arr rfl rfl rfl rfl (by first | omega | (dsimp only; omega) | (simp; omega) | (simp; done))) .nil) ?_ rfl vHn rfl rfl); rfl))
theorem l08Products_con (p : Int) (a : List Int) (hp : primeB p = true) (hal : a.length = 4) (ha : smN 12 a) : Con Tryd.prog [] 90 [.int p, .arr a] [] (fun r H' => ∃ (k : Nat) (sp : List Int), 10 ≤ k ∧ r = .slice 0 0 10 k ∧ H' = [(0, .ints 2 (prL p a 10 ++ sp))]) := by
  have hpb := prime_bd hp
  have hsl : sqT.length = 20 := rfl
  refine conW tab_ok [(0, .int p), (1, .arr a)] 0 [] [] Tryd.func90 rfl rfl rfl rfl rfl rfl rfl rfl rfl ?_
  refine cR ?_
  refine oBox rfl rfl rfl rfl rfl rfl ?_
  refine oA rfl rfl ?_
  refine oN ?_
  refine cR ?_
  refine oBsl (zl := []) rfl rfl rfl rfl (.inl ⟨rfl, rfl⟩) rfl rfl rfl rfl rfl rfl ?_
  refine oQ (Q_call0 (l08Pairs_con) rfl rfl rfl) rfl rfl ?_
  refine oAlloc rfl rfl rfl rfl rfl rfl rfl ?_
  refine oA rfl rfl ?_
  first | refine oSw rfl rfl rfl rfl ?_ | refine oSa rfl rfl rfl rfl ?_
  refine oN ?_
  refine CW_seq ?_
  refine cR ?_
  refine oA rfl rfl ?_
  refine oN ?_
  refine CW_block ?_
  refine CW_loop (ι := Nat × Nat × List Int) (fun x => x.1 ≤ 10 ∧ x.1 ≤ x.2.1 ∧ x.2.1 ≤ x.1 + x.2.2.length) (fun x => ⟨[(0, .int p), (3, .ptr 0 0), (5, .slice 1 0 x.1 x.2.1), (6, .ptr 2 0), (7, .int (x.1 : Nat))], [(0, .ints 28 a), (1, .ints 2 (prL p a x.1 ++ x.2.2)), (2, .ints 105 sqT)], 3⟩) (fun x => 10 - x.1) (0, 0, []) ?_ ?_ ?_
  · exact ⟨by decide, by decide, by decide⟩
  · refine View.mk' [] rfl rfl rfl ?_ ?_
    repeat' first | exact vFn | refine vFc rfl ?_ | exact vHn | refine vHc rfl ?_ | refine vFc (congrArg (fun z => some (V.int z)) ?_) ?_ | refine vHc (congrArg (fun z => some (Blk.ints _ z)) ?_) ?_ | refine vFc (congrArg (fun z => some (V.bool z)) ?_) ?_ | refine vFs rfl rfl ?_ ?_
  rintro ⟨i, kk, ss⟩ ⟨hi, hk, hsp⟩
  dsimp only at hi hk hsp ⊢
  have hai := smN_get ha (by decide) (sqF i)
  have haj := smN_get ha (by decide) (sqG i)
  have hlt := fun h : i < 10 => sq_lt h
  have hpl : (prL p a i).length = i * 1 := by rw [prL_len, Nat.mul_one]
  refine CW_seq ?_
  refine cR ?_
  refine oM rfl rfl ?_
  refine oQ (Q_bin rfl rfl rfl) rfl rfl ?_
  refine oN ?_
  first | refine cT rfl ?_ | refine cF rfl ?_ | refine CW_cond rfl (fun hc => ?_) (fun hc => ?_)
  all_goals try simp only [s1, s2, s3, s4, s5, s6, s7, s8, s9, s10, s11, s12] at hc
  all_goals first
    | (
     refine CW_skip ?_)
    | (
     refine CW_exit ?_)
  all_goals first
    | with_reducible refine tR ?_
    | with_reducible refine tE ?_
    | (
     with_reducible refine tN ?_
     refine CW_seq ?_
     refine CW_block ?_
     refine CW_any (fun i => List.elem i [17, 18]) 19 rfl lateOk (by decide +kernel) (fun hst => ?_)
     refine aP 0 hst rfl rfl (by decide +kernel) (PX_move rfl rfl) rfl rfl ?_
     refine aP 1 hst rfl rfl (by decide +kernel) (PX_move rfl rfl) rfl rfl ?_
     (have hi10 : i < 10 := by omega); (have hlt := hlt hi10); refine aQ 2 hst rfl rfl (by decide +kernel) (QX_of (Q_ixa0z 2 rfl rfl rfl rfl rfl rfl (by omega)) NE_ix) rfl rfl ?_
     first | refine aQ 3 hst rfl rfl (by decide +kernel) (QX_of (Ia0 rfl rfl rfl rfl rfl rfl) NE_ix) rfl rfl ?_ | refine aQ 3 hst rfl rfl (by decide +kernel) (QX_of (Ia1 rfl rfl rfl rfl rfl rfl) NE_ix) rfl rfl ?_
     refine aQ 4 hst rfl rfl (by decide +kernel) (QX_of (Ld rfl rfl rfl rfl) NE_load) rfl rfl ?_; rw [sq_0 hi10]
     first | refine aQ 5 hst rfl rfl (by decide +kernel) (QX_of (Ia0 rfl rfl rfl rfl rfl rfl) NE_ix) rfl rfl ?_ | refine aQ 5 hst rfl rfl (by decide +kernel) (QX_of (Ia1 rfl rfl rfl rfl rfl rfl) NE_ix) rfl rfl ?_
     refine aQ 6 hst rfl rfl (by decide +kernel) (QX_of (Ld rfl rfl rfl rfl) NE_load) rfl rfl ?_
     refine aP 7 hst rfl rfl (by decide +kernel) (PX_move rfl rfl) rfl rfl ?_
     refine aQ 8 hst rfl rfl (by decide +kernel) (QX_of (Q_ixa0z 2 rfl rfl rfl rfl rfl rfl (by omega)) NE_ix) rfl rfl ?_
     first | refine aQ 9 hst rfl rfl (by decide +kernel) (QX_of (Ia0 rfl rfl rfl rfl rfl rfl) NE_ix) rfl rfl ?_ | refine aQ 9 hst rfl rfl (by decide +kernel) (QX_of (Ia1 rfl rfl rfl rfl rfl rfl) NE_ix) rfl rfl ?_
     refine aQ 10 hst rfl rfl (by decide +kernel) (QX_of (Ld rfl rfl rfl rfl) NE_load) rfl rfl ?_; rw [sq_1 hi10]
     first | refine aQ 11 hst rfl rfl (by decide +kernel) (QX_of (Ia0 rfl rfl rfl rfl rfl rfl) NE_ix) rfl rfl ?_ | refine aQ 11 hst rfl rfl (by decide +kernel) (QX_of (Ia1 rfl rfl rfl rfl rfl rfl) NE_ix) rfl rfl ?_
     refine aQ 12 hst rfl rfl (by decide +kernel) (QX_of (Ld rfl rfl rfl rfl) NE_load) rfl rfl ?_
     refine aMulN 13 hst rfl rfl (by decide +kernel) 12 12 rfl rfl (by omega) (by omega) (by decide) rfl (fun z27 hz27 hl27 hu27 => ?_)
     refine aP 14 hst rfl rfl (by decide +kernel) (PX_move rfl rfl) rfl rfl ?_
     refine aRemN 15 hst rfl rfl (by decide +kernel) rfl rfl (by omega) (by omega) rfl (fun z29 hz29 hl29 hu29 => ?_)
     refine AW_one (i := 16) (by decide +kernel) ?_
     refine gBsl (zl := []) rfl rfl rfl rfl rfl rfl (.inl ⟨rfl, rfl⟩) rfl rfl rfl rfl rfl rfl ?_
     refine AW_last [17, 18] rfl (by decide +kernel) rfl ?_
     refine oApp (sz := 1) (by_ := 8) (xl := [z29]) rfl rfl rfl rfl rfl rfl ⟨by decide, rfl, .inl ⟨rfl, rfl⟩⟩ rfl rfl rfl rfl rfl rfl hpl rfl (by omega) (by omega) (by omega) (by omega) rfl rfl (fun k2 sp2 h1 h2 => ?_)
     refine oA rfl rfl ?_
     refine OW_nil (npN ?_)
     all_goals first | with_reducible refine bN ?_ | with_reducible refine bE ?_ | with_reducible refine bR ?_ | refine bX rfl ?_
     all_goals with_reducible refine tN ?_
     all_goals (
      refine CW_region ?_
      refine oM rfl rfl ?_
      first | refine oQ (Q_binu rfl rfl rfl (by omega)) rfl rfl ?_ | refine oQ (Q_bin rfl rfl rfl) rfl rfl ?_
      refine oA rfl rfl ?_
      refine OW_nil ?_))
  all_goals first
    | with_reducible refine tR ?_
    | with_reducible refine tE ?_
    | (
     with_reducible refine tN ?_
     refine ⟨(i + 1, k2, sp2), ?_, ?_, View.mk' [(1, 4)] rfl rfl rfl ?_ ?_⟩
     · exact ⟨by dsimp only; omega, h1, by dsimp only at *; omega⟩
     · omega
     all_goals (repeat' first | exact vFn | refine vFc rfl ?_ | exact vHn | refine vHc rfl ?_ | refine vFc (congrArg (fun z => some (V.int z)) ?_) ?_ | refine vHc (congrArg (fun z => some (Blk.ints _ z)) ?_) ?_ | refine vFc (congrArg (fun z => some (V.bool z)) ?_) ?_ | refine vFs rfl rfl ?_ ?_)
     all_goals subst hz29 hz27
     all_goals dsimp only
     all_goals first | (rw [prL_snoc]; rfl) | rfl)
  all_goals first | with_reducible refine bN ?_ | with_reducible refine bE ?_ | with_reducible refine bR ?_ | refine bX rfl ?_
  all_goals with_reducible refine tN ?_
  all_goals (
   refine cR ?_
   refine oM rfl rfl ?_
   refine oA rfl rfl ?_
   refine oN ?_
   refine CW_ret ?_)
  all_goals (
   have e : i = 10 := by omega
   subst e
   exact exitH (r0 := .slice 0 0 10 kk) (H0 := [(0, .ints 2 (prL p a 10 ++ ss))]) (.inr rfl) [(0, 1)] 1 (.cons (.tmp rfl rfl) .nil) rfl rfl rfl (vHc rfl vHn) rfl rfl ⟨kk, ss, hk, rfl, rfl⟩)
theorem l08At_con (p : Int) (q a : List Int) (hp : primeB p = true) (hql : q.length = 10) (hal : a.length = 4) (hq : smN 12 q) (ha : smN 12 a) : ConQ Tryd.prog [] 49 [.int p, .arr q, .arr a] [] (.int (quV p q a)) := by
  have hpb := prime_bd hp
  refine conW tab_ok [(0, .int p), (1, .arr q), (2, .arr a)] 0 [] [] Tryd.func49 rfl rfl rfl rfl rfl rfl rfl rfl rfl ?_
  refine cR ?_
  iterate 2 refine oBox rfl rfl rfl rfl rfl rfl ?_
  refine oA rfl rfl ?_
  refine oN ?_
  refine cR ?_
  refine oM rfl rfl ?_
  refine oQ (Q_ldw rfl rfl rfl rfl hal) rfl rfl ?_
  refine oCall (l08Products_con p a hp hal ha) [] 1 rfl rfl (Fits.mk' vHn rfl rfl (by first | (simp; done) | exact glOk rfl rfl rfl)) rfl rfl ?_
  rintro r H1 ⟨k0, sp0, hk0, rfl, rfl⟩
  refine ⟨.slice 2 0 10 k0, [(2, .ints 2 (prL p a 10 ++ sp0))], rfl, rfl, rfl, ?_⟩
  iterate 2 refine oA rfl rfl ?_
  refine oN ?_
  refine CW_seq ?_
  refine cR ?_
  refine oA rfl rfl ?_
  refine oN ?_
  refine CW_block ?_
  refine CW_loop (ι := Nat) (fun i => i ≤ 10) (fun i => ⟨[(0, .int p), (4, .ptr 0 0), (7, .slice 2 0 10 k0), (8, .int (quT p q a i)), (9, .int (i : Nat))], [(0, .ints 26 q), (2, .ints 2 (prL p a 10 ++ sp0))], 3⟩) (fun i => 10 - i) 0 ?_ ?_ ?_
  · first | trivial | omega | (simp; done) | (simp; omega)
  · refine View.mk' [] rfl rfl rfl ?_ ?_
    repeat' first | exact vFn | refine vFc rfl ?_ | exact vHn | refine vHc rfl ?_ | refine vFc (congrArg (fun z => some (V.int z)) ?_) ?_ | refine vHc (congrArg (fun z => some (Blk.ints _ z)) ?_) ?_ | refine vFc (congrArg (fun z => some (V.bool z)) ?_) ?_ | refine vFs rfl rfl ?_ ?_
  intro i hi
  have hS := quT_bd (a := a) hp hq i
  have hqi := smN_get hq (by decide) i
  have hpr := prV_bd hp a i
  have hpl := prL_len p a 10
  have hgt := fun h : i < 10 => show (prL p a 10 ++ sp0).getD i 0 = prV p a i by rw [← prL_get (p := p) (a := a) h]; simp only [List.getD]; rw [List.getElem?_append_left (by rw [hpl]; exact h)]
  refine CW_seq ?_
  refine cR ?_
  refine oM rfl rfl ?_
  refine oQ (Q_bin rfl rfl rfl) rfl rfl ?_
  refine oN ?_
  first | refine cT rfl ?_ | refine cF rfl ?_ | refine CW_cond rfl (fun hc => ?_) (fun hc => ?_)
  all_goals try simp only [s1, s2, s3, s4, s5, s6, s7, s8, s9, s10, s11, s12] at hc
  all_goals first
    | (
     refine CW_skip ?_)
    | (
     refine CW_exit ?_)
  all_goals first
    | with_reducible refine tR ?_
    | with_reducible refine tE ?_
    | (
     with_reducible refine tN ?_
     refine CW_seq ?_
     refine CW_block ?_
     refine CW_draw lateOk (by decide +kernel) ?_
     iterate 2 refine qM rfl rfl ?_
     first | refine qQ (Ia0 rfl rfl rfl rfl rfl rfl) rfl rfl ?_ | refine qQ (Ia1 rfl rfl rfl rfl rfl rfl) rfl rfl ?_
     refine qQ (Ld rfl rfl rfl rfl) rfl rfl ?_
     iterate 2 refine qM rfl rfl ?_
     first | refine qQ (Is0 rfl rfl rfl rfl rfl rfl) rfl rfl ?_ | refine qQ (Is1 rfl rfl rfl rfl rfl rfl) rfl rfl ?_
     refine qQ (Ld rfl rfl rfl rfl) rfl rfl ?_; rw [hgt (by omega)]
     refine qMulN 12 12 rfl rfl (by omega) (by omega) (by decide) rfl (fun z25 hz25 hl25 hu25 => ?_)
     first | refine qQ (Q_binu rfl rfl rfl (by omega)) rfl rfl ?_ | refine qQ (Q_bin rfl rfl rfl) rfl rfl ?_
     refine qA rfl rfl ?_
     refine QW_nil ?_
     all_goals first | with_reducible refine bN ?_ | with_reducible refine bE ?_ | with_reducible refine bR ?_ | refine bX rfl ?_
     all_goals with_reducible refine tN ?_
     all_goals (
      refine CW_region ?_
      refine oM rfl rfl ?_
      first | refine oQ (Q_binu rfl rfl rfl (by omega)) rfl rfl ?_ | refine oQ (Q_bin rfl rfl rfl) rfl rfl ?_
      refine oA rfl rfl ?_
      refine OW_nil ?_))
  all_goals first
    | with_reducible refine tR ?_
    | with_reducible refine tE ?_
    | (
     with_reducible refine tN ?_
     refine ⟨i + 1, ?_, ?_, View.mk' [] rfl rfl rfl ?_ ?_⟩
     · omega
     · omega
     all_goals (repeat' first | exact vFn | refine vFc rfl ?_ | exact vHn | refine vHc rfl ?_ | refine vFc (congrArg (fun z => some (V.int z)) ?_) ?_ | refine vHc (congrArg (fun z => some (Blk.ints _ z)) ?_) ?_ | refine vFc (congrArg (fun z => some (V.bool z)) ?_) ?_ | refine vFs rfl rfl ?_ ?_)
     all_goals subst hz25
     all_goals rfl)
  all_goals first | with_reducible refine bN ?_ | with_reducible refine bE ?_ | with_reducible refine bR ?_ | refine bX rfl ?_
  all_goals with_reducible refine tN ?_
  all_goals (
   refine cR ?_
   iterate 2 refine oM rfl rfl ?_
   refine oRemN rfl rfl (by omega) (by omega) rfl (fun z29 hz29 hl29 hu29 => ?_)
   refine oA rfl rfl ?_
   refine oN ?_
   refine CW_ret ?_)
  all_goals (
   have e : i = 10 := by omega
   subst e
   refine exitQ (.inr rfl) 0 (.cons (.tmp rfl rfl) .nil) ?_ rfl vHn rfl rfl
   subst hz29
   exact congrArg V.int (quT_eq p q a 10))
theorem indexSpot_con (f : Nat) (g : List Int → Bool) (q : Int) (tM tP : TypeId) (M : List Int) (k ck : Nat) (hM : k * 4 ≤ M.length) (hk : k ≤ 1000000000) (hf : ∀ m, m.length = 4 → ConQ Tryd.prog [] f [.arr m, .ptr 1 0] [(1, .ints tP [q])] (.bool (g m))) :
    ConQ Tryd.prog [] 116 [.slice 0 0 k ck, .func f [] [.ptr 1 0]] [(0, .ints tM M), (1, .ints tP [q])] (.int (idxF g 4 M k)) := by
  refine conW tab_ok [(0, .slice 0 0 k ck), (1, .func f [] [.ptr 1 0])] 2 [0, 1] [0, 1] Tryd.func116 rfl rfl rfl rfl rfl rfl rfl rfl rfl ?_
  refine cR ?_
  refine oA rfl rfl ?_
  refine oN ?_
  refine CW_seq ?_
  refine cR ?_
  refine oM rfl rfl ?_
  first | refine oQ (Q_len rfl rfl rfl rfl) rfl rfl ?_ | refine oQ (Q_len0 rfl rfl rfl rfl) rfl rfl ?_
  refine oM rfl rfl ?_
  refine oN ?_
  refine CW_block ?_
  refine CW_loop (ι := Nat) (fun i => i ≤ k ∧ ∀ j, j < i → g (elemAt 4 M j) = false) (fun i => ⟨[(0, .slice 0 0 k ck), (1, .func f [] [.ptr 1 0]), (7, .int k), (8, .int i)], [(0, .ints tM M), (1, .ints tP [q])], 2⟩) (fun i => k - i) 0 ?_ ?_ ?_
  · exact ⟨Nat.zero_le _, fun j h => absurd h (Nat.not_lt_zero _)⟩
  · refine View.mk' [] rfl rfl rfl ?_ ?_
    repeat' first | exact vFn | refine vFc rfl ?_ | exact vHn | refine vHc rfl ?_ | refine vFc (congrArg (fun z => some (V.int z)) ?_) ?_ | refine vHc (congrArg (fun z => some (Blk.ints _ z)) ?_) ?_ | refine vFc (congrArg (fun z => some (V.bool z)) ?_) ?_ | refine vFs rfl rfl ?_ ?_
  rintro i ⟨hi, hi2⟩
  refine cR ?_
  refine oQ (Q_bin rfl rfl rfl) rfl rfl ?_
  refine oN ?_
  refine CW_seq ?_
  first | refine cT rfl ?_ | refine cF rfl ?_ | refine CW_cond rfl (fun hc => ?_) (fun hc => ?_)
  all_goals try simp only [s1, s2, s3, s4, s5, s6, s7, s8, s9, s10, s11, s12] at hc
  all_goals first
    | (
     refine CW_skip ?_)
    | (
     refine CW_exit ?_)
  all_goals first
    | with_reducible refine tR ?_
    | with_reducible refine tE ?_
    | (
     with_reducible refine tN ?_
     refine CW_seq ?_
     refine CW_block ?_
     refine cR ?_
     refine oM rfl rfl ?_
     refine oA rfl rfl ?_
     refine oN ?_
     refine cR ?_
     iterate 3 refine oM rfl rfl ?_
     first | refine oQ (Q_ixs0z 4 rfl rfl rfl rfl rfl rfl (by first | omega | (dsimp only; omega) | (simp; omega) | (simp; done))) rfl rfl ?_ | refine oQ (Q_ixsz 4 rfl rfl rfl rfl rfl rfl (by first | omega | (dsimp only; omega) | (simp; omega) | (simp; done))) rfl rfl ?_
     first | refine oQ (Lw rfl rfl rfl rfl) rfl rfl ?_ | refine oQ (La rfl rfl rfl rfl rfl) rfl rfl ?_
     refine oQ (Q_callf (hf _ (elemAt_length hM (by omega))) [] rfl rfl rfl (Fits.mk' (vHc rfl vHn) rfl rfl (by simp)) rfl rfl) rfl rfl ?_
     refine oN ?_
     first | refine cT rfl ?_ | refine cF rfl ?_ | refine CW_cond rfl (fun hc => ?_) (fun hc => ?_)
     all_goals try simp only [s1, s2, s3, s4, s5, s6, s7, s8, s9, s10, s11, s12] at hc
     all_goals first
       | (
        refine CW_skip ?_)
       | (
        refine cR ?_
        refine oM rfl rfl ?_
        refine oA rfl rfl ?_
        refine oN ?_
        refine CW_ret ?_)
     all_goals first | with_reducible refine bN ?_ | with_reducible refine bE ?_ | with_reducible refine bR ?_ | refine bX rfl ?_
     all_goals first
       | with_reducible refine tR ?_
       | with_reducible refine tE ?_
       | (
        with_reducible refine tN ?_
        refine CW_region ?_
        first | refine oQ (Q_binu rfl rfl rfl (by omega)) rfl rfl ?_ | refine oQ (Q_bin rfl rfl rfl) rfl rfl ?_
        refine oM rfl rfl ?_
        refine OW_nil ?_))
  all_goals first
    | with_reducible refine tR ?_
    | with_reducible refine tE ?_
    | (
     with_reducible refine tN ?_
     refine ⟨i + 1, ?_, ?_, View.mk' [] rfl rfl rfl ?_ ?_⟩
     · refine ⟨by omega, fun j hj => ?_⟩
       by_cases e : j = i
       · subst e; exact hc
       · exact hi2 j (by omega)
     · omega
     all_goals (repeat' first | exact vFn | refine vFc rfl ?_ | exact vHn | refine vHc rfl ?_ | refine vFc (congrArg (fun z => some (V.int z)) ?_) ?_ | refine vHc (congrArg (fun z => some (Blk.ints _ z)) ?_) ?_ | refine vFc (congrArg (fun z => some (V.bool z)) ?_) ?_ | refine vFs rfl rfl ?_ ?_))
  all_goals first | with_reducible refine bN ?_ | with_reducible refine bE ?_ | with_reducible refine bR ?_ | refine bX rfl ?_
  all_goals first
    | with_reducible refine tR ?_
    | with_reducible refine tE ?_
    | (
     with_reducible refine tN ?_
     refine cR ?_
     refine oA rfl rfl ?_
     refine oN ?_
     refine CW_ret ?_)
  all_goals (
   refine exitQ (.inr rfl) 2 (.cons (.tmp rfl rfl) .nil) ?_ rfl (vHc rfl (vHc rfl vHn)) rfl rfl
   first
     | exact congrArg V.int (idx_found (by omega) hi2 hc).symm
     | exact congrArg V.int (idx_none (fun j hj => hi2 j (by omega))).symm)
theorem containsSpot_con (f : Nat) (g : List Int → Bool) (q : Int) (tM tP : TypeId) (M : List Int) (k ck : Nat) (hM : k * 4 ≤ M.length) (hk : k ≤ 1000000000) (hf : ∀ m, m.length = 4 → ConQ Tryd.prog [] f [.arr m, .ptr 1 0] [(1, .ints tP [q])] (.bool (g m))) :
    ConQ Tryd.prog [] 110 [.slice 0 0 k ck, .func f [] [.ptr 1 0]] [(0, .ints tM M), (1, .ints tP [q])] (.bool (anyF g 4 M k)) := by
  refine conW tab_ok [(0, .slice 0 0 k ck), (1, .func f [] [.ptr 1 0])] 2 [0, 1] [0, 1] Tryd.func110 rfl rfl rfl rfl rfl rfl rfl rfl rfl ?_
  refine cR ?_
  refine oA rfl rfl ?_
  refine oN ?_
  refine cR ?_
  iterate 2 refine oM rfl rfl ?_
  refine oQ (Q_call (indexSpot_con f g q tM tP M k ck hM hk hf) [] rfl rfl (Fits.mk' (vHc rfl (vHc rfl vHn)) rfl rfl (by simp)) rfl rfl) rfl rfl ?_
  refine oQ (Q_bin rfl rfl rfl) rfl rfl ?_
  refine oA rfl rfl ?_
  refine oN ?_
  refine CW_ret ?_
  all_goals (
   refine exitQ (.inr rfl) 2 (.cons (.tmp rfl rfl) .nil) ?_ rfl (vHc rfl (vHc rfl vHn)) rfl rfl
   exact congrArg V.bool idx_any)
theorem anyF_not {g : List Int → Bool} {sz : Nat} {M : List Int} {k : Nat} : (!(anyF (fun m => !g m) sz M k)) = allF g sz M k := by
  unfold anyF allF
  rw [List.not_any_eq_all_not]
  congr 1
  funext i
  simp
theorem allF1 {g : List Int → Bool} {sz : Nat} {M : List Int} (h : M.length = sz) : allF g sz M 1 = g M := by
  subst h
  simp [allF, elemAt]
def cdB (p : Int) (b : Bool) : Int := if primeB p = true then (if b = true then 0 else 1) else 2
theorem cdB_zero {p : Int} {b : Bool} : cdB p b = 0 ↔ primeB p = true ∧ b = true := by
  unfold cdB
  cases primeB p <;> cases b <;> simp
theorem areSpots1_con (p : Int) (m : List Int) (hm : m.length = 4) : ConQ Tryd.prog [] 111 [.arr m, .ptr 1 0] [(1, .ints 2 [p])] (.bool (!pointB p m)) := by
  refine conW tab_ok [(0, .arr m), (1, .ptr 1 0)] 2 [1] [1] Tryd.func111 rfl rfl rfl rfl rfl rfl rfl rfl rfl ?_
  refine cR ?_
  refine oBox rfl rfl rfl rfl rfl rfl ?_
  refine oA rfl rfl ?_
  refine oN ?_
  refine cR ?_
  first | refine oQ (Q_ldc rfl rfl rfl rfl rfl) rfl rfl ?_ | refine oQ (Ld rfl rfl rfl rfl) rfl rfl ?_
  refine oQ (Q_ldw rfl rfl rfl rfl hm) rfl rfl ?_
  refine oQ (Q_call0 (impl_IsSpot_con p m hm) rfl rfl rfl) rfl rfl ?_
  refine oQ (Q_not rfl) rfl rfl ?_
  refine oA rfl rfl ?_
  refine oN ?_
  refine CW_ret ?_
  all_goals (
   ((refine exitQ (.inr rfl) 2 (.cons (.tmp rfl rfl) .nil) ?_ rfl (vHc rfl vHn) rfl rfl); rfl))
theorem areSpots_con (p : Int) (M : List Int) (k ck : Nat) (hM : k * 4 ≤ M.length) (hk : k ≤ 1000000000) : ConQ Tryd.prog [] 94 [.int p, .slice 0 0 k ck] [(0, .ints 28 M)] (.bool (allF (pointB p) 4 M k)) := by
  refine conW tab_ok [(0, .int p), (1, .slice 0 0 k ck)] 1 [0] [0] Tryd.func94 rfl rfl rfl rfl rfl rfl rfl rfl rfl ?_
  refine cR ?_
  refine oBox rfl rfl rfl rfl rfl rfl ?_
  refine oA rfl rfl ?_
  refine oN ?_
  refine cR ?_
  refine oM rfl rfl ?_
  refine oQ (Q_makeFunc rfl rfl) rfl rfl ?_
  refine oQ (Q_call (containsSpot_con 111 (fun m => !pointB p m) p 28 2 M k ck hM hk (fun m hm => areSpots1_con p m hm)) [(0, 0), (1, 1)] rfl rfl (Fits.mk' (vHc rfl (vHc rfl vHn)) rfl rfl (by first | (simp; done) | exact glOk rfl rfl rfl)) rfl rfl) rfl rfl ?_
  refine oQ (Q_not rfl) rfl rfl ?_
  refine oA rfl rfl ?_
  refine oN ?_
  refine CW_ret ?_
  all_goals (
   refine exitQ (.inr rfl) 1 (.cons (.tmp rfl rfl) .nil) ?_ rfl (vHc rfl vHn) rfl rfl
   exact congrArg V.bool anyF_not)
theorem quadricCode1_con (p : Int) (q : List Int) (hql : q.length = 10) (M : List Int) (k ck : Nat) (hM : k * 4 ≤ M.length) (hk : k ≤ 1000000000) : ConQ Tryd.prog [] 92 [.ptr 0 0, .ptr 1 0, .ptr 2 0] [(0, .ints 2 [p]), (1, .ints 26 q), (2, .vals 34 [.slice 3 0 k ck]), (3, .ints 28 M)] (.bool (pointB p q && allF (pointB p) 4 M k)) := by
  refine conW tab_ok [(0, .ptr 0 0), (1, .ptr 1 0), (2, .ptr 2 0)] 4 [0, 1, 2, 3] [0, 1, 2, 3] Tryd.func92 rfl rfl rfl rfl rfl rfl rfl rfl rfl ?_
  refine cR ?_
  refine oA rfl rfl ?_
  refine oN ?_
  refine cR ?_
  first | refine oQ (Q_ldc rfl rfl rfl rfl rfl) rfl rfl ?_ | refine oQ (Ld rfl rfl rfl rfl) rfl rfl ?_
  refine oQ (Q_ldw rfl rfl rfl rfl hql) rfl rfl ?_
  refine oQ (Q_call0 (impl_IsQuadric_con p q hql) rfl rfl rfl) rfl rfl ?_
  refine oM rfl rfl ?_
  all_goals first | refine oT rfl rfl ?_ | refine o1 rfl rfl rfl ?_ | refine o0 rfl rfl rfl ?_ | refine ogP1 rfl rfl rfl (fun hg => ?_) (fun hg => ?_) | refine ogP0 rfl rfl rfl (fun hg => ?_) (fun hg => ?_)
  all_goals try simp only [s1, s2, s3, s4, s5, s6, s7, s8, s9, s10, s11, s12] at hg
  all_goals first | refine oQ (Q_ldc rfl rfl rfl rfl rfl) rfl rfl ?_ | refine oQ (Ld rfl rfl rfl rfl) rfl rfl ?_ | skip
  all_goals first | refine oT rfl rfl ?_ | refine o1 rfl rfl rfl ?_ | refine o0 rfl rfl rfl ?_ | refine ogP1 rfl rfl rfl (fun hg => ?_) (fun hg => ?_) | refine ogP0 rfl rfl rfl (fun hg => ?_) (fun hg => ?_)
  all_goals try simp only [s1, s2, s3, s4, s5, s6, s7, s8, s9, s10, s11, s12] at hg
  all_goals first | (refine oQ (Q_ldv rfl rfl rfl rfl rfl rfl) rfl rfl ?_) | skip
  all_goals first | refine oT rfl rfl ?_ | refine o1 rfl rfl rfl ?_ | refine o0 rfl rfl rfl ?_ | refine ogP1 rfl rfl rfl (fun hg => ?_) (fun hg => ?_) | refine ogP0 rfl rfl rfl (fun hg => ?_) (fun hg => ?_)
  all_goals try simp only [s1, s2, s3, s4, s5, s6, s7, s8, s9, s10, s11, s12] at hg
  all_goals first | (refine oQ (Q_call (areSpots_con p M k ck hM hk) [(0, 3)] rfl rfl (Fits.mk' (vHc rfl vHn) rfl rfl (by first | (simp; done) | exact glOk rfl rfl rfl)) rfl rfl) rfl rfl ?_) | skip
  all_goals first | refine oQ (Q_pick_t rfl (by with_reducible rfl) rfl rfl) rfl rfl ?_ | refine oQ (Q_pick_f rfl (by with_reducible rfl) rfl rfl) rfl rfl ?_
  all_goals first | (refine oA rfl rfl ?_)
  all_goals refine oN ?_
  all_goals (
   refine CW_ret ?_)
  all_goals (
   refine exitQ (.inr rfl) 4 (.cons (.tmp rfl rfl) .nil) ?_ rfl (vHc rfl (vHc rfl (vHc rfl (vHc rfl vHn)))) rfl rfl
   simp only [resV, V.bool.injEq]
   have hg' : pointB p q = _ := hg
   first
     | (rw [hg']; rfl)
     | (simp [hg']))
theorem quadricCode_con (p : Int) (q : List Int) (hql : q.length = 10) (M : List Int) (k ck : Nat) (hM : k * 4 ≤ M.length) (hk : k ≤ 1000000000) : ConQ Tryd.prog [] 50 [.int p, .arr q, .slice 0 0 k ck] [(0, .ints 28 M)] (.int (cdB p (pointB p q && allF (pointB p) 4 M k))) := by
  refine conW tab_ok [(0, .int p), (1, .arr q), (2, .slice 0 0 k ck)] 1 [0] [0] Tryd.func50 rfl rfl rfl rfl rfl rfl rfl rfl rfl ?_
  refine cR ?_
  iterate 3 refine oBox rfl rfl rfl rfl rfl rfl ?_
  refine oA rfl rfl ?_
  refine oN ?_
  refine cR ?_
  refine oQ (Ld rfl rfl rfl rfl) rfl rfl ?_
  refine oQ (Q_makeFunc rfl rfl) rfl rfl ?_
  refine oQ (Q_call (planeCode_gen p 92 (pointB p q && allF (pointB p) 4 M k) [.ptr 0 0, .ptr 1 0, .ptr 2 0] [(0, .ints 2 [p]), (1, .ints 26 q), (2, .vals 34 [.slice 3 0 k ck]), (3, .ints 28 M)] 4 (vHc rfl (vHc rfl (vHc rfl (vHc rfl vHn)))) rfl rfl rfl rfl (fun _ => quadricCode1_con p q hql M k ck hM hk)) [(0, 1), (1, 2), (2, 3), (3, 0)] rfl rfl (Fits.mk' (vHc rfl (vHc rfl (vHc rfl (vHc rfl vHn)))) rfl rfl (by first | (simp; done) | exact glOk rfl rfl rfl)) rfl rfl) rfl rfl ?_
  refine oA rfl rfl ?_
  refine oN ?_
  refine CW_ret ?_
  all_goals (
   ((refine exitQ (.inr rfl) 1 (.cons (.tmp rfl rfl) .nil) ?_ rfl (vHc rfl vHn) rfl rfl); rfl))
theorem indexSpot_nil (f : Nat) (L0 : List Int) : ConQ Tryd.prog [] 116 [.nilsl, .func f [] [.ptr 0 0]] [(0, .ints 2 L0)] (.int (-1)) := by
  refine conW tab_ok [(0, .nilsl), (1, .func f [] [.ptr 0 0])] 1 [0] [0] Tryd.func116 rfl rfl rfl rfl rfl rfl rfl rfl rfl ?_
  refine cR ?_
  refine oA rfl rfl ?_
  refine oN ?_
  refine CW_seq ?_
  refine cR ?_
  refine oM rfl rfl ?_
  first | refine oQ (Q_len rfl rfl rfl rfl) rfl rfl ?_ | refine oQ (Q_len0 rfl rfl rfl rfl) rfl rfl ?_
  refine oM rfl rfl ?_
  refine oN ?_
  refine CW_block ?_
  refine CW_loop (ι := Unit) (fun _ => True) (fun _ => ⟨[(0, .nilsl), (1, .func f [] [.ptr 0 0]), (7, .int 0), (8, .int 0)], [(0, .ints 2 L0)], 1⟩) (fun _ => 0) () ?_ ?_ ?_
  · first | trivial | omega | (simp; done) | (simp; omega)
  · refine View.mk' [] rfl rfl rfl ?_ ?_
    repeat' first | exact vFn | refine vFc rfl ?_ | exact vHn | refine vHc rfl ?_ | refine vFc (congrArg (fun z => some (V.int z)) ?_) ?_ | refine vHc (congrArg (fun z => some (Blk.ints _ z)) ?_) ?_ | refine vFc (congrArg (fun z => some (V.bool z)) ?_) ?_ | refine vFs rfl rfl ?_ ?_
  rintro ⟨⟩ _
  refine cR ?_
  refine oQ (Q_bin rfl rfl rfl) rfl rfl ?_
  refine oN ?_
  refine CW_seq ?_
  first | refine cT rfl ?_ | refine cF rfl ?_ | refine CW_cond rfl (fun hc => ?_) (fun hc => ?_)
  all_goals try simp only [s1, s2, s3, s4, s5, s6, s7, s8, s9, s10, s11, s12] at hc
  all_goals try (exfalso; first | omega | (simp at hc; done); done)
  all_goals first
    | (
     refine CW_skip ?_)
    | (
     refine CW_exit ?_)
  all_goals first
    | with_reducible refine tR ?_
    | with_reducible refine tE ?_
    | (
     with_reducible refine tN ?_
     refine CW_seq ?_
     refine CW_block ?_
     refine cR ?_
     refine oM rfl rfl ?_
     refine oA rfl rfl ?_
     refine oN ?_
     refine cR ?_
     iterate 3 refine oM rfl rfl ?_
     first | refine oQ (Q_ixs0z 4 rfl rfl rfl rfl rfl rfl (by first | omega | (dsimp only; omega) | (simp; omega) | (simp; done))) rfl rfl ?_ | refine oQ (Q_ixsz 4 rfl rfl rfl rfl rfl rfl (by first | omega | (dsimp only; omega) | (simp; omega) | (simp; done))) rfl rfl ?_
     first | refine oQ (Lw rfl rfl rfl rfl) rfl rfl ?_ | refine oQ (La rfl rfl rfl rfl rfl) rfl rfl ?_
     (exfalso; omega)
     refine oN ?_
     first | refine cT rfl ?_ | refine cF rfl ?_ | refine CW_cond rfl (fun hc => ?_) (fun hc => ?_)
     all_goals try simp only [s1, s2, s3, s4, s5, s6, s7, s8, s9, s10, s11, s12] at hc
     all_goals try (exfalso; first | omega | (simp at hc; done); done)
     all_goals first
       | (
        refine CW_skip ?_)
       | (
        refine cR ?_
        refine oM rfl rfl ?_
        refine oA rfl rfl ?_
        refine oN ?_
        refine CW_ret ?_)
     all_goals first | with_reducible refine bN ?_ | with_reducible refine bE ?_ | with_reducible refine bR ?_ | refine bX rfl ?_
     all_goals first
       | with_reducible refine tR ?_
       | with_reducible refine tE ?_
       | (
        with_reducible refine tN ?_
        refine CW_region ?_
        first | refine oQ (Q_binu rfl rfl rfl (by omega)) rfl rfl ?_ | refine oQ (Q_bin rfl rfl rfl) rfl rfl ?_
        refine oM rfl rfl ?_
        refine OW_nil ?_))
  all_goals first
    | with_reducible refine tR ?_
    | with_reducible refine tE ?_
    | (
     with_reducible refine tN ?_
     fail "again 0")
  all_goals first | with_reducible refine bN ?_ | with_reducible refine bE ?_ | with_reducible refine bR ?_ | refine bX rfl ?_
  all_goals first
    | with_reducible refine tR ?_
    | with_reducible refine tE ?_
    | (
     with_reducible refine tN ?_
     refine cR ?_
     refine oA rfl rfl ?_
     refine oN ?_
     refine CW_ret ?_)
  all_goals (
   ((refine exitQ (.inr rfl) 1 (.cons (.tmp rfl rfl) .nil) ?_ rfl (vHc rfl vHn) rfl rfl); rfl))
theorem containsSpot_nil (f : Nat) (L0 : List Int) : ConQ Tryd.prog [] 110 [.nilsl, .func f [] [.ptr 0 0]] [(0, .ints 2 L0)] (.bool false) := by
  refine conW tab_ok [(0, .nilsl), (1, .func f [] [.ptr 0 0])] 1 [0] [0] Tryd.func110 rfl rfl rfl rfl rfl rfl rfl rfl rfl ?_
  refine cR ?_
  refine oA rfl rfl ?_
  refine oN ?_
  refine cR ?_
  iterate 2 refine oM rfl rfl ?_
  refine oQ (Q_call (indexSpot_nil f L0) [] rfl rfl (Fits.mk' (vHc rfl vHn) rfl rfl (by first | (simp; done) | exact glOk rfl rfl rfl)) rfl rfl) rfl rfl ?_
  refine oQ (Q_bin rfl rfl rfl) rfl rfl ?_
  refine oA rfl rfl ?_
  refine oN ?_
  refine CW_ret ?_
  all_goals (
   ((refine exitQ (.inr rfl) 1 (.cons (.tmp rfl rfl) .nil) ?_ rfl (vHc rfl vHn) rfl rfl); rfl))
theorem areSpots_nil (p : Int) : ConQ Tryd.prog [] 94 [.int p, .nilsl] [] (.bool true) := by
  refine conW tab_ok [(0, .int p), (1, .nilsl)] 0 [] [] Tryd.func94 rfl rfl rfl rfl rfl rfl rfl rfl rfl ?_
  refine cR ?_
  refine oBox rfl rfl rfl rfl rfl rfl ?_
  refine oA rfl rfl ?_
  refine oN ?_
  refine cR ?_
  refine oM rfl rfl ?_
  refine oQ (Q_makeFunc rfl rfl) rfl rfl ?_
  refine oQ (Q_call (containsSpot_nil 111 [p]) [] rfl rfl (Fits.mk' (vHc rfl vHn) rfl rfl (by first | (simp; done) | exact glOk rfl rfl rfl)) rfl rfl) rfl rfl ?_
  refine oQ (Q_not rfl) rfl rfl ?_
  refine oA rfl rfl ?_
  refine oN ?_
  refine CW_ret ?_
  all_goals (
   ((refine exitQ (.inr rfl) 0 (.cons (.tmp rfl rfl) .nil) ?_ rfl vHn rfl rfl); rfl))
theorem quadricCode1_nil (p : Int) (q : List Int) (hql : q.length = 10) : ConQ Tryd.prog [] 92 [.ptr 0 0, .ptr 1 0, .ptr 2 0] [(0, .ints 2 [p]), (1, .ints 26 q), (2, .vals 34 [.nilsl])] (.bool (pointB p q && true)) := by
  refine conW tab_ok [(0, .ptr 0 0), (1, .ptr 1 0), (2, .ptr 2 0)] 3 [0, 1, 2] [0, 1, 2] Tryd.func92 rfl rfl rfl rfl rfl rfl rfl rfl rfl ?_
  refine cR ?_
  refine oA rfl rfl ?_
  refine oN ?_
  refine cR ?_
  first | refine oQ (Q_ldc rfl rfl rfl rfl rfl) rfl rfl ?_ | refine oQ (Ld rfl rfl rfl rfl) rfl rfl ?_
  refine oQ (Q_ldw rfl rfl rfl rfl hql) rfl rfl ?_
  refine oQ (Q_call0 (impl_IsQuadric_con p q hql) rfl rfl rfl) rfl rfl ?_
  refine oM rfl rfl ?_
  all_goals first | refine oT rfl rfl ?_ | refine o1 rfl rfl rfl ?_ | refine o0 rfl rfl rfl ?_ | refine ogP1 rfl rfl rfl (fun hg => ?_) (fun hg => ?_) | refine ogP0 rfl rfl rfl (fun hg => ?_) (fun hg => ?_)
  all_goals try simp only [s1, s2, s3, s4, s5, s6, s7, s8, s9, s10, s11, s12] at hg
  all_goals first | refine oQ (Q_ldc rfl rfl rfl rfl rfl) rfl rfl ?_ | refine oQ (Ld rfl rfl rfl rfl) rfl rfl ?_ | skip
  all_goals first | refine oT rfl rfl ?_ | refine o1 rfl rfl rfl ?_ | refine o0 rfl rfl rfl ?_ | refine ogP1 rfl rfl rfl (fun hg => ?_) (fun hg => ?_) | refine ogP0 rfl rfl rfl (fun hg => ?_) (fun hg => ?_)
  all_goals try simp only [s1, s2, s3, s4, s5, s6, s7, s8, s9, s10, s11, s12] at hg
  all_goals first | (refine oQ (Q_ldv rfl rfl rfl rfl rfl rfl) rfl rfl ?_) | skip
  all_goals first | refine oT rfl rfl ?_ | refine o1 rfl rfl rfl ?_ | refine o0 rfl rfl rfl ?_ | refine ogP1 rfl rfl rfl (fun hg => ?_) (fun hg => ?_) | refine ogP0 rfl rfl rfl (fun hg => ?_) (fun hg => ?_)
  all_goals try simp only [s1, s2, s3, s4, s5, s6, s7, s8, s9, s10, s11, s12] at hg
  all_goals first | (refine oQ (Q_call0 (areSpots_nil p) rfl rfl rfl) rfl rfl ?_) | skip
  all_goals first | refine oQ (Q_pick_t rfl (by with_reducible rfl) rfl rfl) rfl rfl ?_ | refine oQ (Q_pick_f rfl (by with_reducible rfl) rfl rfl) rfl rfl ?_
  all_goals first | (refine oA rfl rfl ?_)
  all_goals refine oN ?_
  all_goals (
   refine CW_ret ?_)
  all_goals (
   refine exitQ (.inr rfl) 3 (.cons (.tmp rfl rfl) .nil) ?_ rfl (vHc rfl (vHc rfl (vHc rfl vHn))) rfl rfl
   simp only [resV, V.bool.injEq]
   have hg' : pointB p q = _ := hg
   first
     | (rw [hg']; rfl)
     | (simp [hg']))
theorem quadricCode_nil (p : Int) (q : List Int) (hql : q.length = 10) : ConQ Tryd.prog [] 50 [.int p, .arr q, .nilsl] [] (.int (cdB p (pointB p q && true))) := by
  refine conW tab_ok [(0, .int p), (1, .arr q), (2, .nilsl)] 0 [] [] Tryd.func50 rfl rfl rfl rfl rfl rfl rfl rfl rfl ?_
  refine cR ?_
  iterate 3 refine oBox rfl rfl rfl rfl rfl rfl ?_
  refine oA rfl rfl ?_
  refine oN ?_
  refine cR ?_
  refine oQ (Ld rfl rfl rfl rfl) rfl rfl ?_
  refine oQ (Q_makeFunc rfl rfl) rfl rfl ?_
  refine oQ (Q_call (planeCode_gen p 92 (pointB p q && true) [.ptr 0 0, .ptr 1 0, .ptr 2 0] [(0, .ints 2 [p]), (1, .ints 26 q), (2, .vals 34 [.nilsl])] 3 (vHc rfl (vHc rfl (vHc rfl vHn))) rfl rfl rfl rfl (fun _ => quadricCode1_nil p q hql )) [(0, 0), (1, 1), (2, 2)] rfl rfl (Fits.mk' (vHc rfl (vHc rfl (vHc rfl vHn))) rfl rfl (by first | (simp; done) | exact glOk rfl rfl rfl)) rfl rfl) rfl rfl ?_
  refine oA rfl rfl ?_
  refine oN ?_
  refine CW_ret ?_
  all_goals (
   ((refine exitQ (.inr rfl) 0 (.cons (.tmp rfl rfl) .nil) ?_ rfl vHn rfl rfl); rfl))
theorem l08Code_con (p : Int) (q : List Int) (hql : q.length = 10) (M : List Int) (k ck : Nat) (hM : k * 4 ≤ M.length) (hk : k ≤ 1000000000) : ConQ Tryd.prog [] 48 [.int p, .arr q, .slice 0 0 k ck] [(0, .ints 28 M)] (.int (cdB p (pointB p q && allF (pointB p) 4 M k))) := by
  refine conW tab_ok [(0, .int p), (1, .arr q), (2, .slice 0 0 k ck)] 1 [0] [0] Tryd.func48 rfl rfl rfl rfl rfl rfl rfl rfl rfl ?_
  refine cR ?_
  refine oBox rfl rfl rfl rfl rfl rfl ?_
  refine oA rfl rfl ?_
  refine oN ?_
  refine CW_seq ?_
  refine CW_block ?_
  refine cR ?_
  refine oM rfl rfl ?_
  refine oQ (Q_call0 (l01Prime_con p) rfl rfl rfl) rfl rfl ?_
  refine oQ (Q_not rfl) rfl rfl ?_
  refine oA rfl rfl ?_
  refine oN ?_
  first | refine cT rfl ?_ | refine cF rfl ?_ | refine CW_cond rfl (fun hc => ?_) (fun hc => ?_)
  all_goals try simp only [s1, s2, s3, s4, s5, s6, s7, s8, s9, s10, s11, s12] at hc
  all_goals first
    | (
     refine cR ?_
     refine oA rfl rfl ?_
     refine oN ?_
     refine CW_ret ?_)
    | (
     refine cR ?_
     refine oM rfl rfl ?_
     refine oQ (Q_ldw rfl rfl rfl rfl hql) rfl rfl ?_
     refine oQ (Q_call0 (spec_l08Quadric_con p q hql) rfl rfl rfl) rfl rfl ?_
     refine oQ (Q_not rfl) rfl rfl ?_
     refine oA rfl rfl ?_
     refine oN ?_
     first | refine cT rfl ?_ | refine cF rfl ?_ | refine CW_cond rfl (fun hc => ?_) (fun hc => ?_)
     all_goals try simp only [s1, s2, s3, s4, s5, s6, s7, s8, s9, s10, s11, s12] at hc
     all_goals first
       | (
        refine CW_skip ?_)
       | (
        refine cR ?_
        refine oA rfl rfl ?_
        refine oN ?_
        refine CW_ret ?_))
  all_goals first | with_reducible refine bN ?_ | with_reducible refine bE ?_ | with_reducible refine bR ?_ | refine bX rfl ?_
  all_goals first
    | with_reducible refine tR ?_
    | with_reducible refine tE ?_
    | (
     with_reducible refine tN ?_
     refine CW_seq ?_
     refine cR ?_
     refine oA rfl rfl ?_
     refine oN ?_
     refine CW_block ?_
     (have hp : primeB p = true := (by simp_all))
     (have hq : pointB p q = true := (by simp_all [pointB]))
     refine CW_loop (ι := Nat) (fun i => i ≤ k ∧ ∀ j, j < i → pointB p (elemAt 4 M j) = true) (fun i => ⟨[(0, .int p), (2, .slice 0 0 k ck), (7, .int i)], [(0, .ints 28 M)], 1⟩) (fun i => k - i) 0 ?_ ?_ ?_
     · exact ⟨Nat.zero_le _, fun j h => absurd h (Nat.not_lt_zero _)⟩
     · refine View.mk' [] rfl rfl rfl ?_ ?_
       repeat' first | exact vFn | refine vFc rfl ?_ | exact vHn | refine vHc rfl ?_ | refine vFc (congrArg (fun z => some (V.int z)) ?_) ?_ | refine vHc (congrArg (fun z => some (Blk.ints _ z)) ?_) ?_ | refine vFc (congrArg (fun z => some (V.bool z)) ?_) ?_ | refine vFs rfl rfl ?_ ?_
     rintro i ⟨hi, hi2⟩
     refine CW_seq ?_
     refine cR ?_
     iterate 2 refine oM rfl rfl ?_
     first | refine oQ (Q_len rfl rfl rfl rfl) rfl rfl ?_ | refine oQ (Q_len0 rfl rfl rfl rfl) rfl rfl ?_
     refine oQ (Q_bin rfl rfl rfl) rfl rfl ?_
     refine oN ?_
     first | refine cT rfl ?_ | refine cF rfl ?_ | refine CW_cond rfl (fun hc => ?_) (fun hc => ?_)
     all_goals try simp only [s1, s2, s3, s4, s5, s6, s7, s8, s9, s10, s11, s12] at hc
     all_goals first
       | (
        refine CW_skip ?_)
       | (
        refine CW_exit ?_)
     all_goals first
       | with_reducible refine tR ?_
       | with_reducible refine tE ?_
       | (
        with_reducible refine tN ?_
        refine CW_seq ?_
        refine CW_block ?_
        refine cR ?_
        iterate 3 refine oM rfl rfl ?_
        first | refine oQ (Q_ixs0z 4 rfl rfl rfl rfl rfl rfl (by first | omega | (dsimp only; omega) | (simp; omega) | (simp; done))) rfl rfl ?_ | refine oQ (Q_ixsz 4 rfl rfl rfl rfl rfl rfl (by first | omega | (dsimp only; omega) | (simp; omega) | (simp; done))) rfl rfl ?_
        first | refine oQ (Lw rfl rfl rfl rfl) rfl rfl ?_ | refine oQ (La rfl rfl rfl rfl rfl) rfl rfl ?_
        refine oQ (Q_call0 (spec_l08Is_con p _ (elemAt_length hM (by omega))) rfl rfl rfl) rfl rfl ?_
        refine oQ (Q_not rfl) rfl rfl ?_
        refine oN ?_
        first | refine cT rfl ?_ | refine cF rfl ?_ | refine CW_cond rfl (fun hc => ?_) (fun hc => ?_)
        all_goals try simp only [s1, s2, s3, s4, s5, s6, s7, s8, s9, s10, s11, s12] at hc
        all_goals first
          | (
           refine CW_skip ?_)
          | (
           refine cR ?_
           refine oA rfl rfl ?_
           refine oN ?_
           refine CW_ret ?_)
        all_goals first | with_reducible refine bN ?_ | with_reducible refine bE ?_ | with_reducible refine bR ?_ | refine bX rfl ?_
        all_goals first
          | with_reducible refine tR ?_
          | with_reducible refine tE ?_
          | (
           with_reducible refine tN ?_
           refine CW_region ?_
           refine oM rfl rfl ?_
           first | refine oQ (Q_binu rfl rfl rfl (by omega)) rfl rfl ?_ | refine oQ (Q_bin rfl rfl rfl) rfl rfl ?_
           refine oA rfl rfl ?_
           refine OW_nil ?_))
     all_goals first
       | with_reducible refine tR ?_
       | with_reducible refine tE ?_
       | (
        with_reducible refine tN ?_
        refine ⟨i + 1, ?_, ?_, View.mk' [] rfl rfl rfl ?_ ?_⟩
        · refine ⟨by omega, fun j hj => ?_⟩
          by_cases e : j = i
          · subst e; exact hc
          · exact hi2 j (by omega)
        · omega
        all_goals (repeat' first | exact vFn | refine vFc rfl ?_ | exact vHn | refine vHc rfl ?_ | refine vFc (congrArg (fun z => some (V.int z)) ?_) ?_ | refine vHc (congrArg (fun z => some (Blk.ints _ z)) ?_) ?_ | refine vFc (congrArg (fun z => some (V.bool z)) ?_) ?_ | refine vFs rfl rfl ?_ ?_))
     all_goals first | with_reducible refine bN ?_ | with_reducible refine bE ?_ | with_reducible refine bR ?_ | refine bX rfl ?_
     all_goals first
       | with_reducible refine tR ?_
       | with_reducible refine tE ?_
       | (
        with_reducible refine tN ?_
        refine cR ?_
        refine oA rfl rfl ?_
        refine oN ?_
        refine CW_ret ?_))
  all_goals (
   refine exitQ (.inr rfl) 1 (.cons (.tmp rfl rfl) .nil) ?_ rfl (vHc rfl vHn) rfl rfl
   first
     | ((have h9 : allF (pointB p) 4 M k = true := allF_yes (fun j hj => hi2 j (by omega))); simp [resV, cdB, hp, hq, h9]; done)
     | ((have h9 := allF_no (k := k) (i := i) (g := pointB p) (sz := 4) (by omega) hc); simp [resV, cdB, hp, h9]; done)
     | (simp_all [resV, cdB, pointB]; done))
theorem l08Code_nil (p : Int) (q : List Int) (hql : q.length = 10) : ConQ Tryd.prog [] 48 [.int p, .arr q, .nilsl] [] (.int (cdB p (pointB p q && true))) := by
  refine conW tab_ok [(0, .int p), (1, .arr q), (2, .nilsl)] 0 [] [] Tryd.func48 rfl rfl rfl rfl rfl rfl rfl rfl rfl ?_
  refine cR ?_
  refine oBox rfl rfl rfl rfl rfl rfl ?_
  refine oA rfl rfl ?_
  refine oN ?_
  refine CW_seq ?_
  refine CW_block ?_
  refine cR ?_
  refine oM rfl rfl ?_
  refine oQ (Q_call0 (l01Prime_con p) rfl rfl rfl) rfl rfl ?_
  refine oQ (Q_not rfl) rfl rfl ?_
  refine oA rfl rfl ?_
  refine oN ?_
  first | refine cT rfl ?_ | refine cF rfl ?_ | refine CW_cond rfl (fun hc => ?_) (fun hc => ?_)
  all_goals try simp only [s1, s2, s3, s4, s5, s6, s7, s8, s9, s10, s11, s12] at hc
  all_goals try (exfalso; first | omega | (simp at hc; done); done)
  all_goals first
    | (
     refine cR ?_
     refine oA rfl rfl ?_
     refine oN ?_
     refine CW_ret ?_)
    | (
     refine cR ?_
     refine oM rfl rfl ?_
     refine oQ (Q_ldw rfl rfl rfl rfl hql) rfl rfl ?_
     refine oQ (Q_call0 (spec_l08Quadric_con p q hql) rfl rfl rfl) rfl rfl ?_
     refine oQ (Q_not rfl) rfl rfl ?_
     refine oA rfl rfl ?_
     refine oN ?_
     first | refine cT rfl ?_ | refine cF rfl ?_ | refine CW_cond rfl (fun hc => ?_) (fun hc => ?_)
     all_goals try simp only [s1, s2, s3, s4, s5, s6, s7, s8, s9, s10, s11, s12] at hc
     all_goals try (exfalso; first | omega | (simp at hc; done); done)
     all_goals first
       | (
        refine CW_skip ?_)
       | (
        refine cR ?_
        refine oA rfl rfl ?_
        refine oN ?_
        refine CW_ret ?_))
  all_goals first | with_reducible refine bN ?_ | with_reducible refine bE ?_ | with_reducible refine bR ?_ | refine bX rfl ?_
  all_goals first
    | with_reducible refine tR ?_
    | with_reducible refine tE ?_
    | (
     with_reducible refine tN ?_
     refine CW_seq ?_
     refine cR ?_
     refine oA rfl rfl ?_
     refine oN ?_
     refine CW_block ?_
     (have hp : primeB p = true := (by simp_all))
     (have hq : pointB p q = true := (by simp_all [pointB]))
     refine CW_loop (ι := Unit) (fun _ => True) (fun _ => ⟨[(0, .int p), (2, .nilsl), (7, .int 0)], [], 0⟩) (fun _ => 0) () ?_ ?_ ?_
     · first | trivial | omega | (simp; done) | (simp; omega)
     · refine View.mk' [] rfl rfl rfl ?_ ?_
       repeat' first | exact vFn | refine vFc rfl ?_ | exact vHn | refine vHc rfl ?_ | refine vFc (congrArg (fun z => some (V.int z)) ?_) ?_ | refine vHc (congrArg (fun z => some (Blk.ints _ z)) ?_) ?_ | refine vFc (congrArg (fun z => some (V.bool z)) ?_) ?_ | refine vFs rfl rfl ?_ ?_
     rintro ⟨⟩ _
     refine CW_seq ?_
     refine cR ?_
     iterate 2 refine oM rfl rfl ?_
     first | refine oQ (Q_len rfl rfl rfl rfl) rfl rfl ?_ | refine oQ (Q_len0 rfl rfl rfl rfl) rfl rfl ?_
     refine oQ (Q_bin rfl rfl rfl) rfl rfl ?_
     refine oN ?_
     first | refine cT rfl ?_ | refine cF rfl ?_ | refine CW_cond rfl (fun hc => ?_) (fun hc => ?_)
     all_goals try simp only [s1, s2, s3, s4, s5, s6, s7, s8, s9, s10, s11, s12] at hc
     all_goals try (exfalso; first | omega | (simp at hc; done); done)
     all_goals first
       | (
        refine CW_skip ?_)
       | (
        refine CW_exit ?_)
     all_goals first
       | with_reducible refine tR ?_
       | with_reducible refine tE ?_
       | (
        with_reducible refine tN ?_
        refine CW_seq ?_
        refine CW_block ?_
        refine cR ?_
        iterate 3 refine oM rfl rfl ?_
        first | refine oQ (Q_ixs0z 4 rfl rfl rfl rfl rfl rfl (by first | omega | (dsimp only; omega) | (simp; omega) | (simp; done))) rfl rfl ?_ | refine oQ (Q_ixsz 4 rfl rfl rfl rfl rfl rfl (by first | omega | (dsimp only; omega) | (simp; omega) | (simp; done))) rfl rfl ?_
        first | refine oQ (Lw rfl rfl rfl rfl) rfl rfl ?_ | refine oQ (La rfl rfl rfl rfl rfl) rfl rfl ?_
        fail "call of loop.example/g01310/spec.l08Is at slot 28"
        refine oQ (Q_not rfl) rfl rfl ?_
        refine oN ?_
        first | refine cT rfl ?_ | refine cF rfl ?_ | refine CW_cond rfl (fun hc => ?_) (fun hc => ?_)
        all_goals try simp only [s1, s2, s3, s4, s5, s6, s7, s8, s9, s10, s11, s12] at hc
        all_goals try (exfalso; first | omega | (simp at hc; done); done)
        all_goals first
          | (
           refine CW_skip ?_)
          | (
           refine cR ?_
           refine oA rfl rfl ?_
           refine oN ?_
           refine CW_ret ?_)
        all_goals first | with_reducible refine bN ?_ | with_reducible refine bE ?_ | with_reducible refine bR ?_ | refine bX rfl ?_
        all_goals first
          | with_reducible refine tR ?_
          | with_reducible refine tE ?_
          | (
           with_reducible refine tN ?_
           refine CW_region ?_
           refine oM rfl rfl ?_
           first | refine oQ (Q_binu rfl rfl rfl (by omega)) rfl rfl ?_ | refine oQ (Q_bin rfl rfl rfl) rfl rfl ?_
           refine oA rfl rfl ?_
           refine OW_nil ?_))
     all_goals first
       | with_reducible refine tR ?_
       | with_reducible refine tE ?_
       | (
        with_reducible refine tN ?_
        fail "again 0")
     all_goals first | with_reducible refine bN ?_ | with_reducible refine bE ?_ | with_reducible refine bR ?_ | refine bX rfl ?_
     all_goals first
       | with_reducible refine tR ?_
       | with_reducible refine tE ?_
       | (
        with_reducible refine tN ?_
        refine cR ?_
        refine oA rfl rfl ?_
        refine oN ?_
        refine CW_ret ?_))
  all_goals (
   refine exitQ (.inr rfl) 0 (.cons (.tmp rfl rfl) .nil) ?_ rfl vHn rfl rfl
   first
     | (simp [resV, cdB, hp, hq]; done)
     | (simp_all [resV, cdB, pointB]; done))
def iqC (p : Int) (q a : List Int) : Int := cdB p (pointB p q && pointB p a)
def iqV (p : Int) (q a : List Int) : Bool := if iqC p q a = 0 then decide (quV p q a = 0) else false
theorem iqC_zero {p : Int} {q a : List Int} (h : iqC p q a = 0) : primeB p = true ∧ pointB p q = true ∧ pointB p a = true := by
  have := cdB_zero.1 h
  simp only [Bool.and_eq_true] at this
  exact ⟨this.1, this.2.1, this.2.2⟩
theorem impl_IsOnQuadric_con (p : Int) (q a : List Int) (hql : q.length = 10) (hal : a.length = 4) : ConQ Tryd.prog [(0, 2000)] 15 [.int p, .arr q, .arr a] [(2000, .ro 0 sqT)] (.tuple [.bool (iqV p q a), .int (iqC p q a)]) := by
  have hcc := quadricCode_con p q hql a 1 1 (by omega) (by decide)
  rw [allF1 hal] at hcc
  refine conW tab_ok [(0, .int p), (1, .arr q), (2, .arr a)] 0 [2000] [] Tryd.func15 rfl rfl rfl rfl rfl rfl rfl rfl rfl ?_
  refine cR ?_
  iterate 2 refine oBox rfl rfl rfl rfl rfl rfl ?_
  iterate 2 refine oA rfl rfl ?_
  refine oN ?_
  refine CW_seq ?_
  refine cR ?_
  refine oM rfl rfl ?_
  refine oQ (Q_ldw rfl rfl rfl rfl hql) rfl rfl ?_
  refine oQ (Q_ldw rfl rfl rfl rfl hal) rfl rfl ?_
  refine oBsl1 hal rfl rfl rfl rfl rfl rfl rfl rfl rfl rfl ?_
  refine oQ (Q_call (hcc) [(0, 2)] rfl rfl (Fits.mk' (vHc rfl vHn) rfl rfl (by first | (simp; done) | exact glOk rfl rfl rfl)) rfl rfl) rfl rfl ?_
  refine oA rfl rfl ?_
  refine oN ?_
  refine cR ?_
  refine oM rfl rfl ?_
  refine oQ (Q_bin rfl rfl rfl) rfl rfl ?_
  refine oN ?_
  first | refine cT rfl ?_ | refine cF rfl ?_ | refine CW_cond rfl (fun hc => ?_) (fun hc => ?_)
  all_goals try simp only [s1, s2, s3, s4, s5, s6, s7, s8, s9, s10, s11, s12] at hc
  all_goals first
    | (
     refine CW_skip ?_)
    | (
     refine cR ?_
     refine oM rfl rfl ?_
     iterate 2 refine oA rfl rfl ?_
     refine oN ?_
     refine CW_ret ?_)
  all_goals first
    | with_reducible refine tR ?_
    | with_reducible refine tE ?_
    | (
     with_reducible refine tN ?_
     refine cR ?_
     refine oQ (Q_ldw rfl rfl rfl rfl hql) rfl rfl ?_
     refine oM rfl rfl ?_
     refine oQ (Q_ldw rfl rfl rfl rfl hal) rfl rfl ?_
     refine oQ (Q_call (at_con p q a (iqC_zero hc).1 hql hal (smN_point (iqC_zero hc).2.1) (smN_point (iqC_zero hc).2.2)) [] rfl rfl (Fits.mk' (vHc rfl vHn) rfl rfl (by first | (simp; done) | exact glOk rfl rfl rfl)) rfl rfl) rfl rfl ?_
     refine oQ (Q_bin rfl rfl rfl) rfl rfl ?_
     iterate 2 refine oA rfl rfl ?_
     refine oN ?_
     refine CW_ret ?_)
  all_goals (
   refine exitQ (.inr rfl) 0 (.cons (.tmp rfl rfl) (.cons (.tmp rfl rfl) .nil)) ?_ rfl (vHc rfl vHn) rfl rfl
   first
     | ((have hc' : iqC p q a = 0 := hc); simp only [resV, iqV]; rw [if_pos hc']; rw [hc']; rfl)
     | ((have hc' : ¬ iqC p q a = 0 := hc); simp only [resV, iqV]; rw [if_neg hc']; rfl))
theorem spec_IsOnQuadric_con (p : Int) (q a : List Int) (hql : q.length = 10) (hal : a.length = 4) : ConQ Tryd.prog [] 12 [.int p, .arr q, .arr a] [] (.tuple [.bool (iqV p q a), .int (iqC p q a)]) := by
  have hcc := l08Code_con p q hql a 1 1 (by omega) (by decide)
  rw [allF1 hal] at hcc
  refine conW tab_ok [(0, .int p), (1, .arr q), (2, .arr a)] 0 [] [] Tryd.func12 rfl rfl rfl rfl rfl rfl rfl rfl rfl ?_
  refine cR ?_
  iterate 2 refine oBox rfl rfl rfl rfl rfl rfl ?_
  iterate 2 refine oA rfl rfl ?_
  refine oN ?_
  refine CW_seq ?_
  refine cR ?_
  refine oM rfl rfl ?_
  refine oQ (Q_ldw rfl rfl rfl rfl hql) rfl rfl ?_
  refine oQ (Q_ldw rfl rfl rfl rfl hal) rfl rfl ?_
  refine oBsl1 hal rfl rfl rfl rfl rfl rfl rfl rfl rfl rfl ?_
  refine oQ (Q_call (hcc) [(0, 2)] rfl rfl (Fits.mk' (vHc rfl vHn) rfl rfl (by first | (simp; done) | exact glOk rfl rfl rfl)) rfl rfl) rfl rfl ?_
  refine oA rfl rfl ?_
  refine oN ?_
  refine cR ?_
  refine oM rfl rfl ?_
  refine oQ (Q_bin rfl rfl rfl) rfl rfl ?_
  refine oN ?_
  first | refine cT rfl ?_ | refine cF rfl ?_ | refine CW_cond rfl (fun hc => ?_) (fun hc => ?_)
  all_goals try simp only [s1, s2, s3, s4, s5, s6, s7, s8, s9, s10, s11, s12] at hc
  all_goals first
    | (
     refine CW_skip ?_)
    | (
     refine cR ?_
     refine oM rfl rfl ?_
     iterate 2 refine oA rfl rfl ?_
     refine oN ?_
     refine CW_ret ?_)
  all_goals first
    | with_reducible refine tR ?_
    | with_reducible refine tE ?_
    | (
     with_reducible refine tN ?_
     refine cR ?_
     refine oM rfl rfl ?_
     refine oQ (Q_ldw rfl rfl rfl rfl hql) rfl rfl ?_
     refine oQ (Q_ldw rfl rfl rfl rfl hal) rfl rfl ?_
     refine oQ (Q_call0 (l08At_con p q a (iqC_zero hc).1 hql hal (smN_point (iqC_zero hc).2.1) (smN_point (iqC_zero hc).2.2)) rfl rfl rfl) rfl rfl ?_
     refine oQ (Q_bin rfl rfl rfl) rfl rfl ?_
     iterate 2 refine oA rfl rfl ?_
     refine oN ?_
     refine CW_ret ?_)
  all_goals (
   refine exitQ (.inr rfl) 0 (.cons (.tmp rfl rfl) (.cons (.tmp rfl rfl) .nil)) ?_ rfl vHn rfl rfl
   first
     | ((have hc' : iqC p q a = 0 := hc); simp only [resV, iqV]; rw [if_pos hc']; rw [hc']; rfl)
     | ((have hc' : ¬ iqC p q a = 0 := hc); simp only [resV, iqV]; rw [if_neg hc']; rfl))
end Go.Proofs.YtendffbpmpobnaaDoor
