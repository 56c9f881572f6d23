/- Rows and sums of quadrics, of both sides. Printed by gen_d3.py. -/
import Derived.Test.YtendffbpmpobnaaDoorD2
import Derived.Test.YtendffbpmpobnaaDoorEngO
namespace Go.Proofs.YtendffbpmpobnaaDoor
set_option maxRecDepth 10000
set_option linter.unusedSimpArgs false
set_option linter.unusedVariables false
set_option maxHeartbeats 4000000
/-- the rows of a quadric, one behind the other -/
def rwL (p : Int) : List Int → List Int
  | [q0, q1, q2, q3, q4, q5, q6, q7, q8, q9] => [((0 + q0) % p + q0) % p, (0 + q1) % p, (0 + q2) % p, (0 + q3) % p, (0 + q1) % p, ((0 + q4) % p + q4) % p, (0 + q5) % p, (0 + q6) % p, (0 + q2) % p, (0 + q5) % p, ((0 + q7) % p + q7) % p, (0 + q8) % p, (0 + q3) % p, (0 + q6) % p, (0 + q8) % p, ((0 + q9) % p + q9) % p]
  | _ => []
theorem rwL_len {p : Int} {q : List Int} (hql : q.length = 10) : (rwL p q).length = 16 := by
  match q, hql with
  | [q0, q1, q2, q3, q4, q5, q6, q7, q8, q9], _ => rfl
theorem em_bd {p : Int} (hp : primeB p = true) (x : Int) : 0 ≤ x % p ∧ x % p ≤ 12 := by
  have hb := prime_bd hp
  have h1 := Int.emod_nonneg x (show p ≠ 0 by omega)
  have h2 := Int.emod_lt_of_pos x (show 0 < p by omega)
  omega
theorem rwL_sm {p : Int} (hp : primeB p = true) {q : List Int} (hql : q.length = 10) : smN 12 (rwL p q) := by
  match q, hql with
  | [q0, q1, q2, q3, q4, q5, q6, q7, q8, q9], _ =>
    intro x hx
    have h : ∃ y, x = y % p := by
      simp only [rwL, List.mem_cons, List.not_mem_nil, or_false] at hx
      rcases hx with h | h | h | h | h | h | h | h | h | h | h | h | h | h | h | h <;> exact ⟨_, h⟩
    obtain ⟨y, rfl⟩ := h
    exact em_bd hp y
def rwH (p : Int) (q R : List Int) (n : Nat) : List Int := R.set (sqF n * 4 + sqG n) ((R.getD (sqF n * 4 + sqG n) 0 + q.getD n 0) % p)
def rwN (p : Int) (q : List Int) : Nat → List Int
  | 0 => List.replicate 16 0
  | n + 1 => (rwH p q (rwN p q n) n).set (sqG n * 4 + sqF n) (((rwH p q (rwN p q n) n).getD (sqG n * 4 + sqF n) 0 + q.getD n 0) % p)
@[simp] theorem rwN_len (p : Int) (q : List Int) : ∀ n, (rwN p q n).length = 16
  | 0 => rfl
  | n + 1 => by simp [rwN, rwH, rwN_len p q n]
@[simp] theorem rwH_len (p : Int) (q : List Int) (n : Nat) : (rwH p q (rwN p q n) n).length = 16 := by simp [rwH]
theorem smN_set {B : Int} {l : List Int} {i : Nat} {x : Int} (h : smN B l) (hx : 0 ≤ x ∧ x ≤ B) : smN B (l.set i x) := fun y hy => by
  rcases List.mem_or_eq_of_mem_set hy with h1 | rfl
  · exact h y h1
  · exact hx
theorem rwN_smN {p : Int} (hp : primeB p = true) (q : List Int) : ∀ n, smN 12 (rwN p q n)
  | 0 => fun x hx => by rw [List.eq_of_mem_replicate hx]; decide
  | n + 1 => smN_set (smN_set (rwN_smN hp q n) (em_bd hp _)) (em_bd hp _)
theorem rwN_bd {p : Int} (hp : primeB p = true) (q : List Int) (n i : Nat) : 0 ≤ (rwN p q n).getD i 0 ∧ (rwN p q n).getD i 0 ≤ 12 := smN_get (rwN_smN hp q n) (by decide) i
theorem rwH_bd {p : Int} (hp : primeB p = true) (q : List Int) (n i : Nat) : 0 ≤ (rwH p q (rwN p q n) n).getD i 0 ∧ (rwH p q (rwN p q n) n).getD i 0 ≤ 12 := smN_get (smN_set (rwN_smN hp q n) (em_bd hp _)) (by decide) i
theorem rwN_end {p : Int} {q : List Int} (hql : q.length = 10) : rwN p q 10 = rwL p q := by
  match q, hql with
  | [q0, q1, q2, q3, q4, q5, q6, q7, q8, q9], _ => rfl
def suT (R a : List Int) (i : Nat) : Nat → Int
  | 0 => 0
  | k + 1 => suT R a i k + R.getD (i * 4 + k) 0 * a.getD k 0
def suF (p : Int) (R a : List Int) (i k j : Nat) : Int := suT R a j (if j < i then 4 else if j = i then k else 0) % p
def suO (p : Int) (R a : List Int) (i k : Nat) : List Int := [suF p R a i k 0, suF p R a i k 1, suF p R a i k 2, suF p R a i k 3]
def suV (p : Int) (R a : List Int) : List Int := [suT R a 0 4 % p, suT R a 1 4 % p, suT R a 2 4 % p, suT R a 3 4 % p]
@[simp] theorem suO_len (p : Int) (R a : List Int) (i k : Nat) : (suO p R a i k).length = 4 := rfl
@[simp] theorem suV_len (p : Int) (R a : List Int) : (suV p R a).length = 4 := rfl
theorem suO_zero (p : Int) (R a : List Int) : suO p R a 0 0 = [0, 0, 0, 0] := by simp [suO, suF, suT]
theorem suO_next (p : Int) (R a : List Int) (i : Nat) : suO p R a i 4 = suO p R a (i + 1) 0 := by
  have h : ∀ j, suF p R a i 4 j = suF p R a (i + 1) 0 j := fun j => by
    unfold suF
    congr 2
    split
    · rw [if_pos (by omega)]
    · split
      · rw [if_pos (by omega)]
      · rw [if_neg (by omega)]; split <;> rfl
  simp only [suO, h]
theorem suO_end (p : Int) (R a : List Int) : suO p R a 4 0 = suV p R a := by simp [suO, suF, suV]
theorem suO_get {p : Int} {R a : List Int} {i : Nat} (hi : i < 4) (k : Nat) : (suO p R a i k).getD i 0 = suT R a i k % p := by
  have h : i = 0 ∨ i = 1 ∨ i = 2 ∨ i = 3 := by omega
  rcases h with rfl | rfl | rfl | rfl <;> simp [suO, suF]
theorem suO_set {p : Int} {R a : List Int} {i : Nat} (hi : i < 4) (k : Nat) : (suO p R a i k).set i ((suT R a i k % p + R.getD (i * 4 + k) 0 * a.getD k 0) % p) = suO p R a i (k + 1) := by
  have h : i = 0 ∨ i = 1 ∨ i = 2 ∨ i = 3 := by omega
  rcases h with rfl | rfl | rfl | rfl <;> simp [suO, suF, suT]
theorem row4_get {R : List Int} {i k : Nat} (hR : R.length = 16) (hi : i < 4) (hk : k < 4) : ((R.drop (i * 4)).take 4).getD k 0 = R.getD (i * 4 + k) 0 := by
  simp [List.getD, List.getElem?_take, hk, List.getElem?_drop]
section
variable {c : Cx} {s : S}
theorem Q_indexc {dst : Option Tmp} {ty : TypeId} {pos : String} {af : Array Edge} {g : Option (Tmp × Bool)} {t : TypeId} {i ie : TI} {e n j : Nat} {x y : Operand} (sz : Nat) {l m : List Int} (ht : lkT c.T t = some i) (hd : i.d = .array n e) (he : lkT c.T e = some ie) (hed : aggD ie.d = true) (hes : ie.size = sz) (hx : ev c s.F x = some (.arr l)) (hy : (ev c s.F y).bind asN = some j) (h : j < n) (hm : (l.drop (j * sz)).take sz = m) :
    QOp c ⟨dst, .index t x y, ty, pos, af, g⟩ s (.arr m) := by
  subst hm
  exact Q_indexz sz ht hd he hed hes hx hy h
end
attribute [local irreducible] CW OW QW QOp Con thenP inBlockP AW QX RW

theorem rows_con (p : Int) (q : List Int) (hp : primeB p = true) (hql : q.length = 10) (hq : smN 12 q) : ConQ Tryd.prog [(0, 2000)] 65 [.arr q, .int p] [(2000, .ro 0 sqT)] (.arr (rwL p q)) := by
  have hpb := prime_bd hp
  refine conW tab_ok [(0, .arr q), (1, .int p)] 0 [2000] [] Tryd.func65 rfl rfl rfl rfl rfl rfl rfl rfl rfl ?_
  refine cR ?_
  refine oBox rfl rfl rfl rfl rfl rfl ?_
  refine oAlloc rfl rfl rfl rfl rfl rfl rfl ?_
  refine oN ?_
  refine cR ?_
  refine oQ (Q_build rfl rfl rfl rfl rfl rfl rfl rfl) rfl rfl ?_
  refine oAlloc rfl rfl rfl rfl rfl rfl rfl ?_
  first | refine oSw rfl rfl rfl rfl ?_ | refine oSa rfl rfl rfl rfl ?_
  refine oN ?_
  refine CW_seq ?_
  refine cR ?_
  refine oQ (Q_ldra (j := 0) (n := 20) rfl rfl rfl rfl rfl rfl (by decide)) rfl rfl ?_
  refine oM rfl rfl ?_
  refine oN ?_
  refine CW_block ?_
  refine CW_loop (ι := Nat) (fun n => n ≤ 10) (fun n => ⟨[(1, .int p), (2, .ptr 0 0), (4, .ptr 1 0), (5, .ptr 2 0), (11, .arr sqT), (12, .int (n : Nat))], [(0, .ints 26 q), (1, .ints 78 (List.replicate 16 0)), (2, .ints 78 (rwN p q n)), (2000, .ro 0 sqT)], 3⟩) (fun n => 10 - n) 0 ?_ ?_ ?_
  · first | trivial | omega | (simp; done) | (simp; omega)
  · refine View.mk' [] rfl rfl rfl ?_ ?_
    repeat' first | exact vFn | refine vFc rfl ?_ | exact vHn | refine vHc rfl ?_ | refine vFc (congrArg (fun z => some (V.int z)) ?_) ?_ | refine vHc (congrArg (fun z => some (Blk.ints _ z)) ?_) ?_ | refine vFc (congrArg (fun z => some (V.bool z)) ?_) ?_ | refine vFs rfl rfl ?_ ?_
  intro n hn
  have hlt := fun h : n < 10 => sq_lt h
  have hqn := smN_get hq (by decide) n
  have hrl := rwN_len p q n
  have hb1 := rwN_bd hp q n (sqF n * 4 + sqG n)
  have hb2 := rwH_bd hp q n (sqG n * 4 + sqF n)
  have hh := rwH_len p q n
  unfold rwH at hb2 hh
  refine cR ?_
  refine oQ (Q_bin rfl rfl rfl) rfl rfl ?_
  refine oN ?_
  refine CW_seq ?_
  first | refine cT rfl ?_ | refine cF rfl ?_ | refine CW_cond rfl (fun hc => ?_) (fun hc => ?_)
  all_goals try simp only [s1, s2, s3, s4, s5, s6, s7, s8, s9, s10, s11, s12] at hc
  all_goals first
    | (
     refine CW_skip ?_)
    | (
     refine CW_exit ?_)
  all_goals first
    | with_reducible refine tR ?_
    | with_reducible refine tE ?_
    | (
     with_reducible refine tN ?_
     refine CW_seq ?_
     refine CW_block ?_
     refine cR ?_
     refine oM rfl rfl ?_
     (have hlt := hlt (by omega)); refine oQ (Q_indexz 2 rfl rfl rfl rfl rfl rfl rfl (by omega)) rfl rfl ?_; rw [sq_row (show n < 10 by omega)]
     refine oAlloc rfl rfl rfl rfl rfl rfl rfl ?_
     refine oA rfl rfl ?_
     first | refine oSw rfl rfl rfl rfl ?_ | refine oSa rfl rfl rfl rfl ?_
     refine oN ?_
     refine CW_seq ?_
     refine CW_draw lateOk (by decide +kernel) ?_
     first | refine qQ (Ia0 rfl rfl rfl rfl rfl rfl) rfl rfl ?_ | refine qQ (Ia1 rfl rfl rfl rfl rfl rfl) rfl rfl ?_
     refine qQ (Q_ldc rfl rfl rfl rfl rfl) rfl rfl ?_
     first | refine qQ (Ia0 rfl rfl rfl rfl rfl rfl) rfl rfl ?_ | refine qQ (Ia1 rfl rfl rfl rfl rfl rfl) rfl rfl ?_
     refine qQ (Q_ldc rfl rfl rfl rfl rfl) rfl rfl ?_
     iterate 2 refine qA rfl rfl ?_
     refine QW_nil ?_
     all_goals with_reducible refine tN ?_
     all_goals (
      refine CW_seq ?_
      refine CW_any (fun i => List.elem i [15]) 16 rfl lateOk (by decide +kernel) (fun hst => ?_)
      refine aP 0 hst rfl rfl (by decide +kernel) (PX_move rfl rfl) rfl rfl ?_
      refine aP 1 hst rfl rfl (by decide +kernel) (PX_move rfl rfl) rfl rfl ?_
      refine aP 2 hst rfl rfl (by decide +kernel) (PX_move rfl rfl) rfl rfl ?_
      refine aP 3 hst rfl rfl (by decide +kernel) (PX_move rfl rfl) rfl rfl ?_
      first | refine aQ 4 hst rfl rfl (by decide +kernel) (QX_of (Q_ixa0z 4 rfl rfl rfl rfl rfl rfl (by first | omega | (dsimp only; omega) | (simp; omega) | (simp; done))) NE_ix) rfl rfl ?_ | refine aQ 4 hst rfl rfl (by decide +kernel) (QX_of (Q_ixaz 4 rfl rfl rfl rfl rfl rfl (by first | omega | (dsimp only; omega) | (simp; omega) | (simp; done))) NE_ix) rfl rfl ?_
      first | refine aQ 5 hst rfl rfl (by decide +kernel) (QX_of (Ia0 rfl rfl rfl rfl rfl rfl) NE_ix) rfl rfl ?_ | refine aQ 5 hst rfl rfl (by decide +kernel) (QX_of (Ia1 rfl rfl rfl rfl rfl rfl) NE_ix) rfl rfl ?_
      refine aQ 6 hst rfl rfl (by decide +kernel) (QX_of (Ld rfl rfl rfl rfl) NE_load) rfl rfl ?_
      refine aP 7 hst rfl rfl (by decide +kernel) (PX_move rfl rfl) rfl rfl ?_
      first | refine aQ 8 hst rfl rfl (by decide +kernel) (QX_of (Ia0 rfl rfl rfl rfl rfl rfl) NE_ix) rfl rfl ?_ | refine aQ 8 hst rfl rfl (by decide +kernel) (QX_of (Ia1 rfl rfl rfl rfl rfl rfl) NE_ix) rfl rfl ?_
      refine aQ 9 hst rfl rfl (by decide +kernel) (QX_of (Ld rfl rfl rfl rfl) NE_load) rfl rfl ?_
      first | refine aP 10 hst rfl rfl (by decide +kernel) (PX_binu rfl rfl rfl (by omega)) rfl rfl ?_ | refine aP 10 hst rfl rfl (by decide +kernel) (PX_bin rfl rfl rfl) rfl rfl ?_
      refine aP 11 hst rfl rfl (by decide +kernel) (PX_move rfl rfl) rfl rfl ?_
      refine aQ 12 hst rfl rfl (by decide +kernel) (QX_call0 (mod_con _ p (by omega) (by omega)) rfl rfl rfl) rfl rfl ?_
      first | refine aQ 13 hst rfl rfl (by decide +kernel) (QX_of (Q_ixa0z 4 rfl rfl rfl rfl rfl rfl (by first | omega | (dsimp only; omega) | (simp; omega) | (simp; done))) NE_ix) rfl rfl ?_ | refine aQ 13 hst rfl rfl (by decide +kernel) (QX_of (Q_ixaz 4 rfl rfl rfl rfl rfl rfl (by first | omega | (dsimp only; omega) | (simp; omega) | (simp; done))) NE_ix) rfl rfl ?_
      first | refine aQ 14 hst rfl rfl (by decide +kernel) (QX_of (Ia0 rfl rfl rfl rfl rfl rfl) NE_ix) rfl rfl ?_ | refine aQ 14 hst rfl rfl (by decide +kernel) (QX_of (Ia1 rfl rfl rfl rfl rfl rfl) NE_ix) rfl rfl ?_
      refine AW_last [15] rfl (by decide +kernel) rfl ?_
      refine oS rfl rfl rfl rfl rfl ?_
      refine OW_nil (npN ?_)
      all_goals with_reducible refine tN ?_
      all_goals (
       refine CW_any (fun i => List.elem i [15]) 16 rfl lateOk (by decide +kernel) (fun hst => ?_)
       refine aP 0 hst rfl rfl (by decide +kernel) (PX_move rfl rfl) rfl rfl ?_
       refine aP 1 hst rfl rfl (by decide +kernel) (PX_move rfl rfl) rfl rfl ?_
       refine aP 2 hst rfl rfl (by decide +kernel) (PX_move rfl rfl) rfl rfl ?_
       refine aP 3 hst rfl rfl (by decide +kernel) (PX_move rfl rfl) rfl rfl ?_
       first | refine aQ 4 hst rfl rfl (by decide +kernel) (QX_of (Q_ixa0z 4 rfl rfl rfl rfl rfl rfl (by first | omega | (dsimp only; omega) | (simp; omega) | (simp; done))) NE_ix) rfl rfl ?_ | refine aQ 4 hst rfl rfl (by decide +kernel) (QX_of (Q_ixaz 4 rfl rfl rfl rfl rfl rfl (by first | omega | (dsimp only; omega) | (simp; omega) | (simp; done))) NE_ix) rfl rfl ?_
       first | refine aQ 5 hst rfl rfl (by decide +kernel) (QX_of (Ia0 rfl rfl rfl rfl rfl rfl) NE_ix) rfl rfl ?_ | refine aQ 5 hst rfl rfl (by decide +kernel) (QX_of (Ia1 rfl rfl rfl rfl rfl rfl) NE_ix) rfl rfl ?_
       refine aQ 6 hst rfl rfl (by decide +kernel) (QX_of (Ld rfl rfl rfl rfl) NE_load) rfl rfl ?_
       refine aP 7 hst rfl rfl (by decide +kernel) (PX_move rfl rfl) rfl rfl ?_
       first | refine aQ 8 hst rfl rfl (by decide +kernel) (QX_of (Ia0 rfl rfl rfl rfl rfl rfl) NE_ix) rfl rfl ?_ | refine aQ 8 hst rfl rfl (by decide +kernel) (QX_of (Ia1 rfl rfl rfl rfl rfl rfl) NE_ix) rfl rfl ?_
       refine aQ 9 hst rfl rfl (by decide +kernel) (QX_of (Ld rfl rfl rfl rfl) NE_load) rfl rfl ?_
       first | refine aP 10 hst rfl rfl (by decide +kernel) (PX_binu rfl rfl rfl (by omega)) rfl rfl ?_ | refine aP 10 hst rfl rfl (by decide +kernel) (PX_bin rfl rfl rfl) rfl rfl ?_
       refine aP 11 hst rfl rfl (by decide +kernel) (PX_move rfl rfl) rfl rfl ?_
       refine aQ 12 hst rfl rfl (by decide +kernel) (QX_call0 (mod_con _ p (by omega) (by omega)) rfl rfl rfl) rfl rfl ?_
       first | refine aQ 13 hst rfl rfl (by decide +kernel) (QX_of (Q_ixa0z 4 rfl rfl rfl rfl rfl rfl (by first | omega | (dsimp only; omega) | (simp; omega) | (simp; done))) NE_ix) rfl rfl ?_ | refine aQ 13 hst rfl rfl (by decide +kernel) (QX_of (Q_ixaz 4 rfl rfl rfl rfl rfl rfl (by first | omega | (dsimp only; omega) | (simp; omega) | (simp; done))) NE_ix) rfl rfl ?_
       first | refine aQ 14 hst rfl rfl (by decide +kernel) (QX_of (Ia0 rfl rfl rfl rfl rfl rfl) NE_ix) rfl rfl ?_ | refine aQ 14 hst rfl rfl (by decide +kernel) (QX_of (Ia1 rfl rfl rfl rfl rfl rfl) NE_ix) rfl rfl ?_
       refine AW_last [15] rfl (by decide +kernel) rfl ?_
       refine oS rfl rfl rfl rfl rfl ?_
       refine OW_nil (npN ?_)))
     all_goals first | with_reducible refine bN ?_ | with_reducible refine bE ?_ | with_reducible refine bR ?_ | refine bX rfl ?_
     all_goals with_reducible refine tN ?_
     all_goals (
      refine CW_region ?_
      first | refine oQ (Q_binu rfl rfl rfl (by omega)) rfl rfl ?_ | refine oQ (Q_bin rfl rfl rfl) rfl rfl ?_
      refine oM rfl rfl ?_
      refine OW_nil ?_))
  all_goals first
    | with_reducible refine tR ?_
    | with_reducible refine tE ?_
    | (
     with_reducible refine tN ?_
     refine ⟨n + 1, ?_, ?_, View.mk' [] rfl rfl rfl ?_ ?_⟩
     · omega
     · omega
     all_goals (repeat' first | exact vFn | refine vFc rfl ?_ | exact vHn | refine vHc rfl ?_ | refine vFc (congrArg (fun z => some (V.int z)) ?_) ?_ | refine vHc (congrArg (fun z => some (Blk.ints _ z)) ?_) ?_ | refine vFc (congrArg (fun z => some (V.bool z)) ?_) ?_ | refine vFs rfl rfl ?_ ?_)
     all_goals rfl)
  all_goals first | with_reducible refine bN ?_ | with_reducible refine bE ?_ | with_reducible refine bR ?_ | refine bX rfl ?_
  all_goals with_reducible refine tN ?_
  all_goals (
   refine cR ?_
   first | refine oQ (Lw rfl rfl rfl rfl) rfl rfl ?_ | refine oQ (La rfl rfl rfl rfl rfl) rfl rfl ?_
   first | refine oSw rfl rfl rfl rfl ?_ | refine oSa rfl rfl rfl rfl ?_
   refine oN ?_
   refine CW_ret ?_)
  all_goals (
   have e : n = 10 := by omega
   subst e
   refine exitQ (.inr rfl) 0 (.cons (.arr rfl rfl rfl rfl (by first | omega | (dsimp only; omega) | (simp; omega) | (simp; done))) .nil) ?_ rfl (vHc rfl vHn) rfl rfl
   rw [← rwN_end hql]
   rfl)
theorem sums_con (p : Int) (q a : List Int) (hp : primeB p = true) (hql : q.length = 10) (hal : a.length = 4) (hq : smN 12 q) (ha : smN 12 a) : ConQ Tryd.prog [(0, 2000)] 55 [.arr q, .int p, .arr a] [(2000, .ro 0 sqT)] (.arr (suV p (rwL p q) a)) := by
  have hpb := prime_bd hp
  have hR := rwL_len (p := p) hql
  have hRs := rwL_sm hp hql
  have hrw := rows_con p q hp hql hq
  generalize rwL p q = R at *
  refine conW tab_ok [(0, .arr q), (1, .int p), (2, .arr a)] 0 [2000] [] Tryd.func55 rfl rfl rfl rfl rfl rfl rfl rfl rfl ?_
  refine cR ?_
  iterate 2 refine oBox rfl rfl rfl rfl rfl rfl ?_
  refine oAlloc rfl rfl rfl rfl rfl rfl rfl ?_
  refine oN ?_
  refine cR ?_
  refine oQ (Q_build rfl rfl rfl rfl rfl rfl rfl rfl) rfl rfl ?_
  refine oAlloc rfl rfl rfl rfl rfl rfl rfl ?_
  first | refine oSw rfl rfl rfl rfl ?_ | refine oSa rfl rfl rfl rfl ?_
  refine oN ?_
  refine CW_seq ?_
  refine cR ?_
  refine oQ (Q_ldw rfl rfl rfl rfl hql) rfl rfl ?_
  refine oM rfl rfl ?_
  refine oQ (Q_call (hrw) [] rfl rfl (Fits.mk' (vHc rfl vHn) rfl rfl (by first | (simp; done) | exact glOk rfl rfl rfl)) rfl rfl) rfl rfl ?_
  refine oM rfl rfl ?_
  refine oN ?_
  refine CW_block ?_
  refine CW_loop (ι := Nat) (fun i => i ≤ 4) (fun i => ⟨[(1, .int p), (5, .ptr 1 0), (6, .ptr 2 0), (7, .ptr 3 0), (15, .arr R), (16, .int (i : Nat))], [(0, .ints 26 q), (1, .ints 23 a), (2, .ints 28 [0, 0, 0, 0]), (3, .ints 28 (suO p R a i 0)), (2000, .ro 0 sqT)], 4⟩) (fun i => 4 - i) 0 ?_ ?_ ?_
  · first | trivial | omega | (simp; done) | (simp; omega)
  · refine View.mk' [] rfl rfl rfl ?_ ?_
    repeat' first | exact vFn | refine vFc rfl ?_ | exact vHn | refine vHc rfl ?_ | refine vFc (congrArg (fun z => some (V.int z)) ?_) ?_ | refine vHc (congrArg (fun z => some (Blk.ints _ z)) ?_) ?_ | refine vFc (congrArg (fun z => some (V.bool z)) ?_) ?_ | refine vFs rfl rfl ?_ ?_
    all_goals rw [suO_zero]
  intro i hi
  have hrl : i < 4 → ((R.drop (i * 4)).take 4).length = 4 := fun h => by rw [List.length_take, List.length_drop, hR]; omega
  refine cR ?_
  refine oQ (Q_bin rfl rfl rfl) rfl rfl ?_
  refine oN ?_
  refine CW_seq ?_
  first | refine cT rfl ?_ | refine cF rfl ?_ | refine CW_cond rfl (fun hc => ?_) (fun hc => ?_)
  all_goals try simp only [s1, s2, s3, s4, s5, s6, s7, s8, s9, s10, s11, s12] at hc
  all_goals first
    | (
     refine CW_skip ?_)
    | (
     refine CW_exit ?_)
  all_goals first
    | with_reducible refine tR ?_
    | with_reducible refine tE ?_
    | (
     with_reducible refine tN ?_
     refine CW_seq ?_
     refine CW_block ?_
     refine cR ?_
     refine oM rfl rfl ?_
     (have hi4 : i < 4 := by omega); (have hrl := hrl hi4); refine oQ (Q_indexz 4 rfl rfl rfl rfl rfl rfl rfl (by omega)) rfl rfl ?_
     refine oAlloc rfl rfl rfl rfl rfl rfl rfl ?_
     refine oA rfl rfl ?_
     first | refine oSw rfl rfl rfl rfl ?_ | refine oSa rfl rfl rfl rfl ?_
     refine oN ?_
     refine cR ?_
     refine oQ (Q_ldw rfl rfl rfl rfl hrl) rfl rfl ?_
     refine oM rfl rfl ?_
     refine oN ?_
     refine CW_block ?_
     refine CW_loop (ι := Nat) (fun k => k ≤ 4) (fun k => ⟨[(1, .int p), (5, .ptr 1 0), (6, .ptr 2 0), (7, .ptr 3 0), (8, .int (i : Nat)), (15, .arr R), (16, .int (i : Nat)), (20, .arr ((R.drop (i * 4)).take 4)), (21, .int (k : Nat))], [(0, .ints 26 q), (1, .ints 23 a), (2, .ints 28 [0, 0, 0, 0]), (3, .ints 28 (suO p R a i k)), (4, .ints 23 ((R.drop (i * 4)).take 4)), (2000, .ro 0 sqT)], 5⟩) (fun k => 4 - k) 0 ?_ ?_ ?_
     · first | trivial | omega | (simp; done) | (simp; omega)
     · refine View.mk' [] rfl rfl rfl ?_ ?_
       repeat' first | exact vFn | refine vFc rfl ?_ | exact vHn | refine vHc rfl ?_ | refine vFc (congrArg (fun z => some (V.int z)) ?_) ?_ | refine vHc (congrArg (fun z => some (Blk.ints _ z)) ?_) ?_ | refine vFc (congrArg (fun z => some (V.bool z)) ?_) ?_ | refine vFs rfl rfl ?_ ?_
     intro k hk
     have hsg := suO_get (p := p) (R := R) (a := a) hi4 k
     have hsb := em_bd hp (suT R a i k)
     have hrb := smN_get hRs (by decide) (i * 4 + k)
     have hab := smN_get ha (by decide) k
     refine cR ?_
     refine oQ (Q_bin rfl rfl rfl) rfl rfl ?_
     refine oN ?_
     refine CW_seq ?_
     first | refine cT rfl ?_ | refine cF rfl ?_ | refine CW_cond rfl (fun hc => ?_) (fun hc => ?_)
     all_goals try simp only [s1, s2, s3, s4, s5, s6, s7, s8, s9, s10, s11, s12] at hc
     all_goals first
       | (
        refine CW_skip ?_)
       | (
        refine CW_exit ?_)
     all_goals first
       | with_reducible refine tR ?_
       | with_reducible refine tE ?_
       | (
        with_reducible refine tN ?_
        refine CW_seq ?_
        refine CW_block ?_
        refine cR ?_
        refine oM rfl rfl ?_
        (have hk4 : k < 4 := by omega); refine oQ (Q_index1 rfl rfl rfl rfl rfl rfl rfl (by omega) (by omega)) rfl rfl ?_; rw [row4_get hR hi4 hk4]
        iterate 2 refine oA rfl rfl ?_
        refine oN ?_
        refine CW_any (fun i => List.elem i [13]) 14 rfl lateOk (by decide +kernel) (fun hst => ?_)
        refine aP 0 hst rfl rfl (by decide +kernel) (PX_move rfl rfl) rfl rfl ?_
        refine aP 1 hst rfl rfl (by decide +kernel) (PX_move rfl rfl) rfl rfl ?_
        first | refine aQ 2 hst rfl rfl (by decide +kernel) (QX_of (Ia0 rfl rfl rfl rfl rfl rfl) NE_ix) rfl rfl ?_ | refine aQ 2 hst rfl rfl (by decide +kernel) (QX_of (Ia1 rfl rfl rfl rfl rfl rfl) NE_ix) rfl rfl ?_
        refine aQ 3 hst rfl rfl (by decide +kernel) (QX_of (Ld rfl rfl rfl rfl) NE_load) rfl rfl ?_; rw [hsg]
        refine aP 4 hst rfl rfl (by decide +kernel) (PX_move rfl rfl) rfl rfl ?_
        refine aP 5 hst rfl rfl (by decide +kernel) (PX_move rfl rfl) rfl rfl ?_
        first | refine aQ 6 hst rfl rfl (by decide +kernel) (QX_of (Ia0 rfl rfl rfl rfl rfl rfl) NE_ix) rfl rfl ?_ | refine aQ 6 hst rfl rfl (by decide +kernel) (QX_of (Ia1 rfl rfl rfl rfl rfl rfl) NE_ix) rfl rfl ?_
        refine aQ 7 hst rfl rfl (by decide +kernel) (QX_of (Ld rfl rfl rfl rfl) NE_load) rfl rfl ?_
        refine aMulN 8 hst rfl rfl (by decide +kernel) 12 12 rfl rfl (by omega) (by omega) (by decide) rfl (fun z33 hz33 hl33 hu33 => ?_)
        first | refine aP 9 hst rfl rfl (by decide +kernel) (PX_binu rfl rfl rfl (by omega)) rfl rfl ?_ | refine aP 9 hst rfl rfl (by decide +kernel) (PX_bin rfl rfl rfl) rfl rfl ?_
        refine aP 10 hst rfl rfl (by decide +kernel) (PX_move rfl rfl) rfl rfl ?_
        refine aQ 11 hst rfl rfl (by decide +kernel) (QX_call0 (mod_con _ p (by omega) (by omega)) rfl rfl rfl) rfl rfl ?_
        first | refine aQ 12 hst rfl rfl (by decide +kernel) (QX_of (Ia0 rfl rfl rfl rfl rfl rfl) NE_ix) rfl rfl ?_ | refine aQ 12 hst rfl rfl (by decide +kernel) (QX_of (Ia1 rfl rfl rfl rfl rfl rfl) NE_ix) rfl rfl ?_
        refine AW_last [13] rfl (by decide +kernel) rfl ?_
        refine oS rfl rfl rfl rfl rfl ?_
        refine OW_nil (npN ?_)
        all_goals first | with_reducible refine bN ?_ | with_reducible refine bE ?_ | with_reducible refine bR ?_ | refine bX rfl ?_
        all_goals with_reducible refine tN ?_
        all_goals (
         refine CW_region ?_
         first | refine oQ (Q_binu rfl rfl rfl (by omega)) rfl rfl ?_ | refine oQ (Q_bin rfl rfl rfl) rfl rfl ?_
         refine oM rfl rfl ?_
         refine OW_nil ?_))
     all_goals first
       | with_reducible refine tR ?_
       | with_reducible refine tE ?_
       | (
        with_reducible refine tN ?_
        refine ⟨k + 1, ?_, ?_, View.mk' [] rfl rfl rfl ?_ ?_⟩
        · omega
        · omega
        all_goals (repeat' first | exact vFn | refine vFc rfl ?_ | exact vHn | refine vHc rfl ?_ | refine vFc (congrArg (fun z => some (V.int z)) ?_) ?_ | refine vHc (congrArg (fun z => some (Blk.ints _ z)) ?_) ?_ | refine vFc (congrArg (fun z => some (V.bool z)) ?_) ?_ | refine vFs rfl rfl ?_ ?_)
        all_goals subst hz33
        all_goals exact suO_set hi4 k)
     all_goals first | with_reducible refine bN ?_ | with_reducible refine bE ?_ | with_reducible refine bR ?_ | refine bX rfl ?_
     all_goals first | with_reducible refine bN ?_ | with_reducible refine bE ?_ | with_reducible refine bR ?_ | refine bX rfl ?_
     all_goals with_reducible refine tN ?_
     all_goals (
      refine CW_region ?_
      first | refine oQ (Q_binu rfl rfl rfl (by omega)) rfl rfl ?_ | refine oQ (Q_bin rfl rfl rfl) rfl rfl ?_
      refine oM rfl rfl ?_
      refine OW_nil ?_))
  all_goals first
    | with_reducible refine tR ?_
    | with_reducible refine tE ?_
    | (
     with_reducible refine tN ?_
     refine ⟨i + 1, ?_, ?_, View.mk' [] rfl rfl rfl ?_ ?_⟩
     · omega
     · omega
     all_goals (repeat' first | exact vFn | refine vFc rfl ?_ | exact vHn | refine vHc rfl ?_ | refine vFc (congrArg (fun z => some (V.int z)) ?_) ?_ | refine vHc (congrArg (fun z => some (Blk.ints _ z)) ?_) ?_ | refine vFc (congrArg (fun z => some (V.bool z)) ?_) ?_ | refine vFs rfl rfl ?_ ?_)
     all_goals (have e : k = 4 := by omega)
     all_goals subst e
     all_goals exact suO_next p R a i)
  all_goals first | with_reducible refine bN ?_ | with_reducible refine bE ?_ | with_reducible refine bR ?_ | refine bX rfl ?_
  all_goals with_reducible refine tN ?_
  all_goals (
   refine cR ?_
   first | refine oQ (Lw rfl rfl rfl rfl) rfl rfl ?_ | refine oQ (La rfl rfl rfl rfl rfl) rfl rfl ?_
   first | refine oSw rfl rfl rfl rfl ?_ | refine oSa rfl rfl rfl rfl ?_
   refine oN ?_
   refine CW_ret ?_)
  all_goals (
   have e : i = 4 := by omega
   subst e
   refine exitQ (.inr rfl) 0 (.cons (.arr rfl rfl rfl rfl (by first | omega | (dsimp only; omega) | (simp; omega) | (simp; done))) .nil) ?_ rfl (vHc rfl vHn) rfl rfl
   rw [← suO_end]
   rfl)
end Go.Proofs.YtendffbpmpobnaaDoor
