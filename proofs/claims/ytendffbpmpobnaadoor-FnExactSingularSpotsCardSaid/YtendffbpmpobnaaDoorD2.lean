/- All spots of space; the spots of quadrics. Printed by gen_d2.py. -/
import Derived.Test.YtendffbpmpobnaaDoorD1
import Derived.Test.YtendffbpmpobnaaDoorQ4
namespace Go.Proofs.YtendffbpmpobnaaDoor
set_option maxRecDepth 10000
set_option linter.unusedSimpArgs false
set_option linter.unusedVariables false
def toI (l : List Nat) : List Int := l.map fun n : Nat => (n : Int)
def digN (n i : Nat) : List Nat := [i / (n * n * n), i / (n * n) % n, i / n % n, i % n]
def fnzN : List Nat → Nat
  | [] => 0
  | a :: r => match a with
    | 0 => fnzN r
    | b + 1 => b + 1
def normN (n : Nat) (l : List Nat) : Bool := (l.all fun x => Nat.blt x n) && (fnzN l).beq 1
theorem fnz_toI : ∀ l : List Nat, fnz (toI l) = (fnzN l : Int)
  | [] => rfl
  | a :: r => by
    have ih := fnz_toI r
    cases a with
    | zero => simpa [toI, fnz, fnzN] using ih
    | succ b => simp [toI, fnz, fnzN]; omega
theorem norm_toI (n : Nat) (l : List Nat) (hn : 1 ≤ n) : normB (n : Int) (toI l) = normN n l := by
  unfold normB normN
  rw [fnz_toI]
  congr 1
  · rw [modB, toI, List.all_map]
    congr 1
    funext x
    simp only [Function.comp]
    rw [Bool.eq_iff_iff, Bool.and_eq_true, decide_eq_true_eq, decide_eq_true_eq, Nat.blt_eq]
    omega
  · rw [Bool.eq_iff_iff, beq_iff_eq, Nat.beq_eq]
    omega
/-- one digit of a code after another, from behind -/
def ownT (n ld code : Nat) : Nat → List Nat
  | 0 => [0, 0, 0, 0].set ld 1
  | t + 1 => (ownT n ld code t).set (3 - t) (code / n ^ t % n)
theorem ownT_len (n ld code : Nat) : ∀ t, (ownT n ld code t).length = 4
  | 0 => by simp [ownT]
  | t + 1 => by rw [ownT, List.length_set, ownT_len n ld code t]
def rowS (n j : Nat) : List (List Nat) := (List.range (n ^ j)).map fun c => ownT n (3 - j) c j
def allS (n j : Nat) : List (List Nat) := (List.range j).flatMap (rowS n)
theorem allS_succ (n j : Nat) : allS n (j + 1) = allS n j ++ rowS n j := by simp [allS, List.range_succ]
def codeS (n : Nat) : List (List Nat) := (List.range (n * n * n * n)).map (digN n)
def eqLN : List Nat → List Nat → Bool
  | [], [] => true
  | a :: r, b :: s => a.beq b && eqLN r s
  | _, _ => false
def eqLL : List (List Nat) → List (List Nat) → Bool
  | [], [] => true
  | a :: r, b :: s => eqLN a b && eqLL r s
  | _, _ => false
theorem eqLN_eq : ∀ {a b : List Nat}, eqLN a b = true → a = b
  | [], [], _ => rfl
  | [], _ :: _, h => by simp [eqLN] at h
  | _ :: _, [], h => by simp [eqLN] at h
  | a :: r, b :: s, h => by
    simp only [eqLN, Bool.and_eq_true] at h
    rw [Nat.eq_of_beq_eq_true h.1, eqLN_eq h.2]
theorem eqLL_eq : ∀ {a b : List (List Nat)}, eqLL a b = true → a = b
  | [], [], _ => rfl
  | [], _ :: _, h => by simp [eqLL] at h
  | _ :: _, [], h => by simp [eqLL] at h
  | a :: r, b :: s, h => by
    simp only [eqLL, Bool.and_eq_true] at h
    rw [eqLN_eq h.1, eqLL_eq h.2]
theorem spots_3 : eqLL ((codeS 3).filter (normN 3)) (allS 3 4) = true := by decide +kernel
theorem spots_5 : eqLL ((codeS 5).filter (normN 5)) (allS 5 4) = true := by decide +kernel
theorem spots_7 : eqLL ((codeS 7).filter (normN 7)) (allS 7 4) = true := by decide +kernel
theorem spots_11 : eqLL ((codeS 11).filter (normN 11)) (allS 11 4) = true := by decide +kernel
theorem spots_13 : eqLL ((codeS 13).filter (normN 13)) (allS 13 4) = true := by decide +kernel
theorem prime_nat {n : Nat} (hp : primeB (n : Int) = true) : n = 3 ∨ n = 5 ∨ n = 7 ∨ n = 11 ∨ n = 13 := by
  have := prime_cases hp
  omega
theorem spots_eq {n : Nat} (hp : primeB (n : Int) = true) : (codeS n).filter (normN n) = allS n 4 := by
  rcases prime_nat hp with rfl | rfl | rfl | rfl | rfl
  · exact eqLL_eq spots_3
  · exact eqLL_eq spots_5
  · exact eqLL_eq spots_7
  · exact eqLL_eq spots_11
  · exact eqLL_eq spots_13
/-- all spots -/
def allSp (p : Int) : List (List Int) := (allS p.toNat 4).map toI
def codSp (n : Nat) : List (List Int) := (codeS n).map toI
theorem codSp_len (n : Nat) : (codSp n).length = n * n * n * n := by simp [codSp, codeS]
theorem codSp_get {n i : Nat} (hi : i < n * n * n * n) : (codSp n).getD i [] = toI (digN n i) := by simp [codSp, codeS, List.getD, hi]
theorem codSp_filter {n : Nat} (hp : primeB (n : Int) = true) (g : List Int → Bool) : (codSp n).filter (fun a => normB (n : Int) a && g a) = (allSp (n : Int)).filter g := by
  have hn : 1 ≤ n := by have := prime_nat hp; omega
  have e : (codSp n).filter (normB (n : Int)) = allSp (n : Int) := by
    unfold codSp allSp
    rw [List.filter_map]
    have : (normB (n : Int) ∘ toI) = normN n := funext fun l => norm_toI n l hn
    rw [this, spots_eq hp, Int.toNat_natCast]
  rw [← e, List.filter_filter]
  congr 1
  funext a
  exact Bool.and_comm _ _
theorem codSp_four {n : Nat} : ∀ x ∈ codSp n, x.length = 4 := fun x hx => by
  obtain ⟨y, hy, rfl⟩ := List.mem_map.1 hx
  obtain ⟨i, _, rfl⟩ := List.mem_map.1 hy
  rfl
theorem allSp_norm {p : Int} (hp : primeB p = true) {x : List Int} (h : x ∈ allSp p) : x.length = 4 ∧ normB p x = true := by
  obtain ⟨n, rfl, _⟩ := of_prime hp
  have hn : 1 ≤ n := by have := prime_nat hp; omega
  unfold allSp at h
  rw [Int.toNat_natCast, ← spots_eq hp] at h
  obtain ⟨y, hy, rfl⟩ := List.mem_map.1 h
  obtain ⟨h1, h2⟩ := List.mem_filter.1 hy
  obtain ⟨i, _, rfl⟩ := List.mem_map.1 h1
  exact ⟨rfl, by rw [norm_toI n _ hn]; exact h2⟩
theorem allSp_smN {p : Int} (hp : primeB p = true) {x : List Int} (h : x ∈ allSp p) : smN 12 x := smN_point (by rw [pointB, hp, (allSp_norm hp h).2]; rfl)
theorem pow_bd {n : Nat} (hp : primeB (n : Int) = true) {t : Nat} (ht : t ≤ 3) : 1 ≤ n ^ t ∧ n ^ t ≤ 2197 := by
  have h4 : t = 0 ∨ t = 1 ∨ t = 2 ∨ t = 3 := by omega
  rcases prime_nat hp with rfl | rfl | rfl | rfl | rfl <;> rcases h4 with rfl | rfl | rfl | rfl <;> decide
theorem prod_bd {n : Nat} (hp : primeB (n : Int) = true) : 9 ≤ n * n ∧ n * n ≤ 169 ∧ 27 ≤ n * n * n ∧ n * n * n ≤ 2197 ∧ n * n * n * n ≤ 28561 := by
  rcases prime_nat hp with rfl | rfl | rfl | rfl | rfl <;> decide
theorem allS_len {n : Nat} (hp : primeB (n : Int) = true) {j : Nat} (hj : j ≤ 4) : (allS n j).length ≤ 2380 := by
  have h4 : j = 0 ∨ j = 1 ∨ j = 2 ∨ j = 3 ∨ j = 4 := by omega
  have hl : (allS n j).length = ((List.range j).map fun i => n ^ i).sum := by simp [allS, rowS, List.length_flatMap]
  rw [hl]
  rcases prime_nat hp with rfl | rfl | rfl | rfl | rfl <;> rcases h4 with rfl | rfl | rfl | rfl | rfl <;> decide
theorem toI_set (l : List Nat) (k x : Nat) : (toI l).set k (x : Int) = toI (l.set k x) := by simp [toI, List.map_set]
theorem toI_len (l : List Nat) : (toI l).length = l.length := by simp [toI]
def rowSI (n j c : Nat) : List (List Int) := ((allS n j) ++ (List.range c).map fun c => ownT n (3 - j) c j).map toI
theorem rowSI_succ (n j c : Nat) : rowSI n j (c + 1) = rowSI n j c ++ [toI (ownT n (3 - j) c j)] := by simp [rowSI, List.range_succ]
theorem rowSI_zero (n j : Nat) : rowSI n j 0 = (allS n j).map toI := by simp [rowSI]
theorem rowSI_end (n j : Nat) : rowSI n j (n ^ j) = (allS n (j + 1)).map toI := by rw [rowSI, allS_succ]; rfl
theorem rowSI_four (n j c : Nat) : ∀ x ∈ rowSI n j c, x.length = 4 := fun x hx => by
  obtain ⟨y, hy, rfl⟩ := List.mem_map.1 hx
  rw [toI_len]
  rcases List.mem_append.1 hy with hy | hy
  · obtain ⟨i, _, hy⟩ := List.mem_flatMap.1 hy
    obtain ⟨c, _, rfl⟩ := List.mem_map.1 hy
    exact ownT_len _ _ _ _
  · obtain ⟨c, _, rfl⟩ := List.mem_map.1 hy
    exact ownT_len _ _ _ _
theorem rowSI_len (n j c : Nat) : (rowSI n j c).length = (allS n j).length + c := by simp [rowSI]
def quG (p : Int) (q a : List Int) : Bool := decide (quV p q a = 0)
def spV (p : Int) (q : List Int) : List (List Int) := (allSp p).filter (quG p q)
theorem allSp_len {p : Int} (hp : primeB p = true) : (allSp p).length ≤ 2380 := by
  obtain ⟨n, rfl, _⟩ := of_prime hp
  unfold allSp
  rw [List.length_map, Int.toNat_natCast]
  exact allS_len hp (by decide)
theorem spV_four {p : Int} (hp : primeB p = true) {q : List Int} : ∀ x ∈ spV p q, x.length = 4 := fun x hx => (allSp_norm hp (List.mem_filter.1 hx).1).1
theorem spV_len {p : Int} (hp : primeB p = true) (q : List Int) : (spV p q).length ≤ 2380 := Nat.le_trans (List.length_filter_le _ _) (allSp_len hp)
def quC (p : Int) (q : List Int) : Int := cdB p (pointB p q && true)
theorem quC_zero {p : Int} {q : List Int} (h : quC p q = 0) : primeB p = true ∧ pointB p q = true := by
  have := cdB_zero.1 h
  simpa using this
attribute [local irreducible] CW OW QW QOp Con thenP inBlockP

theorem spotsThatN_con (f : Nat) (t0 : TypeId) (L0 : List Int) (t1 : TypeId) (L1 : List Int) (g : List Int → Bool) (n : Nat) (hp : primeB (n : Int) = true) (hf : ∀ m : List Int, m.length = 4 → normB (n : Int) m = true → ConQ Tryd.prog [(0, 2000)] f [.arr m, .ptr 1000 0, .ptr 1001 0] [(1000, .ints t0 L0), (1001, .ints t1 L1), (2000, .ro 0 sqT)] (.bool (g m))) : Con Tryd.prog [(0, 2000)] 58 [.int (n : Int), .func f [] [.ptr 1000 0, .ptr 1001 0]] [(1000, .ints t0 L0), (1001, .ints t1 L1), (2000, .ro 0 sqT)] (ownR 4 28 [(1000, .ints t0 L0), (1001, .ints t1 L1), (2000, .ro 0 sqT)] 0 ((codSp n).filter fun a => normB (n : Int) a && g a)) := by
  have hpb := prime_bd hp
  obtain ⟨hn2a, hn2, hn3a, hn3, hn4⟩ := prod_bd hp
  have h4 := codSp_four (n := n)
  have hcl := codSp_len n
  refine conW tab_ok [(0, .int (n : Int)), (1, .func f [] [.ptr 1000 0, .ptr 1001 0])] 0 [1000, 1001, 2000] [1000, 1001] Tryd.func58 rfl rfl rfl rfl rfl rfl rfl rfl rfl ?_
  refine cR ?_
  refine oA rfl rfl ?_
  refine oN ?_
  refine cR ?_
  refine oBsl rfl rfl rfl rfl (.inr ⟨rfl, rfl, by decide⟩) rfl rfl rfl rfl rfl rfl ?_
  refine oA rfl rfl ?_
  refine oN ?_
  refine CW_seq ?_
  refine cR ?_
  iterate 2 refine oM rfl rfl ?_
  refine oQ (Q_nmul rfl rfl (by omega)) rfl rfl ?_
  refine oM rfl rfl ?_
  refine oQ (Q_nmul rfl rfl (by omega)) rfl rfl ?_
  refine oM rfl rfl ?_
  refine oQ (Q_nmul rfl rfl (by omega)) rfl rfl ?_
  refine oM rfl rfl ?_
  refine oN ?_
  refine CW_block ?_
  refine CW_loop (ι := Nat × Nat × List Int) (fun x => x.1 ≤ n * n * n * n ∧ (((codSp n).take x.1).filter fun a => normB (n : Int) a && g a).length ≤ x.2.1 ∧ x.2.1 * 4 ≤ (((codSp n).take x.1).filter fun a => normB (n : Int) a && g a).length * 4 + x.2.2.length) (fun x => ⟨[(0, .int (n : Int)), (1, .func f [] [.ptr 1000 0, .ptr 1001 0]), (5, .slice 0 0 (((codSp n).take x.1).filter fun a => normB (n : Int) a && g a).length x.2.1), (15, .int ((n * n * n * n : Nat) : Int)), (16, .int (x.1 : Nat))], [(0, .ints 28 ((((codSp n).take x.1).filter fun a => normB (n : Int) a && g a).flatten ++ x.2.2)), (1000, .ints t0 L0), (1001, .ints t1 L1), (2000, .ro 0 sqT)], 1⟩) (fun x => n * n * n * n - x.1) (0, 0, []) ?_ ?_ ?_
  · exact ⟨Nat.zero_le _, Nat.le_refl _, Nat.le_refl _⟩
  · refine View.mk' [] rfl rfl rfl ?_ ?_
    repeat' first | exact vFn | refine vFc rfl ?_ | exact vHn | refine vHc rfl ?_ | refine vFc (congrArg (fun z => some (V.int z)) ?_) ?_ | refine vHc (congrArg (fun z => some (Blk.ints _ z)) ?_) ?_ | refine vFc (congrArg (fun z => some (V.bool z)) ?_) ?_ | refine vFs rfl rfl ?_ ?_
  rintro ⟨i, kk, ss⟩ ⟨hi, hk, hsp⟩
  dsimp only at hi hk hsp ⊢
  have hfn := filter_len (g := fun a => normB (n : Int) a && g a) (L := codSp n) i (by omega)
  have hlen := flat3 (filter_three (g := fun a => normB (n : Int) a && g a) h4 i)
  have hget := fun h : i < n * n * n * n => codSp_get h
  have hd4 : (toI (digN n i)).length = 4 := rfl
  refine cR ?_
  refine oQ (Q_bin rfl rfl rfl) rfl rfl ?_
  refine oN ?_
  refine CW_seq ?_
  first | refine cT rfl ?_ | refine cF rfl ?_ | refine CW_cond rfl (fun hc => ?_) (fun hc => ?_)
  all_goals try simp only [s1, s2, s3, s4, s5, s6, s7, s8, s9, s10, s11, s12] at hc
  all_goals first
    | (
     refine CW_skip ?_)
    | (
     refine CW_exit ?_)
  all_goals first
    | with_reducible refine tR ?_
    | with_reducible refine tE ?_
    | (
     with_reducible refine tN ?_
     refine CW_seq ?_
     refine CW_block ?_
     refine cR ?_
     refine oM rfl rfl ?_
     refine oA rfl rfl ?_
     refine oN ?_
     refine CW_seq ?_
     refine CW_any (fun i => List.elem i [24]) 25 rfl lateOk (by decide +kernel) (fun hst => ?_)
     refine aP 0 hst rfl rfl (by decide +kernel) (PX_move rfl rfl) rfl rfl ?_
     refine aP 1 hst rfl rfl (by decide +kernel) (PX_move rfl rfl) rfl rfl ?_
     refine aP 2 hst rfl rfl (by decide +kernel) (PX_move rfl rfl) rfl rfl ?_
     refine aQ 3 hst rfl rfl (by decide +kernel) (QX_of (Q_nmul rfl rfl (by omega)) NE_bin) rfl rfl ?_
     refine aP 4 hst rfl rfl (by decide +kernel) (PX_move rfl rfl) rfl rfl ?_
     refine aQ 5 hst rfl rfl (by decide +kernel) (QX_of (Q_nmul rfl rfl (by omega)) NE_bin) rfl rfl ?_
     refine aQ 6 hst rfl rfl (by decide +kernel) (QX_of (Q_nquo rfl rfl (by omega) (by omega)) NE_bin) rfl rfl ?_
     refine aP 7 hst rfl rfl (by decide +kernel) (PX_move rfl rfl) rfl rfl ?_
     refine aP 8 hst rfl rfl (by decide +kernel) (PX_move rfl rfl) rfl rfl ?_
     refine aP 9 hst rfl rfl (by decide +kernel) (PX_move rfl rfl) rfl rfl ?_
     refine aQ 10 hst rfl rfl (by decide +kernel) (QX_of (Q_nmul rfl rfl (by omega)) NE_bin) rfl rfl ?_
     refine aQ 11 hst rfl rfl (by decide +kernel) (QX_of (Q_nquo rfl rfl (by omega) (by omega)) NE_bin) rfl rfl ?_
     refine aP 12 hst rfl rfl (by decide +kernel) (PX_move rfl rfl) rfl rfl ?_
     refine aQ 13 hst rfl rfl (by decide +kernel) (QX_of (Q_nrem rfl rfl (by omega)) NE_bin) rfl rfl ?_
     refine aP 14 hst rfl rfl (by decide +kernel) (PX_move rfl rfl) rfl rfl ?_
     refine aP 15 hst rfl rfl (by decide +kernel) (PX_move rfl rfl) rfl rfl ?_
     refine aQ 16 hst rfl rfl (by decide +kernel) (QX_of (Q_nquo rfl rfl (by omega) (by omega)) NE_bin) rfl rfl ?_
     refine aP 17 hst rfl rfl (by decide +kernel) (PX_move rfl rfl) rfl rfl ?_
     refine aQ 18 hst rfl rfl (by decide +kernel) (QX_of (Q_nrem rfl rfl (by omega)) NE_bin) rfl rfl ?_
     refine aP 19 hst rfl rfl (by decide +kernel) (PX_move rfl rfl) rfl rfl ?_
     refine aP 20 hst rfl rfl (by decide +kernel) (PX_move rfl rfl) rfl rfl ?_
     refine aQ 21 hst rfl rfl (by decide +kernel) (QX_of (Q_nrem rfl rfl (by omega)) NE_bin) rfl rfl ?_
     (have hil : i < n * n * n * n := by omega); (have hget := hget hil); refine aQ 22 hst rfl rfl (by decide +kernel) (QX_of (v := .arr (toI (digN n i))) (Q_build rfl rfl rfl rfl rfl rfl rfl rfl) NE_build) rfl rfl ?_
     refine AW_one (i := 23) (by decide +kernel) ?_
     refine gAlloc rfl rfl rfl rfl rfl rfl rfl rfl rfl ?_
     refine AW_last [24] rfl (by decide +kernel) rfl ?_
     first | refine oSw rfl rfl rfl rfl ?_ | refine oSa rfl rfl rfl rfl ?_
     refine OW_nil (npN ?_)
     all_goals with_reducible refine tN ?_
     all_goals (
      refine cR ?_
      refine oM rfl rfl ?_
      refine oQ (Q_slaF rfl rfl rfl rfl) rfl rfl ?_
      refine oQ (Q_call (isNormal_con (n : Int) 28 (toI (digN n i)) 4 4 (by omega) (by omega) (by omega)) [(0, 1)] rfl rfl (Fits.mk' (vHc rfl vHn) rfl rfl (by first | (simp; done) | exact glOk rfl rfl rfl)) rfl rfl) rfl rfl ?_
      refine oM rfl rfl ?_
      all_goals first | refine oT rfl rfl ?_ | refine o1 rfl rfl rfl ?_ | refine o0 rfl rfl rfl ?_ | refine ogP1 rfl rfl rfl (fun hg => ?_) (fun hg => ?_) | refine ogP0 rfl rfl rfl (fun hg => ?_) (fun hg => ?_)
      all_goals try simp only [s1, s2, s3, s4, s5, s6, s7, s8, s9, s10, s11, s12] at hg
      all_goals first | (refine oM rfl rfl ?_) | skip
      all_goals first | refine oT rfl rfl ?_ | refine o1 rfl rfl rfl ?_ | refine o0 rfl rfl rfl ?_ | refine ogP1 rfl rfl rfl (fun hg => ?_) (fun hg => ?_) | refine ogP0 rfl rfl rfl (fun hg => ?_) (fun hg => ?_)
      all_goals try simp only [s1, s2, s3, s4, s5, s6, s7, s8, s9, s10, s11, s12] at hg
      all_goals first | (refine oQ (Q_ldw rfl rfl rfl rfl hd4) rfl rfl ?_) | skip
      all_goals first | refine oT rfl rfl ?_ | refine o1 rfl rfl rfl ?_ | refine o0 rfl rfl rfl ?_ | refine ogP1 rfl rfl rfl (fun hg => ?_) (fun hg => ?_) | refine ogP0 rfl rfl rfl (fun hg => ?_) (fun hg => ?_)
      all_goals try simp only [s1, s2, s3, s4, s5, s6, s7, s8, s9, s10, s11, s12] at hg
      all_goals first | ((have hnm : normB (n : Int) (toI (digN n i)) = true := hg); refine oQ (Q_callf (hf _ hd4 hnm) [] rfl rfl rfl (Fits.mk' (vHc rfl (vHc rfl (vHc rfl vHn))) rfl rfl (by first | (simp; done) | exact glOk rfl rfl rfl)) rfl rfl) rfl rfl ?_) | skip
      all_goals first | refine oQ (Q_pick_t rfl (by with_reducible rfl) rfl rfl) rfl rfl ?_ | refine oQ (Q_pick_f rfl (by with_reducible rfl) rfl rfl) rfl rfl ?_
      all_goals refine oN ?_
      all_goals (
       first | refine cT rfl ?_ | refine cF rfl ?_ | refine CW_cond rfl (fun hc => ?_) (fun hc => ?_)
       all_goals try simp only [s1, s2, s3, s4, s5, s6, s7, s8, s9, s10, s11, s12] at hc
       all_goals first
         | (
          refine CW_skip ?_)
         | (
          refine CW_region ?_
          refine oM rfl rfl ?_
          refine oQ (Q_ldw rfl rfl rfl rfl hd4) rfl rfl ?_
          refine oBsl1 hd4 rfl rfl rfl rfl rfl rfl rfl rfl rfl rfl ?_
          refine oApp (sz := 4) (by_ := 32) (xl := toI (digN n i)) rfl rfl rfl rfl rfl rfl ⟨by decide, rfl, .inr rfl⟩ rfl rfl rfl rfl rfl rfl hlen (by rw [hd4]) (by omega) (by omega) (by omega) (by omega) rfl rfl (fun k2 sp2 h1 h2 => ?_)
          refine oA rfl rfl ?_
          refine OW_nil ?_)))
     all_goals first | with_reducible refine bN ?_ | with_reducible refine bE ?_ | with_reducible refine bR ?_ | refine bX rfl ?_
     all_goals with_reducible refine tN ?_
     all_goals (
      refine CW_region ?_
      first | refine oQ (Q_binu rfl rfl rfl (by omega)) rfl rfl ?_ | refine oQ (Q_bin rfl rfl rfl) rfl rfl ?_
      refine oM rfl rfl ?_
      refine OW_nil ?_))
  all_goals first
    | with_reducible refine tR ?_
    | with_reducible refine tE ?_
    | (
     with_reducible refine tN ?_
     first
       | (
        refine ⟨(i + 1, k2, sp2), ?_, ?_, View.mk' [(0, 3)] rfl rfl rfl ?_ ?_⟩
        · dsimp only
          first
            | (rw [filter_snoc (by omega) (by rw [hget]; first | (rw [hnm, hc]; rfl) | (simp_all; done)), List.length_append, List.length_singleton]; exact ⟨by omega, h1, h2⟩)
            | (rw [filter_skip (by omega) (by rw [hget]; first | (rw [hnm, hc]; rfl) | (have hnm' : normB (n : Int) (toI (digN n i)) = false := hg; rw [hnm']; rfl))]; exact ⟨by omega, hk, hsp⟩)
        · omega
        all_goals (repeat' first | exact vFn | refine vFc rfl ?_ | exact vHn | refine vHc rfl ?_ | refine vFc (congrArg (fun z => some (V.int z)) ?_) ?_ | refine vHc (congrArg (fun z => some (Blk.ints _ z)) ?_) ?_ | refine vFc (congrArg (fun z => some (V.bool z)) ?_) ?_ | refine vFs rfl rfl ?_ ?_)
        all_goals try dsimp only
        all_goals first
          | (rw [filter_snoc (by omega) (by rw [hget]; first | (rw [hnm, hc]; rfl) | (simp_all; done)), hget]; simp; done)
          | (rw [filter_skip (by omega) (by rw [hget]; first | (rw [hnm, hc]; rfl) | (have hnm' : normB (n : Int) (toI (digN n i)) = false := hg; rw [hnm']; rfl))]; done))
       | (
        refine ⟨(i + 1, kk, ss), ?_, ?_, View.mk' [] rfl rfl rfl ?_ ?_⟩
        · dsimp only
          first
            | (rw [filter_snoc (by omega) (by rw [hget]; first | (rw [hnm, hc]; rfl) | (simp_all; done)), List.length_append, List.length_singleton]; exact ⟨by omega, h1, h2⟩)
            | (rw [filter_skip (by omega) (by rw [hget]; first | (rw [hnm, hc]; rfl) | (have hnm' : normB (n : Int) (toI (digN n i)) = false := hg; rw [hnm']; rfl))]; exact ⟨by omega, hk, hsp⟩)
        · omega
        all_goals (repeat' first | exact vFn | refine vFc rfl ?_ | exact vHn | refine vHc rfl ?_ | refine vFc (congrArg (fun z => some (V.int z)) ?_) ?_ | refine vHc (congrArg (fun z => some (Blk.ints _ z)) ?_) ?_ | refine vFc (congrArg (fun z => some (V.bool z)) ?_) ?_ | refine vFs rfl rfl ?_ ?_)
        all_goals try dsimp only
        all_goals first
          | (rw [filter_snoc (by omega) (by rw [hget]; first | (rw [hnm, hc]; rfl) | (simp_all; done)), hget]; simp; done)
          | (rw [filter_skip (by omega) (by rw [hget]; first | (rw [hnm, hc]; rfl) | (have hnm' : normB (n : Int) (toI (digN n i)) = false := hg; rw [hnm']; rfl))]; done)))
  all_goals first | with_reducible refine bN ?_ | with_reducible refine bE ?_ | with_reducible refine bR ?_ | refine bX rfl ?_
  all_goals with_reducible refine tN ?_
  all_goals (
   refine cR ?_
   refine oM rfl rfl ?_
   refine oA rfl rfl ?_
   refine oN ?_
   refine CW_ret ?_)
  all_goals (
   have e : i = n * n * n * n := by omega
   rw [← hcl] at e
   subst e
   rw [List.take_length] at hk hsp
   exact exitH (r0 := .slice 0 0 ((codSp n).filter fun a => normB (n : Int) a && g a).length kk) (H0 := [(1000, .ints t0 L0), (1001, .ints t1 L1), (2000, .ro 0 sqT), (0, .ints 28 (((codSp n).filter fun a => normB (n : Int) a && g a).flatten ++ ss))]) (.inr rfl) [] 1 (.cons (.tmp rfl rfl) .nil) (by simp only [List.take_length]; rfl) rfl rfl (vHc rfl (vHc rfl (vHc rfl (vHc (by simp only [List.take_length]; rfl) vHn)))) rfl rfl ⟨kk, ss, hk, hsp, rfl, rfl⟩)
theorem spotsThat_con (f : Nat) (t0 : TypeId) (L0 : List Int) (t1 : TypeId) (L1 : List Int) (g : List Int → Bool) (p : Int) (hp : primeB p = true) (hf : ∀ m : List Int, m.length = 4 → normB p m = true → ConQ Tryd.prog [(0, 2000)] f [.arr m, .ptr 1000 0, .ptr 1001 0] [(1000, .ints t0 L0), (1001, .ints t1 L1), (2000, .ro 0 sqT)] (.bool (g m))) :
    Con Tryd.prog [(0, 2000)] 58 [.int p, .func f [] [.ptr 1000 0, .ptr 1001 0]] [(1000, .ints t0 L0), (1001, .ints t1 L1), (2000, .ro 0 sqT)] (ownR 4 28 [(1000, .ints t0 L0), (1001, .ints t1 L1), (2000, .ro 0 sqT)] 0 ((allSp p).filter g)) := by
  obtain ⟨n, rfl, _⟩ := of_prime hp
  have := spotsThatN_con f t0 L0 t1 L1 g n hp hf
  rwa [codSp_filter hp] at this
theorem spots1_con (p : Int) (q m : List Int) (hp : primeB p = true) (hql : q.length = 10) (hq : smN 12 q) (hm : m.length = 4) (hn : normB p m = true) : ConQ Tryd.prog [(0, 2000)] 95 [.arr m, .ptr 1000 0, .ptr 1001 0] [(1000, .ints 26 q), (1001, .ints 2 [p]), (2000, .ro 0 sqT)] (.bool (quG p q m)) := by
  have hms := smN_point (show pointB p m = true by rw [pointB, hp, hn]; rfl)
  refine conW tab_ok [(0, .arr m), (1, .ptr 1000 0), (2, .ptr 1001 0)] 0 [1000, 1001, 2000] [1000, 1001] Tryd.func95 rfl rfl rfl rfl rfl rfl rfl rfl rfl ?_
  refine cR ?_
  refine oBox rfl rfl rfl rfl rfl rfl ?_
  refine oA rfl rfl ?_
  refine oN ?_
  refine cR ?_
  refine oQ (Q_ldw rfl rfl rfl rfl hql) rfl rfl ?_
  first | refine oQ (Q_ldc rfl rfl rfl rfl rfl) rfl rfl ?_ | refine oQ (Ld rfl rfl rfl rfl) rfl rfl ?_
  refine oQ (Q_ldw rfl rfl rfl rfl hm) rfl rfl ?_
  refine oQ (Q_call (at_con p q m hp hql hm hq hms) [] rfl rfl (Fits.mk' (vHc rfl vHn) rfl rfl (by first | (simp; done) | exact glOk rfl rfl rfl)) rfl rfl) rfl rfl ?_
  refine oQ (Q_bin rfl rfl rfl) rfl rfl ?_
  refine oA rfl rfl ?_
  refine oN ?_
  refine CW_ret ?_
  all_goals (
   ((refine exitQ (.inr rfl) 0 (.cons (.tmp rfl rfl) .nil) ?_ rfl (vHc rfl (vHc rfl (vHc rfl vHn))) rfl rfl); rfl))
theorem spots_con (p : Int) (q : List Int) (hp : primeB p = true) (hql : q.length = 10) (hq : smN 12 q) : Con Tryd.prog [(0, 2000)] 53 [.arr q, .int p] [(2000, .ro 0 sqT)] (ownR 4 28 [(2000, .ro 0 sqT)] 0 (spV p q)) := by
  refine conW tab_ok [(0, .arr q), (1, .int p)] 0 [2000] [] Tryd.func53 rfl rfl rfl rfl rfl rfl rfl rfl rfl ?_
  refine cR ?_
  iterate 2 refine oBox rfl rfl rfl rfl rfl rfl ?_
  refine oA rfl rfl ?_
  refine oN ?_
  refine cR ?_
  first | refine oQ (Q_ldc rfl rfl rfl rfl rfl) rfl rfl ?_ | refine oQ (Ld rfl rfl rfl rfl) rfl rfl ?_
  refine oQ (Q_makeFunc rfl rfl) rfl rfl ?_
  refine oCall (spotsThat_con 95 26 q 2 [p] (quG p q) p hp (fun m hm hn => spots1_con p q m hp hql hq hm hn)) [(1000, 0), (1001, 1)] 1 rfl rfl (Fits.mk' (vHc rfl (vHc rfl (vHc rfl vHn))) rfl rfl (by first | (simp; done) | exact glOk rfl rfl rfl)) rfl rfl ?_
  rintro r H1 ⟨k9, sp9, hk9, hs9, rfl, rfl⟩
  refine ⟨.slice 2 0 (spV p q).length k9, [(0, .ints 26 q), (1, .ints 2 [p]), (2000, .ro 0 sqT), (2, .ints 28 ((spV p q).flatten ++ sp9))], rfl, rfl, rfl, ?_⟩
  refine oA rfl rfl ?_
  refine oN ?_
  refine CW_ret ?_
  all_goals (
   exact exitH (r0 := .slice 0 0 (spV p q).length k9) (H0 := [(2000, .ro 0 sqT), (0, .ints 28 ((spV p q).flatten ++ sp9))]) (.inr rfl) [(0, 2)] 1 (.cons (.tmp rfl rfl) .nil) rfl rfl rfl (vHc rfl (vHc rfl vHn)) rfl rfl ⟨k9, sp9, hk9, hs9, rfl, rfl⟩)
theorem impl_CountSpots_con (p : Int) (q : List Int) (hql : q.length = 10) : ConQ Tryd.prog [(0, 2000)] 17 [.int p, .arr q] [(2000, .ro 0 sqT)] (.tuple [.int (if quC p q = 0 then ((spV p q).length : Int) else 0), .int (quC p q)]) := by
  by_cases hcd : quC p q = 0
  · obtain ⟨hp, hq⟩ := quC_zero hcd
    rw [if_pos hcd]
    refine conW tab_ok [(0, .int p), (1, .arr q)] 0 [2000] [] Tryd.func17 rfl rfl rfl rfl rfl rfl rfl rfl rfl ?_
    refine cR ?_
    refine oBox rfl rfl rfl rfl rfl rfl ?_
    iterate 2 refine oA rfl rfl ?_
    refine oN ?_
    refine CW_seq ?_
    refine cR ?_
    refine oM rfl rfl ?_
    refine oQ (Q_ldw rfl rfl rfl rfl hql) rfl rfl ?_
    refine oQ (Q_call0 (quadricCode_nil p q hql) rfl rfl rfl) rfl rfl ?_
    refine oA rfl rfl ?_
    refine oN ?_
    refine cR ?_
    refine oM rfl rfl ?_
    refine oQ (Q_bin rfl rfl rfl) rfl rfl ?_
    refine oN ?_
    first | refine cT rfl ?_ | refine cF rfl ?_ | refine CW_cond rfl (fun hc => ?_) (fun hc => ?_)
    all_goals try simp only [s1, s2, s3, s4, s5, s6, s7, s8, s9, s10, s11, s12] at hc
    all_goals try (exfalso; first | exact absurd hcd hc | exact absurd hc hcd; done)
    all_goals first
      | (
       refine CW_skip ?_)
      | (
       refine cR ?_
       refine oM rfl rfl ?_
       iterate 2 refine oA rfl rfl ?_
       refine oN ?_
       refine CW_ret ?_)
    all_goals first
      | with_reducible refine tR ?_
      | with_reducible refine tE ?_
      | (
       with_reducible refine tN ?_
       refine cR ?_
       refine oQ (Q_ldw rfl rfl rfl rfl hql) rfl rfl ?_
       refine oM rfl rfl ?_
       refine oCall (spots_con p q hp hql (smN_point hq)) [] 1 rfl rfl (Fits.mk' (vHc rfl vHn) rfl rfl (by first | (simp; done) | exact glOk rfl rfl rfl)) rfl rfl ?_
       rintro r H1 ⟨k9, sp9, hk9, hs9, rfl, rfl⟩
       refine ⟨.slice 1 0 (spV p q).length k9, [(2000, .ro 0 sqT), (1, .ints 28 ((spV p q).flatten ++ sp9))], rfl, rfl, rfl, ?_⟩
       first | refine oQ (Q_len rfl rfl rfl rfl) rfl rfl ?_ | refine oQ (Q_len0 rfl rfl rfl rfl) rfl rfl ?_
       iterate 2 refine oA rfl rfl ?_
       refine oN ?_
       refine CW_ret ?_)
    all_goals (
     first | (exfalso; first | exact hc hcd | exact hcd hc; done) | ((refine exitQ (.inr rfl) 0 (.cons (.tmp rfl rfl) (.cons (.tmp rfl rfl) .nil)) ?_ rfl (vHc rfl vHn) rfl rfl); rw [hcd]; rfl))
  · rw [if_neg hcd]
    refine conW tab_ok [(0, .int p), (1, .arr q)] 0 [2000] [] Tryd.func17 rfl rfl rfl rfl rfl rfl rfl rfl rfl ?_
    refine cR ?_
    refine oBox rfl rfl rfl rfl rfl rfl ?_
    iterate 2 refine oA rfl rfl ?_
    refine oN ?_
    refine CW_seq ?_
    refine cR ?_
    refine oM rfl rfl ?_
    refine oQ (Q_ldw rfl rfl rfl rfl hql) rfl rfl ?_
    refine oQ (Q_call0 (quadricCode_nil p q hql) rfl rfl rfl) rfl rfl ?_
    refine oA rfl rfl ?_
    refine oN ?_
    refine cR ?_
    refine oM rfl rfl ?_
    refine oQ (Q_bin rfl rfl rfl) rfl rfl ?_
    refine oN ?_
    first | refine cT rfl ?_ | refine cF rfl ?_ | refine CW_cond rfl (fun hc => ?_) (fun hc => ?_)
    all_goals try simp only [s1, s2, s3, s4, s5, s6, s7, s8, s9, s10, s11, s12] at hc
    all_goals try (exfalso; first | exact absurd hcd hc | exact absurd hc hcd; done)
    all_goals first
      | (
       refine CW_skip ?_)
      | (
       refine cR ?_
       refine oM rfl rfl ?_
       iterate 2 refine oA rfl rfl ?_
       refine oN ?_
       refine CW_ret ?_)
    all_goals first
      | with_reducible refine tR ?_
      | with_reducible refine tE ?_
      | (
       with_reducible refine tN ?_
       refine cR ?_
       (exfalso; first | exact hc hcd | exact hcd hc)
       refine oM rfl rfl ?_
       fail "call of (loop.example/g01310/impl.Quadric).spots at slot 15"
       first | refine oQ (Q_len rfl rfl rfl rfl) rfl rfl ?_ | refine oQ (Q_len0 rfl rfl rfl rfl) rfl rfl ?_
       iterate 2 refine oA rfl rfl ?_
       refine oN ?_
       refine CW_ret ?_)
    all_goals (
     first | (exfalso; first | exact hc hcd | exact hcd hc; done) | ((refine exitQ (.inr rfl) 0 (.cons (.tmp rfl rfl) (.cons (.tmp rfl rfl) .nil)) ?_ rfl (vHc rfl vHn) rfl rfl); rfl))
theorem impl_SpotsOfQuadric_con (p : Int) (q : List Int) (hql : q.length = 10) : Con Tryd.prog [(0, 2000)] 19 [.int p, .arr q] [(2000, .ro 0 sqT)] (listR 4 28 [(2000, .ro 0 sqT)] 0 (quC p q) (spV p q)) := by
  by_cases hcd : quC p q = 0
  · obtain ⟨hp, hq⟩ := quC_zero hcd
    refine conW tab_ok [(0, .int p), (1, .arr q)] 0 [2000] [] Tryd.func19 rfl rfl rfl rfl rfl rfl rfl rfl rfl ?_
    refine cR ?_
    refine oBox rfl rfl rfl rfl rfl rfl ?_
    iterate 2 refine oA rfl rfl ?_
    refine oN ?_
    refine CW_seq ?_
    refine cR ?_
    refine oM rfl rfl ?_
    refine oQ (Q_ldw rfl rfl rfl rfl hql) rfl rfl ?_
    refine oQ (Q_call0 (quadricCode_nil p q hql) rfl rfl rfl) rfl rfl ?_
    refine oA rfl rfl ?_
    refine oN ?_
    refine cR ?_
    refine oM rfl rfl ?_
    refine oQ (Q_bin rfl rfl rfl) rfl rfl ?_
    refine oN ?_
    first | refine cT rfl ?_ | refine cF rfl ?_ | refine CW_cond rfl (fun hc => ?_) (fun hc => ?_)
    all_goals try simp only [s1, s2, s3, s4, s5, s6, s7, s8, s9, s10, s11, s12] at hc
    all_goals try (exfalso; first | exact absurd hcd hc | exact absurd hc hcd; done)
    all_goals first
      | (
       refine CW_skip ?_)
      | (
       refine cR ?_
       refine oM rfl rfl ?_
       iterate 2 refine oA rfl rfl ?_
       refine oN ?_
       refine CW_ret ?_)
    all_goals first
      | with_reducible refine tR ?_
      | with_reducible refine tE ?_
      | (
       with_reducible refine tN ?_
       refine cR ?_
       refine oQ (Q_ldw rfl rfl rfl rfl hql) rfl rfl ?_
       refine oM rfl rfl ?_
       refine oCall (spots_con p q hp hql (smN_point hq)) [] 1 rfl rfl (Fits.mk' (vHc rfl vHn) rfl rfl (by first | (simp; done) | exact glOk rfl rfl rfl)) rfl rfl ?_
       rintro r H1 ⟨k9, sp9, hk9, hs9, rfl, rfl⟩
       refine ⟨.slice 1 0 (spV p q).length k9, [(2000, .ro 0 sqT), (1, .ints 28 ((spV p q).flatten ++ sp9))], rfl, rfl, rfl, ?_⟩
       iterate 2 refine oA rfl rfl ?_
       refine oN ?_
       refine CW_ret ?_)
    all_goals (
     first | (exfalso; first | exact hc hcd | exact hcd hc; done) | exact exitH (r0 := .tuple [.slice 0 0 (spV p q).length k9, .int 0]) (H0 := [(2000, .ro 0 sqT), (0, .ints 28 ((spV p q).flatten ++ sp9))]) (.inr rfl) [(0, 1)] 1 (.cons (.tmp rfl rfl) (.cons (.tmp rfl rfl) .nil)) rfl rfl rfl (vHc rfl (vHc rfl vHn)) rfl rfl (listR_ok hcd hk9 hs9 rfl rfl))
  · skip
    refine conW tab_ok [(0, .int p), (1, .arr q)] 0 [2000] [] Tryd.func19 rfl rfl rfl rfl rfl rfl rfl rfl rfl ?_
    refine cR ?_
    refine oBox rfl rfl rfl rfl rfl rfl ?_
    iterate 2 refine oA rfl rfl ?_
    refine oN ?_
    refine CW_seq ?_
    refine cR ?_
    refine oM rfl rfl ?_
    refine oQ (Q_ldw rfl rfl rfl rfl hql) rfl rfl ?_
    refine oQ (Q_call0 (quadricCode_nil p q hql) rfl rfl rfl) rfl rfl ?_
    refine oA rfl rfl ?_
    refine oN ?_
    refine cR ?_
    refine oM rfl rfl ?_
    refine oQ (Q_bin rfl rfl rfl) rfl rfl ?_
    refine oN ?_
    first | refine cT rfl ?_ | refine cF rfl ?_ | refine CW_cond rfl (fun hc => ?_) (fun hc => ?_)
    all_goals try simp only [s1, s2, s3, s4, s5, s6, s7, s8, s9, s10, s11, s12] at hc
    all_goals try (exfalso; first | exact absurd hcd hc | exact absurd hc hcd; done)
    all_goals first
      | (
       refine CW_skip ?_)
      | (
       refine cR ?_
       refine oM rfl rfl ?_
       iterate 2 refine oA rfl rfl ?_
       refine oN ?_
       refine CW_ret ?_)
    all_goals first
      | with_reducible refine tR ?_
      | with_reducible refine tE ?_
      | (
       with_reducible refine tN ?_
       refine cR ?_
       (exfalso; first | exact hc hcd | exact hcd hc)
       refine oM rfl rfl ?_
       fail "call of (loop.example/g01310/impl.Quadric).spots at slot 15"
       iterate 2 refine oA rfl rfl ?_
       refine oN ?_
       refine CW_ret ?_)
    all_goals (
     first | (exfalso; first | exact hc hcd | exact hcd hc; done) | exact exitH (r0 := .tuple [.nilsl, .int (quC p q)]) (H0 := [(2000, .ro 0 sqT)]) (.inr rfl) [] 0 (.cons (.tmp rfl rfl) (.cons (.tmp rfl rfl) .nil)) rfl rfl rfl (vHc rfl vHn) rfl rfl (listR_no hcd rfl rfl))
theorem l08AllN_con (n : Nat) (hp : primeB (n : Int) = true) : Con Tryd.prog [] 57 [.int (n : Int)] [] (ownR 4 28 [] 0 ((allS n 4).map toI)) := by
  have hpb := prime_bd hp
  have hn13 : 3 ≤ n ∧ n ≤ 13 := by omega
  refine conW tab_ok [(0, .int (n : Int))] 0 [] [] Tryd.func57 rfl rfl rfl rfl rfl rfl rfl rfl rfl ?_
  refine cR ?_
  refine oA rfl rfl ?_
  refine oN ?_
  refine cR ?_
  refine oBsl rfl rfl rfl rfl (.inr ⟨rfl, rfl, by decide⟩) rfl rfl rfl rfl rfl rfl ?_
  refine oA rfl rfl ?_
  refine oN ?_
  refine CW_seq ?_
  refine cR ?_
  refine oA rfl rfl ?_
  refine oN ?_
  refine CW_block ?_
  refine CW_loop (ι := Nat × Nat × List Int) (fun x => x.1 ≤ 4 ∧ (allS n x.1).length ≤ x.2.1 ∧ x.2.1 * 4 ≤ (allS n x.1).length * 4 + x.2.2.length) (fun x => ⟨[(0, .int (n : Int)), (3, .slice 0 0 (allS n x.1).length x.2.1), (4, .int (3 - (x.1 : Int)))], [(0, .ints 28 (((allS n x.1).map toI).flatten ++ x.2.2))], 1⟩) (fun x => 4 - x.1) (0, 0, []) ?_ ?_ ?_
  · exact ⟨by decide, Nat.le_refl _, Nat.le_refl _⟩
  · refine View.mk' [] rfl rfl rfl ?_ ?_
    repeat' first | exact vFn | refine vFc rfl ?_ | exact vHn | refine vHc rfl ?_ | refine vFc (congrArg (fun z => some (V.int z)) ?_) ?_ | refine vHc (congrArg (fun z => some (Blk.ints _ z)) ?_) ?_ | refine vFc (congrArg (fun z => some (V.bool z)) ?_) ?_ | refine vFs rfl rfl ?_ ?_
  rintro ⟨j, kk, ss⟩ ⟨hj, hk, hsp⟩
  dsimp only at hj hk hsp ⊢
  have hpw := fun t (ht : t ≤ 3) => pow_bd hp ht
  have hal := allS_len hp hj
  refine CW_seq ?_
  refine cR ?_
  refine oM rfl rfl ?_
  refine oQ (Q_bin rfl rfl rfl) rfl rfl ?_
  refine oN ?_
  first | refine cT rfl ?_ | refine cF rfl ?_ | refine CW_cond rfl (fun hc => ?_) (fun hc => ?_)
  all_goals try simp only [s1, s2, s3, s4, s5, s6, s7, s8, s9, s10, s11, s12] at hc
  all_goals first
    | (
     refine CW_skip ?_)
    | (
     refine CW_exit ?_)
  all_goals first
    | with_reducible refine tR ?_
    | with_reducible refine tE ?_
    | (
     with_reducible refine tN ?_
     refine CW_seq ?_
     refine CW_block ?_
     refine cR ?_
     refine oA rfl rfl ?_
     refine oN ?_
     refine CW_seq ?_
     refine cR ?_
     (have hj3 : j ≤ 3 := by omega); refine oM rfl rfl ?_; rw [show (3 - (j : Int)) = ((3 - j : Nat) : Int) by omega]
     refine oQ (Q_binu (z := ((3 - j + 1 : Nat) : Int)) rfl rfl (congrArg some (by omega)) (by omega)) rfl rfl ?_
     refine oA rfl rfl ?_
     refine oN ?_
     refine CW_block ?_
     refine CW_loop (ι := Nat) (fun t => t ≤ j) (fun t => ⟨[(0, .int (n : Int)), (3, .slice 0 0 (allS n j).length kk), (4, .int ((3 - j : Nat) : Int)), (5, .int ((n ^ t : Nat) : Int)), (6, .int ((3 - j + 1 + t : Nat) : Int))], [(0, .ints 28 (((allS n j).map toI).flatten ++ ss))], 1⟩) (fun t => j - t) 0 ?_ ?_ ?_
     · first | trivial | omega | (simp; done) | (simp; omega)
     · refine View.mk' [] rfl rfl rfl ?_ ?_
       repeat' first | exact vFn | refine vFc rfl ?_ | exact vHn | refine vHc rfl ?_ | refine vFc (congrArg (fun z => some (V.int z)) ?_) ?_ | refine vHc (congrArg (fun z => some (Blk.ints _ z)) ?_) ?_ | refine vFc (congrArg (fun z => some (V.bool z)) ?_) ?_ | refine vFs rfl rfl ?_ ?_
     intro t ht
     have hpt := hpw t (by omega)
     refine CW_seq ?_
     refine cR ?_
     refine oM rfl rfl ?_
     refine oQ (Q_bin rfl rfl rfl) rfl rfl ?_
     refine oN ?_
     first | refine cT rfl ?_ | refine cF rfl ?_ | refine CW_cond rfl (fun hc => ?_) (fun hc => ?_)
     all_goals try simp only [s1, s2, s3, s4, s5, s6, s7, s8, s9, s10, s11, s12] at hc
     all_goals first
       | (
        refine CW_skip ?_)
       | (
        refine CW_exit ?_)
     all_goals first
       | with_reducible refine tR ?_
       | with_reducible refine tE ?_
       | (
        with_reducible refine tN ?_
        refine CW_seq ?_
        refine CW_block ?_
        refine CW_region ?_
        iterate 2 refine oM rfl rfl ?_
        (have htj : t < j := by omega); refine oQ (Q_nmul rfl rfl (by have := hpw (t + 1) (by omega); rw [Nat.pow_succ] at this; omega)) rfl rfl ?_; rw [← Nat.pow_succ]
        refine oA rfl rfl ?_
        refine OW_nil ?_
        all_goals first | with_reducible refine bN ?_ | with_reducible refine bE ?_ | with_reducible refine bR ?_ | refine bX rfl ?_
        all_goals with_reducible refine tN ?_
        all_goals (
         refine CW_region ?_
         refine oM rfl rfl ?_
         first | refine oQ (Q_binu rfl rfl rfl (by omega)) rfl rfl ?_ | refine oQ (Q_bin rfl rfl rfl) rfl rfl ?_
         refine oA rfl rfl ?_
         refine OW_nil ?_))
     all_goals first
       | with_reducible refine tR ?_
       | with_reducible refine tE ?_
       | (
        with_reducible refine tN ?_
        refine ⟨t + 1, ?_, ?_, View.mk' [] rfl rfl rfl ?_ ?_⟩
        · omega
        · omega
        all_goals (repeat' first | exact vFn | refine vFc rfl ?_ | exact vHn | refine vHc rfl ?_ | refine vFc (congrArg (fun z => some (V.int z)) ?_) ?_ | refine vHc (congrArg (fun z => some (Blk.ints _ z)) ?_) ?_ | refine vFc (congrArg (fun z => some (V.bool z)) ?_) ?_ | refine vFs rfl rfl ?_ ?_))
     all_goals first | with_reducible refine bN ?_ | with_reducible refine bE ?_ | with_reducible refine bR ?_ | refine bX rfl ?_
     all_goals with_reducible refine tN ?_
     all_goals (
      refine cR ?_
      refine oA rfl rfl ?_
      refine oN ?_
      refine CW_block ?_
      (have etj : t = j := by omega)
      subst etj
      refine CW_loop (ι := Nat × Nat × List Int) (fun x => x.1 ≤ n ^ t ∧ (rowSI n t x.1).length ≤ x.2.1 ∧ x.2.1 * 4 ≤ (rowSI n t x.1).length * 4 + x.2.2.length) (fun x => ⟨[(0, .int (n : Int)), (3, .slice 0 0 (rowSI n t x.1).length x.2.1), (4, .int ((3 - t : Nat) : Int)), (5, .int ((n ^ t : Nat) : Int)), (7, .int (x.1 : Nat))], [(0, .ints 28 ((rowSI n t x.1).flatten ++ x.2.2))], 1⟩) (fun x => n ^ t - x.1) (0, kk, ss) ?_ ?_ ?_
      · (rw [rowSI_zero, List.length_map]; exact ⟨Nat.zero_le _, hk, hsp⟩)
      · refine View.mk' [] rfl rfl rfl ?_ ?_
        repeat' first | exact vFn | refine vFc rfl ?_ | exact vHn | refine vHc rfl ?_ | refine vFc (congrArg (fun z => some (V.int z)) ?_) ?_ | refine vHc (congrArg (fun z => some (Blk.ints _ z)) ?_) ?_ | refine vFc (congrArg (fun z => some (V.bool z)) ?_) ?_ | refine vFs rfl rfl ?_ ?_
        all_goals dsimp only
        all_goals first | (rw [rowSI_zero, List.length_map]; done) | (rw [rowSI_zero]; done)
      rintro ⟨c, kc, sc⟩ ⟨hcn, hkc, hsc⟩
      dsimp only at hcn hkc hsc ⊢
      have hRl := rowSI_len n t c
      have hRf := flat3 (rowSI_four n t c)
      have hol := fun s => ownT_len n (3 - t) c s
      have hil := fun s => (toI_len (ownT n (3 - t) c s)).trans (hol s)
      refine CW_seq ?_
      refine cR ?_
      iterate 2 refine oM rfl rfl ?_
      refine oQ (Q_bin rfl rfl rfl) rfl rfl ?_
      refine oN ?_
      first | refine cT rfl ?_ | refine cF rfl ?_ | refine CW_cond rfl (fun hc => ?_) (fun hc => ?_)
      all_goals try simp only [s1, s2, s3, s4, s5, s6, s7, s8, s9, s10, s11, s12] at hc
      all_goals first
        | (
         refine CW_skip ?_)
        | (
         refine CW_exit ?_)
      all_goals first
        | with_reducible refine tR ?_
        | with_reducible refine tE ?_
        | (
         with_reducible refine tN ?_
         refine CW_seq ?_
         refine CW_block ?_
         refine cR ?_
         refine oQ (Q_build rfl rfl rfl rfl rfl rfl rfl rfl) rfl rfl ?_
         refine oM rfl rfl ?_
         refine oAlloc rfl rfl rfl rfl rfl rfl rfl ?_
         first | refine oSw rfl rfl rfl rfl ?_ | refine oSa rfl rfl rfl rfl ?_
         refine oA rfl rfl ?_
         refine oN ?_
         refine cR ?_
         refine oM rfl rfl ?_
         refine oQ (Q_ixa0z 1 rfl rfl rfl rfl rfl rfl (by omega)) rfl rfl ?_; rw [Nat.mul_one]
         refine oS rfl rfl rfl rfl rfl ?_
         refine oN ?_
         refine CW_seq ?_
         refine cR ?_
         refine oA rfl rfl ?_
         refine oN ?_
         refine CW_block ?_
         refine CW_loop (ι := Nat) (fun s => s ≤ t) (fun s => ⟨[(0, .int (n : Int)), (3, .slice 0 0 (rowSI n t c).length kc), (4, .int ((3 - t : Nat) : Int)), (5, .int ((n ^ t : Nat) : Int)), (7, .int (c : Nat)), (8, .ptr 1 0), (9, .int ((c / n ^ s : Nat) : Int)), (10, .int ((3 - s : Nat) : Int))], [(0, .ints 28 ((rowSI n t c).flatten ++ sc)), (1, .ints 28 (toI (ownT n (3 - t) c s)))], 2⟩) (fun s => t - s) 0 ?_ ?_ ?_
         · exact Nat.zero_le _
         · refine View.mk' [] rfl rfl rfl ?_ ?_
           repeat' first | exact vFn | refine vFc rfl ?_ | exact vHn | refine vHc rfl ?_ | refine vFc (congrArg (fun z => some (V.int z)) ?_) ?_ | refine vHc (congrArg (fun z => some (Blk.ints _ z)) ?_) ?_ | refine vFc (congrArg (fun z => some (V.bool z)) ?_) ?_ | refine vFs rfl rfl ?_ ?_
           all_goals first | (rw [Nat.pow_zero, Nat.div_one]; done) | (rw [ownT, ← toI_set]; rfl) | rfl
         intro s hs
         have hps := hpw s (by omega)
         have hils := hil s
         refine CW_seq ?_
         refine cR ?_
         iterate 2 refine oM rfl rfl ?_
         refine oQ (Q_bin rfl rfl rfl) rfl rfl ?_
         refine oN ?_
         first | refine cT rfl ?_ | refine cF rfl ?_ | refine CW_cond rfl (fun hc => ?_) (fun hc => ?_)
         all_goals try simp only [s1, s2, s3, s4, s5, s6, s7, s8, s9, s10, s11, s12] at hc
         all_goals first
           | (
            refine CW_skip ?_)
           | (
            refine CW_exit ?_)
         all_goals first
           | with_reducible refine tR ?_
           | with_reducible refine tE ?_
           | (
            with_reducible refine tN ?_
            refine CW_seq ?_
            refine CW_block ?_
            refine cR ?_
            iterate 3 refine oM rfl rfl ?_
            refine oQ (Q_nrem rfl rfl (by omega)) rfl rfl ?_
            (have hst3 : s < t := by omega); refine oQ (Q_ixa0z 1 rfl rfl rfl rfl rfl rfl (by omega)) rfl rfl ?_; rw [Nat.mul_one]
            refine oS rfl rfl rfl rfl rfl ?_
            refine oN ?_
            refine CW_region ?_
            iterate 2 refine oM rfl rfl ?_
            refine oQ (Q_nquo rfl rfl (by omega) (by have := Nat.div_le_self c (n ^ s); have := hpw t (by omega); omega)) rfl rfl ?_
            refine oA rfl rfl ?_
            refine OW_nil ?_
            all_goals first | with_reducible refine bN ?_ | with_reducible refine bE ?_ | with_reducible refine bR ?_ | refine bX rfl ?_
            all_goals with_reducible refine tN ?_
            all_goals (
             refine CW_region ?_
             refine oM rfl rfl ?_
             refine oQ (Q_binu (z := ((3 - (s + 1) : Nat) : Int)) rfl rfl (congrArg some (by omega)) (by omega)) rfl rfl ?_
             refine oA rfl rfl ?_
             refine OW_nil ?_))
         all_goals first
           | with_reducible refine tR ?_
           | with_reducible refine tE ?_
           | (
            with_reducible refine tN ?_
            refine ⟨s + 1, ?_, ?_, View.mk' [] rfl rfl rfl ?_ ?_⟩
            · omega
            · omega
            all_goals (repeat' first | exact vFn | refine vFc rfl ?_ | exact vHn | refine vHc rfl ?_ | refine vFc (congrArg (fun z => some (V.int z)) ?_) ?_ | refine vHc (congrArg (fun z => some (Blk.ints _ z)) ?_) ?_ | refine vFc (congrArg (fun z => some (V.bool z)) ?_) ?_ | refine vFs rfl rfl ?_ ?_)
            all_goals first
              | (rw [Nat.div_div_eq_div_mul, ← Nat.pow_succ]; done)
              | (rw [toI_set]; rfl))
         all_goals first | with_reducible refine bN ?_ | with_reducible refine bE ?_ | with_reducible refine bR ?_ | refine bX rfl ?_
         all_goals with_reducible refine tN ?_
         all_goals (
          refine CW_region ?_
          refine oM rfl rfl ?_
          (have est : s = t := by omega); subst est; (have hils2 := hil s); refine oQ (Q_ldw rfl rfl rfl rfl hils2) rfl rfl ?_
          refine oBsl1 hils2 rfl rfl rfl rfl rfl rfl rfl rfl rfl rfl ?_
          refine oApp (sz := 4) (by_ := 32) (xl := toI (ownT n (3 - s) c s)) rfl rfl rfl rfl rfl rfl ⟨by decide, rfl, .inr rfl⟩ rfl rfl rfl rfl rfl rfl hRf (by rw [hils2]) (by omega) (by omega) (by omega) (by omega) rfl rfl (fun k2 sp2 h1 h2 => ?_)
          refine oA rfl rfl ?_
          refine OW_nil ?_)
         all_goals first | with_reducible refine bN ?_ | with_reducible refine bE ?_ | with_reducible refine bR ?_ | refine bX rfl ?_
         all_goals with_reducible refine tN ?_
         all_goals (
          refine CW_region ?_
          refine oM rfl rfl ?_
          first | refine oQ (Q_binu rfl rfl rfl (by omega)) rfl rfl ?_ | refine oQ (Q_bin rfl rfl rfl) rfl rfl ?_
          refine oA rfl rfl ?_
          refine OW_nil ?_))
      all_goals first
        | with_reducible refine tR ?_
        | with_reducible refine tE ?_
        | (
         with_reducible refine tN ?_
         refine ⟨(c + 1, k2, sp2), ?_, ?_, View.mk' [(0, 3)] rfl rfl rfl ?_ ?_⟩
         · (dsimp only; rw [rowSI_succ, List.length_append, List.length_singleton]; exact ⟨by omega, h1, h2⟩)
         · omega
         all_goals (repeat' first | exact vFn | refine vFc rfl ?_ | exact vHn | refine vHc rfl ?_ | refine vFc (congrArg (fun z => some (V.int z)) ?_) ?_ | refine vHc (congrArg (fun z => some (Blk.ints _ z)) ?_) ?_ | refine vFc (congrArg (fun z => some (V.bool z)) ?_) ?_ | refine vFs rfl rfl ?_ ?_)
         all_goals dsimp only
         all_goals first | (rw [rowSI_succ, List.length_append, List.length_singleton]; done) | (rw [rowSI_succ]; simp; done))
      all_goals first | with_reducible refine bN ?_ | with_reducible refine bE ?_ | with_reducible refine bR ?_ | refine bX rfl ?_)
     all_goals first | with_reducible refine bN ?_ | with_reducible refine bE ?_ | with_reducible refine bR ?_ | refine bX rfl ?_
     all_goals with_reducible refine tN ?_
     all_goals (
      refine CW_region ?_
      refine oM rfl rfl ?_
      refine oQ (Q_binu (z := 3 - ((t + 1 : Nat) : Int)) rfl rfl (congrArg some (by omega)) (by omega)) rfl rfl ?_
      refine oA rfl rfl ?_
      refine OW_nil ?_))
  all_goals first
    | with_reducible refine tR ?_
    | with_reducible refine tE ?_
    | (
     with_reducible refine tN ?_
     refine ⟨(t + 1, kc, sc), ?_, ?_, View.mk' [] rfl rfl rfl ?_ ?_⟩
     · dsimp only
       have e : c = n ^ t := by omega
       subst e
       rw [rowSI_end, List.length_map] at hkc hsc
       exact ⟨by omega, hkc, hsc⟩
     · omega
     all_goals (repeat' first | exact vFn | refine vFc rfl ?_ | exact vHn | refine vHc rfl ?_ | refine vFc (congrArg (fun z => some (V.int z)) ?_) ?_ | refine vHc (congrArg (fun z => some (Blk.ints _ z)) ?_) ?_ | refine vFc (congrArg (fun z => some (V.bool z)) ?_) ?_ | refine vFs rfl rfl ?_ ?_)
     all_goals dsimp only
     all_goals have e : c = n ^ t := by omega
     all_goals subst e
     all_goals first | (rw [rowSI_end, List.length_map]; done) | (rw [rowSI_end]; done))
  all_goals first | with_reducible refine bN ?_ | with_reducible refine bE ?_ | with_reducible refine bR ?_ | refine bX rfl ?_
  all_goals with_reducible refine tN ?_
  all_goals (
   refine cR ?_
   refine oM rfl rfl ?_
   refine oA rfl rfl ?_
   refine oN ?_
   refine CW_ret ?_)
  all_goals (
   have e : j = 4 := by omega
   subst e
   have hl : ((allS n 4).map toI).length = (allS n 4).length := List.length_map _
   exact exitH (r0 := .slice 0 0 ((allS n 4).map toI).length kk) (H0 := [(0, .ints 28 (((allS n 4).map toI).flatten ++ ss))]) (.inr rfl) [] 1 (.cons (.tmp rfl rfl) .nil) (by rw [hl]; rfl) rfl rfl (vHc rfl vHn) rfl rfl ⟨kk, ss, by rw [hl]; exact hk, by rw [hl]; exact hsp, rfl, rfl⟩)
theorem l08All_con (p : Int) (hp : primeB p = true) : Con Tryd.prog [] 57 [.int p] [] (ownR 4 28 [] 0 (allSp p)) := by
  obtain ⟨n, rfl, _⟩ := of_prime hp
  have := l08AllN_con n hp
  unfold allSp
  rwa [Int.toNat_natCast]
theorem l08Spots_con (p : Int) (q : List Int) (hp : primeB p = true) (hql : q.length = 10) (hq : smN 12 q) : Con Tryd.prog [] 52 [.int p, .arr q] [] (ownR 4 28 [] 0 (spV p q)) := by
  have hal := allSp_len hp
  have h4a : ∀ x ∈ (allSp p), x.length = 4 := fun x hx => (allSp_norm hp hx).1
  have hfa := flat3 h4a
  refine conW tab_ok [(0, .int p), (1, .arr q)] 0 [] [] Tryd.func52 rfl rfl rfl rfl rfl rfl rfl rfl rfl ?_
  refine cR ?_
  refine oBox rfl rfl rfl rfl rfl rfl ?_
  refine oA rfl rfl ?_
  refine oN ?_
  refine cR ?_
  refine oM rfl rfl ?_
  refine oCall (l08All_con p hp) [] 1 rfl rfl (Fits.mk' vHn rfl rfl (by first | (simp; done) | exact glOk rfl rfl rfl)) rfl rfl ?_
  rintro r H1 ⟨k0, sp0, hk0, hsp0, rfl, rfl⟩
  refine ⟨.slice 1 0 (allSp p).length k0, [(1, .ints 28 ((allSp p).flatten ++ sp0))], rfl, rfl, rfl, ?_⟩
  refine oBsl rfl rfl rfl rfl (.inr ⟨rfl, rfl, by decide⟩) rfl rfl rfl rfl rfl rfl ?_
  iterate 2 refine oA rfl rfl ?_
  refine oN ?_
  refine CW_seq ?_
  refine cR ?_
  refine oA rfl rfl ?_
  refine oN ?_
  refine CW_block ?_
  refine CW_loop (ι := Nat × Nat × List Int) (fun x => x.1 ≤ (allSp p).length ∧ (((allSp p).take x.1).filter (quG p q)).length ≤ x.2.1 ∧ x.2.1 * 4 ≤ (((allSp p).take x.1).filter (quG p q)).length * 4 + x.2.2.length) (fun x => ⟨[(0, .int p), (3, .ptr 0 0), (5, .slice 1 0 (allSp p).length k0), (6, .slice 2 0 (((allSp p).take x.1).filter (quG p q)).length x.2.1), (7, .int (x.1 : Nat))], [(0, .ints 26 q), (1, .ints 28 ((allSp p).flatten ++ sp0)), (2, .ints 28 ((((allSp p).take x.1).filter (quG p q)).flatten ++ x.2.2))], 3⟩) (fun x => (allSp p).length - x.1) (0, 0, []) ?_ ?_ ?_
  · exact ⟨Nat.zero_le _, Nat.le_refl _, Nat.le_refl _⟩
  · refine View.mk' [] rfl rfl rfl ?_ ?_
    repeat' first | exact vFn | refine vFc rfl ?_ | exact vHn | refine vHc rfl ?_ | refine vFc (congrArg (fun z => some (V.int z)) ?_) ?_ | refine vHc (congrArg (fun z => some (Blk.ints _ z)) ?_) ?_ | refine vFc (congrArg (fun z => some (V.bool z)) ?_) ?_ | refine vFs rfl rfl ?_ ?_
  rintro ⟨i, kk, ss⟩ ⟨hi, hk, hsp⟩
  dsimp only at hi hk hsp ⊢
  have hfn := filter_len (g := quG p q) i hi
  have hlen := flat3 (filter_three (g := quG p q) h4a i)
  have hmem := fun h : i < (allSp p).length => getD_mem h
  have h4i := fun h : i < (allSp p).length => h4a _ (getD_mem h)
  refine CW_seq ?_
  refine cR ?_
  iterate 2 refine oM rfl rfl ?_
  first | refine oQ (Q_len rfl rfl rfl rfl) rfl rfl ?_ | refine oQ (Q_len0 rfl rfl rfl rfl) rfl rfl ?_
  refine oQ (Q_bin rfl rfl rfl) rfl rfl ?_
  refine oN ?_
  first | refine cT rfl ?_ | refine cF rfl ?_ | refine CW_cond rfl (fun hc => ?_) (fun hc => ?_)
  all_goals try simp only [s1, s2, s3, s4, s5, s6, s7, s8, s9, s10, s11, s12] at hc
  all_goals first
    | (
     refine CW_skip ?_)
    | (
     refine CW_exit ?_)
  all_goals first
    | with_reducible refine tR ?_
    | with_reducible refine tE ?_
    | (
     with_reducible refine tN ?_
     refine CW_seq ?_
     refine CW_block ?_
     refine CW_seq ?_
     refine CW_draw lateOk (by decide +kernel) ?_
     refine qM rfl rfl ?_
     refine qQ (Q_ldw rfl rfl rfl rfl hql) rfl rfl ?_
     iterate 2 refine qM rfl rfl ?_
     (have hil : i < (allSp p).length := by omega); (have h4i := h4i hil); (have hmem := hmem hil); refine qQ (Q_ixs0z 4 rfl rfl rfl rfl rfl rfl (by omega)) rfl rfl ?_
     refine qQ (Q_lda (n := 4) rfl rfl rfl rfl rfl (by rw [List.length_append, hfa]; omega)) rfl rfl ?_; rw [flat_get h4a hil]
     refine qQ (Q_call0 (l08At_con p q _ hp hql h4i hq (allSp_smN hp hmem)) rfl rfl rfl) rfl rfl ?_
     refine qQ (Q_bin rfl rfl rfl) rfl rfl ?_
     refine QW_nil ?_
     all_goals with_reducible refine tN ?_
     all_goals (
      first | refine cT rfl ?_ | refine cF rfl ?_ | refine CW_cond rfl (fun hc => ?_) (fun hc => ?_)
      all_goals try simp only [s1, s2, s3, s4, s5, s6, s7, s8, s9, s10, s11, s12] at hc
      all_goals first
        | (
         refine CW_skip ?_)
        | (
         refine CW_region ?_
         iterate 3 refine oM rfl rfl ?_
         refine oQ (Q_ixs0z 4 rfl rfl rfl rfl rfl rfl (by omega)) rfl rfl ?_
         refine oQ (Q_lda (n := 4) rfl rfl rfl rfl rfl (by rw [List.length_append, hfa]; omega)) rfl rfl ?_; rw [flat_get h4a hil]
         refine oBsl1 h4i rfl rfl rfl rfl rfl rfl rfl rfl rfl rfl ?_
         refine oApp (sz := 4) (by_ := 32) (xl := (allSp p).getD i []) rfl rfl rfl rfl rfl rfl ⟨by decide, rfl, .inr rfl⟩ rfl rfl rfl rfl rfl rfl hlen (by rw [h4i]) (by omega) (by omega) (by omega) (by omega) rfl rfl (fun k2 sp2 h1 h2 => ?_)
         refine oA rfl rfl ?_
         refine OW_nil ?_))
     all_goals first | with_reducible refine bN ?_ | with_reducible refine bE ?_ | with_reducible refine bR ?_ | refine bX rfl ?_
     all_goals with_reducible refine tN ?_
     all_goals (
      refine CW_region ?_
      refine oM rfl rfl ?_
      first | refine oQ (Q_binu rfl rfl rfl (by omega)) rfl rfl ?_ | refine oQ (Q_bin rfl rfl rfl) rfl rfl ?_
      refine oA rfl rfl ?_
      refine OW_nil ?_))
  all_goals first
    | with_reducible refine tR ?_
    | with_reducible refine tE ?_
    | (
     with_reducible refine tN ?_
     first
       | (
        refine ⟨(i + 1, k2, sp2), ?_, ?_, View.mk' [(2, 4)] rfl rfl rfl ?_ ?_⟩
        · dsimp only
          first
            | (rw [filter_snoc (by omega) (decide_eq_true hc), List.length_append, List.length_singleton]; exact ⟨by omega, h1, h2⟩)
            | (rw [filter_skip (by omega) (decide_eq_false hc)]; exact ⟨by omega, hk, hsp⟩)
        · omega
        all_goals (repeat' first | exact vFn | refine vFc rfl ?_ | exact vHn | refine vHc rfl ?_ | refine vFc (congrArg (fun z => some (V.int z)) ?_) ?_ | refine vHc (congrArg (fun z => some (Blk.ints _ z)) ?_) ?_ | refine vFc (congrArg (fun z => some (V.bool z)) ?_) ?_ | refine vFs rfl rfl ?_ ?_)
        all_goals dsimp only
        all_goals first
          | (rw [filter_snoc (by omega) (decide_eq_true hc)]; simp; done)
          | (rw [filter_skip (by omega) (decide_eq_false hc)]; done))
       | (
        refine ⟨(i + 1, kk, ss), ?_, ?_, View.mk' [] rfl rfl rfl ?_ ?_⟩
        · dsimp only
          first
            | (rw [filter_snoc (by omega) (decide_eq_true hc), List.length_append, List.length_singleton]; exact ⟨by omega, h1, h2⟩)
            | (rw [filter_skip (by omega) (decide_eq_false hc)]; exact ⟨by omega, hk, hsp⟩)
        · omega
        all_goals (repeat' first | exact vFn | refine vFc rfl ?_ | exact vHn | refine vHc rfl ?_ | refine vFc (congrArg (fun z => some (V.int z)) ?_) ?_ | refine vHc (congrArg (fun z => some (Blk.ints _ z)) ?_) ?_ | refine vFc (congrArg (fun z => some (V.bool z)) ?_) ?_ | refine vFs rfl rfl ?_ ?_)
        all_goals dsimp only
        all_goals first
          | (rw [filter_snoc (by omega) (decide_eq_true hc)]; simp; done)
          | (rw [filter_skip (by omega) (decide_eq_false hc)]; done)))
  all_goals first | with_reducible refine bN ?_ | with_reducible refine bE ?_ | with_reducible refine bR ?_ | refine bX rfl ?_
  all_goals with_reducible refine tN ?_
  all_goals (
   refine cR ?_
   refine oM rfl rfl ?_
   refine oA rfl rfl ?_
   refine oN ?_
   refine CW_ret ?_)
  all_goals (
   have e : i = (allSp p).length := (by omega)
   subst e
   rw [List.take_length] at hk hsp
   exact exitH (r0 := .slice 0 0 (spV p q).length kk) (H0 := [(0, .ints 28 ((spV p q).flatten ++ ss))]) (.inr rfl) [(0, 2)] 1 (.cons (.tmp rfl rfl) .nil) (by simp only [List.take_length]; rfl) rfl rfl (vHc (by simp only [List.take_length]; rfl) vHn) rfl rfl ⟨kk, ss, hk, hsp, rfl, rfl⟩)
theorem spec_CountSpots_con (p : Int) (q : List Int) (hql : q.length = 10) : ConQ Tryd.prog [] 16 [.int p, .arr q] [] (.tuple [.int (if quC p q = 0 then ((spV p q).length : Int) else 0), .int (quC p q)]) := by
  by_cases hcd : quC p q = 0
  · obtain ⟨hp, hq⟩ := quC_zero hcd
    rw [if_pos hcd]
    refine conW tab_ok [(0, .int p), (1, .arr q)] 0 [] [] Tryd.func16 rfl rfl rfl rfl rfl rfl rfl rfl rfl ?_
    refine cR ?_
    refine oBox rfl rfl rfl rfl rfl rfl ?_
    iterate 2 refine oA rfl rfl ?_
    refine oN ?_
    refine CW_seq ?_
    refine cR ?_
    refine oM rfl rfl ?_
    refine oQ (Q_ldw rfl rfl rfl rfl hql) rfl rfl ?_
    refine oQ (Q_call0 (l08Code_nil p q hql) rfl rfl rfl) rfl rfl ?_
    refine oA rfl rfl ?_
    refine oN ?_
    refine cR ?_
    refine oM rfl rfl ?_
    refine oQ (Q_bin rfl rfl rfl) rfl rfl ?_
    refine oN ?_
    first | refine cT rfl ?_ | refine cF rfl ?_ | refine CW_cond rfl (fun hc => ?_) (fun hc => ?_)
    all_goals try simp only [s1, s2, s3, s4, s5, s6, s7, s8, s9, s10, s11, s12] at hc
    all_goals try (exfalso; first | exact absurd hcd hc | exact absurd hc hcd; done)
    all_goals first
      | (
       refine CW_skip ?_)
      | (
       refine cR ?_
       refine oM rfl rfl ?_
       iterate 2 refine oA rfl rfl ?_
       refine oN ?_
       refine CW_ret ?_)
    all_goals first
      | with_reducible refine tR ?_
      | with_reducible refine tE ?_
      | (
       with_reducible refine tN ?_
       refine cR ?_
       refine oM rfl rfl ?_
       refine oQ (Q_ldw rfl rfl rfl rfl hql) rfl rfl ?_
       refine oCall (l08Spots_con p q hp hql (smN_point hq)) [] 1 rfl rfl (Fits.mk' vHn rfl rfl (by first | (simp; done) | exact glOk rfl rfl rfl)) rfl rfl ?_
       rintro r H1 ⟨k9, sp9, hk9, hs9, rfl, rfl⟩
       refine ⟨.slice 1 0 (spV p q).length k9, [(1, .ints 28 ((spV p q).flatten ++ sp9))], rfl, rfl, rfl, ?_⟩
       first | refine oQ (Q_len rfl rfl rfl rfl) rfl rfl ?_ | refine oQ (Q_len0 rfl rfl rfl rfl) rfl rfl ?_
       iterate 2 refine oA rfl rfl ?_
       refine oN ?_
       refine CW_ret ?_)
    all_goals (
     first | (exfalso; first | exact hc hcd | exact hcd hc; done) | ((refine exitQ (.inr rfl) 0 (.cons (.tmp rfl rfl) (.cons (.tmp rfl rfl) .nil)) ?_ rfl vHn rfl rfl); rw [hcd]; rfl))
  · rw [if_neg hcd]
    refine conW tab_ok [(0, .int p), (1, .arr q)] 0 [] [] Tryd.func16 rfl rfl rfl rfl rfl rfl rfl rfl rfl ?_
    refine cR ?_
    refine oBox rfl rfl rfl rfl rfl rfl ?_
    iterate 2 refine oA rfl rfl ?_
    refine oN ?_
    refine CW_seq ?_
    refine cR ?_
    refine oM rfl rfl ?_
    refine oQ (Q_ldw rfl rfl rfl rfl hql) rfl rfl ?_
    refine oQ (Q_call0 (l08Code_nil p q hql) rfl rfl rfl) rfl rfl ?_
    refine oA rfl rfl ?_
    refine oN ?_
    refine cR ?_
    refine oM rfl rfl ?_
    refine oQ (Q_bin rfl rfl rfl) rfl rfl ?_
    refine oN ?_
    first | refine cT rfl ?_ | refine cF rfl ?_ | refine CW_cond rfl (fun hc => ?_) (fun hc => ?_)
    all_goals try simp only [s1, s2, s3, s4, s5, s6, s7, s8, s9, s10, s11, s12] at hc
    all_goals try (exfalso; first | exact absurd hcd hc | exact absurd hc hcd; done)
    all_goals first
      | (
       refine CW_skip ?_)
      | (
       refine cR ?_
       refine oM rfl rfl ?_
       iterate 2 refine oA rfl rfl ?_
       refine oN ?_
       refine CW_ret ?_)
    all_goals first
      | with_reducible refine tR ?_
      | with_reducible refine tE ?_
      | (
       with_reducible refine tN ?_
       refine cR ?_
       refine oM rfl rfl ?_
       (exfalso; first | exact hc hcd | exact hcd hc)
       fail "call of loop.example/g01310/spec.l08Spots at slot 15"
       first | refine oQ (Q_len rfl rfl rfl rfl) rfl rfl ?_ | refine oQ (Q_len0 rfl rfl rfl rfl) rfl rfl ?_
       iterate 2 refine oA rfl rfl ?_
       refine oN ?_
       refine CW_ret ?_)
    all_goals (
     first | (exfalso; first | exact hc hcd | exact hcd hc; done) | ((refine exitQ (.inr rfl) 0 (.cons (.tmp rfl rfl) (.cons (.tmp rfl rfl) .nil)) ?_ rfl vHn rfl rfl); rfl))
theorem spec_SpotsOfQuadric_con (p : Int) (q : List Int) (hql : q.length = 10) : Con Tryd.prog [] 18 [.int p, .arr q] [] (listR 4 28 [] 0 (quC p q) (spV p q)) := by
  by_cases hcd : quC p q = 0
  · obtain ⟨hp, hq⟩ := quC_zero hcd
    refine conW tab_ok [(0, .int p), (1, .arr q)] 0 [] [] Tryd.func18 rfl rfl rfl rfl rfl rfl rfl rfl rfl ?_
    refine cR ?_
    refine oBox rfl rfl rfl rfl rfl rfl ?_
    iterate 2 refine oA rfl rfl ?_
    refine oN ?_
    refine CW_seq ?_
    refine cR ?_
    refine oM rfl rfl ?_
    refine oQ (Q_ldw rfl rfl rfl rfl hql) rfl rfl ?_
    refine oQ (Q_call0 (l08Code_nil p q hql) rfl rfl rfl) rfl rfl ?_
    refine oA rfl rfl ?_
    refine oN ?_
    refine cR ?_
    refine oM rfl rfl ?_
    refine oQ (Q_bin rfl rfl rfl) rfl rfl ?_
    refine oN ?_
    first | refine cT rfl ?_ | refine cF rfl ?_ | refine CW_cond rfl (fun hc => ?_) (fun hc => ?_)
    all_goals try simp only [s1, s2, s3, s4, s5, s6, s7, s8, s9, s10, s11, s12] at hc
    all_goals try (exfalso; first | exact absurd hcd hc | exact absurd hc hcd; done)
    all_goals first
      | (
       refine CW_skip ?_)
      | (
       refine cR ?_
       refine oM rfl rfl ?_
       iterate 2 refine oA rfl rfl ?_
       refine oN ?_
       refine CW_ret ?_)
    all_goals first
      | with_reducible refine tR ?_
      | with_reducible refine tE ?_
      | (
       with_reducible refine tN ?_
       refine cR ?_
       refine oM rfl rfl ?_
       refine oQ (Q_ldw rfl rfl rfl rfl hql) rfl rfl ?_
       refine oCall (l08Spots_con p q hp hql (smN_point hq)) [] 1 rfl rfl (Fits.mk' vHn rfl rfl (by first | (simp; done) | exact glOk rfl rfl rfl)) rfl rfl ?_
       rintro r H1 ⟨k9, sp9, hk9, hs9, rfl, rfl⟩
       refine ⟨.slice 1 0 (spV p q).length k9, [(1, .ints 28 ((spV p q).flatten ++ sp9))], rfl, rfl, rfl, ?_⟩
       iterate 2 refine oA rfl rfl ?_
       refine oN ?_
       refine CW_ret ?_)
    all_goals (
     first | (exfalso; first | exact hc hcd | exact hcd hc; done) | exact exitH (r0 := .tuple [.slice 0 0 (spV p q).length k9, .int 0]) (H0 := [(0, .ints 28 ((spV p q).flatten ++ sp9))]) (.inr rfl) [(0, 1)] 1 (.cons (.tmp rfl rfl) (.cons (.tmp rfl rfl) .nil)) rfl rfl rfl (vHc rfl vHn) rfl rfl (listR_ok hcd hk9 hs9 rfl rfl))
  · skip
    refine conW tab_ok [(0, .int p), (1, .arr q)] 0 [] [] Tryd.func18 rfl rfl rfl rfl rfl rfl rfl rfl rfl ?_
    refine cR ?_
    refine oBox rfl rfl rfl rfl rfl rfl ?_
    iterate 2 refine oA rfl rfl ?_
    refine oN ?_
    refine CW_seq ?_
    refine cR ?_
    refine oM rfl rfl ?_
    refine oQ (Q_ldw rfl rfl rfl rfl hql) rfl rfl ?_
    refine oQ (Q_call0 (l08Code_nil p q hql) rfl rfl rfl) rfl rfl ?_
    refine oA rfl rfl ?_
    refine oN ?_
    refine cR ?_
    refine oM rfl rfl ?_
    refine oQ (Q_bin rfl rfl rfl) rfl rfl ?_
    refine oN ?_
    first | refine cT rfl ?_ | refine cF rfl ?_ | refine CW_cond rfl (fun hc => ?_) (fun hc => ?_)
    all_goals try simp only [s1, s2, s3, s4, s5, s6, s7, s8, s9, s10, s11, s12] at hc
    all_goals try (exfalso; first | exact absurd hcd hc | exact absurd hc hcd; done)
    all_goals first
      | (
       refine CW_skip ?_)
      | (
       refine cR ?_
       refine oM rfl rfl ?_
       iterate 2 refine oA rfl rfl ?_
       refine oN ?_
       refine CW_ret ?_)
    all_goals first
      | with_reducible refine tR ?_
      | with_reducible refine tE ?_
      | (
       with_reducible refine tN ?_
       refine cR ?_
       refine oM rfl rfl ?_
       (exfalso; first | exact hc hcd | exact hcd hc)
       fail "call of loop.example/g01310/spec.l08Spots at slot 15"
       iterate 2 refine oA rfl rfl ?_
       refine oN ?_
       refine CW_ret ?_)
    all_goals (
     first | (exfalso; first | exact hc hcd | exact hcd hc; done) | exact exitH (r0 := .tuple [.nilsl, .int (quC p q)]) (H0 := []) (.inr rfl) [] 0 (.cons (.tmp rfl rfl) (.cons (.tmp rfl rfl) .nil)) rfl rfl rfl vHn rfl rfl (listR_no hcd rfl rfl))
end Go.Proofs.YtendffbpmpobnaaDoor
