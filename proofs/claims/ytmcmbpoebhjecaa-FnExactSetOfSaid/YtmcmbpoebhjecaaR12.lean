/- Free points: the program's side. Printed by gen_r12.py. -/
import Derived.Test.YtmcmbpoebhjecaaR11
import Derived.Test.YtmcmbpoebhjecaaR9
import Derived.Test.YtmcmbpoebhjecaaPw
namespace Go.Proofs.Ytmcmbpoebhjecaa
set_option maxRecDepth 10000
set_option linter.unusedSimpArgs false
set_option linter.unusedVariables false
def jnV (p : Int) (L : List (List Int)) (i k : Nat) : List Int := normL p (crossT (L.getD i []) (L.getD k []))
def jnR (p : Int) (L : List (List Int)) (i k : Nat) : List (List Int) := (List.range k).map (jnV p L i)
def jnT (p : Int) (L : List (List Int)) (i : Nat) : List (List Int) := (List.range i).flatMap fun j => jnR p L j j
def jnI (p : Int) (L : List (List Int)) (i k : Nat) : List (List Int) := jnT p L i ++ jnR p L i k
theorem jnI_zero (p : Int) (L : List (List Int)) (i : Nat) : jnI p L i 0 = jnT p L i := by simp [jnI, jnR]
theorem jnI_succ (p : Int) (L : List (List Int)) (i k : Nat) : jnI p L i (k + 1) = jnI p L i k ++ [jnV p L i k] := by simp [jnI, jnR, List.range_succ]
theorem jnI_end (p : Int) (L : List (List Int)) (i : Nat) : jnI p L i i = jnT p L (i + 1) := by simp [jnI, jnT, List.range_succ]
theorem jnT_zero (p : Int) (L : List (List Int)) : jnT p L 0 = [] := rfl
theorem jnV_len (p : Int) (L : List (List Int)) (i k : Nat) : (jnV p L i k).length = 3 := by simp [jnV, normL, crossT]
theorem jnT_mem {p : Int} {L : List (List Int)} {n : Nat} {l : List Int} : l ∈ jnT p L n ↔ ∃ i, i < n ∧ ∃ k, k < i ∧ jnV p L i k = l := by
  simp [jnT, jnR]
theorem jnI_mem {p : Int} {L : List (List Int)} {i k : Nat} {l : List Int} (h : l ∈ jnI p L i k) : ∃ a b, jnV p L a b = l := by
  rcases List.mem_append.1 h with h | h
  · obtain ⟨a, _, b, _, e⟩ := jnT_mem.1 h; exact ⟨a, b, e⟩
  · obtain ⟨b, _, e⟩ := List.mem_map.1 h; exact ⟨i, b, e⟩
theorem jnI_three {p : Int} {L : List (List Int)} {i k : Nat} : ∀ l ∈ jnI p L i k, l.length = 3 := fun l h => by
  obtain ⟨a, b, rfl⟩ := jnI_mem h
  exact jnV_len p L a b
theorem jnT_three {p : Int} {L : List (List Int)} {i : Nat} : ∀ l ∈ jnT p L i, l.length = 3 := fun l h => by
  rw [← jnI_zero] at h; exact jnI_three l h
theorem jnT_le {p : Int} {L : List (List Int)} : ∀ {i : Nat}, i ≤ 200 → (jnT p L i).length ≤ i * 200
  | 0, _ => by simp [jnT]
  | i + 1, h => by
    have ih := jnT_le (p := p) (L := L) (i := i) (by omega)
    rw [← jnI_end, jnI, List.length_append]
    simp only [jnR, List.length_map, List.length_range]
    omega
theorem jnI_le {p : Int} {L : List (List Int)} {i k : Nat} (hi : i ≤ 200) (hk : k ≤ 200) : (jnI p L i k).length ≤ 40200 := by
  have h := jnT_le (p := p) (L := L) hi
  rw [jnI, List.length_append]
  simp only [jnR, List.length_map, List.length_range]
  omega
theorem normL_sm {p : Int} (hp : primeB p = true) (l : List Int) : sm 13 (normL p l) := by
  have hb := prime_bd hp
  intro x hx
  obtain ⟨y, _, rfl⟩ := List.mem_map.1 hx
  have h1 := Int.emod_nonneg (y % p * facP p l) (show p ≠ 0 by omega)
  have h2 := Int.emod_lt_of_pos (y % p * facP p l) (show 0 < p by omega)
  omega
theorem jnT_sm {p : Int} (hp : primeB p = true) {L : List (List Int)} {n : Nat} {l : List Int} (h : l ∈ jnT p L n) : sm 13 l := by
  obtain ⟨i, _, k, _, rfl⟩ := jnT_mem.1 h
  exact normL_sm hp _
def frG (p : Int) (L J : List (List Int)) (m : List Int) : Bool := !(L.any fun x => decide (m = x)) && !(J.any fun l => onB p m l)
theorem free_eq {p : Int} (hp : primeB p = true) {L : List (List Int)} (hv : ∀ x ∈ L, x ∈ allPts p) (hnd : L.Nodup) {m : List Int} (hm : m ∈ allPts p) : frG p L (jnT p L L.length) m = freeB p L m := by
  have e1 : (L.any fun x => decide (m = x)) = hasB L m := by
    rw [hasB]; congr 1; funext x; rw [Bool.eq_iff_iff, decide_eq_true_eq, decide_eq_true_eq]; exact eq_comm
  have e2 : (!((jnT p L L.length).any fun l => onB p m l)) = pairB p L m := by
    rw [Bool.eq_iff_iff, Bool.not_eq_true', List.any_eq_false, pairB_iff]
    have key : ∀ k, k < L.length → ∀ j, j < k → (onB p m (jnV p L k j) = true ↔ detT m (L.getD k []) (L.getD j []) % p = 0) := fun k hk j hj => by
      have hne : L.getD k [] ≠ L.getD j [] := by
        have := List.pairwise_iff_getElem.1 hnd j k (by omega) (by omega) hj
        rw [getD_lt hk, getD_lt (show j < L.length by omega)]
        exact fun e => this e.symm
      exact join_on hp (hv _ (getD_mem hk)) (hv _ (getD_mem (by omega))) hne (allPts_three hm)
    constructor
    · intro h k hk j hj hd
      exact h _ (jnT_mem.2 ⟨k, hk, j, hj, rfl⟩) ((key k hk j hj).2 hd)
    · intro h l hl
      obtain ⟨k, hk, j, hj, rfl⟩ := jnT_mem.1 hl
      exact fun he => h k hk j hj ((key k hk j hj).1 he)
  rw [frG, e1, e2, freeB]
theorem free_filter {p : Int} (hp : primeB p = true) {L : List (List Int)} (hv : ∀ x ∈ L, x ∈ allPts p) (hnd : L.Nodup) : (allPts p).filter (frG p L (jnT p L L.length)) = freeV p L := by
  unfold freeV
  exact List.filter_congr fun m hm => free_eq hp hv hnd hm
attribute [local irreducible] CW OW QW QOp Con thenP inBlockP

theorem idxPointDFr (f : Nat) (t0 : TypeId) (q0 k0 : Nat) (t1 : TypeId) (q1 k1 : Nat) (t2 : TypeId) (L2 : List Int) (t3 : TypeId) (L3 : List Int) (t4 : TypeId) (L4 : List Int) (g : List Int → Bool) (tM : TypeId) (L : List (List Int)) (sp : List Int) (k ck : Nat) (hk : k = L.length) (h3 : ∀ x ∈ L, x.length = 3) (hk9 : L.length ≤ 1000000000) (hf : ∀ m, m ∈ L → ConQ Try.prog [] 115 [.arr m, .ptr 1005 0] [(1000, .vals t0 [.slice 1003 0 q0 k0]), (1001, .vals t1 [.slice 1004 0 q1 k1]), (1002, .ints t2 L2), (1003, .ints t3 L3), (1004, .ints t4 L4), (1005, .vals 74 [.func f [] [.ptr 1000 0, .ptr 1001 0, .ptr 1002 0]])] (.bool (g m))) : ConQ Try.prog [] 114 [.slice 0 0 k ck, .func 115 [] [.ptr 1005 0]] [(0, .ints tM (L.flatten ++ sp)), (1000, .vals t0 [.slice 1003 0 q0 k0]), (1001, .vals t1 [.slice 1004 0 q1 k1]), (1002, .ints t2 L2), (1003, .ints t3 L3), (1004, .ints t4 L4), (1005, .vals 74 [.func f [] [.ptr 1000 0, .ptr 1001 0, .ptr 1002 0]])] (.int (idxL g L)) := by
  have hfl := flat3 h3
  refine conW tab_ok [(0, .slice 0 0 k ck), (1, .func 115 [] [.ptr 1005 0])] 1 [0, 1000, 1001, 1002, 1003, 1004, 1005] [0, 1000, 1001, 1002, 1003, 1004, 1005] Try.func114 rfl rfl rfl rfl rfl rfl rfl rfl rfl ?_
  refine cR ?_
  refine oA rfl rfl ?_
  refine oN ?_
  refine CW_seq ?_
  refine cR ?_
  refine oM rfl rfl ?_
  first | refine oQ (Q_len rfl rfl rfl rfl) rfl rfl ?_ | refine oQ (Q_len0 rfl rfl rfl rfl) rfl rfl ?_
  refine oM rfl rfl ?_
  refine oN ?_
  refine CW_block ?_
  refine CW_loop (ι := Nat) (fun i => i ≤ L.length ∧ ∀ j, j < i → g (L.getD j []) = false) (fun i => ⟨[(0, .slice 0 0 k ck), (1, .func 115 [] [.ptr 1005 0]), (7, .int k), (8, .int i)], [(0, .ints tM (L.flatten ++ sp)), (1000, .vals t0 [.slice 1003 0 q0 k0]), (1001, .vals t1 [.slice 1004 0 q1 k1]), (1002, .ints t2 L2), (1003, .ints t3 L3), (1004, .ints t4 L4), (1005, .vals 74 [.func f [] [.ptr 1000 0, .ptr 1001 0, .ptr 1002 0]])], 1⟩) (fun i => L.length - i) 0 ?_ ?_ ?_
  · exact ⟨Nat.zero_le _, fun j h => absurd h (Nat.not_lt_zero _)⟩
  · refine View.mk' [] rfl rfl rfl ?_ ?_
    repeat' first | exact vFn | refine vFc rfl ?_ | exact vHn | refine vHc rfl ?_ | refine vFc (congrArg (fun z => some (V.int z)) ?_) ?_ | refine vHc (congrArg (fun z => some (Blk.ints _ z)) ?_) ?_ | refine vFc (congrArg (fun z => some (V.bool z)) ?_) ?_ | refine vFs rfl rfl ?_ ?_
  rintro i ⟨hi, hi2⟩
  refine cR ?_
  refine oQ (Q_bin rfl rfl rfl) rfl rfl ?_
  refine oN ?_
  refine CW_seq ?_
  first | refine cT rfl ?_ | refine cF rfl ?_ | refine CW_cond rfl (fun hc => ?_) (fun hc => ?_)
  all_goals try simp only [s1, s2, s3, s4, s5, s6, s7, s8, s9, s10, s11, s12] at hc
  all_goals first
    | (
     refine CW_skip ?_)
    | (
     refine CW_exit ?_)
  all_goals first
    | with_reducible refine tR ?_
    | with_reducible refine tE ?_
    | (
     with_reducible refine tN ?_
     refine CW_seq ?_
     refine CW_block ?_
     refine cR ?_
     refine oM rfl rfl ?_
     refine oA rfl rfl ?_
     refine oN ?_
     refine cR ?_
     iterate 3 refine oM rfl rfl ?_
     first | refine oQ (Q_ixs0z 3 rfl rfl rfl rfl rfl rfl (by first | omega | (dsimp only; omega) | (simp; omega) | (simp; done))) rfl rfl ?_ | refine oQ (Q_ixsz 3 rfl rfl rfl rfl rfl rfl (by first | omega | (dsimp only; omega) | (simp; omega) | (simp; done))) rfl rfl ?_
     refine oQ (Q_lda (n := 3) rfl rfl rfl rfl rfl (by rw [List.length_append, hfl]; omega)) rfl rfl ?_; rw [flat_get h3 (show i < L.length by omega)]
     refine oQ (Q_callf (hf _ (getD_mem (by omega))) [] rfl rfl rfl (Fits.mk' (vHc rfl (vHc rfl (vHc rfl (vHc rfl (vHc rfl (vHc rfl vHn)))))) rfl rfl (by simp)) rfl rfl) rfl rfl ?_
     refine oN ?_
     first | refine cT rfl ?_ | refine cF rfl ?_ | refine CW_cond rfl (fun hc => ?_) (fun hc => ?_)
     all_goals try simp only [s1, s2, s3, s4, s5, s6, s7, s8, s9, s10, s11, s12] at hc
     all_goals first
       | (
        refine CW_skip ?_)
       | (
        refine cR ?_
        refine oM rfl rfl ?_
        refine oA rfl rfl ?_
        refine oN ?_
        refine CW_ret ?_)
     all_goals first | with_reducible refine bN ?_ | with_reducible refine bE ?_ | with_reducible refine bR ?_ | refine bX rfl ?_
     all_goals first
       | with_reducible refine tR ?_
       | with_reducible refine tE ?_
       | (
        with_reducible refine tN ?_
        refine CW_region ?_
        first | refine oQ (Q_binu rfl rfl rfl (by omega)) rfl rfl ?_ | refine oQ (Q_bin rfl rfl rfl) rfl rfl ?_
        refine oM rfl rfl ?_
        refine OW_nil ?_))
  all_goals first
    | with_reducible refine tR ?_
    | with_reducible refine tE ?_
    | (
     with_reducible refine tN ?_
     refine ⟨i + 1, ?_, ?_, View.mk' [] rfl rfl rfl ?_ ?_⟩
     · refine ⟨by omega, fun j hj => ?_⟩
       by_cases e : j = i
       · subst e; exact hc
       · exact hi2 j (by omega)
     · omega
     all_goals (repeat' first | exact vFn | refine vFc rfl ?_ | exact vHn | refine vHc rfl ?_ | refine vFc (congrArg (fun z => some (V.int z)) ?_) ?_ | refine vHc (congrArg (fun z => some (Blk.ints _ z)) ?_) ?_ | refine vFc (congrArg (fun z => some (V.bool z)) ?_) ?_ | refine vFs rfl rfl ?_ ?_))
  all_goals first | with_reducible refine bN ?_ | with_reducible refine bE ?_ | with_reducible refine bR ?_ | refine bX rfl ?_
  all_goals first
    | with_reducible refine tR ?_
    | with_reducible refine tE ?_
    | (
     with_reducible refine tN ?_
     refine cR ?_
     refine oA rfl rfl ?_
     refine oN ?_
     refine CW_ret ?_)
  all_goals (
   refine exitQ (.inr rfl) 1 (.cons (.tmp rfl rfl) .nil) ?_ rfl (vHc rfl (vHc rfl (vHc rfl (vHc rfl (vHc rfl (vHc rfl (vHc rfl vHn))))))) rfl rfl
   first
     | exact congrArg V.int (idxL_found (by omega) hi2 hc).symm
     | exact congrArg V.int (idxL_none (fun j hj => hi2 j (by omega))).symm)
theorem delPointDFr (f : Nat) (t0 : TypeId) (q0 k0 : Nat) (t1 : TypeId) (q1 k1 : Nat) (t2 : TypeId) (L2 : List Int) (t3 : TypeId) (L3 : List Int) (t4 : TypeId) (L4 : List Int) (g : List Int → Bool) (tM : TypeId) (L : List (List Int)) (sp : List Int) (ck : Nat) (h3 : ∀ x ∈ L, x.length = 3) (hk9 : L.length ≤ 1000000000) (hck : L.length ≤ ck) (hf : ∀ m, m ∈ L → ConQ Try.prog [] 115 [.arr m, .ptr 1005 0] [(1000, .vals t0 [.slice 1003 0 q0 k0]), (1001, .vals t1 [.slice 1004 0 q1 k1]), (1002, .ints t2 L2), (1003, .ints t3 L3), (1004, .ints t4 L4), (1005, .vals 74 [.func f [] [.ptr 1000 0, .ptr 1001 0, .ptr 1002 0]])] (.bool (g m))) : Con Try.prog [] 94 [.slice 0 0 L.length ck, .func 115 [] [.ptr 1005 0]] [(0, .ints tM (L.flatten ++ sp)), (1000, .vals t0 [.slice 1003 0 q0 k0]), (1001, .vals t1 [.slice 1004 0 q1 k1]), (1002, .ints t2 L2), (1003, .ints t3 L3), (1004, .ints t4 L4), (1005, .vals 74 [.func f [] [.ptr 1000 0, .ptr 1001 0, .ptr 1002 0]])] (fun r H' => ∃ z, z.length = (L.length - (L.filter fun x => !g x).length) * 3 ∧ r = .slice 0 0 (L.filter fun x => !g x).length ck ∧ H' = [(0, .ints tM ((L.filter fun x => !g x).flatten ++ (z ++ sp))), (1000, .vals t0 [.slice 1003 0 q0 k0]), (1001, .vals t1 [.slice 1004 0 q1 k1]), (1002, .ints t2 L2), (1003, .ints t3 L3), (1004, .ints t4 L4), (1005, .vals 74 [.func f [] [.ptr 1000 0, .ptr 1001 0, .ptr 1002 0]])]) := by
  have hfl := flat3 h3
  rcases idxL_cases g L with ⟨hix, hix1⟩ | ⟨a, hix, ha, ha1, ha2⟩
  · have hall : (L.filter fun x => !g x) = L := by rw [List.filter_eq_self]; intro x hx; simp [hix1 x hx]
    rw [hall]
    refine conW tab_ok [(0, .slice 0 0 L.length ck), (1, .func 115 [] [.ptr 1005 0])] 1 [0, 1000, 1001, 1002, 1003, 1004, 1005] [0, 1000, 1001, 1002, 1003, 1004, 1005] Try.func94 rfl rfl rfl rfl rfl rfl rfl rfl rfl ?_
    refine cR ?_
    refine oA rfl rfl ?_
    refine oN ?_
    refine cR ?_
    iterate 2 refine oM rfl rfl ?_
    refine oQ (Q_call (idxPointDFr f t0 q0 k0 t1 q1 k1 t2 L2 t3 L3 t4 L4 g tM L sp L.length ck rfl h3 hk9 hf) [] rfl rfl (Fits.mk' (vHc rfl (vHc rfl (vHc rfl (vHc rfl (vHc rfl (vHc rfl (vHc rfl vHn))))))) rfl rfl (by simp)) rfl rfl) rfl rfl ?_
    refine oA rfl rfl ?_
    refine oN ?_
    refine CW_seq ?_
    refine cR ?_
    refine oM rfl rfl ?_
    refine oQ (Q_bin rfl rfl rfl) rfl rfl ?_; rw [hix]
    refine oN ?_
    first | refine cT rfl ?_ | refine cF rfl ?_ | refine CW_cond rfl (fun hc => ?_) (fun hc => ?_)
    all_goals try simp only [s1, s2, s3, s4, s5, s6, s7, s8, s9, s10, s11, s12] at hc
    all_goals try (exfalso; first | omega | (simp at hc); done)
    all_goals first
      | (
       refine CW_skip ?_)
      | (
       refine cR ?_
       refine oM rfl rfl ?_
       refine oA rfl rfl ?_
       refine oN ?_
       refine CW_ret ?_)
    all_goals first
      | with_reducible refine tR ?_
      | with_reducible refine tE ?_
      | (
       with_reducible refine tN ?_
       refine CW_seq ?_
       refine cR ?_
       refine oM rfl rfl ?_
       first | refine oQ (Q_binu rfl rfl rfl (by omega)) rfl rfl ?_ | refine oQ (Q_bin rfl rfl rfl) rfl rfl ?_
       refine oA rfl rfl ?_
       refine oN ?_
       refine CW_block ?_
       exfalso; simp at hc
       · first | trivial | omega | (simp; done) | (simp; omega)
       · refine View.mk' [] rfl rfl rfl ?_ ?_
         repeat' first | exact vFn | refine vFc rfl ?_ | exact vHn | refine vHc rfl ?_ | refine vFc (congrArg (fun z => some (V.int z)) ?_) ?_ | refine vHc (congrArg (fun z => some (Blk.ints _ z)) ?_) ?_ | refine vFc (congrArg (fun z => some (V.bool z)) ?_) ?_ | refine vFs rfl rfl ?_ ?_
       intro i hi
       refine CW_seq ?_
       refine cR ?_
       iterate 2 refine oM rfl rfl ?_
       first | refine oQ (Q_len rfl rfl rfl rfl) rfl rfl ?_ | refine oQ (Q_len0 rfl rfl rfl rfl) rfl rfl ?_
       refine oQ (Q_bin rfl rfl rfl) rfl rfl ?_
       refine oN ?_
       first | refine cT rfl ?_ | refine cF rfl ?_ | refine CW_cond rfl (fun hc => ?_) (fun hc => ?_)
       all_goals try simp only [s1, s2, s3, s4, s5, s6, s7, s8, s9, s10, s11, s12] at hc
       all_goals try (exfalso; first | omega | (simp at hc); done)
       all_goals first
         | (
          refine CW_skip ?_)
         | (
          refine CW_exit ?_)
       all_goals first
         | with_reducible refine tR ?_
         | with_reducible refine tE ?_
         | (
          with_reducible refine tN ?_
          refine CW_seq ?_
          refine CW_block ?_
          refine cR ?_
          iterate 2 refine oM rfl rfl ?_
          first | refine oQ (Q_ixs0z 3 rfl rfl rfl rfl rfl rfl (by first | omega | (dsimp only; omega) | (simp; omega) | (simp; done))) rfl rfl ?_ | refine oQ (Q_ixsz 3 rfl rfl rfl rfl rfl rfl (by first | omega | (dsimp only; omega) | (simp; omega) | (simp; done))) rfl rfl ?_
          first | refine oQ (Lw rfl rfl rfl rfl) rfl rfl ?_ | refine oQ (La rfl rfl rfl rfl rfl) rfl rfl ?_
          refine oAlloc rfl rfl rfl rfl rfl rfl rfl ?_
          first | refine oSw rfl rfl rfl rfl ?_ | refine oSa rfl rfl rfl rfl ?_
          refine oN ?_
          refine cR ?_
          refine oM rfl rfl ?_
          first | refine oQ (Lw rfl rfl rfl rfl) rfl rfl ?_ | refine oQ (La rfl rfl rfl rfl rfl) rfl rfl ?_
          fail "call of a value at slot 28"
          refine oQ (Q_not rfl) rfl rfl ?_
          refine oN ?_
          first | refine cT rfl ?_ | refine cF rfl ?_ | refine CW_cond rfl (fun hc => ?_) (fun hc => ?_)
          all_goals try simp only [s1, s2, s3, s4, s5, s6, s7, s8, s9, s10, s11, s12] at hc
          all_goals try (exfalso; first | omega | (simp at hc); done)
          all_goals first
            | (
             refine CW_skip ?_)
            | (
             refine cR ?_
             iterate 2 refine oM rfl rfl ?_
             first | refine oQ (Lw rfl rfl rfl rfl) rfl rfl ?_ | refine oQ (La rfl rfl rfl rfl rfl) rfl rfl ?_
             first | refine oQ (Q_ixs0z 3 rfl rfl rfl rfl rfl rfl (by first | omega | (dsimp only; omega) | (simp; omega) | (simp; done))) rfl rfl ?_ | refine oQ (Q_ixsz 3 rfl rfl rfl rfl rfl rfl (by first | omega | (dsimp only; omega) | (simp; omega) | (simp; done))) rfl rfl ?_
             first | refine oSw rfl rfl rfl rfl ?_ | refine oSa rfl rfl rfl rfl ?_
             refine oN ?_
             refine CW_region ?_
             refine oM rfl rfl ?_
             first | refine oQ (Q_binu rfl rfl rfl (by omega)) rfl rfl ?_ | refine oQ (Q_bin rfl rfl rfl) rfl rfl ?_
             refine oA rfl rfl ?_
             refine OW_nil ?_)
          all_goals first | with_reducible refine bN ?_ | with_reducible refine bE ?_ | with_reducible refine bR ?_ | refine bX rfl ?_
          all_goals with_reducible refine tN ?_
          all_goals (
           refine CW_region ?_
           refine oM rfl rfl ?_
           first | refine oQ (Q_binu rfl rfl rfl (by omega)) rfl rfl ?_ | refine oQ (Q_bin rfl rfl rfl) rfl rfl ?_
           refine oA rfl rfl ?_
           refine OW_nil ?_))
       all_goals first
         | with_reducible refine tR ?_
         | with_reducible refine tE ?_
         | (
          with_reducible refine tN ?_
          fail "again 0")
       all_goals first | with_reducible refine bN ?_ | with_reducible refine bE ?_ | with_reducible refine bR ?_ | refine bX rfl ?_
       all_goals with_reducible refine tN ?_
       all_goals (
        refine cR ?_
        iterate 2 refine oM rfl rfl ?_
        refine oQ (Q_slsL 3 rfl rfl rfl rfl rfl rfl (by first | omega | (dsimp only; omega) | (simp; omega) | (simp; done)) (by first | omega | (dsimp only; omega) | (simp; omega) | (simp; done))) rfl rfl ?_
        fail "builtin clear at slot None"
        refine oN ?_
        refine cR ?_
        iterate 2 refine oM rfl rfl ?_
        refine oQ (Q_slsH rfl rfl rfl rfl rfl (by first | omega | (dsimp only; omega) | (simp; omega) | (simp; done))) rfl rfl ?_
        refine oA rfl rfl ?_
        refine oN ?_
        refine CW_ret ?_))
    all_goals (
     exact exitH (r0 := .slice 0 0 L.length ck) (.inr rfl) [] 1 (.cons (.tmp rfl rfl) .nil) rfl rfl rfl (vHc rfl (vHc rfl (vHc rfl (vHc rfl (vHc rfl (vHc rfl (vHc rfl vHn))))))) rfl rfl ⟨[], by simp, rfl, rfl⟩)
  · have hall : ((L.take a).filter fun x => !g x) = L.take a := by rw [List.filter_eq_self]; intro x hx; simp [ha2 x hx]
    refine conW tab_ok [(0, .slice 0 0 L.length ck), (1, .func 115 [] [.ptr 1005 0])] 1 [0, 1000, 1001, 1002, 1003, 1004, 1005] [0, 1000, 1001, 1002, 1003, 1004, 1005] Try.func94 rfl rfl rfl rfl rfl rfl rfl rfl rfl ?_
    refine cR ?_
    refine oA rfl rfl ?_
    refine oN ?_
    refine cR ?_
    iterate 2 refine oM rfl rfl ?_
    refine oQ (Q_call (idxPointDFr f t0 q0 k0 t1 q1 k1 t2 L2 t3 L3 t4 L4 g tM L sp L.length ck rfl h3 hk9 hf) [] rfl rfl (Fits.mk' (vHc rfl (vHc rfl (vHc rfl (vHc rfl (vHc rfl (vHc rfl (vHc rfl vHn))))))) rfl rfl (by simp)) rfl rfl) rfl rfl ?_
    refine oA rfl rfl ?_
    refine oN ?_
    refine CW_seq ?_
    refine cR ?_
    refine oM rfl rfl ?_
    refine oQ (Q_bin rfl rfl rfl) rfl rfl ?_
    refine oN ?_
    first | refine cT rfl ?_ | refine cF rfl ?_ | refine CW_cond rfl (fun hc => ?_) (fun hc => ?_)
    all_goals try simp only [s1, s2, s3, s4, s5, s6, s7, s8, s9, s10, s11, s12] at hc
    all_goals try (exfalso; first | omega | (simp at hc); done)
    all_goals first
      | (
       refine CW_skip ?_)
      | (
       refine cR ?_
       refine oM rfl rfl ?_
       refine oA rfl rfl ?_
       refine oN ?_
       refine CW_ret ?_)
    all_goals first
      | with_reducible refine tR ?_
      | with_reducible refine tE ?_
      | (
       with_reducible refine tN ?_
       refine CW_seq ?_
       refine cR ?_
       refine oM rfl rfl ?_
       first | refine oQ (Q_binu rfl rfl rfl (by omega)) rfl rfl ?_ | refine oQ (Q_bin rfl rfl rfl) rfl rfl ?_
       refine oA rfl rfl ?_
       refine oN ?_
       refine CW_block ?_
       refine CW_loop (ι := Nat × List Int) (fun x => x.1 ≤ L.length ∧ x.2.length + ((L.take x.1).filter fun x => !g x).length * 3 = x.1 * 3 ∧ ((L.take x.1).filter fun x => !g x).length < x.1) (fun x => ⟨[(0, .slice 0 0 L.length ck), (1, .func 115 [] [.ptr 1005 0]), (5, .int (((L.take x.1).filter fun x => !g x).length : Nat)), (6, .int (x.1 : Int))], [(0, .ints tM (delM 3 g L x.1 x.2 sp)), (1000, .vals t0 [.slice 1003 0 q0 k0]), (1001, .vals t1 [.slice 1004 0 q1 k1]), (1002, .ints t2 L2), (1003, .ints t3 L3), (1004, .ints t4 L4), (1005, .vals 74 [.func f [] [.ptr 1000 0, .ptr 1001 0, .ptr 1002 0]])], 1⟩) (fun x => L.length - x.1) (a + 1, L.getD a []) ?_ ?_ ?_
       · refine ⟨ha, ?_⟩; rw [filter_skip ha (by rw [ha1]; rfl), hall, List.length_take, h3 _ (getD_mem ha)]; exact ⟨by omega, by dsimp only; omega⟩
       · refine View.mk' [] rfl rfl rfl ?_ ?_
         repeat' first | exact vFn | refine vFc rfl ?_ | exact vHn | refine vHc rfl ?_ | refine vFc (congrArg (fun z => some (V.int z)) ?_) ?_ | refine vHc (congrArg (fun z => some (Blk.ints _ z)) ?_) ?_ | refine vFc (congrArg (fun z => some (V.bool z)) ?_) ?_ | refine vFs rfl rfl ?_ ?_
         · rw [hix, filter_skip ha (by rw [ha1]; rfl), hall, List.length_take, Nat.min_eq_left (by omega)]
         · rw [hix]; rfl
         · have hd := delM_skip (sz := 3) (junk := []) (sp := sp) ha ha1; rw [List.nil_append] at hd; dsimp only; rw [← hd]; unfold delM; rw [hall, List.nil_append, ← List.append_assoc, ← List.flatten_append, List.take_append_drop]
       rintro ⟨j, junk⟩ ⟨hj, hju, hlt⟩
       dsimp only at hj hju hlt ⊢
       have hfn := filter_len (g := fun x => !g x) j hj
       have hdl := delM_len (sp := sp) h3 hj hju
       have hdl2 := fun h : j < L.length => h3 _ (getD_mem h)
       refine CW_seq ?_
       refine cR ?_
       iterate 2 refine oM rfl rfl ?_
       first | refine oQ (Q_len rfl rfl rfl rfl) rfl rfl ?_ | refine oQ (Q_len0 rfl rfl rfl rfl) rfl rfl ?_
       refine oQ (Q_bin rfl rfl rfl) rfl rfl ?_
       refine oN ?_
       first | refine cT rfl ?_ | refine cF rfl ?_ | refine CW_cond rfl (fun hc => ?_) (fun hc => ?_)
       all_goals try simp only [s1, s2, s3, s4, s5, s6, s7, s8, s9, s10, s11, s12] at hc
       all_goals try (exfalso; first | omega | (simp at hc); done)
       all_goals first
         | (
          refine CW_skip ?_)
         | (
          refine CW_exit ?_)
       all_goals first
         | with_reducible refine tR ?_
         | with_reducible refine tE ?_
         | (
          with_reducible refine tN ?_
          refine CW_seq ?_
          refine CW_block ?_
          refine cR ?_
          iterate 2 refine oM rfl rfl ?_
          first | refine oQ (Q_ixs0z 3 rfl rfl rfl rfl rfl rfl (by first | omega | (dsimp only; omega) | (simp; omega) | (simp; done))) rfl rfl ?_ | refine oQ (Q_ixsz 3 rfl rfl rfl rfl rfl rfl (by first | omega | (dsimp only; omega) | (simp; omega) | (simp; done))) rfl rfl ?_
          refine oQ (Q_lda (n := 3) rfl rfl rfl rfl rfl (by rw [hdl]; omega)) rfl rfl ?_; rw [delM_get h3 (show j < L.length by omega) hju]
          refine oAlloc rfl rfl rfl rfl rfl rfl rfl ?_
          first | refine oSw rfl rfl rfl rfl ?_ | refine oSa rfl rfl rfl rfl ?_
          refine oN ?_
          refine cR ?_
          refine oM rfl rfl ?_
          first | refine oQ (Lw rfl rfl rfl rfl) rfl rfl ?_ | refine oQ (La rfl rfl rfl rfl rfl) rfl rfl ?_
          refine oQ (Q_callf (hf _ (getD_mem (by omega))) [] rfl rfl rfl (Fits.mk' (vHc rfl (vHc rfl (vHc rfl (vHc rfl (vHc rfl (vHc rfl vHn)))))) rfl rfl (by simp)) rfl rfl) rfl rfl ?_
          refine oQ (Q_not rfl) rfl rfl ?_
          refine oN ?_
          first | refine cT rfl ?_ | refine cF rfl ?_ | refine CW_cond rfl (fun hc => ?_) (fun hc => ?_)
          all_goals try simp only [s1, s2, s3, s4, s5, s6, s7, s8, s9, s10, s11, s12] at hc
          all_goals try (exfalso; first | omega | (simp at hc); done)
          all_goals first
            | (
             refine CW_skip ?_)
            | (
             refine cR ?_
             iterate 2 refine oM rfl rfl ?_
             first | refine oQ (Lw rfl rfl rfl rfl) rfl rfl ?_ | refine oQ (La rfl rfl rfl rfl rfl) rfl rfl ?_
             refine oQ (Q_ixs0z 3 rfl rfl rfl rfl rfl rfl (by omega)) rfl rfl ?_
             first | refine oSw rfl rfl rfl rfl ?_ | refine oSa rfl rfl rfl rfl ?_
             refine oN ?_
             refine CW_region ?_
             refine oM rfl rfl ?_
             first | refine oQ (Q_binu rfl rfl rfl (by omega)) rfl rfl ?_ | refine oQ (Q_bin rfl rfl rfl) rfl rfl ?_
             refine oA rfl rfl ?_
             refine OW_nil ?_)
          all_goals first | with_reducible refine bN ?_ | with_reducible refine bE ?_ | with_reducible refine bR ?_ | refine bX rfl ?_
          all_goals with_reducible refine tN ?_
          all_goals (
           refine CW_region ?_
           refine oM rfl rfl ?_
           first | refine oQ (Q_binu rfl rfl rfl (by omega)) rfl rfl ?_ | refine oQ (Q_bin rfl rfl rfl) rfl rfl ?_
           refine oA rfl rfl ?_
           refine OW_nil ?_))
       all_goals first
         | with_reducible refine tR ?_
         | with_reducible refine tE ?_
         | (
          with_reducible refine tN ?_
          refine ⟨(j + 1, if g (L.getD j []) = true then junk ++ L.getD j [] else (junk ++ L.getD j []).drop 3), ?_, ?_, View.mk' [] rfl rfl rfl ?_ ?_⟩
          · have e3 := h3 _ (getD_mem (show j < L.length by omega))
            refine ⟨by dsimp only; omega, ?_⟩
            dsimp only
            cases hg : g (L.getD j [])
            · rw [filter_snoc (by omega) (by rw [hg]; rfl)]; simp only [Bool.false_eq_true, if_false, List.length_drop, List.length_append, List.length_cons, List.length_nil, e3]; exact ⟨by omega, by omega⟩
            · rw [filter_skip (by omega) (by rw [hg]; rfl)]; simp only [if_true, List.length_append, e3]; exact ⟨by omega, by omega⟩
          · omega
          all_goals (repeat' first | exact vFn | refine vFc rfl ?_ | exact vHn | refine vHc rfl ?_ | refine vFc (congrArg (fun z => some (V.int z)) ?_) ?_ | refine vHc (congrArg (fun z => some (Blk.ints _ z)) ?_) ?_ | refine vFc (congrArg (fun z => some (V.bool z)) ?_) ?_ | refine vFs rfl rfl ?_ ?_)
          all_goals dsimp only
          all_goals first
            | (rw [filter_snoc (by omega) (by rw [hc]; rfl)]; simp; done)
            | (rw [filter_skip (by omega) (by rw [hc]; rfl)]; done)
            | (rw [if_pos hc]; exact delM_skip (by omega) hc)
            | (rw [if_neg (by rw [hc]; exact Bool.false_ne_true)]; exact delM_keep h3 (by omega) hc hju))
       all_goals first | with_reducible refine bN ?_ | with_reducible refine bE ?_ | with_reducible refine bR ?_ | refine bX rfl ?_
       all_goals with_reducible refine tN ?_
       all_goals (
        refine cR ?_
        iterate 2 refine oM rfl rfl ?_
        refine oQ (Q_slsL 3 rfl rfl rfl rfl rfl rfl (by omega) (by omega)) rfl rfl ?_; rw [if_neg (show ¬ ck = ((L.take j).filter fun x => !g x).length by omega), Nat.zero_add]
        refine oClear (sz := 3) rfl rfl rfl rfl ⟨by decide, rfl, .inr rfl⟩ rfl rfl (by rw [hdl]; omega) ?_
        refine oN ?_
        refine cR ?_
        iterate 2 refine oM rfl rfl ?_
        refine oQ (Q_slsH rfl rfl rfl rfl rfl (by first | omega | (dsimp only; omega) | (simp; omega) | (simp; done))) rfl rfl ?_
        refine oA rfl rfl ?_
        refine oN ?_
        refine CW_ret ?_))
    all_goals (
     have e : j = L.length := by omega
     subst e
     refine exitH (r0 := .slice 0 0 (L.filter fun x => !g x).length ck) (H0 := [(0, .ints tM ((L.filter fun x => !g x).flatten ++ (List.replicate ((L.length - (L.filter fun x => !g x).length) * 3) 0 ++ sp))), (1000, .vals t0 [.slice 1003 0 q0 k0]), (1001, .vals t1 [.slice 1004 0 q1 k1]), (1002, .ints t2 L2), (1003, .ints t3 L3), (1004, .ints t4 L4), (1005, .vals 74 [.func f [] [.ptr 1000 0, .ptr 1001 0, .ptr 1002 0]])]) (.inr rfl) [] 1 (.cons (.tmp rfl rfl) .nil) ?_ rfl rfl ?_ rfl rfl ⟨_, by simp, rfl, rfl⟩
     · simp [resV, ren, ap]
     · refine vHc (congrArg (fun z => some (Blk.ints _ z)) ?_) (vHc rfl (vHc rfl (vHc rfl (vHc rfl (vHc rfl (vHc rfl vHn))))))
       exact delM_end h3 hju)
theorem pointsThat1_Fr (f : Nat) (t0 : TypeId) (q0 k0 : Nat) (t1 : TypeId) (q1 k1 : Nat) (t2 : TypeId) (L2 : List Int) (t3 : TypeId) (L3 : List Int) (t4 : TypeId) (L4 : List Int) (g : List Int → Bool) (m0 : List Int) (hm : m0.length = 3) (hf : ∀ m, m = m0 → ConQ Try.prog [] f [.arr m, .ptr 1000 0, .ptr 1001 0, .ptr 1002 0] [(1000, .vals t0 [.slice 1003 0 q0 k0]), (1001, .vals t1 [.slice 1004 0 q1 k1]), (1002, .ints t2 L2), (1003, .ints t3 L3), (1004, .ints t4 L4)] (.bool (g m))) : ConQ Try.prog [] 115 [.arr m0, .ptr 1005 0] [(1000, .vals t0 [.slice 1003 0 q0 k0]), (1001, .vals t1 [.slice 1004 0 q1 k1]), (1002, .ints t2 L2), (1003, .ints t3 L3), (1004, .ints t4 L4), (1005, .vals 74 [.func f [] [.ptr 1000 0, .ptr 1001 0, .ptr 1002 0]])] (.bool (!(g m0))) := by
  refine conW tab_ok [(0, .arr m0), (1, .ptr 1005 0)] 0 [1000, 1001, 1002, 1003, 1004, 1005] [1000, 1001, 1002, 1003, 1004, 1005] Try.func115 rfl rfl rfl rfl rfl rfl rfl rfl rfl ?_
  refine cR ?_
  refine oBox rfl rfl rfl rfl rfl rfl ?_
  refine oA rfl rfl ?_
  refine oN ?_
  refine cR ?_
  refine oQ (Q_ldv rfl rfl rfl rfl rfl rfl) rfl rfl ?_
  refine oQ (Q_ldw rfl rfl rfl rfl hm) rfl rfl ?_
  refine oQ (Q_callf (hf m0 rfl) [] rfl rfl rfl (Fits.mk' (vHc rfl (vHc rfl (vHc rfl (vHc rfl (vHc rfl vHn))))) rfl rfl (by simp)) rfl rfl) rfl rfl ?_
  refine oQ (Q_not rfl) rfl rfl ?_
  refine oA rfl rfl ?_
  refine oN ?_
  refine CW_ret ?_
  all_goals (
   ((refine exitQ (.inr rfl) 0 (.cons (.tmp rfl rfl) .nil) ?_ rfl (vHc rfl (vHc rfl (vHc rfl (vHc rfl (vHc rfl (vHc rfl vHn)))))) rfl rfl); rfl))
theorem pointsThat_Fr (f : Nat) (t0 : TypeId) (q0 k0 : Nat) (t1 : TypeId) (q1 k1 : Nat) (t2 : TypeId) (L2 : List Int) (t3 : TypeId) (L3 : List Int) (t4 : TypeId) (L4 : List Int) (g : List Int → Bool) (p : Int) (hp : primeB p = true) (hf : ∀ m, m ∈ allPts p → ConQ Try.prog [] f [.arr m, .ptr 1000 0, .ptr 1001 0, .ptr 1002 0] [(1000, .vals t0 [.slice 1003 0 q0 k0]), (1001, .vals t1 [.slice 1004 0 q1 k1]), (1002, .ints t2 L2), (1003, .ints t3 L3), (1004, .ints t4 L4)] (.bool (g m))) : Con Try.prog [] 97 [.int p, .func f [] [.ptr 1000 0, .ptr 1001 0, .ptr 1002 0]] [(1000, .vals t0 [.slice 1003 0 q0 k0]), (1001, .vals t1 [.slice 1004 0 q1 k1]), (1002, .ints t2 L2), (1003, .ints t3 L3), (1004, .ints t4 L4)] (ownR 3 49 [(1000, .vals t0 [.slice 1003 0 q0 k0]), (1001, .vals t1 [.slice 1004 0 q1 k1]), (1002, .ints t2 L2), (1003, .ints t3 L3), (1004, .ints t4 L4)] 0 ((allPts p).filter g)) := by
  have hb := prime_bd hp
  have hal := allPts_len hp
  refine conW tab_ok [(0, .int p), (1, .func f [] [.ptr 1000 0, .ptr 1001 0, .ptr 1002 0])] 0 [1000, 1001, 1002, 1003, 1004] [1000, 1001, 1002, 1003, 1004] Try.func97 rfl rfl rfl rfl rfl rfl rfl rfl rfl ?_
  refine cR ?_
  refine oBox rfl rfl rfl rfl rfl rfl ?_
  refine oA rfl rfl ?_
  refine oN ?_
  refine cR ?_
  refine oM rfl rfl ?_
  refine oCall (allPoints_con p hp) [] 1 rfl rfl (Fits.mk' vHn rfl rfl (by simp)) rfl rfl ?_
  rintro r H1 ⟨k, sp, hk, hsp, rfl, rfl⟩
  refine ⟨.slice 1 0 (allPts p).length k, [(1, .ints 49 ((allPts p).flatten ++ sp))], rfl, rfl, rfl, ?_⟩
  refine oQ (Q_makeFunc rfl rfl) rfl rfl ?_
  refine oCall (delPointDFr f t0 q0 k0 t1 q1 k1 t2 L2 t3 L3 t4 L4 (fun x => !g x) 49 (allPts p) sp k (fun x hx => allPts_three hx) (by omega) hk (fun m hm => pointsThat1_Fr f t0 q0 k0 t1 q1 k1 t2 L2 t3 L3 t4 L4 g m (allPts_three hm) (fun _ e => e ▸ hf m hm))) [(0, 1), (1005, 0)] 0 rfl rfl (Fits.mk' (vHc rfl (vHc rfl (vHc rfl (vHc rfl (vHc rfl (vHc rfl (vHc rfl vHn))))))) rfl rfl (by simp)) rfl rfl ?_
  rintro r H1 ⟨z, hz, rfl, rfl⟩
  rw [notnot] at hz ⊢
  refine ⟨.slice 1 0 ((allPts p).filter g).length k, [(1, .ints 49 (((allPts p).filter g).flatten ++ (z ++ sp))), (1000, .vals t0 [.slice 1003 0 q0 k0]), (1001, .vals t1 [.slice 1004 0 q1 k1]), (1002, .ints t2 L2), (1003, .ints t3 L3), (1004, .ints t4 L4), (0, .vals 74 [.func f [] [.ptr 1000 0, .ptr 1001 0, .ptr 1002 0]])], rfl, rfl, rfl, ?_⟩
  refine oA rfl rfl ?_
  refine oN ?_
  refine CW_ret ?_
  all_goals (
   have hfl := List.length_filter_le g (allPts p)
   exact exitH (r0 := .slice 0 0 ((allPts p).filter g).length k) (.inr rfl) [(0, 1)] 1 (.cons (.tmp rfl rfl) .nil) rfl rfl rfl (vHc rfl (vHc rfl (vHc rfl (vHc rfl (vHc rfl (vHc rfl vHn)))))) rfl rfl ⟨k, z ++ sp, by omega, by rw [List.length_append, hz]; omega, rfl, rfl⟩)
theorem idxPointDFn (f : Nat) (t0 : TypeId) (t1 : TypeId) (q1 k1 : Nat) (t2 : TypeId) (L2 : List Int) (t4 : TypeId) (L4 : List Int) (g : List Int → Bool) (tM : TypeId) (L : List (List Int)) (sp : List Int) (k ck : Nat) (hk : k = L.length) (h3 : ∀ x ∈ L, x.length = 3) (hk9 : L.length ≤ 1000000000) (hf : ∀ m, m ∈ L → ConQ Try.prog [] 115 [.arr m, .ptr 1005 0] [(1000, .vals t0 [.nilsl]), (1001, .vals t1 [.slice 1004 0 q1 k1]), (1002, .ints t2 L2), (1004, .ints t4 L4), (1005, .vals 74 [.func f [] [.ptr 1000 0, .ptr 1001 0, .ptr 1002 0]])] (.bool (g m))) : ConQ Try.prog [] 114 [.slice 0 0 k ck, .func 115 [] [.ptr 1005 0]] [(0, .ints tM (L.flatten ++ sp)), (1000, .vals t0 [.nilsl]), (1001, .vals t1 [.slice 1004 0 q1 k1]), (1002, .ints t2 L2), (1004, .ints t4 L4), (1005, .vals 74 [.func f [] [.ptr 1000 0, .ptr 1001 0, .ptr 1002 0]])] (.int (idxL g L)) := by
  have hfl := flat3 h3
  refine conW tab_ok [(0, .slice 0 0 k ck), (1, .func 115 [] [.ptr 1005 0])] 1 [0, 1000, 1001, 1002, 1004, 1005] [0, 1000, 1001, 1002, 1004, 1005] Try.func114 rfl rfl rfl rfl rfl rfl rfl rfl rfl ?_
  refine cR ?_
  refine oA rfl rfl ?_
  refine oN ?_
  refine CW_seq ?_
  refine cR ?_
  refine oM rfl rfl ?_
  first | refine oQ (Q_len rfl rfl rfl rfl) rfl rfl ?_ | refine oQ (Q_len0 rfl rfl rfl rfl) rfl rfl ?_
  refine oM rfl rfl ?_
  refine oN ?_
  refine CW_block ?_
  refine CW_loop (ι := Nat) (fun i => i ≤ L.length ∧ ∀ j, j < i → g (L.getD j []) = false) (fun i => ⟨[(0, .slice 0 0 k ck), (1, .func 115 [] [.ptr 1005 0]), (7, .int k), (8, .int i)], [(0, .ints tM (L.flatten ++ sp)), (1000, .vals t0 [.nilsl]), (1001, .vals t1 [.slice 1004 0 q1 k1]), (1002, .ints t2 L2), (1004, .ints t4 L4), (1005, .vals 74 [.func f [] [.ptr 1000 0, .ptr 1001 0, .ptr 1002 0]])], 1⟩) (fun i => L.length - i) 0 ?_ ?_ ?_
  · exact ⟨Nat.zero_le _, fun j h => absurd h (Nat.not_lt_zero _)⟩
  · refine View.mk' [] rfl rfl rfl ?_ ?_
    repeat' first | exact vFn | refine vFc rfl ?_ | exact vHn | refine vHc rfl ?_ | refine vFc (congrArg (fun z => some (V.int z)) ?_) ?_ | refine vHc (congrArg (fun z => some (Blk.ints _ z)) ?_) ?_ | refine vFc (congrArg (fun z => some (V.bool z)) ?_) ?_ | refine vFs rfl rfl ?_ ?_
  rintro i ⟨hi, hi2⟩
  refine cR ?_
  refine oQ (Q_bin rfl rfl rfl) rfl rfl ?_
  refine oN ?_
  refine CW_seq ?_
  first | refine cT rfl ?_ | refine cF rfl ?_ | refine CW_cond rfl (fun hc => ?_) (fun hc => ?_)
  all_goals try simp only [s1, s2, s3, s4, s5, s6, s7, s8, s9, s10, s11, s12] at hc
  all_goals first
    | (
     refine CW_skip ?_)
    | (
     refine CW_exit ?_)
  all_goals first
    | with_reducible refine tR ?_
    | with_reducible refine tE ?_
    | (
     with_reducible refine tN ?_
     refine CW_seq ?_
     refine CW_block ?_
     refine cR ?_
     refine oM rfl rfl ?_
     refine oA rfl rfl ?_
     refine oN ?_
     refine cR ?_
     iterate 3 refine oM rfl rfl ?_
     first | refine oQ (Q_ixs0z 3 rfl rfl rfl rfl rfl rfl (by first | omega | (dsimp only; omega) | (simp; omega) | (simp; done))) rfl rfl ?_ | refine oQ (Q_ixsz 3 rfl rfl rfl rfl rfl rfl (by first | omega | (dsimp only; omega) | (simp; omega) | (simp; done))) rfl rfl ?_
     refine oQ (Q_lda (n := 3) rfl rfl rfl rfl rfl (by rw [List.length_append, hfl]; omega)) rfl rfl ?_; rw [flat_get h3 (show i < L.length by omega)]
     refine oQ (Q_callf (hf _ (getD_mem (by omega))) [] rfl rfl rfl (Fits.mk' (vHc rfl (vHc rfl (vHc rfl (vHc rfl (vHc rfl vHn))))) rfl rfl (by simp)) rfl rfl) rfl rfl ?_
     refine oN ?_
     first | refine cT rfl ?_ | refine cF rfl ?_ | refine CW_cond rfl (fun hc => ?_) (fun hc => ?_)
     all_goals try simp only [s1, s2, s3, s4, s5, s6, s7, s8, s9, s10, s11, s12] at hc
     all_goals first
       | (
        refine CW_skip ?_)
       | (
        refine cR ?_
        refine oM rfl rfl ?_
        refine oA rfl rfl ?_
        refine oN ?_
        refine CW_ret ?_)
     all_goals first | with_reducible refine bN ?_ | with_reducible refine bE ?_ | with_reducible refine bR ?_ | refine bX rfl ?_
     all_goals first
       | with_reducible refine tR ?_
       | with_reducible refine tE ?_
       | (
        with_reducible refine tN ?_
        refine CW_region ?_
        first | refine oQ (Q_binu rfl rfl rfl (by omega)) rfl rfl ?_ | refine oQ (Q_bin rfl rfl rfl) rfl rfl ?_
        refine oM rfl rfl ?_
        refine OW_nil ?_))
  all_goals first
    | with_reducible refine tR ?_
    | with_reducible refine tE ?_
    | (
     with_reducible refine tN ?_
     refine ⟨i + 1, ?_, ?_, View.mk' [] rfl rfl rfl ?_ ?_⟩
     · refine ⟨by omega, fun j hj => ?_⟩
       by_cases e : j = i
       · subst e; exact hc
       · exact hi2 j (by omega)
     · omega
     all_goals (repeat' first | exact vFn | refine vFc rfl ?_ | exact vHn | refine vHc rfl ?_ | refine vFc (congrArg (fun z => some (V.int z)) ?_) ?_ | refine vHc (congrArg (fun z => some (Blk.ints _ z)) ?_) ?_ | refine vFc (congrArg (fun z => some (V.bool z)) ?_) ?_ | refine vFs rfl rfl ?_ ?_))
  all_goals first | with_reducible refine bN ?_ | with_reducible refine bE ?_ | with_reducible refine bR ?_ | refine bX rfl ?_
  all_goals first
    | with_reducible refine tR ?_
    | with_reducible refine tE ?_
    | (
     with_reducible refine tN ?_
     refine cR ?_
     refine oA rfl rfl ?_
     refine oN ?_
     refine CW_ret ?_)
  all_goals (
   refine exitQ (.inr rfl) 1 (.cons (.tmp rfl rfl) .nil) ?_ rfl (vHc rfl (vHc rfl (vHc rfl (vHc rfl (vHc rfl (vHc rfl vHn)))))) rfl rfl
   first
     | exact congrArg V.int (idxL_found (by omega) hi2 hc).symm
     | exact congrArg V.int (idxL_none (fun j hj => hi2 j (by omega))).symm)
theorem delPointDFn (f : Nat) (t0 : TypeId) (t1 : TypeId) (q1 k1 : Nat) (t2 : TypeId) (L2 : List Int) (t4 : TypeId) (L4 : List Int) (g : List Int → Bool) (tM : TypeId) (L : List (List Int)) (sp : List Int) (ck : Nat) (h3 : ∀ x ∈ L, x.length = 3) (hk9 : L.length ≤ 1000000000) (hck : L.length ≤ ck) (hf : ∀ m, m ∈ L → ConQ Try.prog [] 115 [.arr m, .ptr 1005 0] [(1000, .vals t0 [.nilsl]), (1001, .vals t1 [.slice 1004 0 q1 k1]), (1002, .ints t2 L2), (1004, .ints t4 L4), (1005, .vals 74 [.func f [] [.ptr 1000 0, .ptr 1001 0, .ptr 1002 0]])] (.bool (g m))) : Con Try.prog [] 94 [.slice 0 0 L.length ck, .func 115 [] [.ptr 1005 0]] [(0, .ints tM (L.flatten ++ sp)), (1000, .vals t0 [.nilsl]), (1001, .vals t1 [.slice 1004 0 q1 k1]), (1002, .ints t2 L2), (1004, .ints t4 L4), (1005, .vals 74 [.func f [] [.ptr 1000 0, .ptr 1001 0, .ptr 1002 0]])] (fun r H' => ∃ z, z.length = (L.length - (L.filter fun x => !g x).length) * 3 ∧ r = .slice 0 0 (L.filter fun x => !g x).length ck ∧ H' = [(0, .ints tM ((L.filter fun x => !g x).flatten ++ (z ++ sp))), (1000, .vals t0 [.nilsl]), (1001, .vals t1 [.slice 1004 0 q1 k1]), (1002, .ints t2 L2), (1004, .ints t4 L4), (1005, .vals 74 [.func f [] [.ptr 1000 0, .ptr 1001 0, .ptr 1002 0]])]) := by
  have hfl := flat3 h3
  rcases idxL_cases g L with ⟨hix, hix1⟩ | ⟨a, hix, ha, ha1, ha2⟩
  · have hall : (L.filter fun x => !g x) = L := by rw [List.filter_eq_self]; intro x hx; simp [hix1 x hx]
    rw [hall]
    refine conW tab_ok [(0, .slice 0 0 L.length ck), (1, .func 115 [] [.ptr 1005 0])] 1 [0, 1000, 1001, 1002, 1004, 1005] [0, 1000, 1001, 1002, 1004, 1005] Try.func94 rfl rfl rfl rfl rfl rfl rfl rfl rfl ?_
    refine cR ?_
    refine oA rfl rfl ?_
    refine oN ?_
    refine cR ?_
    iterate 2 refine oM rfl rfl ?_
    refine oQ (Q_call (idxPointDFn f t0 t1 q1 k1 t2 L2 t4 L4 g tM L sp L.length ck rfl h3 hk9 hf) [] rfl rfl (Fits.mk' (vHc rfl (vHc rfl (vHc rfl (vHc rfl (vHc rfl (vHc rfl vHn)))))) rfl rfl (by simp)) rfl rfl) rfl rfl ?_
    refine oA rfl rfl ?_
    refine oN ?_
    refine CW_seq ?_
    refine cR ?_
    refine oM rfl rfl ?_
    refine oQ (Q_bin rfl rfl rfl) rfl rfl ?_; rw [hix]
    refine oN ?_
    first | refine cT rfl ?_ | refine cF rfl ?_ | refine CW_cond rfl (fun hc => ?_) (fun hc => ?_)
    all_goals try simp only [s1, s2, s3, s4, s5, s6, s7, s8, s9, s10, s11, s12] at hc
    all_goals try (exfalso; first | omega | (simp at hc); done)
    all_goals first
      | (
       refine CW_skip ?_)
      | (
       refine cR ?_
       refine oM rfl rfl ?_
       refine oA rfl rfl ?_
       refine oN ?_
       refine CW_ret ?_)
    all_goals first
      | with_reducible refine tR ?_
      | with_reducible refine tE ?_
      | (
       with_reducible refine tN ?_
       refine CW_seq ?_
       refine cR ?_
       refine oM rfl rfl ?_
       first | refine oQ (Q_binu rfl rfl rfl (by omega)) rfl rfl ?_ | refine oQ (Q_bin rfl rfl rfl) rfl rfl ?_
       refine oA rfl rfl ?_
       refine oN ?_
       refine CW_block ?_
       exfalso; simp at hc
       · first | trivial | omega | (simp; done) | (simp; omega)
       · refine View.mk' [] rfl rfl rfl ?_ ?_
         repeat' first | exact vFn | refine vFc rfl ?_ | exact vHn | refine vHc rfl ?_ | refine vFc (congrArg (fun z => some (V.int z)) ?_) ?_ | refine vHc (congrArg (fun z => some (Blk.ints _ z)) ?_) ?_ | refine vFc (congrArg (fun z => some (V.bool z)) ?_) ?_ | refine vFs rfl rfl ?_ ?_
       intro i hi
       refine CW_seq ?_
       refine cR ?_
       iterate 2 refine oM rfl rfl ?_
       first | refine oQ (Q_len rfl rfl rfl rfl) rfl rfl ?_ | refine oQ (Q_len0 rfl rfl rfl rfl) rfl rfl ?_
       refine oQ (Q_bin rfl rfl rfl) rfl rfl ?_
       refine oN ?_
       first | refine cT rfl ?_ | refine cF rfl ?_ | refine CW_cond rfl (fun hc => ?_) (fun hc => ?_)
       all_goals try simp only [s1, s2, s3, s4, s5, s6, s7, s8, s9, s10, s11, s12] at hc
       all_goals try (exfalso; first | omega | (simp at hc); done)
       all_goals first
         | (
          refine CW_skip ?_)
         | (
          refine CW_exit ?_)
       all_goals first
         | with_reducible refine tR ?_
         | with_reducible refine tE ?_
         | (
          with_reducible refine tN ?_
          refine CW_seq ?_
          refine CW_block ?_
          refine cR ?_
          iterate 2 refine oM rfl rfl ?_
          first | refine oQ (Q_ixs0z 3 rfl rfl rfl rfl rfl rfl (by first | omega | (dsimp only; omega) | (simp; omega) | (simp; done))) rfl rfl ?_ | refine oQ (Q_ixsz 3 rfl rfl rfl rfl rfl rfl (by first | omega | (dsimp only; omega) | (simp; omega) | (simp; done))) rfl rfl ?_
          first | refine oQ (Lw rfl rfl rfl rfl) rfl rfl ?_ | refine oQ (La rfl rfl rfl rfl rfl) rfl rfl ?_
          refine oAlloc rfl rfl rfl rfl rfl rfl rfl ?_
          first | refine oSw rfl rfl rfl rfl ?_ | refine oSa rfl rfl rfl rfl ?_
          refine oN ?_
          refine cR ?_
          refine oM rfl rfl ?_
          first | refine oQ (Lw rfl rfl rfl rfl) rfl rfl ?_ | refine oQ (La rfl rfl rfl rfl rfl) rfl rfl ?_
          fail "call of a value at slot 28"
          refine oQ (Q_not rfl) rfl rfl ?_
          refine oN ?_
          first | refine cT rfl ?_ | refine cF rfl ?_ | refine CW_cond rfl (fun hc => ?_) (fun hc => ?_)
          all_goals try simp only [s1, s2, s3, s4, s5, s6, s7, s8, s9, s10, s11, s12] at hc
          all_goals try (exfalso; first | omega | (simp at hc); done)
          all_goals first
            | (
             refine CW_skip ?_)
            | (
             refine cR ?_
             iterate 2 refine oM rfl rfl ?_
             first | refine oQ (Lw rfl rfl rfl rfl) rfl rfl ?_ | refine oQ (La rfl rfl rfl rfl rfl) rfl rfl ?_
             first | refine oQ (Q_ixs0z 3 rfl rfl rfl rfl rfl rfl (by first | omega | (dsimp only; omega) | (simp; omega) | (simp; done))) rfl rfl ?_ | refine oQ (Q_ixsz 3 rfl rfl rfl rfl rfl rfl (by first | omega | (dsimp only; omega) | (simp; omega) | (simp; done))) rfl rfl ?_
             first | refine oSw rfl rfl rfl rfl ?_ | refine oSa rfl rfl rfl rfl ?_
             refine oN ?_
             refine CW_region ?_
             refine oM rfl rfl ?_
             first | refine oQ (Q_binu rfl rfl rfl (by omega)) rfl rfl ?_ | refine oQ (Q_bin rfl rfl rfl) rfl rfl ?_
             refine oA rfl rfl ?_
             refine OW_nil ?_)
          all_goals first | with_reducible refine bN ?_ | with_reducible refine bE ?_ | with_reducible refine bR ?_ | refine bX rfl ?_
          all_goals with_reducible refine tN ?_
          all_goals (
           refine CW_region ?_
           refine oM rfl rfl ?_
           first | refine oQ (Q_binu rfl rfl rfl (by omega)) rfl rfl ?_ | refine oQ (Q_bin rfl rfl rfl) rfl rfl ?_
           refine oA rfl rfl ?_
           refine OW_nil ?_))
       all_goals first
         | with_reducible refine tR ?_
         | with_reducible refine tE ?_
         | (
          with_reducible refine tN ?_
          fail "again 0")
       all_goals first | with_reducible refine bN ?_ | with_reducible refine bE ?_ | with_reducible refine bR ?_ | refine bX rfl ?_
       all_goals with_reducible refine tN ?_
       all_goals (
        refine cR ?_
        iterate 2 refine oM rfl rfl ?_
        refine oQ (Q_slsL 3 rfl rfl rfl rfl rfl rfl (by first | omega | (dsimp only; omega) | (simp; omega) | (simp; done)) (by first | omega | (dsimp only; omega) | (simp; omega) | (simp; done))) rfl rfl ?_
        fail "builtin clear at slot None"
        refine oN ?_
        refine cR ?_
        iterate 2 refine oM rfl rfl ?_
        refine oQ (Q_slsH rfl rfl rfl rfl rfl (by first | omega | (dsimp only; omega) | (simp; omega) | (simp; done))) rfl rfl ?_
        refine oA rfl rfl ?_
        refine oN ?_
        refine CW_ret ?_))
    all_goals (
     exact exitH (r0 := .slice 0 0 L.length ck) (.inr rfl) [] 1 (.cons (.tmp rfl rfl) .nil) rfl rfl rfl (vHc rfl (vHc rfl (vHc rfl (vHc rfl (vHc rfl (vHc rfl vHn)))))) rfl rfl ⟨[], by simp, rfl, rfl⟩)
  · have hall : ((L.take a).filter fun x => !g x) = L.take a := by rw [List.filter_eq_self]; intro x hx; simp [ha2 x hx]
    refine conW tab_ok [(0, .slice 0 0 L.length ck), (1, .func 115 [] [.ptr 1005 0])] 1 [0, 1000, 1001, 1002, 1004, 1005] [0, 1000, 1001, 1002, 1004, 1005] Try.func94 rfl rfl rfl rfl rfl rfl rfl rfl rfl ?_
    refine cR ?_
    refine oA rfl rfl ?_
    refine oN ?_
    refine cR ?_
    iterate 2 refine oM rfl rfl ?_
    refine oQ (Q_call (idxPointDFn f t0 t1 q1 k1 t2 L2 t4 L4 g tM L sp L.length ck rfl h3 hk9 hf) [] rfl rfl (Fits.mk' (vHc rfl (vHc rfl (vHc rfl (vHc rfl (vHc rfl (vHc rfl vHn)))))) rfl rfl (by simp)) rfl rfl) rfl rfl ?_
    refine oA rfl rfl ?_
    refine oN ?_
    refine CW_seq ?_
    refine cR ?_
    refine oM rfl rfl ?_
    refine oQ (Q_bin rfl rfl rfl) rfl rfl ?_
    refine oN ?_
    first | refine cT rfl ?_ | refine cF rfl ?_ | refine CW_cond rfl (fun hc => ?_) (fun hc => ?_)
    all_goals try simp only [s1, s2, s3, s4, s5, s6, s7, s8, s9, s10, s11, s12] at hc
    all_goals try (exfalso; first | omega | (simp at hc); done)
    all_goals first
      | (
       refine CW_skip ?_)
      | (
       refine cR ?_
       refine oM rfl rfl ?_
       refine oA rfl rfl ?_
       refine oN ?_
       refine CW_ret ?_)
    all_goals first
      | with_reducible refine tR ?_
      | with_reducible refine tE ?_
      | (
       with_reducible refine tN ?_
       refine CW_seq ?_
       refine cR ?_
       refine oM rfl rfl ?_
       first | refine oQ (Q_binu rfl rfl rfl (by omega)) rfl rfl ?_ | refine oQ (Q_bin rfl rfl rfl) rfl rfl ?_
       refine oA rfl rfl ?_
       refine oN ?_
       refine CW_block ?_
       refine CW_loop (ι := Nat × List Int) (fun x => x.1 ≤ L.length ∧ x.2.length + ((L.take x.1).filter fun x => !g x).length * 3 = x.1 * 3 ∧ ((L.take x.1).filter fun x => !g x).length < x.1) (fun x => ⟨[(0, .slice 0 0 L.length ck), (1, .func 115 [] [.ptr 1005 0]), (5, .int (((L.take x.1).filter fun x => !g x).length : Nat)), (6, .int (x.1 : Int))], [(0, .ints tM (delM 3 g L x.1 x.2 sp)), (1000, .vals t0 [.nilsl]), (1001, .vals t1 [.slice 1004 0 q1 k1]), (1002, .ints t2 L2), (1004, .ints t4 L4), (1005, .vals 74 [.func f [] [.ptr 1000 0, .ptr 1001 0, .ptr 1002 0]])], 1⟩) (fun x => L.length - x.1) (a + 1, L.getD a []) ?_ ?_ ?_
       · refine ⟨ha, ?_⟩; rw [filter_skip ha (by rw [ha1]; rfl), hall, List.length_take, h3 _ (getD_mem ha)]; exact ⟨by omega, by dsimp only; omega⟩
       · refine View.mk' [] rfl rfl rfl ?_ ?_
         repeat' first | exact vFn | refine vFc rfl ?_ | exact vHn | refine vHc rfl ?_ | refine vFc (congrArg (fun z => some (V.int z)) ?_) ?_ | refine vHc (congrArg (fun z => some (Blk.ints _ z)) ?_) ?_ | refine vFc (congrArg (fun z => some (V.bool z)) ?_) ?_ | refine vFs rfl rfl ?_ ?_
         · rw [hix, filter_skip ha (by rw [ha1]; rfl), hall, List.length_take, Nat.min_eq_left (by omega)]
         · rw [hix]; rfl
         · have hd := delM_skip (sz := 3) (junk := []) (sp := sp) ha ha1; rw [List.nil_append] at hd; dsimp only; rw [← hd]; unfold delM; rw [hall, List.nil_append, ← List.append_assoc, ← List.flatten_append, List.take_append_drop]
       rintro ⟨j, junk⟩ ⟨hj, hju, hlt⟩
       dsimp only at hj hju hlt ⊢
       have hfn := filter_len (g := fun x => !g x) j hj
       have hdl := delM_len (sp := sp) h3 hj hju
       have hdl2 := fun h : j < L.length => h3 _ (getD_mem h)
       refine CW_seq ?_
       refine cR ?_
       iterate 2 refine oM rfl rfl ?_
       first | refine oQ (Q_len rfl rfl rfl rfl) rfl rfl ?_ | refine oQ (Q_len0 rfl rfl rfl rfl) rfl rfl ?_
       refine oQ (Q_bin rfl rfl rfl) rfl rfl ?_
       refine oN ?_
       first | refine cT rfl ?_ | refine cF rfl ?_ | refine CW_cond rfl (fun hc => ?_) (fun hc => ?_)
       all_goals try simp only [s1, s2, s3, s4, s5, s6, s7, s8, s9, s10, s11, s12] at hc
       all_goals try (exfalso; first | omega | (simp at hc); done)
       all_goals first
         | (
          refine CW_skip ?_)
         | (
          refine CW_exit ?_)
       all_goals first
         | with_reducible refine tR ?_
         | with_reducible refine tE ?_
         | (
          with_reducible refine tN ?_
          refine CW_seq ?_
          refine CW_block ?_
          refine cR ?_
          iterate 2 refine oM rfl rfl ?_
          first | refine oQ (Q_ixs0z 3 rfl rfl rfl rfl rfl rfl (by first | omega | (dsimp only; omega) | (simp; omega) | (simp; done))) rfl rfl ?_ | refine oQ (Q_ixsz 3 rfl rfl rfl rfl rfl rfl (by first | omega | (dsimp only; omega) | (simp; omega) | (simp; done))) rfl rfl ?_
          refine oQ (Q_lda (n := 3) rfl rfl rfl rfl rfl (by rw [hdl]; omega)) rfl rfl ?_; rw [delM_get h3 (show j < L.length by omega) hju]
          refine oAlloc rfl rfl rfl rfl rfl rfl rfl ?_
          first | refine oSw rfl rfl rfl rfl ?_ | refine oSa rfl rfl rfl rfl ?_
          refine oN ?_
          refine cR ?_
          refine oM rfl rfl ?_
          first | refine oQ (Lw rfl rfl rfl rfl) rfl rfl ?_ | refine oQ (La rfl rfl rfl rfl rfl) rfl rfl ?_
          refine oQ (Q_callf (hf _ (getD_mem (by omega))) [] rfl rfl rfl (Fits.mk' (vHc rfl (vHc rfl (vHc rfl (vHc rfl (vHc rfl vHn))))) rfl rfl (by simp)) rfl rfl) rfl rfl ?_
          refine oQ (Q_not rfl) rfl rfl ?_
          refine oN ?_
          first | refine cT rfl ?_ | refine cF rfl ?_ | refine CW_cond rfl (fun hc => ?_) (fun hc => ?_)
          all_goals try simp only [s1, s2, s3, s4, s5, s6, s7, s8, s9, s10, s11, s12] at hc
          all_goals try (exfalso; first | omega | (simp at hc); done)
          all_goals first
            | (
             refine CW_skip ?_)
            | (
             refine cR ?_
             iterate 2 refine oM rfl rfl ?_
             first | refine oQ (Lw rfl rfl rfl rfl) rfl rfl ?_ | refine oQ (La rfl rfl rfl rfl rfl) rfl rfl ?_
             refine oQ (Q_ixs0z 3 rfl rfl rfl rfl rfl rfl (by omega)) rfl rfl ?_
             first | refine oSw rfl rfl rfl rfl ?_ | refine oSa rfl rfl rfl rfl ?_
             refine oN ?_
             refine CW_region ?_
             refine oM rfl rfl ?_
             first | refine oQ (Q_binu rfl rfl rfl (by omega)) rfl rfl ?_ | refine oQ (Q_bin rfl rfl rfl) rfl rfl ?_
             refine oA rfl rfl ?_
             refine OW_nil ?_)
          all_goals first | with_reducible refine bN ?_ | with_reducible refine bE ?_ | with_reducible refine bR ?_ | refine bX rfl ?_
          all_goals with_reducible refine tN ?_
          all_goals (
           refine CW_region ?_
           refine oM rfl rfl ?_
           first | refine oQ (Q_binu rfl rfl rfl (by omega)) rfl rfl ?_ | refine oQ (Q_bin rfl rfl rfl) rfl rfl ?_
           refine oA rfl rfl ?_
           refine OW_nil ?_))
       all_goals first
         | with_reducible refine tR ?_
         | with_reducible refine tE ?_
         | (
          with_reducible refine tN ?_
          refine ⟨(j + 1, if g (L.getD j []) = true then junk ++ L.getD j [] else (junk ++ L.getD j []).drop 3), ?_, ?_, View.mk' [] rfl rfl rfl ?_ ?_⟩
          · have e3 := h3 _ (getD_mem (show j < L.length by omega))
            refine ⟨by dsimp only; omega, ?_⟩
            dsimp only
            cases hg : g (L.getD j [])
            · rw [filter_snoc (by omega) (by rw [hg]; rfl)]; simp only [Bool.false_eq_true, if_false, List.length_drop, List.length_append, List.length_cons, List.length_nil, e3]; exact ⟨by omega, by omega⟩
            · rw [filter_skip (by omega) (by rw [hg]; rfl)]; simp only [if_true, List.length_append, e3]; exact ⟨by omega, by omega⟩
          · omega
          all_goals (repeat' first | exact vFn | refine vFc rfl ?_ | exact vHn | refine vHc rfl ?_ | refine vFc (congrArg (fun z => some (V.int z)) ?_) ?_ | refine vHc (congrArg (fun z => some (Blk.ints _ z)) ?_) ?_ | refine vFc (congrArg (fun z => some (V.bool z)) ?_) ?_ | refine vFs rfl rfl ?_ ?_)
          all_goals dsimp only
          all_goals first
            | (rw [filter_snoc (by omega) (by rw [hc]; rfl)]; simp; done)
            | (rw [filter_skip (by omega) (by rw [hc]; rfl)]; done)
            | (rw [if_pos hc]; exact delM_skip (by omega) hc)
            | (rw [if_neg (by rw [hc]; exact Bool.false_ne_true)]; exact delM_keep h3 (by omega) hc hju))
       all_goals first | with_reducible refine bN ?_ | with_reducible refine bE ?_ | with_reducible refine bR ?_ | refine bX rfl ?_
       all_goals with_reducible refine tN ?_
       all_goals (
        refine cR ?_
        iterate 2 refine oM rfl rfl ?_
        refine oQ (Q_slsL 3 rfl rfl rfl rfl rfl rfl (by omega) (by omega)) rfl rfl ?_; rw [if_neg (show ¬ ck = ((L.take j).filter fun x => !g x).length by omega), Nat.zero_add]
        refine oClear (sz := 3) rfl rfl rfl rfl ⟨by decide, rfl, .inr rfl⟩ rfl rfl (by rw [hdl]; omega) ?_
        refine oN ?_
        refine cR ?_
        iterate 2 refine oM rfl rfl ?_
        refine oQ (Q_slsH rfl rfl rfl rfl rfl (by first | omega | (dsimp only; omega) | (simp; omega) | (simp; done))) rfl rfl ?_
        refine oA rfl rfl ?_
        refine oN ?_
        refine CW_ret ?_))
    all_goals (
     have e : j = L.length := by omega
     subst e
     refine exitH (r0 := .slice 0 0 (L.filter fun x => !g x).length ck) (H0 := [(0, .ints tM ((L.filter fun x => !g x).flatten ++ (List.replicate ((L.length - (L.filter fun x => !g x).length) * 3) 0 ++ sp))), (1000, .vals t0 [.nilsl]), (1001, .vals t1 [.slice 1004 0 q1 k1]), (1002, .ints t2 L2), (1004, .ints t4 L4), (1005, .vals 74 [.func f [] [.ptr 1000 0, .ptr 1001 0, .ptr 1002 0]])]) (.inr rfl) [] 1 (.cons (.tmp rfl rfl) .nil) ?_ rfl rfl ?_ rfl rfl ⟨_, by simp, rfl, rfl⟩
     · simp [resV, ren, ap]
     · refine vHc (congrArg (fun z => some (Blk.ints _ z)) ?_) (vHc rfl (vHc rfl (vHc rfl (vHc rfl (vHc rfl vHn)))))
       exact delM_end h3 hju)
theorem pointsThat1_Fn (f : Nat) (t0 : TypeId) (t1 : TypeId) (q1 k1 : Nat) (t2 : TypeId) (L2 : List Int) (t4 : TypeId) (L4 : List Int) (g : List Int → Bool) (m0 : List Int) (hm : m0.length = 3) (hf : ∀ m, m = m0 → ConQ Try.prog [] f [.arr m, .ptr 1000 0, .ptr 1001 0, .ptr 1002 0] [(1000, .vals t0 [.nilsl]), (1001, .vals t1 [.slice 1004 0 q1 k1]), (1002, .ints t2 L2), (1004, .ints t4 L4)] (.bool (g m))) : ConQ Try.prog [] 115 [.arr m0, .ptr 1005 0] [(1000, .vals t0 [.nilsl]), (1001, .vals t1 [.slice 1004 0 q1 k1]), (1002, .ints t2 L2), (1004, .ints t4 L4), (1005, .vals 74 [.func f [] [.ptr 1000 0, .ptr 1001 0, .ptr 1002 0]])] (.bool (!(g m0))) := by
  refine conW tab_ok [(0, .arr m0), (1, .ptr 1005 0)] 0 [1000, 1001, 1002, 1004, 1005] [1000, 1001, 1002, 1004, 1005] Try.func115 rfl rfl rfl rfl rfl rfl rfl rfl rfl ?_
  refine cR ?_
  refine oBox rfl rfl rfl rfl rfl rfl ?_
  refine oA rfl rfl ?_
  refine oN ?_
  refine cR ?_
  refine oQ (Q_ldv rfl rfl rfl rfl rfl rfl) rfl rfl ?_
  refine oQ (Q_ldw rfl rfl rfl rfl hm) rfl rfl ?_
  refine oQ (Q_callf (hf m0 rfl) [] rfl rfl rfl (Fits.mk' (vHc rfl (vHc rfl (vHc rfl (vHc rfl vHn)))) rfl rfl (by simp)) rfl rfl) rfl rfl ?_
  refine oQ (Q_not rfl) rfl rfl ?_
  refine oA rfl rfl ?_
  refine oN ?_
  refine CW_ret ?_
  all_goals (
   ((refine exitQ (.inr rfl) 0 (.cons (.tmp rfl rfl) .nil) ?_ rfl (vHc rfl (vHc rfl (vHc rfl (vHc rfl (vHc rfl vHn))))) rfl rfl); rfl))
theorem pointsThat_Fn (f : Nat) (t0 : TypeId) (t1 : TypeId) (q1 k1 : Nat) (t2 : TypeId) (L2 : List Int) (t4 : TypeId) (L4 : List Int) (g : List Int → Bool) (p : Int) (hp : primeB p = true) (hf : ∀ m, m ∈ allPts p → ConQ Try.prog [] f [.arr m, .ptr 1000 0, .ptr 1001 0, .ptr 1002 0] [(1000, .vals t0 [.nilsl]), (1001, .vals t1 [.slice 1004 0 q1 k1]), (1002, .ints t2 L2), (1004, .ints t4 L4)] (.bool (g m))) : Con Try.prog [] 97 [.int p, .func f [] [.ptr 1000 0, .ptr 1001 0, .ptr 1002 0]] [(1000, .vals t0 [.nilsl]), (1001, .vals t1 [.slice 1004 0 q1 k1]), (1002, .ints t2 L2), (1004, .ints t4 L4)] (ownR 3 49 [(1000, .vals t0 [.nilsl]), (1001, .vals t1 [.slice 1004 0 q1 k1]), (1002, .ints t2 L2), (1004, .ints t4 L4)] 0 ((allPts p).filter g)) := by
  have hb := prime_bd hp
  have hal := allPts_len hp
  refine conW tab_ok [(0, .int p), (1, .func f [] [.ptr 1000 0, .ptr 1001 0, .ptr 1002 0])] 0 [1000, 1001, 1002, 1004] [1000, 1001, 1002, 1004] Try.func97 rfl rfl rfl rfl rfl rfl rfl rfl rfl ?_
  refine cR ?_
  refine oBox rfl rfl rfl rfl rfl rfl ?_
  refine oA rfl rfl ?_
  refine oN ?_
  refine cR ?_
  refine oM rfl rfl ?_
  refine oCall (allPoints_con p hp) [] 1 rfl rfl (Fits.mk' vHn rfl rfl (by simp)) rfl rfl ?_
  rintro r H1 ⟨k, sp, hk, hsp, rfl, rfl⟩
  refine ⟨.slice 1 0 (allPts p).length k, [(1, .ints 49 ((allPts p).flatten ++ sp))], rfl, rfl, rfl, ?_⟩
  refine oQ (Q_makeFunc rfl rfl) rfl rfl ?_
  refine oCall (delPointDFn f t0 t1 q1 k1 t2 L2 t4 L4 (fun x => !g x) 49 (allPts p) sp k (fun x hx => allPts_three hx) (by omega) hk (fun m hm => pointsThat1_Fn f t0 t1 q1 k1 t2 L2 t4 L4 g m (allPts_three hm) (fun _ e => e ▸ hf m hm))) [(0, 1), (1005, 0)] 0 rfl rfl (Fits.mk' (vHc rfl (vHc rfl (vHc rfl (vHc rfl (vHc rfl (vHc rfl vHn)))))) rfl rfl (by simp)) rfl rfl ?_
  rintro r H1 ⟨z, hz, rfl, rfl⟩
  rw [notnot] at hz ⊢
  refine ⟨.slice 1 0 ((allPts p).filter g).length k, [(1, .ints 49 (((allPts p).filter g).flatten ++ (z ++ sp))), (1000, .vals t0 [.nilsl]), (1001, .vals t1 [.slice 1004 0 q1 k1]), (1002, .ints t2 L2), (1004, .ints t4 L4), (0, .vals 74 [.func f [] [.ptr 1000 0, .ptr 1001 0, .ptr 1002 0]])], rfl, rfl, rfl, ?_⟩
  refine oA rfl rfl ?_
  refine oN ?_
  refine CW_ret ?_
  all_goals (
   have hfl := List.length_filter_le g (allPts p)
   exact exitH (r0 := .slice 0 0 ((allPts p).filter g).length k) (.inr rfl) [(0, 1)] 1 (.cons (.tmp rfl rfl) .nil) rfl rfl rfl (vHc rfl (vHc rfl (vHc rfl (vHc rfl (vHc rfl vHn))))) rfl rfl ⟨k, z ++ sp, by omega, by rw [List.length_append, hz]; omega, rfl, rfl⟩)
theorem free1_con (p : Int) (hp : primeB p = true) (L : List (List Int)) (sp : List Int) (k : Nat) (h3 : ∀ x ∈ L, x.length = 3) (hn9 : L.length ≤ 1000000000) (J : List (List Int)) (sJ : List Int) (kJ : Nat) (hJ3 : ∀ x ∈ J, x.length = 3) (hJ9 : J.length ≤ 1000000000) (hJs : ∀ l ∈ J, sm 13 l) (a : List Int) (ha : a ∈ allPts p) : ConQ Try.prog [] 98 [.arr a, .ptr 1000 0, .ptr 1001 0, .ptr 1002 0] [(1000, .vals 24 [.slice 1003 0 L.length k]), (1001, .vals 38 [.slice 1004 0 J.length kJ]), (1002, .ints 2 [p]), (1003, .ints 49 (L.flatten ++ sp)), (1004, .ints 55 (J.flatten ++ sJ))] (.bool (frG p L J a)) := by
  have ha3 := allPts_three ha
  refine conW tab_ok [(0, .arr a), (1, .ptr 1000 0), (2, .ptr 1001 0), (3, .ptr 1002 0)] 0 [1000, 1001, 1002, 1003, 1004] [1000, 1001, 1002, 1003, 1004] Try.func98 rfl rfl rfl rfl rfl rfl rfl rfl rfl ?_
  refine cR ?_
  refine oBox rfl rfl rfl rfl rfl rfl ?_
  refine oA rfl rfl ?_
  refine oN ?_
  refine cR ?_
  refine oQ (Q_ldv rfl rfl rfl rfl rfl rfl) rfl rfl ?_
  refine oQ (Q_ldw rfl rfl rfl rfl ha3) rfl rfl ?_
  refine oQ (Q_call (containsP_con L sp k h3 a ha3 hn9) [(0, 1003)] rfl rfl (Fits.mk' (vHc rfl vHn) rfl rfl (by simp)) rfl rfl) rfl rfl ?_
  refine oQ (Q_not rfl) rfl rfl ?_
  refine oM rfl rfl ?_
  all_goals first | refine oT rfl rfl ?_ | refine o1 rfl rfl rfl ?_ | refine o0 rfl rfl rfl ?_ | refine ogP1 rfl rfl rfl (fun hg => ?_) (fun hg => ?_) | refine ogP0 rfl rfl rfl (fun hg => ?_) (fun hg => ?_)
  all_goals try simp only [s1, s2, s3, s4, s5, s6, s7, s8, s9, s10, s11, s12] at hg
  all_goals first | (refine oQ (Q_ldv rfl rfl rfl rfl rfl rfl) rfl rfl ?_) | skip
  all_goals first | refine oT rfl rfl ?_ | refine o1 rfl rfl rfl ?_ | refine o0 rfl rfl rfl ?_ | refine ogP1 rfl rfl rfl (fun hg => ?_) (fun hg => ?_) | refine ogP0 rfl rfl rfl (fun hg => ?_) (fun hg => ?_)
  all_goals try simp only [s1, s2, s3, s4, s5, s6, s7, s8, s9, s10, s11, s12] at hg
  all_goals first | (refine oQ (Q_makeFunc rfl rfl) rfl rfl ?_) | skip
  all_goals first | refine oT rfl rfl ?_ | refine o1 rfl rfl rfl ?_ | refine o0 rfl rfl rfl ?_ | refine ogP1 rfl rfl rfl (fun hg => ?_) (fun hg => ?_) | refine ogP0 rfl rfl rfl (fun hg => ?_) (fun hg => ?_)
  all_goals try simp only [s1, s2, s3, s4, s5, s6, s7, s8, s9, s10, s11, s12] at hg
  all_goals first | (refine oQ (Q_call (hasLine2 101 2 [p] 49 a (fun l => onB p a l) 55 J sJ J.length kJ rfl hJ3 hJ9 (fun m hm => freeOn_con 2 p 49 a m hp ha3 (hJ3 m hm) (allPts_sm hp ha) (hJs m hm))) [(0, 1004), (1000, 1002), (1001, 0)] rfl rfl (Fits.mk' (vHc rfl (vHc rfl (vHc rfl vHn))) rfl rfl (by simp)) rfl rfl) rfl rfl ?_) | skip
  all_goals first | refine oT rfl rfl ?_ | refine o1 rfl rfl rfl ?_ | refine o0 rfl rfl rfl ?_ | refine ogP1 rfl rfl rfl (fun hg => ?_) (fun hg => ?_) | refine ogP0 rfl rfl rfl (fun hg => ?_) (fun hg => ?_)
  all_goals try simp only [s1, s2, s3, s4, s5, s6, s7, s8, s9, s10, s11, s12] at hg
  all_goals first | (refine oQ (Q_not rfl) rfl rfl ?_) | skip
  all_goals first | refine oQ (Q_pick_t rfl (by with_reducible rfl) rfl rfl) rfl rfl ?_ | refine oQ (Q_pick_f rfl (by with_reducible rfl) rfl rfl) rfl rfl ?_
  all_goals first | (refine oA rfl rfl ?_)
  all_goals refine oN ?_
  all_goals (
   refine CW_ret ?_)
  all_goals (
   refine exitQ (.inr rfl) 0 (.cons (.tmp rfl rfl) .nil) ?_ rfl (vHc rfl (vHc rfl (vHc rfl (vHc rfl (vHc rfl vHn))))) rfl rfl
   simp [resV, frG, hg])
theorem free1_nil (p : Int) (hp : primeB p = true)   (J : List (List Int)) (sJ : List Int) (kJ : Nat) (hJ3 : ∀ x ∈ J, x.length = 3) (hJ9 : J.length ≤ 1000000000) (hJs : ∀ l ∈ J, sm 13 l) (a : List Int) (ha : a ∈ allPts p) : ConQ Try.prog [] 98 [.arr a, .ptr 1000 0, .ptr 1001 0, .ptr 1002 0] [(1000, .vals 24 [.nilsl]), (1001, .vals 38 [.slice 1004 0 J.length kJ]), (1002, .ints 2 [p]), (1004, .ints 55 (J.flatten ++ sJ))] (.bool (frG p ([] : List (List Int)) J a)) := by
  have ha3 := allPts_three ha
  refine conW tab_ok [(0, .arr a), (1, .ptr 1000 0), (2, .ptr 1001 0), (3, .ptr 1002 0)] 0 [1000, 1001, 1002, 1004] [1000, 1001, 1002, 1004] Try.func98 rfl rfl rfl rfl rfl rfl rfl rfl rfl ?_
  refine cR ?_
  refine oBox rfl rfl rfl rfl rfl rfl ?_
  refine oA rfl rfl ?_
  refine oN ?_
  refine cR ?_
  refine oQ (Q_ldv rfl rfl rfl rfl rfl rfl) rfl rfl ?_
  refine oQ (Q_ldw rfl rfl rfl rfl ha3) rfl rfl ?_
  refine oQ (Q_call0 (containsP_nil a ha3) rfl rfl rfl) rfl rfl ?_
  refine oQ (Q_not rfl) rfl rfl ?_
  refine oM rfl rfl ?_
  all_goals first | refine oT rfl rfl ?_ | refine o1 rfl rfl rfl ?_ | refine o0 rfl rfl rfl ?_ | refine ogP1 rfl rfl rfl (fun hg => ?_) (fun hg => ?_) | refine ogP0 rfl rfl rfl (fun hg => ?_) (fun hg => ?_)
  all_goals try simp only [s1, s2, s3, s4, s5, s6, s7, s8, s9, s10, s11, s12] at hg
  all_goals first | (refine oQ (Q_ldv rfl rfl rfl rfl rfl rfl) rfl rfl ?_) | skip
  all_goals first | refine oT rfl rfl ?_ | refine o1 rfl rfl rfl ?_ | refine o0 rfl rfl rfl ?_ | refine ogP1 rfl rfl rfl (fun hg => ?_) (fun hg => ?_) | refine ogP0 rfl rfl rfl (fun hg => ?_) (fun hg => ?_)
  all_goals try simp only [s1, s2, s3, s4, s5, s6, s7, s8, s9, s10, s11, s12] at hg
  all_goals first | (refine oQ (Q_makeFunc rfl rfl) rfl rfl ?_) | skip
  all_goals first | refine oT rfl rfl ?_ | refine o1 rfl rfl rfl ?_ | refine o0 rfl rfl rfl ?_ | refine ogP1 rfl rfl rfl (fun hg => ?_) (fun hg => ?_) | refine ogP0 rfl rfl rfl (fun hg => ?_) (fun hg => ?_)
  all_goals try simp only [s1, s2, s3, s4, s5, s6, s7, s8, s9, s10, s11, s12] at hg
  all_goals first | (refine oQ (Q_call (hasLine2 101 2 [p] 49 a (fun l => onB p a l) 55 J sJ J.length kJ rfl hJ3 hJ9 (fun m hm => freeOn_con 2 p 49 a m hp ha3 (hJ3 m hm) (allPts_sm hp ha) (hJs m hm))) [(0, 1004), (1000, 1002), (1001, 0)] rfl rfl (Fits.mk' (vHc rfl (vHc rfl (vHc rfl vHn))) rfl rfl (by simp)) rfl rfl) rfl rfl ?_) | skip
  all_goals first | refine oT rfl rfl ?_ | refine o1 rfl rfl rfl ?_ | refine o0 rfl rfl rfl ?_ | refine ogP1 rfl rfl rfl (fun hg => ?_) (fun hg => ?_) | refine ogP0 rfl rfl rfl (fun hg => ?_) (fun hg => ?_)
  all_goals try simp only [s1, s2, s3, s4, s5, s6, s7, s8, s9, s10, s11, s12] at hg
  all_goals first | (refine oQ (Q_not rfl) rfl rfl ?_) | skip
  all_goals first | refine oQ (Q_pick_t rfl (by with_reducible rfl) rfl rfl) rfl rfl ?_ | refine oQ (Q_pick_f rfl (by with_reducible rfl) rfl rfl) rfl rfl ?_
  all_goals first | (refine oA rfl rfl ?_)
  all_goals refine oN ?_
  all_goals (
   refine CW_ret ?_)
  all_goals (
   refine exitQ (.inr rfl) 0 (.cons (.tmp rfl rfl) .nil) ?_ rfl (vHc rfl (vHc rfl (vHc rfl (vHc rfl vHn)))) rfl rfl
   simp [resV, frG, hg])
theorem freePoints_con (p : Int) (L : List (List Int)) (sp : List Int) (k : Nat) (h3 : ∀ x ∈ L, x.length = 3) (hp : primeB p = true) (hv : ∀ x ∈ L, x ∈ allPts p) (hnd : L.Nodup) (hn60 : L.length ≤ 200) (hkL : L.length ≤ k) : Con Try.prog [] 75 [.int p, .slice 0 0 L.length k] [(0, .ints 49 (L.flatten ++ sp))] (ownR 3 49 [(0, .ints 49 (L.flatten ++ sp))] 1 (freeV p L)) := by
  have hf3 := flat3 h3
  have hb := prime_bd hp
  have hfree := free_filter hp hv hnd
  refine conW tab_ok [(0, .int p), (1, .slice 0 0 L.length k)] 1 [0] [0] Try.func75 rfl rfl rfl rfl rfl rfl rfl rfl rfl ?_
  refine cR ?_
  iterate 2 refine oBox rfl rfl rfl rfl rfl rfl ?_
  refine oA rfl rfl ?_
  refine oN ?_
  refine cR ?_
  refine oBsl rfl rfl rfl rfl (.inr ⟨rfl, rfl, by decide⟩) rfl rfl rfl rfl rfl rfl ?_
  refine oAlloc rfl rfl rfl rfl rfl rfl rfl ?_
  refine oStv rfl rfl rfl rfl rfl rfl rfl (by first | omega | (dsimp only; omega) | (simp; omega) | (simp; done)) rfl rfl ?_
  refine oN ?_
  refine CW_seq ?_
  refine cR ?_
  refine oQ (Q_ldv rfl rfl rfl rfl rfl rfl) rfl rfl ?_
  first | refine oQ (Q_len rfl rfl rfl rfl) rfl rfl ?_ | refine oQ (Q_len0 rfl rfl rfl rfl) rfl rfl ?_
  refine oM rfl rfl ?_
  refine oN ?_
  refine CW_block ?_
  refine CW_loop (ι := Nat × Nat × List Int) (fun x => x.1 ≤ L.length ∧ (jnT p L x.1).length ≤ x.2.1 ∧ x.2.1 * 3 ≤ (jnT p L x.1).length * 3 + x.2.2.length) (fun x => ⟨[(2, .ptr 1 0), (3, .ptr 2 0), (5, .ptr 4 0), (11, .slice 0 0 L.length k), (12, .int (L.length : Nat)), (13, .int (x.1 : Nat))], [(0, .ints 49 (L.flatten ++ sp)), (1, .ints 2 [p]), (2, .vals 24 [.slice 0 0 L.length k]), (4, .vals 38 [.slice 3 0 (jnT p L x.1).length x.2.1]), (3, .ints 55 ((jnT p L x.1).flatten ++ x.2.2))], 5⟩) (fun x => L.length - x.1) (0, 0, []) ?_ ?_ ?_
  · exact ⟨Nat.zero_le _, Nat.le_refl _, Nat.le_refl _⟩
  · refine View.mk' [] rfl rfl rfl ?_ ?_
    repeat' first | exact vFn | refine vFc rfl ?_ | exact vHn | refine vHc rfl ?_ | refine vFc (congrArg (fun z => some (V.int z)) ?_) ?_ | refine vHc (congrArg (fun z => some (Blk.ints _ z)) ?_) ?_ | refine vFc (congrArg (fun z => some (V.bool z)) ?_) ?_ | refine vFs rfl rfl ?_ ?_
  rintro ⟨i, kk, ss⟩ ⟨hi, hk, hsp⟩
  dsimp only at hi hk hsp ⊢
  have h3i := fun h : i < L.length => h3 _ (getD_mem h)
  have hsi := fun h : i < L.length => allPts_sm hp (hv _ (getD_mem h))
  refine cR ?_
  refine oQ (Q_bin rfl rfl rfl) rfl rfl ?_
  refine oN ?_
  refine CW_seq ?_
  first | refine cT rfl ?_ | refine cF rfl ?_ | refine CW_cond rfl (fun hc => ?_) (fun hc => ?_)
  all_goals try simp only [s1, s2, s3, s4, s5, s6, s7, s8, s9, s10, s11, s12] at hc
  all_goals first
    | (
     refine CW_skip ?_)
    | (
     refine CW_exit ?_)
  all_goals first
    | with_reducible refine tR ?_
    | with_reducible refine tE ?_
    | (
     with_reducible refine tN ?_
     refine CW_seq ?_
     refine CW_block ?_
     refine cR ?_
     refine oM rfl rfl ?_
     (have hil : i < L.length := by omega); (have h3i := h3i hil); (have hsi := hsi hil); refine oQ (Q_ixs0z 3 rfl rfl rfl rfl rfl rfl (by omega)) rfl rfl ?_
     refine oQ (Q_lda (n := 3) rfl rfl rfl rfl rfl (by rw [List.length_append, hf3]; omega)) rfl rfl ?_; rw [flat_get h3 (show i < L.length by omega)]
     refine oAlloc rfl rfl rfl rfl rfl rfl rfl ?_
     refine oA rfl rfl ?_
     first | refine oSw rfl rfl rfl rfl ?_ | refine oSa rfl rfl rfl rfl ?_
     refine oN ?_
     refine cR ?_
     refine oQ (Q_ldv rfl rfl rfl rfl rfl rfl) rfl rfl ?_
     refine oM rfl rfl ?_
     refine oQ (Q_slsH rfl rfl rfl rfl rfl (by first | omega | (dsimp only; omega) | (simp; omega) | (simp; done))) rfl rfl ?_
     first | refine oQ (Q_len rfl rfl rfl rfl) rfl rfl ?_ | refine oQ (Q_len0 rfl rfl rfl rfl) rfl rfl ?_
     refine oM rfl rfl ?_
     refine oN ?_
     refine CW_block ?_
     refine CW_loop (ι := Nat × Nat × List Int) (fun x => x.1 ≤ i ∧ (jnI p L i x.1).length ≤ x.2.1 ∧ x.2.1 * 3 ≤ (jnI p L i x.1).length * 3 + x.2.2.length) (fun x => ⟨[(2, .ptr 1 0), (3, .ptr 2 0), (5, .ptr 4 0), (11, .slice 0 0 L.length k), (12, .int (L.length : Nat)), (13, .int (i : Nat)), (7, .ptr 5 0), (20, .slice 0 0 i k), (21, .int (i : Nat)), (22, .int (x.1 : Nat))], [(0, .ints 49 (L.flatten ++ sp)), (1, .ints 2 [p]), (2, .vals 24 [.slice 0 0 L.length k]), (4, .vals 38 [.slice 3 0 (jnI p L i x.1).length x.2.1]), (3, .ints 55 ((jnI p L i x.1).flatten ++ x.2.2)), (5, .ints 49 (L.getD i []))], 6⟩) (fun x => i - x.1) (0, kk, ss) ?_ ?_ ?_
     · (rw [jnI_zero]; exact ⟨Nat.zero_le _, hk, hsp⟩)
     · refine View.mk' [] rfl rfl rfl ?_ ?_
       repeat' first | exact vFn | refine vFc rfl ?_ | exact vHn | refine vHc rfl ?_ | refine vFc (congrArg (fun z => some (V.int z)) ?_) ?_ | refine vHc (congrArg (fun z => some (Blk.ints _ z)) ?_) ?_ | refine vFc (congrArg (fun z => some (V.bool z)) ?_) ?_ | refine vFs rfl rfl ?_ ?_
       all_goals dsimp only
       all_goals rw [jnI_zero]
       all_goals (repeat' first | exact vHn | refine vHc rfl ?_)
     rintro ⟨q, kq, sq⟩ ⟨hq, hkq, hspq⟩
     dsimp only at hq hkq hspq ⊢
     have h3q := fun h : q < L.length => h3 _ (getD_mem h)
     have hsq := fun h : q < L.length => allPts_sm hp (hv _ (getD_mem h))
     have hJl := jnI_le (p := p) (L := L) (i := i) (k := q) (by omega) (by omega)
     have hJf := flat3 (jnI_three (p := p) (L := L) (i := i) (k := q))
     have hjl := jnV_len p L i q
     refine cR ?_
     refine oQ (Q_bin rfl rfl rfl) rfl rfl ?_
     refine oN ?_
     refine CW_seq ?_
     first | refine cT rfl ?_ | refine cF rfl ?_ | refine CW_cond rfl (fun hc => ?_) (fun hc => ?_)
     all_goals try simp only [s1, s2, s3, s4, s5, s6, s7, s8, s9, s10, s11, s12] at hc
     all_goals first
       | (
        refine CW_skip ?_)
       | (
        refine CW_exit ?_)
     all_goals first
       | with_reducible refine tR ?_
       | with_reducible refine tE ?_
       | (
        with_reducible refine tN ?_
        refine CW_seq ?_
        refine CW_block ?_
        refine cR ?_
        (have hql : q < L.length := by omega); (have h3q := h3q hql); (have hsq := hsq hql); refine oQ (Q_ixs0z 3 rfl rfl rfl rfl rfl rfl (by omega)) rfl rfl ?_
        refine oQ (Q_lda (n := 3) rfl rfl rfl rfl rfl (by rw [List.length_append, hf3]; omega)) rfl rfl ?_; rw [flat_get h3 hql]
        refine oAlloc rfl rfl rfl rfl rfl rfl rfl ?_
        first | refine oSw rfl rfl rfl rfl ?_ | refine oSa rfl rfl rfl rfl ?_
        refine oN ?_
        refine CW_any (fun i => List.elem i [6, 7]) 8 rfl lateOk (by decide +kernel) (fun hst => ?_)
        refine aQ 0 hst rfl rfl (by decide +kernel) (QX_of (Q_ldv rfl rfl rfl rfl rfl rfl) NE_load) rfl rfl ?_
        refine aQ 1 hst rfl rfl (by decide +kernel) (QX_of (Ld rfl rfl rfl rfl) NE_load) rfl rfl ?_
        refine aQ 2 hst rfl rfl (by decide +kernel) (QX_of (Q_ldw rfl rfl rfl rfl h3i) NE_load) rfl rfl ?_
        refine aQ 3 hst rfl rfl (by decide +kernel) (QX_of (Q_ldw rfl rfl rfl rfl h3q) NE_load) rfl rfl ?_
        refine aQ 4 hst rfl rfl (by decide +kernel) (QX_call0 (join_con p (L.getD i []) (L.getD q []) hp h3i h3q hsi hsq) rfl rfl rfl) rfl rfl ?_
        refine AW_one (i := 5) (by decide +kernel) ?_
        refine gBsl1 hjl rfl rfl rfl rfl rfl rfl rfl rfl rfl rfl rfl rfl ?_
        refine AW_last [6, 7] rfl (by decide +kernel) rfl ?_
        refine oApp (sz := 3) (by_ := 24) (xl := jnV p L i q) rfl rfl rfl rfl rfl rfl ⟨by decide, rfl, .inr rfl⟩ rfl rfl rfl rfl rfl rfl hJf (by rw [hjl]) (by omega) (by omega) (by omega) (by omega) rfl rfl (fun k2 sp2 h1 h2 => ?_)
        refine oStv rfl rfl rfl rfl rfl rfl rfl (by first | omega | (dsimp only; omega) | (simp; omega) | (simp; done)) rfl rfl ?_
        refine OW_nil (npN ?_)
        all_goals first | with_reducible refine bN ?_ | with_reducible refine bE ?_ | with_reducible refine bR ?_ | refine bX rfl ?_
        all_goals with_reducible refine tN ?_
        all_goals (
         refine CW_region ?_
         first | refine oQ (Q_binu rfl rfl rfl (by omega)) rfl rfl ?_ | refine oQ (Q_bin rfl rfl rfl) rfl rfl ?_
         refine oM rfl rfl ?_
         refine OW_nil ?_))
     all_goals first
       | with_reducible refine tR ?_
       | with_reducible refine tE ?_
       | (
        with_reducible refine tN ?_
        refine ⟨(q + 1, k2, sp2), ?_, ?_, View.mk' [(3, 8)] rfl rfl rfl ?_ ?_⟩
        · dsimp only
          rw [jnI_succ, List.length_append, List.length_singleton]
          exact ⟨by omega, h1, h2⟩
        · omega
        all_goals (repeat' first | exact vFn | refine vFc rfl ?_ | exact vHn | refine vHc rfl ?_ | refine vFc (congrArg (fun z => some (V.int z)) ?_) ?_ | refine vHc (congrArg (fun z => some (Blk.ints _ z)) ?_) ?_ | refine vFc (congrArg (fun z => some (V.bool z)) ?_) ?_ | refine vFs rfl rfl ?_ ?_)
        all_goals dsimp only
        all_goals rw [jnI_succ, List.length_append, List.length_singleton, List.flatten_append, List.flatten_singleton]
        all_goals (repeat' first | exact vHn | refine vHc rfl ?_))
     all_goals first | with_reducible refine bN ?_ | with_reducible refine bE ?_ | with_reducible refine bR ?_ | refine bX rfl ?_
     all_goals first | with_reducible refine bN ?_ | with_reducible refine bE ?_ | with_reducible refine bR ?_ | refine bX rfl ?_
     all_goals with_reducible refine tN ?_
     all_goals (
      refine CW_region ?_
      first | refine oQ (Q_binu rfl rfl rfl (by omega)) rfl rfl ?_ | refine oQ (Q_bin rfl rfl rfl) rfl rfl ?_
      refine oM rfl rfl ?_
      refine OW_nil ?_))
  all_goals first
    | with_reducible refine tR ?_
    | with_reducible refine tE ?_
    | (
     with_reducible refine tN ?_
     refine ⟨(i + 1, kq, sq), ?_, ?_, View.mk' [] rfl rfl rfl ?_ ?_⟩
     · dsimp only
       have e : q = i := by omega
       subst e
       rw [← jnI_end]
       exact ⟨by omega, hkq, hspq⟩
     · omega
     all_goals (repeat' first | exact vFn | refine vFc rfl ?_ | exact vHn | refine vHc rfl ?_ | refine vFc (congrArg (fun z => some (V.int z)) ?_) ?_ | refine vHc (congrArg (fun z => some (Blk.ints _ z)) ?_) ?_ | refine vFc (congrArg (fun z => some (V.bool z)) ?_) ?_ | refine vFs rfl rfl ?_ ?_)
     all_goals dsimp only
     all_goals have e : q = i := by omega
     all_goals subst e
     all_goals rw [← jnI_end]
     all_goals (repeat' first | exact vHn | refine vHc rfl ?_))
  all_goals first | with_reducible refine bN ?_ | with_reducible refine bE ?_ | with_reducible refine bR ?_ | refine bX rfl ?_
  all_goals with_reducible refine tN ?_
  all_goals (
   refine cR ?_
   refine oQ (Ld rfl rfl rfl rfl) rfl rfl ?_
   refine oQ (Q_makeFunc rfl rfl) rfl rfl ?_
   (have e : i = L.length := by omega)
   subst e
   refine oCall (pointsThat_Fr 98 24 L.length k 38 (jnT p L L.length).length kk 2 [p] 49 (L.flatten ++ sp) 55 ((jnT p L L.length).flatten ++ ss) (frG p L (jnT p L L.length)) p hp (fun m hm => free1_con p hp L sp k h3 (by omega) (jnT p L L.length) ss kk jnT_three (by have := jnT_le (p := p) (L := L) (i := L.length) hn60; omega) (fun l hl => jnT_sm hp hl) m hm)) [(1000, 2), (1001, 4), (1002, 1), (1003, 0), (1004, 3)] 1 rfl rfl (Fits.mk' (vHc rfl (vHc rfl (vHc rfl (vHc rfl (vHc rfl vHn))))) rfl rfl (by simp)) rfl rfl ?_
   rintro r H1 ⟨k9, sp9, hk9, hs9, rfl, rfl⟩
   rw [hfree] at hk9 hs9 ⊢
   refine ⟨.slice 5 0 (freeV p L).length k9, [(2, .vals 24 [.slice 0 0 L.length k]), (4, .vals 38 [.slice 3 0 (jnT p L L.length).length kk]), (1, .ints 2 [p]), (0, .ints 49 (L.flatten ++ sp)), (3, .ints 55 ((jnT p L L.length).flatten ++ ss)), (5, .ints 49 ((freeV p L).flatten ++ sp9))], rfl, rfl, rfl, ?_⟩
   refine oA rfl rfl ?_
   refine oN ?_
   refine CW_ret ?_)
  all_goals (
   exact exitH (r0 := .slice 1 0 (freeV p L).length k9) (H0 := [(0, .ints 49 (L.flatten ++ sp)), (1, .ints 49 ((freeV p L).flatten ++ sp9))]) (.inr rfl) [(1, 5)] 2 (.cons (.tmp rfl rfl) .nil) rfl rfl rfl (vHc rfl (vHc rfl vHn)) rfl rfl ⟨k9, sp9, hk9, hs9, rfl, rfl⟩)
theorem freePoints_nil (p : Int)  (hp : primeB p = true) : Con Try.prog [] 75 [.int p, .nilsl] [] (ownR 3 49 [] 0 (freeV p ([] : List (List Int)))) := by
  have hfree := free_filter hp (L := []) (by simp) List.nodup_nil
  rw [show jnT p [] ([] : List (List Int)).length = [] from rfl] at hfree
  refine conW tab_ok [(0, .int p), (1, .nilsl)] 0 [] [] Try.func75 rfl rfl rfl rfl rfl rfl rfl rfl rfl ?_
  refine cR ?_
  iterate 2 refine oBox rfl rfl rfl rfl rfl rfl ?_
  refine oA rfl rfl ?_
  refine oN ?_
  refine cR ?_
  refine oBsl rfl rfl rfl rfl (.inr ⟨rfl, rfl, by decide⟩) rfl rfl rfl rfl rfl rfl ?_
  refine oAlloc rfl rfl rfl rfl rfl rfl rfl ?_
  refine oStv rfl rfl rfl rfl rfl rfl rfl (by first | omega | (dsimp only; omega) | (simp; omega) | (simp; done)) rfl rfl ?_
  refine oN ?_
  refine CW_seq ?_
  refine cR ?_
  refine oQ (Q_ldv rfl rfl rfl rfl rfl rfl) rfl rfl ?_
  first | refine oQ (Q_len rfl rfl rfl rfl) rfl rfl ?_ | refine oQ (Q_len0 rfl rfl rfl rfl) rfl rfl ?_
  refine oM rfl rfl ?_
  refine oN ?_
  refine CW_block ?_
  refine CW_loop (ι := Nat × List Int) (fun x => True) (fun x => ⟨[(2, .ptr 0 0), (3, .ptr 1 0), (5, .ptr 3 0), (11, .nilsl), (12, .int (0 : Nat)), (13, .int 0)], [(0, .ints 2 [p]), (1, .vals 24 [.nilsl]), (3, .vals 38 [.slice 2 0 (([] : List (List Int))).length x.1]), (2, .ints 55 ((([] : List (List Int))).flatten ++ x.2))], 4⟩) (fun x => 0) (0, []) ?_ ?_ ?_
  · first | trivial | omega | (simp; done) | (simp; omega)
  · refine View.mk' [] rfl rfl rfl ?_ ?_
    repeat' first | exact vFn | refine vFc rfl ?_ | exact vHn | refine vHc rfl ?_ | refine vFc (congrArg (fun z => some (V.int z)) ?_) ?_ | refine vHc (congrArg (fun z => some (Blk.ints _ z)) ?_) ?_ | refine vFc (congrArg (fun z => some (V.bool z)) ?_) ?_ | refine vFs rfl rfl ?_ ?_
  rintro ⟨kk, ss⟩ _
  refine cR ?_
  refine oQ (Q_bin rfl rfl rfl) rfl rfl ?_
  refine oN ?_
  refine CW_seq ?_
  first | refine cT rfl ?_ | refine cF rfl ?_ | refine CW_cond rfl (fun hc => ?_) (fun hc => ?_)
  all_goals try simp only [s1, s2, s3, s4, s5, s6, s7, s8, s9, s10, s11, s12] at hc
  all_goals try (exfalso; first | omega | (simp at hc; done); done)
  all_goals first
    | (
     refine CW_skip ?_)
    | (
     refine CW_exit ?_)
  all_goals first
    | with_reducible refine tR ?_
    | with_reducible refine tE ?_
    | (
     with_reducible refine tN ?_
     refine CW_seq ?_
     refine CW_block ?_
     refine cR ?_
     refine oM rfl rfl ?_
     first | refine oQ (Q_ixs0z 3 rfl rfl rfl rfl rfl rfl (by first | omega | (dsimp only; omega) | (simp; omega) | (simp; done))) rfl rfl ?_ | refine oQ (Q_ixsz 3 rfl rfl rfl rfl rfl rfl (by first | omega | (dsimp only; omega) | (simp; omega) | (simp; done))) rfl rfl ?_
     first | refine oQ (Lw rfl rfl rfl rfl) rfl rfl ?_ | refine oQ (La rfl rfl rfl rfl rfl) rfl rfl ?_
     refine oAlloc rfl rfl rfl rfl rfl rfl rfl ?_
     refine oA rfl rfl ?_
     first | refine oSw rfl rfl rfl rfl ?_ | refine oSa rfl rfl rfl rfl ?_
     refine oN ?_
     refine cR ?_
     refine oQ (Q_ldv rfl rfl rfl rfl rfl rfl) rfl rfl ?_
     refine oM rfl rfl ?_
     refine oQ (Q_slsH rfl rfl rfl rfl rfl (by first | omega | (dsimp only; omega) | (simp; omega) | (simp; done))) rfl rfl ?_
     first | refine oQ (Q_len rfl rfl rfl rfl) rfl rfl ?_ | refine oQ (Q_len0 rfl rfl rfl rfl) rfl rfl ?_
     refine oM rfl rfl ?_
     refine oN ?_
     refine CW_block ?_
     fail "loop 1 wants its states"
     · first | trivial | omega | (simp; done) | (simp; omega)
     · refine View.mk' [] rfl rfl rfl ?_ ?_
       repeat' first | exact vFn | refine vFc rfl ?_ | exact vHn | refine vHc rfl ?_ | refine vFc (congrArg (fun z => some (V.int z)) ?_) ?_ | refine vHc (congrArg (fun z => some (Blk.ints _ z)) ?_) ?_ | refine vFc (congrArg (fun z => some (V.bool z)) ?_) ?_ | refine vFs rfl rfl ?_ ?_
     intro i hi
     refine cR ?_
     refine oQ (Q_bin rfl rfl rfl) rfl rfl ?_
     refine oN ?_
     refine CW_seq ?_
     first | refine cT rfl ?_ | refine cF rfl ?_ | refine CW_cond rfl (fun hc => ?_) (fun hc => ?_)
     all_goals try simp only [s1, s2, s3, s4, s5, s6, s7, s8, s9, s10, s11, s12] at hc
     all_goals try (exfalso; first | omega | (simp at hc; done); done)
     all_goals first
       | (
        refine CW_skip ?_)
       | (
        refine CW_exit ?_)
     all_goals first
       | with_reducible refine tR ?_
       | with_reducible refine tE ?_
       | (
        with_reducible refine tN ?_
        refine CW_seq ?_
        refine CW_block ?_
        refine cR ?_
        first | refine oQ (Q_ixs0z 3 rfl rfl rfl rfl rfl rfl (by first | omega | (dsimp only; omega) | (simp; omega) | (simp; done))) rfl rfl ?_ | refine oQ (Q_ixsz 3 rfl rfl rfl rfl rfl rfl (by first | omega | (dsimp only; omega) | (simp; omega) | (simp; done))) rfl rfl ?_
        first | refine oQ (Lw rfl rfl rfl rfl) rfl rfl ?_ | refine oQ (La rfl rfl rfl rfl rfl) rfl rfl ?_
        refine oAlloc rfl rfl rfl rfl rfl rfl rfl ?_
        first | refine oSw rfl rfl rfl rfl ?_ | refine oSa rfl rfl rfl rfl ?_
        refine oN ?_
        refine CW_any (fun i => List.elem i [7]) 8 rfl lateOk (by decide +kernel) (fun hst => ?_)
        refine aQ 0 hst rfl rfl (by decide +kernel) (QX_of (Q_ldv rfl rfl rfl rfl rfl rfl) NE_load) rfl rfl ?_
        refine aQ 1 hst rfl rfl (by decide +kernel) (QX_of (Ld rfl rfl rfl rfl) NE_load) rfl rfl ?_
        first | refine aQ 2 hst rfl rfl (by decide +kernel) (QX_of (Lw rfl rfl rfl rfl) NE_load) rfl rfl ?_ | refine aQ 2 hst rfl rfl (by decide +kernel) (QX_of (La rfl rfl rfl rfl rfl) NE_load) rfl rfl ?_
        first | refine aQ 3 hst rfl rfl (by decide +kernel) (QX_of (Lw rfl rfl rfl rfl) NE_load) rfl rfl ?_ | refine aQ 3 hst rfl rfl (by decide +kernel) (QX_of (La rfl rfl rfl rfl rfl) NE_load) rfl rfl ?_
        fail "call of loop.example/g01310/impl.join at slot 30"
        refine AW_one (i := 5) (by decide +kernel) ?_
        refine gBsl rfl rfl rfl rfl rfl rfl (.inr ⟨rfl, rfl, by decide⟩) rfl rfl rfl rfl rfl rfl ?_
        fail "builtin append at slot 32"
        refine AW_last [7] rfl (by decide +kernel) rfl ?_
        refine oStv rfl rfl rfl rfl rfl rfl rfl (by first | omega | (dsimp only; omega) | (simp; omega) | (simp; done)) rfl rfl ?_
        refine OW_nil (npN ?_)
        all_goals first | with_reducible refine bN ?_ | with_reducible refine bE ?_ | with_reducible refine bR ?_ | refine bX rfl ?_
        all_goals with_reducible refine tN ?_
        all_goals (
         refine CW_region ?_
         first | refine oQ (Q_binu rfl rfl rfl (by omega)) rfl rfl ?_ | refine oQ (Q_bin rfl rfl rfl) rfl rfl ?_
         refine oM rfl rfl ?_
         refine OW_nil ?_))
     all_goals first
       | with_reducible refine tR ?_
       | with_reducible refine tE ?_
       | (
        with_reducible refine tN ?_
        fail "again 1")
     all_goals first | with_reducible refine bN ?_ | with_reducible refine bE ?_ | with_reducible refine bR ?_ | refine bX rfl ?_
     all_goals first | with_reducible refine bN ?_ | with_reducible refine bE ?_ | with_reducible refine bR ?_ | refine bX rfl ?_
     all_goals with_reducible refine tN ?_
     all_goals (
      refine CW_region ?_
      first | refine oQ (Q_binu rfl rfl rfl (by omega)) rfl rfl ?_ | refine oQ (Q_bin rfl rfl rfl) rfl rfl ?_
      refine oM rfl rfl ?_
      refine OW_nil ?_))
  all_goals first
    | with_reducible refine tR ?_
    | with_reducible refine tE ?_
    | (
     with_reducible refine tN ?_
     fail "again 0")
  all_goals first | with_reducible refine bN ?_ | with_reducible refine bE ?_ | with_reducible refine bR ?_ | refine bX rfl ?_
  all_goals with_reducible refine tN ?_
  all_goals (
   refine cR ?_
   refine oQ (Ld rfl rfl rfl rfl) rfl rfl ?_
   refine oQ (Q_makeFunc rfl rfl) rfl rfl ?_
   refine oCall (pointsThat_Fn 98 24 38 (([] : List (List Int))).length kk 2 [p] 55 ((([] : List (List Int))).flatten ++ ss) (frG p ([] : List (List Int)) (([] : List (List Int)))) p hp (fun m hm => free1_nil p hp [] ss kk (by simp) (by simp) (by simp) m hm)) [(1000, 1), (1001, 3), (1002, 0), (1004, 2)] 1 rfl rfl (Fits.mk' (vHc rfl (vHc rfl (vHc rfl (vHc rfl vHn)))) rfl rfl (by simp)) rfl rfl ?_
   rintro r H1 ⟨k9, sp9, hk9, hs9, rfl, rfl⟩
   rw [hfree] at hk9 hs9 ⊢
   refine ⟨.slice 4 0 (freeV p ([] : List (List Int))).length k9, [(1, .vals 24 [.nilsl]), (3, .vals 38 [.slice 2 0 (([] : List (List Int))).length kk]), (0, .ints 2 [p]), (2, .ints 55 ((([] : List (List Int))).flatten ++ ss)), (4, .ints 49 ((freeV p ([] : List (List Int))).flatten ++ sp9))], rfl, rfl, rfl, ?_⟩
   refine oA rfl rfl ?_
   refine oN ?_
   refine CW_ret ?_)
  all_goals (
   exact exitH (r0 := .slice 0 0 (freeV p ([] : List (List Int))).length k9) (H0 := [(0, .ints 49 ((freeV p ([] : List (List Int))).flatten ++ sp9))]) (.inr rfl) [(0, 4)] 1 (.cons (.tmp rfl rfl) .nil) rfl rfl rfl (vHc rfl vHn) rfl rfl ⟨k9, sp9, hk9, hs9, rfl, rfl⟩)
end Go.Proofs.Ytmcmbpoebhjecaa
