/- Thinned sets. Printed by gen_r5.py. -/
import Derived.Test.YtmcmbpoebhjecaaR1
import Derived.Test.YtmcmbpoebhjecaaQ2
namespace Go.Proofs.Ytmcmbpoebhjecaa
set_option maxRecDepth 10000
set_option linter.unusedSimpArgs false
set_option linter.unusedVariables false
/-! ### plain -/
theorem pair_grow : ∀ {L : List (List Int)}, (L.Pairwise fun a b => lexC a b < 0) → growL L = true
  | [], _ => rfl
  | [a], _ => rfl
  | a :: b :: r, h => by
    have h' := List.pairwise_cons.1 h
    rw [growL, Bool.and_eq_true, decide_eq_true_eq]
    exact ⟨h'.1 b (by simp), pair_grow h'.2⟩
theorem setC_sub {p : Int} {L K : List (List Int)} (h3 : ∀ x ∈ L, x.length = 3) (hs : K.Sublist L) (h : setC p L = 0) : setC p K = 0 ∧ ∀ x ∈ K, x.length = 3 := by
  obtain ⟨hp, hv, hg, hn⟩ := setC_zero h
  refine ⟨?_, fun x hx => h3 x (hs.subset hx)⟩
  have h1 : codeB p (K.all (pointB p)) = 0 := codeB_zero.2 ⟨hp, List.all_eq_true.2 fun x hx => hv x (hs.subset hx)⟩
  have h2 : growL K = true := pair_grow ((grow_pair h3 hg).sublist hs)
  have h4 := hs.length_le
  unfold setC
  rw [if_pos h1, h2, Bool.true_and, if_pos (decide_eq_true (by omega))]
def thK (p : Int) (L : List (List Int)) : Nat → List (List Int)
  | 0 => []
  | i + 1 => if blkB p (thK p L i ++ L.drop (i + 1)) = true then thK p L i else thK p L i ++ [L.getD i []]
def thO (p : Int) (L : List (List Int)) (i : Nat) : List (List Int) := thK p L i ++ L.drop i
def thR (p : Int) (L : List (List Int)) (i : Nat) : List (List Int) := thK p L i ++ L.drop (i + 1)
theorem drop_at {L : List (List Int)} {i : Nat} (hi : i < L.length) : L.drop i = L.getD i [] :: L.drop (i + 1) := by
  rw [getD_lt hi]; exact List.drop_eq_getElem_cons hi
theorem thK_sub (p : Int) (L : List (List Int)) : ∀ i, i ≤ L.length → (thK p L i).Sublist (L.take i)
  | 0, _ => by simp [thK]
  | i + 1, h => by
    have ih := thK_sub p L i (by omega)
    rw [thK, ← takeS (by omega)]
    split
    · exact ih.trans (List.sublist_append_left _ _)
    · exact List.Sublist.append ih (List.Sublist.refl _)
theorem thO_sub {p : Int} {L : List (List Int)} {i : Nat} (h : i ≤ L.length) : (thO p L i).Sublist L := by
  have := List.Sublist.append (thK_sub p L i h) (List.Sublist.refl (L.drop i))
  rwa [List.take_append_drop] at this
theorem thR_sub {p : Int} {L : List (List Int)} {i : Nat} (h : i < L.length) : (thR p L i).Sublist L := by
  have h1 : (thR p L i).Sublist (thO p L i) := by
    unfold thR thO
    rw [drop_at h]
    exact List.Sublist.append (List.Sublist.refl _) (List.sublist_cons_self _ _)
  exact h1.trans (thO_sub (by omega))
theorem filt_mid {A B : List (List Int)} {x : List Int} (h : (A ++ x :: B).Nodup) : ((A ++ x :: B).filter fun b => !decide (x = b)) = A ++ B := by
  rw [List.nodup_append] at h
  obtain ⟨_, h2, h3⟩ := h
  have h4 := (List.nodup_cons.1 h2).1
  rw [List.filter_append, List.filter_cons]
  have e1 : (A.filter fun b => !decide (x = b)) = A := by
    rw [List.filter_eq_self]
    intro a ha
    have := h3 a ha x (by simp)
    simp; exact fun e => this e.symm
  have e2 : (B.filter fun b => !decide (x = b)) = B := by
    rw [List.filter_eq_self]
    intro a ha
    simp; rintro rfl; exact h4 ha
  rw [e1, e2]
  simp
theorem thO_filt {p : Int} {L : List (List Int)} {i : Nat} (h3 : ∀ x ∈ L, x.length = 3) (hS : setC p L = 0) (h : i < L.length) : ((thO p L i).filter fun b => !decide (L.getD i [] = b)) = thR p L i := by
  have hn : (thO p L i).Nodup := (grow_nodup h3 (setC_zero hS).2.2.1).sublist (thO_sub (by omega))
  unfold thO at hn ⊢
  rw [drop_at h] at hn ⊢
  exact filt_mid hn
theorem thO_yes {p : Int} {L : List (List Int)} {i : Nat} (h : blkB p (thR p L i) = true) : thO p L (i + 1) = thR p L i := by
  have h' : blkB p (thK p L i ++ L.drop (i + 1)) = true := h
  unfold thO thR
  rw [thK, if_pos h']
theorem thO_no {p : Int} {L : List (List Int)} {i : Nat} (hi : i < L.length) (h : ¬ blkB p (thR p L i) = true) : thO p L (i + 1) = thO p L i := by
  have h' : ¬ blkB p (thK p L i ++ L.drop (i + 1)) = true := h
  unfold thO
  rw [thK, if_neg h', drop_at hi, List.append_assoc]
  rfl
theorem thO_zero (p : Int) (L : List (List Int)) : thO p L 0 = L := by simp [thO, thK]
theorem thO_end (p : Int) (L : List (List Int)) : thO p L L.length = thK p L L.length := by simp [thO]
/-- a set without one of its points -/
def wo (L : List (List Int)) (k : Nat) : List (List Int) := L.take k ++ L.drop (k + 1)
theorem wo_sub (L : List (List Int)) (k : Nat) : (wo L k).Sublist L := by
  have := List.Sublist.append (List.Sublist.refl (L.take k)) (List.drop_sublist_drop_left L (Nat.le_succ k))
  rwa [List.take_append_drop] at this
def leB (p : Int) (L : List (List Int)) : Bool := blkB p L && (List.range L.length).all fun k => !blkB p (wo L k)
theorem thK_len (p : Int) (L : List (List Int)) : ∀ i, i ≤ L.length → (thK p L i).length ≤ i ∧ ((thK p L i).length = i → thK p L i = L.take i ∧ ∀ j, j < i → blkB p (wo L j) = false)
  | 0, _ => by simp [thK]
  | i + 1, h => by
    obtain ⟨h1, h2⟩ := thK_len p L i (by omega)
    rw [thK]
    split
    · exact ⟨by omega, fun e => by omega⟩
    · rename_i hb
      rw [List.length_append, List.length_singleton]
      refine ⟨by omega, fun e => ?_⟩
      obtain ⟨h4, h5⟩ := h2 (by omega)
      rw [h4] at hb ⊢
      refine ⟨takeS (by omega), fun j hj => ?_⟩
      by_cases e : j = i
      · subst e; exact Bool.eq_false_iff.2 hb
      · exact h5 j (by omega)
theorem thK_all (p : Int) (L : List (List Int)) (h : ∀ j, j < L.length → blkB p (wo L j) = false) : ∀ i, i ≤ L.length → thK p L i = L.take i
  | 0, _ => by simp [thK]
  | i + 1, hi => by
    have ih := thK_all p L h i (by omega)
    have := h i (by omega)
    rw [thK, ih, if_neg (by unfold wo at this; rw [this]; exact Bool.false_ne_true)]
    exact takeS (by omega)
theorem least_eq {p : Int} {L : List (List Int)} (hb : blkB p L = true) : decide (((thO p L L.length).length : Int) = (L.length : Int)) = leB p L := by
  rw [thO_end, leB, hb, Bool.true_and, Bool.eq_iff_iff, decide_eq_true_eq, List.all_eq_true]
  constructor
  · intro h j hj
    rw [((thK_len p L L.length (Nat.le_refl _)).2 (by omega)).2 j (List.mem_range.1 hj)]
    rfl
  · intro h
    rw [thK_all p L (fun j hj => by have := h j (List.mem_range.2 hj); simpa using this) L.length (Nat.le_refl _), List.take_length]
theorem leB_no {p : Int} {L : List (List Int)} {k : Nat} (hk : k < L.length) (h : blkB p (wo L k) = true) : leB p L = false := by
  unfold leB
  rw [Bool.and_eq_false_iff]
  right
  rw [List.all_eq_false]
  exact ⟨k, List.mem_range.2 hk, by simp [h]⟩
def leV (p : Int) (L : List (List Int)) : Bool := if setC p L = 0 then leB p L else false
def leM (p : Int) (M : List Int) (n : Nat) : Bool := leV p (chunk M n)
theorem leM_zero (p : Int) (M : List Int) : leM p M 0 = leV p [] := rfl
theorem blkB_nil {p : Int} (hp : primeB p = true) : blkB p [] = false := by
  have hb := prime_bd hp
  have hal := allPts_len hp
  unfold blkB secV
  rw [secTo_get (by omega)]
  have : ((allPts p).filter fun l => cntOn p [] l == 0) = allPts p := by
    rw [List.filter_eq_self]; intro l _; rfl
  rw [this]
  exact decide_eq_false (by omega)
/-! ### walks -/
theorem run_eqSlNil {P : Program} {t e : TypeId} (hu : P.underlying t = some (.slice e)) (d : Nat) (a : Addr) (n k : Nat) (w : World) : (Op.equalIn (d + 1) t (.slice (some a) n k) (.slice none 0 0)).run P w = .ok false w := by
  simp [Op.equalIn, run_underlying hu]
theorem guard_sl {P : Program} (op : BinOp) (t : TypeId) (x y : Operand) (a b : Option Addr) (n k n' k' : Nat) (w : World) : (eqGuard op t x y (.slice a n k) (.slice b n' k')).run P w = .ok () w := by
  cases op <;> rfl
theorem Q_eqnil {c : Cx} {s : S} {dst : Option Tmp} {ty : TypeId} {pos : String} {af : Array Edge} {gd : Option (Nat × Bool)} {x y : Operand} {t t' e : TypeId} {b o n k : Nat} {i : TI} (ht : lkT c.T t = some i) (hd : i.d = .slice e) (hx : ev c s.F x = some (.slice b o n k)) (hy : ev c s.F y = some .nilsl) :
    QOp c ⟨dst, .binOp .eql t x y t', ty, pos, af, gd⟩ s (.bool false) := by
  intro ρ0 w0 hg ρ a hf hfix w hw
  refine quiet_val ?_
  have ex := ev_rv hg hfix hf hx (by simp)
  have ey := ev_rv hg hfix hf hy (by simp)
  have hu := (c.tok t i ht).1
  rw [hd] at hu
  simp only [execOp, ex, ey, rv, guard_sl, binOp, Op.equal, Op.maxDepth, Sem.run_bind, Sem.run_pure, Result.andThen_ok, run_eqSlNil hu 9999]
  try rfl
theorem isSl_flat {H : Hp} {b k : Nat} {t : TypeId} {L : List (List Int)} {sp : List Int} (hb : lkB H b = some (.ints t (L.flatten ++ sp))) (h3 : ∀ x ∈ L, x.length = 3) : IsSl H 3 (.slice b 0 L.length k) L.length L.flatten := by
  have hf := flat3 h3
  have := IsSl.mk (sz := 3) (o := 0) (n := L.length) (k := k) hb (by rw [List.length_append, hf]; omega)
  rwa [List.drop_zero, ← hf, List.take_left] at this
theorem isSl_sub {H : Hp} {b k i m : Nat} {t : TypeId} {L : List (List Int)} {sp : List Int} (hb : lkB H b = some (.ints t (L.flatten ++ sp))) (h3 : ∀ x ∈ L, x.length = 3) (h : i + m = L.length) : IsSl H 3 (.slice b (i * 3) m k) m (L.drop i).flatten := by
  have hf := flat3 h3
  have h1 : (L.take i).flatten.length = i * 3 := by rw [flat3 (fun x hx => h3 x (List.mem_of_mem_take hx)), List.length_take]; congr 1; omega
  have h2 : (L.drop i).flatten.length = m * 3 := by rw [flat3 (fun x hx => h3 x (List.mem_of_mem_drop hx)), List.length_drop]; congr 1; omega
  have e : L.flatten = (L.take i).flatten ++ (L.drop i).flatten := by rw [← List.flatten_append, List.take_append_drop]
  have := IsSl.mk (sz := 3) (o := i * 3) (n := m) (k := k) hb (by rw [List.length_append, hf]; omega)
  rwa [e, List.append_assoc, ← h1, List.drop_left, ← h2, List.take_left, h1] at this
theorem isSl_pre {H : Hp} {b k q : Nat} {t : TypeId} {L : List (List Int)} {sp : List Int} (hb : lkB H b = some (.ints t (L.flatten ++ sp))) (h3 : ∀ x ∈ L, x.length = 3) (h : q ≤ L.length) : IsSl H 3 (.slice b 0 q k) q (L.take q).flatten := by
  have hf := flat3 h3
  have h1 : (L.take q).flatten.length = q * 3 := by rw [flat3 (fun x hx => h3 x (List.mem_of_mem_take hx)), List.length_take]; congr 1; omega
  have e : L.flatten = (L.take q).flatten ++ (L.drop q).flatten := by rw [← List.flatten_append, List.take_append_drop]
  have := IsSl.mk (sz := 3) (o := 0) (n := q) (k := k) hb (by rw [List.length_append, hf]; omega)
  rwa [List.drop_zero, e, List.append_assoc, ← h1, List.take_left] at this
attribute [local irreducible] CW OW QW QOp Con thenP inBlockP

theorem clone_con (L : List (List Int)) (sp : List Int) (k : Nat) (h3 : ∀ x ∈ L, x.length = 3) (hn9 : L.length ≤ 1000000000) : Con Try.prog [] 86 [.slice 0 0 L.length k] [(0, .ints 49 (L.flatten ++ sp))] (ownR 3 49 [(0, .ints 49 (L.flatten ++ sp))] 1 L) := by
  have hf3 := flat3 h3
  refine conW tab_ok [(0, .slice 0 0 L.length k)] 1 [0] [0] Try.func86 rfl rfl rfl rfl rfl rfl rfl rfl rfl ?_
  refine cR ?_
  refine oA rfl rfl ?_
  refine oN ?_
  refine CW_seq ?_
  refine cR ?_
  refine oM rfl rfl ?_
  refine oQ (Q_eqnil rfl rfl rfl rfl) rfl rfl ?_
  refine oN ?_
  first | refine cT rfl ?_ | refine cF rfl ?_ | refine CW_cond rfl (fun hc => ?_) (fun hc => ?_)
  all_goals try simp only [s1, s2, s3, s4, s5, s6, s7, s8, s9, s10, s11, s12] at hc
  all_goals first
    | (
     refine CW_skip ?_)
    | (
     refine cR ?_
     refine oA rfl rfl ?_
     refine oN ?_
     refine CW_ret ?_)
  all_goals first
    | with_reducible refine tR ?_
    | with_reducible refine tE ?_
    | (
     with_reducible refine tN ?_
     refine cR ?_
     refine oBsl rfl rfl rfl rfl (.inr ⟨rfl, rfl, by decide⟩) rfl rfl rfl rfl rfl rfl ?_
     refine oM rfl rfl ?_
     refine oAppOwn (sz := 3) (by_ := 24) (l := []) (m := 0) (k := 0) rfl rfl rfl rfl rfl rfl ⟨by decide, rfl, .inr rfl⟩ rfl rfl rfl rfl rfl (isSl_flat rfl h3) (by simp) (by omega) (by omega) (by omega) rfl rfl (fun k2 sp2 h1 h2 => ?_)
     (rw [Nat.zero_add] at h1 h2 ⊢)
     refine oA rfl rfl ?_
     refine oN ?_
     refine CW_ret ?_)
  all_goals (
   exact exitH (r0 := .slice 1 0 L.length k2) (H0 := [(0, .ints 49 (L.flatten ++ sp)), (1, .ints 49 (L.flatten ++ sp2))]) (.inr rfl) [(1, 2)] 2 (.cons (.tmp rfl rfl) .nil) rfl rfl rfl (vHc rfl (vHc rfl vHn)) rfl rfl ⟨k2, sp2, h1, h2, rfl, rfl⟩)
theorem idxPoint1 (f : Nat) (t0 : TypeId) (L0 : List Int) (g : List Int → Bool) (tM : TypeId) (L : List (List Int)) (sp : List Int) (k ck : Nat) (hk : k = L.length) (h3 : ∀ x ∈ L, x.length = 3) (hk9 : L.length ≤ 1000000000) (hf : ∀ m, m ∈ L → ConQ Try.prog [] f [.arr m, .ptr 1000 0] [(1000, .ints t0 L0)] (.bool (g m))) : ConQ Try.prog [] 114 [.slice 0 0 k ck, .func f [] [.ptr 1000 0]] [(0, .ints tM (L.flatten ++ sp)), (1000, .ints t0 L0)] (.int (idxL g L)) := by
  have hfl := flat3 h3
  refine conW tab_ok [(0, .slice 0 0 k ck), (1, .func f [] [.ptr 1000 0])] 1 [0, 1000] [0, 1000] Try.func114 rfl rfl rfl rfl rfl rfl rfl rfl rfl ?_
  refine cR ?_
  refine oA rfl rfl ?_
  refine oN ?_
  refine CW_seq ?_
  refine cR ?_
  refine oM rfl rfl ?_
  first | refine oQ (Q_len rfl rfl rfl rfl) rfl rfl ?_ | refine oQ (Q_len0 rfl rfl rfl rfl) rfl rfl ?_
  refine oM rfl rfl ?_
  refine oN ?_
  refine CW_block ?_
  refine CW_loop (ι := Nat) (fun i => i ≤ L.length ∧ ∀ j, j < i → g (L.getD j []) = false) (fun i => ⟨[(0, .slice 0 0 k ck), (1, .func f [] [.ptr 1000 0]), (7, .int k), (8, .int i)], [(0, .ints tM (L.flatten ++ sp)), (1000, .ints t0 L0)], 1⟩) (fun i => L.length - i) 0 ?_ ?_ ?_
  · exact ⟨Nat.zero_le _, fun j h => absurd h (Nat.not_lt_zero _)⟩
  · refine View.mk' [] rfl rfl rfl ?_ ?_
    repeat' first | exact vFn | refine vFc rfl ?_ | exact vHn | refine vHc rfl ?_ | refine vFc (congrArg (fun z => some (V.int z)) ?_) ?_ | refine vHc (congrArg (fun z => some (Blk.ints _ z)) ?_) ?_ | refine vFc (congrArg (fun z => some (V.bool z)) ?_) ?_ | refine vFs rfl rfl ?_ ?_
  rintro i ⟨hi, hi2⟩
  refine cR ?_
  refine oQ (Q_bin rfl rfl rfl) rfl rfl ?_
  refine oN ?_
  refine CW_seq ?_
  first | refine cT rfl ?_ | refine cF rfl ?_ | refine CW_cond rfl (fun hc => ?_) (fun hc => ?_)
  all_goals try simp only [s1, s2, s3, s4, s5, s6, s7, s8, s9, s10, s11, s12] at hc
  all_goals first
    | (
     refine CW_skip ?_)
    | (
     refine CW_exit ?_)
  all_goals first
    | with_reducible refine tR ?_
    | with_reducible refine tE ?_
    | (
     with_reducible refine tN ?_
     refine CW_seq ?_
     refine CW_block ?_
     refine cR ?_
     refine oM rfl rfl ?_
     refine oA rfl rfl ?_
     refine oN ?_
     refine cR ?_
     iterate 3 refine oM rfl rfl ?_
     first | refine oQ (Q_ixs0z 3 rfl rfl rfl rfl rfl rfl (by first | omega | (dsimp only; omega) | (simp; omega) | (simp; done))) rfl rfl ?_ | refine oQ (Q_ixsz 3 rfl rfl rfl rfl rfl rfl (by first | omega | (dsimp only; omega) | (simp; omega) | (simp; done))) rfl rfl ?_
     refine oQ (Q_lda (n := 3) rfl rfl rfl rfl rfl (by rw [List.length_append, hfl]; omega)) rfl rfl ?_; rw [flat_get h3 (show i < L.length by omega)]
     refine oQ (Q_callf (hf _ (getD_mem (by omega))) [] rfl rfl rfl (Fits.mk' (vHc rfl vHn) rfl rfl (by simp)) rfl rfl) rfl rfl ?_
     refine oN ?_
     first | refine cT rfl ?_ | refine cF rfl ?_ | refine CW_cond rfl (fun hc => ?_) (fun hc => ?_)
     all_goals try simp only [s1, s2, s3, s4, s5, s6, s7, s8, s9, s10, s11, s12] at hc
     all_goals first
       | (
        refine CW_skip ?_)
       | (
        refine cR ?_
        refine oM rfl rfl ?_
        refine oA rfl rfl ?_
        refine oN ?_
        refine CW_ret ?_)
     all_goals first | with_reducible refine bN ?_ | with_reducible refine bE ?_ | with_reducible refine bR ?_ | refine bX rfl ?_
     all_goals first
       | with_reducible refine tR ?_
       | with_reducible refine tE ?_
       | (
        with_reducible refine tN ?_
        refine CW_region ?_
        first | refine oQ (Q_binu rfl rfl rfl (by omega)) rfl rfl ?_ | refine oQ (Q_bin rfl rfl rfl) rfl rfl ?_
        refine oM rfl rfl ?_
        refine OW_nil ?_))
  all_goals first
    | with_reducible refine tR ?_
    | with_reducible refine tE ?_
    | (
     with_reducible refine tN ?_
     refine ⟨i + 1, ?_, ?_, View.mk' [] rfl rfl rfl ?_ ?_⟩
     · refine ⟨by omega, fun j hj => ?_⟩
       by_cases e : j = i
       · subst e; exact hc
       · exact hi2 j (by omega)
     · omega
     all_goals (repeat' first | exact vFn | refine vFc rfl ?_ | exact vHn | refine vHc rfl ?_ | refine vFc (congrArg (fun z => some (V.int z)) ?_) ?_ | refine vHc (congrArg (fun z => some (Blk.ints _ z)) ?_) ?_ | refine vFc (congrArg (fun z => some (V.bool z)) ?_) ?_ | refine vFs rfl rfl ?_ ?_))
  all_goals first | with_reducible refine bN ?_ | with_reducible refine bE ?_ | with_reducible refine bR ?_ | refine bX rfl ?_
  all_goals first
    | with_reducible refine tR ?_
    | with_reducible refine tE ?_
    | (
     with_reducible refine tN ?_
     refine cR ?_
     refine oA rfl rfl ?_
     refine oN ?_
     refine CW_ret ?_)
  all_goals (
   refine exitQ (.inr rfl) 1 (.cons (.tmp rfl rfl) .nil) ?_ rfl (vHc rfl (vHc rfl vHn)) rfl rfl
   first
     | exact congrArg V.int (idxL_found (by omega) hi2 hc).symm
     | exact congrArg V.int (idxL_none (fun j hj => hi2 j (by omega))).symm)
theorem delPoint1 (f : Nat) (t0 : TypeId) (L0 : List Int) (g : List Int → Bool) (tM : TypeId) (L : List (List Int)) (sp : List Int) (ck : Nat) (h3 : ∀ x ∈ L, x.length = 3) (hk9 : L.length ≤ 1000000000) (hck : L.length ≤ ck) (hf : ∀ m, m ∈ L → ConQ Try.prog [] f [.arr m, .ptr 1000 0] [(1000, .ints t0 L0)] (.bool (g m))) : Con Try.prog [] 94 [.slice 0 0 L.length ck, .func f [] [.ptr 1000 0]] [(0, .ints tM (L.flatten ++ sp)), (1000, .ints t0 L0)] (fun r H' => ∃ z, z.length = (L.length - (L.filter fun x => !g x).length) * 3 ∧ r = .slice 0 0 (L.filter fun x => !g x).length ck ∧ H' = [(0, .ints tM ((L.filter fun x => !g x).flatten ++ (z ++ sp))), (1000, .ints t0 L0)]) := by
  have hfl := flat3 h3
  rcases idxL_cases g L with ⟨hix, hix1⟩ | ⟨a, hix, ha, ha1, ha2⟩
  · have hall : (L.filter fun x => !g x) = L := by rw [List.filter_eq_self]; intro x hx; simp [hix1 x hx]
    rw [hall]
    refine conW tab_ok [(0, .slice 0 0 L.length ck), (1, .func f [] [.ptr 1000 0])] 1 [0, 1000] [0, 1000] Try.func94 rfl rfl rfl rfl rfl rfl rfl rfl rfl ?_
    refine cR ?_
    refine oA rfl rfl ?_
    refine oN ?_
    refine cR ?_
    iterate 2 refine oM rfl rfl ?_
    refine oQ (Q_call (idxPoint1 f t0 L0 g tM L sp L.length ck rfl h3 hk9 hf) [] rfl rfl (Fits.mk' (vHc rfl (vHc rfl vHn)) rfl rfl (by simp)) rfl rfl) rfl rfl ?_
    refine oA rfl rfl ?_
    refine oN ?_
    refine CW_seq ?_
    refine cR ?_
    refine oM rfl rfl ?_
    refine oQ (Q_bin rfl rfl rfl) rfl rfl ?_; rw [hix]
    refine oN ?_
    first | refine cT rfl ?_ | refine cF rfl ?_ | refine CW_cond rfl (fun hc => ?_) (fun hc => ?_)
    all_goals try simp only [s1, s2, s3, s4, s5, s6, s7, s8, s9, s10, s11, s12] at hc
    all_goals try (exfalso; first | omega | (simp at hc); done)
    all_goals first
      | (
       refine CW_skip ?_)
      | (
       refine cR ?_
       refine oM rfl rfl ?_
       refine oA rfl rfl ?_
       refine oN ?_
       refine CW_ret ?_)
    all_goals first
      | with_reducible refine tR ?_
      | with_reducible refine tE ?_
      | (
       with_reducible refine tN ?_
       refine CW_seq ?_
       refine cR ?_
       refine oM rfl rfl ?_
       first | refine oQ (Q_binu rfl rfl rfl (by omega)) rfl rfl ?_ | refine oQ (Q_bin rfl rfl rfl) rfl rfl ?_
       refine oA rfl rfl ?_
       refine oN ?_
       refine CW_block ?_
       exfalso; simp at hc
       · first | trivial | omega | (simp; done) | (simp; omega)
       · refine View.mk' [] rfl rfl rfl ?_ ?_
         repeat' first | exact vFn | refine vFc rfl ?_ | exact vHn | refine vHc rfl ?_ | refine vFc (congrArg (fun z => some (V.int z)) ?_) ?_ | refine vHc (congrArg (fun z => some (Blk.ints _ z)) ?_) ?_ | refine vFc (congrArg (fun z => some (V.bool z)) ?_) ?_ | refine vFs rfl rfl ?_ ?_
       intro i hi
       refine CW_seq ?_
       refine cR ?_
       iterate 2 refine oM rfl rfl ?_
       first | refine oQ (Q_len rfl rfl rfl rfl) rfl rfl ?_ | refine oQ (Q_len0 rfl rfl rfl rfl) rfl rfl ?_
       refine oQ (Q_bin rfl rfl rfl) rfl rfl ?_
       refine oN ?_
       first | refine cT rfl ?_ | refine cF rfl ?_ | refine CW_cond rfl (fun hc => ?_) (fun hc => ?_)
       all_goals try simp only [s1, s2, s3, s4, s5, s6, s7, s8, s9, s10, s11, s12] at hc
       all_goals try (exfalso; first | omega | (simp at hc); done)
       all_goals first
         | (
          refine CW_skip ?_)
         | (
          refine CW_exit ?_)
       all_goals first
         | with_reducible refine tR ?_
         | with_reducible refine tE ?_
         | (
          with_reducible refine tN ?_
          refine CW_seq ?_
          refine CW_block ?_
          refine cR ?_
          iterate 2 refine oM rfl rfl ?_
          first | refine oQ (Q_ixs0z 3 rfl rfl rfl rfl rfl rfl (by first | omega | (dsimp only; omega) | (simp; omega) | (simp; done))) rfl rfl ?_ | refine oQ (Q_ixsz 3 rfl rfl rfl rfl rfl rfl (by first | omega | (dsimp only; omega) | (simp; omega) | (simp; done))) rfl rfl ?_
          first | refine oQ (Lw rfl rfl rfl rfl) rfl rfl ?_ | refine oQ (La rfl rfl rfl rfl rfl) rfl rfl ?_
          refine oAlloc rfl rfl rfl rfl rfl rfl rfl ?_
          first | refine oSw rfl rfl rfl rfl ?_ | refine oSa rfl rfl rfl rfl ?_
          refine oN ?_
          refine cR ?_
          refine oM rfl rfl ?_
          first | refine oQ (Lw rfl rfl rfl rfl) rfl rfl ?_ | refine oQ (La rfl rfl rfl rfl rfl) rfl rfl ?_
          fail "call of a value at slot 28"
          refine oQ (Q_not rfl) rfl rfl ?_
          refine oN ?_
          first | refine cT rfl ?_ | refine cF rfl ?_ | refine CW_cond rfl (fun hc => ?_) (fun hc => ?_)
          all_goals try simp only [s1, s2, s3, s4, s5, s6, s7, s8, s9, s10, s11, s12] at hc
          all_goals try (exfalso; first | omega | (simp at hc); done)
          all_goals first
            | (
             refine CW_skip ?_)
            | (
             refine cR ?_
             iterate 2 refine oM rfl rfl ?_
             first | refine oQ (Lw rfl rfl rfl rfl) rfl rfl ?_ | refine oQ (La rfl rfl rfl rfl rfl) rfl rfl ?_
             first | refine oQ (Q_ixs0z 3 rfl rfl rfl rfl rfl rfl (by first | omega | (dsimp only; omega) | (simp; omega) | (simp; done))) rfl rfl ?_ | refine oQ (Q_ixsz 3 rfl rfl rfl rfl rfl rfl (by first | omega | (dsimp only; omega) | (simp; omega) | (simp; done))) rfl rfl ?_
             first | refine oSw rfl rfl rfl rfl ?_ | refine oSa rfl rfl rfl rfl ?_
             refine oN ?_
             refine CW_region ?_
             refine oM rfl rfl ?_
             first | refine oQ (Q_binu rfl rfl rfl (by omega)) rfl rfl ?_ | refine oQ (Q_bin rfl rfl rfl) rfl rfl ?_
             refine oA rfl rfl ?_
             refine OW_nil ?_)
          all_goals first | with_reducible refine bN ?_ | with_reducible refine bE ?_ | with_reducible refine bR ?_ | refine bX rfl ?_
          all_goals with_reducible refine tN ?_
          all_goals (
           refine CW_region ?_
           refine oM rfl rfl ?_
           first | refine oQ (Q_binu rfl rfl rfl (by omega)) rfl rfl ?_ | refine oQ (Q_bin rfl rfl rfl) rfl rfl ?_
           refine oA rfl rfl ?_
           refine OW_nil ?_))
       all_goals first
         | with_reducible refine tR ?_
         | with_reducible refine tE ?_
         | (
          with_reducible refine tN ?_
          fail "again 0")
       all_goals first | with_reducible refine bN ?_ | with_reducible refine bE ?_ | with_reducible refine bR ?_ | refine bX rfl ?_
       all_goals with_reducible refine tN ?_
       all_goals (
        refine cR ?_
        iterate 2 refine oM rfl rfl ?_
        refine oQ (Q_slsL 3 rfl rfl rfl rfl rfl rfl (by first | omega | (dsimp only; omega) | (simp; omega) | (simp; done)) (by first | omega | (dsimp only; omega) | (simp; omega) | (simp; done))) rfl rfl ?_
        fail "builtin clear at slot None"
        refine oN ?_
        refine cR ?_
        iterate 2 refine oM rfl rfl ?_
        refine oQ (Q_slsH rfl rfl rfl rfl rfl (by first | omega | (dsimp only; omega) | (simp; omega) | (simp; done))) rfl rfl ?_
        refine oA rfl rfl ?_
        refine oN ?_
        refine CW_ret ?_))
    all_goals (
     exact exitH (r0 := .slice 0 0 L.length ck) (.inr rfl) [] 1 (.cons (.tmp rfl rfl) .nil) rfl rfl rfl (vHc rfl (vHc rfl vHn)) rfl rfl ⟨[], by simp, rfl, rfl⟩)
  · have hall : ((L.take a).filter fun x => !g x) = L.take a := by rw [List.filter_eq_self]; intro x hx; simp [ha2 x hx]
    refine conW tab_ok [(0, .slice 0 0 L.length ck), (1, .func f [] [.ptr 1000 0])] 1 [0, 1000] [0, 1000] Try.func94 rfl rfl rfl rfl rfl rfl rfl rfl rfl ?_
    refine cR ?_
    refine oA rfl rfl ?_
    refine oN ?_
    refine cR ?_
    iterate 2 refine oM rfl rfl ?_
    refine oQ (Q_call (idxPoint1 f t0 L0 g tM L sp L.length ck rfl h3 hk9 hf) [] rfl rfl (Fits.mk' (vHc rfl (vHc rfl vHn)) rfl rfl (by simp)) rfl rfl) rfl rfl ?_
    refine oA rfl rfl ?_
    refine oN ?_
    refine CW_seq ?_
    refine cR ?_
    refine oM rfl rfl ?_
    refine oQ (Q_bin rfl rfl rfl) rfl rfl ?_
    refine oN ?_
    first | refine cT rfl ?_ | refine cF rfl ?_ | refine CW_cond rfl (fun hc => ?_) (fun hc => ?_)
    all_goals try simp only [s1, s2, s3, s4, s5, s6, s7, s8, s9, s10, s11, s12] at hc
    all_goals try (exfalso; first | omega | (simp at hc); done)
    all_goals first
      | (
       refine CW_skip ?_)
      | (
       refine cR ?_
       refine oM rfl rfl ?_
       refine oA rfl rfl ?_
       refine oN ?_
       refine CW_ret ?_)
    all_goals first
      | with_reducible refine tR ?_
      | with_reducible refine tE ?_
      | (
       with_reducible refine tN ?_
       refine CW_seq ?_
       refine cR ?_
       refine oM rfl rfl ?_
       first | refine oQ (Q_binu rfl rfl rfl (by omega)) rfl rfl ?_ | refine oQ (Q_bin rfl rfl rfl) rfl rfl ?_
       refine oA rfl rfl ?_
       refine oN ?_
       refine CW_block ?_
       refine CW_loop (ι := Nat × List Int) (fun x => x.1 ≤ L.length ∧ x.2.length + ((L.take x.1).filter fun x => !g x).length * 3 = x.1 * 3 ∧ ((L.take x.1).filter fun x => !g x).length < x.1) (fun x => ⟨[(0, .slice 0 0 L.length ck), (1, .func f [] [.ptr 1000 0]), (5, .int (((L.take x.1).filter fun x => !g x).length : Nat)), (6, .int (x.1 : Int))], [(0, .ints tM (delM 3 g L x.1 x.2 sp)), (1000, .ints t0 L0)], 1⟩) (fun x => L.length - x.1) (a + 1, L.getD a []) ?_ ?_ ?_
       · refine ⟨ha, ?_⟩; rw [filter_skip ha (by rw [ha1]; rfl), hall, List.length_take, h3 _ (getD_mem ha)]; exact ⟨by omega, by dsimp only; omega⟩
       · refine View.mk' [] rfl rfl rfl ?_ ?_
         repeat' first | exact vFn | refine vFc rfl ?_ | exact vHn | refine vHc rfl ?_ | refine vFc (congrArg (fun z => some (V.int z)) ?_) ?_ | refine vHc (congrArg (fun z => some (Blk.ints _ z)) ?_) ?_ | refine vFc (congrArg (fun z => some (V.bool z)) ?_) ?_ | refine vFs rfl rfl ?_ ?_
         · rw [hix, filter_skip ha (by rw [ha1]; rfl), hall, List.length_take, Nat.min_eq_left (by omega)]
         · rw [hix]; rfl
         · have hd := delM_skip (sz := 3) (junk := []) (sp := sp) ha ha1; rw [List.nil_append] at hd; dsimp only; rw [← hd]; unfold delM; rw [hall, List.nil_append, ← List.append_assoc, ← List.flatten_append, List.take_append_drop]
       rintro ⟨j, junk⟩ ⟨hj, hju, hlt⟩
       dsimp only at hj hju hlt ⊢
       have hfn := filter_len (g := fun x => !g x) j hj
       have hdl := delM_len (sp := sp) h3 hj hju
       have hdl2 := fun h : j < L.length => h3 _ (getD_mem h)
       refine CW_seq ?_
       refine cR ?_
       iterate 2 refine oM rfl rfl ?_
       first | refine oQ (Q_len rfl rfl rfl rfl) rfl rfl ?_ | refine oQ (Q_len0 rfl rfl rfl rfl) rfl rfl ?_
       refine oQ (Q_bin rfl rfl rfl) rfl rfl ?_
       refine oN ?_
       first | refine cT rfl ?_ | refine cF rfl ?_ | refine CW_cond rfl (fun hc => ?_) (fun hc => ?_)
       all_goals try simp only [s1, s2, s3, s4, s5, s6, s7, s8, s9, s10, s11, s12] at hc
       all_goals try (exfalso; first | omega | (simp at hc); done)
       all_goals first
         | (
          refine CW_skip ?_)
         | (
          refine CW_exit ?_)
       all_goals first
         | with_reducible refine tR ?_
         | with_reducible refine tE ?_
         | (
          with_reducible refine tN ?_
          refine CW_seq ?_
          refine CW_block ?_
          refine cR ?_
          iterate 2 refine oM rfl rfl ?_
          first | refine oQ (Q_ixs0z 3 rfl rfl rfl rfl rfl rfl (by first | omega | (dsimp only; omega) | (simp; omega) | (simp; done))) rfl rfl ?_ | refine oQ (Q_ixsz 3 rfl rfl rfl rfl rfl rfl (by first | omega | (dsimp only; omega) | (simp; omega) | (simp; done))) rfl rfl ?_
          refine oQ (Q_lda (n := 3) rfl rfl rfl rfl rfl (by rw [hdl]; omega)) rfl rfl ?_; rw [delM_get h3 (show j < L.length by omega) hju]
          refine oAlloc rfl rfl rfl rfl rfl rfl rfl ?_
          first | refine oSw rfl rfl rfl rfl ?_ | refine oSa rfl rfl rfl rfl ?_
          refine oN ?_
          refine cR ?_
          refine oM rfl rfl ?_
          first | refine oQ (Lw rfl rfl rfl rfl) rfl rfl ?_ | refine oQ (La rfl rfl rfl rfl rfl) rfl rfl ?_
          refine oQ (Q_callf (hf _ (getD_mem (by omega))) [] rfl rfl rfl (Fits.mk' (vHc rfl vHn) rfl rfl (by simp)) rfl rfl) rfl rfl ?_
          refine oQ (Q_not rfl) rfl rfl ?_
          refine oN ?_
          first | refine cT rfl ?_ | refine cF rfl ?_ | refine CW_cond rfl (fun hc => ?_) (fun hc => ?_)
          all_goals try simp only [s1, s2, s3, s4, s5, s6, s7, s8, s9, s10, s11, s12] at hc
          all_goals try (exfalso; first | omega | (simp at hc); done)
          all_goals first
            | (
             refine CW_skip ?_)
            | (
             refine cR ?_
             iterate 2 refine oM rfl rfl ?_
             first | refine oQ (Lw rfl rfl rfl rfl) rfl rfl ?_ | refine oQ (La rfl rfl rfl rfl rfl) rfl rfl ?_
             refine oQ (Q_ixs0z 3 rfl rfl rfl rfl rfl rfl (by omega)) rfl rfl ?_
             first | refine oSw rfl rfl rfl rfl ?_ | refine oSa rfl rfl rfl rfl ?_
             refine oN ?_
             refine CW_region ?_
             refine oM rfl rfl ?_
             first | refine oQ (Q_binu rfl rfl rfl (by omega)) rfl rfl ?_ | refine oQ (Q_bin rfl rfl rfl) rfl rfl ?_
             refine oA rfl rfl ?_
             refine OW_nil ?_)
          all_goals first | with_reducible refine bN ?_ | with_reducible refine bE ?_ | with_reducible refine bR ?_ | refine bX rfl ?_
          all_goals with_reducible refine tN ?_
          all_goals (
           refine CW_region ?_
           refine oM rfl rfl ?_
           first | refine oQ (Q_binu rfl rfl rfl (by omega)) rfl rfl ?_ | refine oQ (Q_bin rfl rfl rfl) rfl rfl ?_
           refine oA rfl rfl ?_
           refine OW_nil ?_))
       all_goals first
         | with_reducible refine tR ?_
         | with_reducible refine tE ?_
         | (
          with_reducible refine tN ?_
          refine ⟨(j + 1, if g (L.getD j []) = true then junk ++ L.getD j [] else (junk ++ L.getD j []).drop 3), ?_, ?_, View.mk' [] rfl rfl rfl ?_ ?_⟩
          · have e3 := h3 _ (getD_mem (show j < L.length by omega))
            refine ⟨by dsimp only; omega, ?_⟩
            dsimp only
            cases hg : g (L.getD j [])
            · rw [filter_snoc (by omega) (by rw [hg]; rfl)]; simp only [Bool.false_eq_true, if_false, List.length_drop, List.length_append, List.length_cons, List.length_nil, e3]; exact ⟨by omega, by omega⟩
            · rw [filter_skip (by omega) (by rw [hg]; rfl)]; simp only [if_true, List.length_append, e3]; exact ⟨by omega, by omega⟩
          · omega
          all_goals (repeat' first | exact vFn | refine vFc rfl ?_ | exact vHn | refine vHc rfl ?_ | refine vFc (congrArg (fun z => some (V.int z)) ?_) ?_ | refine vHc (congrArg (fun z => some (Blk.ints _ z)) ?_) ?_ | refine vFc (congrArg (fun z => some (V.bool z)) ?_) ?_ | refine vFs rfl rfl ?_ ?_)
          all_goals dsimp only
          all_goals first
            | (rw [filter_snoc (by omega) (by rw [hc]; rfl)]; simp; done)
            | (rw [filter_skip (by omega) (by rw [hc]; rfl)]; done)
            | (rw [if_pos hc]; exact delM_skip (by omega) hc)
            | (rw [if_neg (by rw [hc]; exact Bool.false_ne_true)]; exact delM_keep h3 (by omega) hc hju))
       all_goals first | with_reducible refine bN ?_ | with_reducible refine bE ?_ | with_reducible refine bR ?_ | refine bX rfl ?_
       all_goals with_reducible refine tN ?_
       all_goals (
        refine cR ?_
        iterate 2 refine oM rfl rfl ?_
        refine oQ (Q_slsL 3 rfl rfl rfl rfl rfl rfl (by omega) (by omega)) rfl rfl ?_; rw [if_neg (show ¬ ck = ((L.take j).filter fun x => !g x).length by omega), Nat.zero_add]
        refine oClear (sz := 3) rfl rfl rfl rfl ⟨by decide, rfl, .inr rfl⟩ rfl rfl (by rw [hdl]; omega) ?_
        refine oN ?_
        refine cR ?_
        iterate 2 refine oM rfl rfl ?_
        refine oQ (Q_slsH rfl rfl rfl rfl rfl (by first | omega | (dsimp only; omega) | (simp; omega) | (simp; done))) rfl rfl ?_
        refine oA rfl rfl ?_
        refine oN ?_
        refine CW_ret ?_))
    all_goals (
     have e : j = L.length := by omega
     subst e
     refine exitH (r0 := .slice 0 0 (L.filter fun x => !g x).length ck) (H0 := [(0, .ints tM ((L.filter fun x => !g x).flatten ++ (List.replicate ((L.length - (L.filter fun x => !g x).length) * 3) 0 ++ sp))), (1000, .ints t0 L0)]) (.inr rfl) [] 1 (.cons (.tmp rfl rfl) .nil) ?_ rfl rfl ?_ rfl rfl ⟨_, by simp, rfl, rfl⟩
     · simp [resV, ren, ap]
     · refine vHc (congrArg (fun z => some (Blk.ints _ z)) ?_) (vHc rfl vHn)
       exact delM_end h3 hju)
theorem thinned1_con (t0 : TypeId) (a m : List Int) (ha : a.length = 3) (hm : m.length = 3) : ConQ Try.prog [] 95 [.arr m, .ptr 1000 0] [(1000, .ints t0 a)] (.bool (decide (a = m))) := by
  refine conW tab_ok [(0, .arr m), (1, .ptr 1000 0)] 0 [1000] [1000] Try.func95 rfl rfl rfl rfl rfl rfl rfl rfl rfl ?_
  refine cR ?_
  refine oBox rfl rfl rfl rfl rfl rfl ?_
  refine oA rfl rfl ?_
  refine oN ?_
  refine cR ?_
  refine oQ (Q_ldw rfl rfl rfl rfl ha) rfl rfl ?_
  refine oQ (Q_ldw rfl rfl rfl rfl hm) rfl rfl ?_
  refine oQ (Q_arrb rfl rfl rfl rfl rfl rfl rfl rfl rfl ha hm) rfl rfl ?_
  refine oA rfl rfl ?_
  refine oN ?_
  refine CW_ret ?_
  all_goals (
   ((refine exitQ (.inr rfl) 0 (.cons (.tmp rfl rfl) .nil) ?_ rfl (vHc rfl vHn) rfl rfl); simp [resV]))
theorem thinned_con (p : Int) (L : List (List Int)) (sp : List Int) (k : Nat) (h3 : ∀ x ∈ L, x.length = 3) (hS : setC p L = 0) : Con Try.prog [] 73 [.int p, .slice 0 0 L.length k] [(0, .ints 49 (L.flatten ++ sp))] (ownR 3 49 [(0, .ints 49 (L.flatten ++ sp))] 1 (thO p L L.length)) := by
  obtain ⟨hp, hv, _, hn60⟩ := setC_zero hS
  have hf3 := flat3 h3
  refine conW tab_ok [(0, .int p), (1, .slice 0 0 L.length k)] 1 [0] [0] Try.func73 rfl rfl rfl rfl rfl rfl rfl rfl rfl ?_
  refine cR ?_
  refine oA rfl rfl ?_
  refine oN ?_
  refine cR ?_
  refine oM rfl rfl ?_
  refine oCall (clone_con L sp k h3 (by omega)) [] 2 rfl rfl (Fits.mk' (vHc rfl vHn) rfl rfl (by simp)) rfl rfl ?_
  rintro r H1 ⟨k0, sp0, hk0, hsp0, rfl, rfl⟩
  refine ⟨.slice 2 0 L.length k0, [(0, .ints 49 (L.flatten ++ sp)), (2, .ints 49 (L.flatten ++ sp0))], rfl, rfl, rfl, ?_⟩
  refine oA rfl rfl ?_
  refine oN ?_
  refine CW_seq ?_
  refine cR ?_
  refine oM rfl rfl ?_
  first | refine oQ (Q_len rfl rfl rfl rfl) rfl rfl ?_ | refine oQ (Q_len0 rfl rfl rfl rfl) rfl rfl ?_
  refine oM rfl rfl ?_
  refine oN ?_
  refine CW_block ?_
  refine CW_loop (ι := Nat × Nat × List Int) (fun x => x.1 ≤ L.length ∧ (thO p L x.1).length ≤ x.2.1 ∧ x.2.1 * 3 ≤ (thO p L x.1).length * 3 + x.2.2.length) (fun x => ⟨[(0, .int p), (5, .slice 2 0 (thO p L x.1).length x.2.1), (11, .slice 0 0 L.length k), (12, .int (L.length : Nat)), (13, .int (x.1 : Nat))], [(0, .ints 49 (L.flatten ++ sp)), (2, .ints 49 ((thO p L x.1).flatten ++ x.2.2))], 3⟩) (fun x => L.length - x.1) (0, k0, sp0) ?_ ?_ ?_
  · (rw [thO_zero]; exact ⟨Nat.zero_le _, hk0, hsp0⟩)
  · refine View.mk' [] rfl rfl rfl ?_ ?_
    repeat' first | exact vFn | refine vFc rfl ?_ | exact vHn | refine vHc rfl ?_ | refine vFc (congrArg (fun z => some (V.int z)) ?_) ?_ | refine vHc (congrArg (fun z => some (Blk.ints _ z)) ?_) ?_ | refine vFc (congrArg (fun z => some (V.bool z)) ?_) ?_ | refine vFs rfl rfl ?_ ?_
    all_goals dsimp only
    all_goals rw [thO_zero]
  rintro ⟨i, kk, ss⟩ ⟨hi, hk, hsp⟩
  dsimp only at hi hk hsp ⊢
  have h3i := fun h : i < L.length => h3 _ (getD_mem h)
  obtain ⟨hSO, h3O⟩ := setC_sub (K := thO p L i) h3 (thO_sub hi) hS
  have hlO := (thO_sub (p := p) hi).length_le
  have hR := fun h : i < L.length => setC_sub (K := thR p L i) h3 (thR_sub h) hS
  have hfi := fun h : i < L.length => thO_filt (p := p) h3 hS h
  refine cR ?_
  refine oQ (Q_bin rfl rfl rfl) rfl rfl ?_
  refine oN ?_
  refine CW_seq ?_
  first | refine cT rfl ?_ | refine cF rfl ?_ | refine CW_cond rfl (fun hc => ?_) (fun hc => ?_)
  all_goals try simp only [s1, s2, s3, s4, s5, s6, s7, s8, s9, s10, s11, s12] at hc
  all_goals first
    | (
     refine CW_skip ?_)
    | (
     refine CW_exit ?_)
  all_goals first
    | with_reducible refine tR ?_
    | with_reducible refine tE ?_
    | (
     with_reducible refine tN ?_
     refine CW_seq ?_
     refine CW_block ?_
     refine cR ?_
     (have h3i := h3i (by omega)); (have hR := hR (by omega)); (have hfi := hfi (by omega)); refine oQ (Q_ixs0z 3 rfl rfl rfl rfl rfl rfl (by omega)) rfl rfl ?_
     refine oQ (Q_lda (n := 3) rfl rfl rfl rfl rfl (by rw [List.length_append, hf3]; omega)) rfl rfl ?_; rw [flat_get h3 (show i < L.length by omega)]
     refine oAlloc rfl rfl rfl rfl rfl rfl rfl ?_
     first | refine oSw rfl rfl rfl rfl ?_ | refine oSa rfl rfl rfl rfl ?_
     refine oN ?_
     refine cR ?_
     refine oM rfl rfl ?_
     refine oCall (clone_con (thO p L i) ss kk h3O (by omega)) [(0, 2)] 2 rfl rfl (Fits.mk' (vHc rfl vHn) rfl rfl (by simp)) rfl rfl ?_
     rintro r H1 ⟨k4, sp4, hk4, hsp4, rfl, rfl⟩
     refine ⟨.slice 5 0 (thO p L i).length k4, [(2, .ints 49 ((thO p L i).flatten ++ ss)), (5, .ints 49 ((thO p L i).flatten ++ sp4))], rfl, rfl, rfl, ?_⟩
     refine oQ (Q_makeFunc rfl rfl) rfl rfl ?_
     refine oCall (delPoint1 95 49 (L.getD i []) (fun b => decide (L.getD i [] = b)) 49 (thO p L i) sp4 k4 h3O (by omega) hk4 (fun m hm => thinned1_con 49 (L.getD i []) m h3i (h3O m hm))) [(0, 5), (1000, 3)] 0 rfl rfl (Fits.mk' (vHc rfl (vHc rfl vHn)) rfl rfl (by simp)) rfl rfl ?_
     rintro r H1 ⟨z, hz, rfl, rfl⟩
     rw [hfi] at hz ⊢
     refine ⟨.slice 5 0 (thR p L i).length k4, [(5, .ints 49 ((thR p L i).flatten ++ (z ++ sp4))), (3, .ints 49 (L.getD i []))], rfl, rfl, rfl, ?_⟩
     refine oA rfl rfl ?_
     refine oN ?_
     refine cR ?_
     iterate 2 refine oM rfl rfl ?_
     refine oQ (Q_call (isBlocking_con p (thR p L i) (z ++ sp4) k4 hR.2 hR.1) [(0, 5)] rfl rfl (Fits.mk' (vHc rfl vHn) rfl rfl (by simp)) rfl rfl) rfl rfl ?_
     refine oN ?_
     first | refine cT rfl ?_ | refine cF rfl ?_ | refine CW_cond rfl (fun hc => ?_) (fun hc => ?_)
     all_goals try simp only [s1, s2, s3, s4, s5, s6, s7, s8, s9, s10, s11, s12] at hc
     all_goals first
       | (
        refine CW_skip ?_)
       | (
        refine CW_region ?_
        refine oM rfl rfl ?_
        refine oA rfl rfl ?_
        refine OW_nil ?_)
     all_goals first | with_reducible refine bN ?_ | with_reducible refine bE ?_ | with_reducible refine bR ?_ | refine bX rfl ?_
     all_goals with_reducible refine tN ?_
     all_goals (
      refine CW_region ?_
      first | refine oQ (Q_binu rfl rfl rfl (by omega)) rfl rfl ?_ | refine oQ (Q_bin rfl rfl rfl) rfl rfl ?_
      refine oM rfl rfl ?_
      refine OW_nil ?_))
  all_goals first
    | with_reducible refine tR ?_
    | with_reducible refine tE ?_
    | (
     with_reducible refine tN ?_
     first
       | (
        refine ⟨(i + 1, k4, z ++ sp4), ?_, ?_, View.mk' [(2, 5)] rfl rfl rfl ?_ ?_⟩
        · dsimp only
          have hlR := (thR_sub (p := p) (show i < L.length by omega)).length_le
          have hlr : (thR p L i).length ≤ (thO p L i).length := by rw [← hfi]; exact List.length_filter_le _ _
          first
            | (rw [thO_yes hc]; exact ⟨by omega, by omega, by rw [List.length_append, hz]; omega⟩)
            | (rw [thO_no (by omega) (by simpa using hc)]; exact ⟨by omega, hk, hsp⟩)
        · omega
        all_goals (repeat' first | exact vFn | refine vFc rfl ?_ | exact vHn | refine vHc rfl ?_ | refine vFc (congrArg (fun z => some (V.int z)) ?_) ?_ | refine vHc (congrArg (fun z => some (Blk.ints _ z)) ?_) ?_ | refine vFc (congrArg (fun z => some (V.bool z)) ?_) ?_ | refine vFs rfl rfl ?_ ?_)
        all_goals dsimp only
        all_goals first
          | (rw [thO_yes hc]; done)
          | (rw [thO_no (by omega) (by simpa using hc)]; done))
       | (
        refine ⟨(i + 1, kk, ss), ?_, ?_, View.mk' [] rfl rfl rfl ?_ ?_⟩
        · dsimp only
          have hlR := (thR_sub (p := p) (show i < L.length by omega)).length_le
          have hlr : (thR p L i).length ≤ (thO p L i).length := by rw [← hfi]; exact List.length_filter_le _ _
          first
            | (rw [thO_yes hc]; exact ⟨by omega, by omega, by rw [List.length_append, hz]; omega⟩)
            | (rw [thO_no (by omega) (by simpa using hc)]; exact ⟨by omega, hk, hsp⟩)
        · omega
        all_goals (repeat' first | exact vFn | refine vFc rfl ?_ | exact vHn | refine vHc rfl ?_ | refine vFc (congrArg (fun z => some (V.int z)) ?_) ?_ | refine vHc (congrArg (fun z => some (Blk.ints _ z)) ?_) ?_ | refine vFc (congrArg (fun z => some (V.bool z)) ?_) ?_ | refine vFs rfl rfl ?_ ?_)
        all_goals dsimp only
        all_goals first
          | (rw [thO_yes hc]; done)
          | (rw [thO_no (by omega) (by simpa using hc)]; done)))
  all_goals first | with_reducible refine bN ?_ | with_reducible refine bE ?_ | with_reducible refine bR ?_ | refine bX rfl ?_
  all_goals with_reducible refine tN ?_
  all_goals (
   refine cR ?_
   refine oM rfl rfl ?_
   refine oA rfl rfl ?_
   refine oN ?_
   refine CW_ret ?_)
  all_goals (
   have e : i = L.length := by omega
   subst e
   exact exitH (r0 := .slice 1 0 (thO p L L.length).length kk) (H0 := [(0, .ints 49 (L.flatten ++ sp)), (1, .ints 49 ((thO p L L.length).flatten ++ ss))]) (.inr rfl) [(1, 2)] 2 (.cons (.tmp rfl rfl) .nil) rfl rfl rfl (vHc rfl (vHc rfl vHn)) rfl rfl ⟨kk, ss, hk, hsp, rfl, rfl⟩)
end Go.Proofs.Ytmcmbpoebhjecaa
