/- What the last text of FlexesOf needs, part 9: contracts of functions and plain mathematics. No conditions beyond those each theorem states. -/
import Derived.Test.YtcklfkblhmlbbaaDoorBFlexesOfH
namespace Go.Proofs.YtcklfkblhmlbbaaDoor
set_option linter.unusedVariables false
section
variable {c : Cx} {ρ0 : Nat → Nat} {w0 : World} {ops : Array Oper} {Q : Exit → Act → World → Prop} {j b N : Nat} {t : TypeId} {nw : List Int} {ρ : Nat → Nat} {H : Hp}
/-- the world before and behind the store -/
def CJ (c : Cx) (ρ0 : Nat → Nat) (w0 : World) (j b : Nat) (t : TypeId) (N : Nat) (nw : List Int) (ρ : Nat → Nat) (H : Hp) (listed : Array Bool) (w : World) : Prop :=
  (listed.getD j false = true ∧ CC c ρ0 w0 ρ ((b, .ints t nw) :: H) w) ∨ (listed.getD j false = false ∧ ∃ l : List Int, l.length = N ∧ CC c ρ0 w0 ρ ((b, .ints t l) :: H) w)
theorem CJ_set {i : Nat} {listed : Array Bool} {w : World} (h : i ≠ j) : CJ c ρ0 w0 j b t N nw ρ H (listed.setIfInBounds i true) w ↔ CJ c ρ0 w0 j b t N nw ρ H listed w := by
  unfold CJ
  rw [getD_set_ne false h]
def anyV (c : Cx) (ρ0 : Nat → Nat) (w0 : World) (ops : Array Oper) (Q : Exit → Act → World → Prop) (j b : Nat) (t : TypeId) (N : Nat) (nw : List Int) (ρ : Nat → Nat) (H : Hp) : Nat → Array Bool → Act → Prop
  | 0, listed, a => Region.ready .any ops listed = [] ∧ ∀ w, CJ c ρ0 w0 j b t N nw ρ H listed w → Q .normal a w
  | m + 1, listed, a => (Region.ready .any ops listed = [] → ∀ w, CJ c ρ0 w0 j b t N nw ρ H listed w → Q .normal a w) ∧
    ∀ i ∈ Region.ready .any ops listed, ∀ w, CJ c ρ0 w0 j b t N nw ρ H listed w → wpOp c.P ops Q i (fun a' w' => CJ c ρ0 w0 j b t N nw ρ H (listed.setIfInBounds i true) w' ∧ anyV c ρ0 w0 ops Q j b t N nw ρ H m (listed.setIfInBounds i true) a') a w
theorem anyV_sound : ∀ (m : Nat) (listed : Array Bool) (a : Act) (w : World), CJ c ρ0 w0 j b t N nw ρ H listed w → anyV c ρ0 w0 ops Q j b t N nw ρ H m listed a → wpAny c.P .any ops Q m listed a w
  | 0, _, _, w, hw, h => ⟨h.1, h.2 w hw⟩
  | m + 1, _, _, w, hw, h => ⟨fun h0 => h.1 h0 w hw, fun i hi => wpOp_mono (fun a' w' h' => anyV_sound m _ a' w' h'.1 h'.2) (h.2 i hi w hw)⟩
theorem quietAt_mono {P : Program} {o : Oper} {a : Act} {T T' : World → Prop} {w : World} {v : Value} (h : o.quietAt P a T w v) (hT : ∀ w, T w → T' w) : o.quietAt P a T' w v := by
  unfold Oper.quietAt at h ⊢
  generalize (execOp a.eval o).run P w = r at *
  cases r with
  | ok n w' =>
    cases n <;> simp only [Oper.quietUpon] at h ⊢ <;> first | exact h | skip
    case enter f args => exact ⟨h.1, h.2.mono fun e w'' ⟨he, hw''⟩ => ⟨he, hT _ hw''⟩⟩
  | halt x w' => simp only [Oper.quietUpon] at h
theorem Ext_revive {k : Blk} (hd : lkB H b = some .dead) : Ext c ρ H ρ ((b, k) :: H) := by
  refine ⟨fun b' k' hl hne => ⟨?_, rfl, fun _ _ => rfl⟩, fun _ _ => rfl⟩
  rw [lkB_cons, if_neg]
  · exact hl
  · intro e
    subst e
    rw [hd] at hl
    injection hl with hl
    exact hne hl.symm
theorem YX.yieldsJ {o : Oper} {v : Value} {a : Act} {listed : Array Bool} (hd : lkB H b = some .dead) (h : YX c ρ0 w0 ops o v ρ H a) : YieldsIn c.P ops (CJ c ρ0 w0 j b t N nw ρ H listed) o v a := by
  refine h.imp (fun ⟨h1, h2⟩ => ⟨h1, fun w hw => ?_⟩) id
  rcases hw with ⟨hl, hw⟩ | ⟨hl, l, hlen, hw⟩
  · exact quietAt_mono (h2 ρ _ (Ext_revive hd) w hw) fun w hw => .inl ⟨hl, hw⟩
  · exact quietAt_mono (h2 ρ _ (Ext_revive hd) w hw) fun w hw => .inr ⟨hl, l, hlen, hw⟩
theorem anyV_take {i : Nat} {oi : Oper} {v : Value} (hi : ops[i]? = some oi) (hs : Region.noSelect ops = true) (hij : i ≠ j) (hd : lkB H b = some .dead) (hQ : ∀ ch a w, ¬ Q (.panic ch) a w) : ∀ (m : Nat) (listed : Array Bool) (a : Act),
    (∀ j oj, ops[j]? = some oj → j ≠ i → listed.getD j true = false → (∀ e ∈ oj.after, Region.binds .any e = true → e.on ≠ i) → oi.apart ops oj = true) → i ∈ Region.ready .any ops listed → YX c ρ0 w0 ops oi v ρ H a →
    anyV c ρ0 w0 ops Q j b t N nw ρ H m (listed.setIfInBounds i true) (a.put oi.dst v) → anyV c ρ0 w0 ops Q j b t N nw ρ H (m + 1) listed a := by
  have nsel := Region.noSelect_spec hs
  intro m
  induction m with
  | zero =>
    intro listed a _ hr hy h
    refine ⟨fun h => by rw [h] at hr; (cases hr), fun j' hj w hw => ?_⟩
    by_cases hji : j' = i
    · subst hji; exact wpOp_quiet hi (hy.yieldsJ hd) hw fun w' hw' => ⟨(CJ_set hij).2 hw', h⟩
    · have := ready_mono hj hji
      rw [h.1] at this
      cases this
  | succ m ih =>
    intro listed a hfree hr hy h
    refine ⟨fun h => by rw [h] at hr; (cases hr), fun j' hj w hw => ?_⟩
    by_cases hji : j' = i
    · subst hji; exact wpOp_quiet hi (hy.yieldsJ hd) hw fun w' hw' => ⟨(CJ_set hij).2 hw', h⟩
    · obtain ⟨hjun, oj, hoj, hall⟩ := mem_ready.1 hj
      have hnot : ∀ e ∈ oj.after, Region.binds .any e = true → e.on ≠ i := fun e he hb heq => by
        have h1 := hall e he hb
        rw [heq] at h1
        exact unl (mem_ready.1 hr).1 h1
      have hfree' : ∀ k ok, ops[k]? = some ok → k ≠ i → (listed.setIfInBounds j' true).getD k true = false → (∀ e ∈ ok.after, Region.binds .any e = true → e.on ≠ i) → oi.apart ops ok = true := fun k ok hk hki hun hno => by
        refine hfree k ok hk hki ?_ hno
        by_cases hjk : j' = k
        · subst hjk; exact hjun
        · rw [getD_set_ne true hjk] at hun; exact hun
      have h1 := h.2 j' (ready_mono hj hji) w ((CJ_set hij).2 hw)
      have h2 := wpOp_swap (Y := YX c ρ0 w0 ops oi v ρ H) hoj (hfree j' oj hoj hji hjun hnot) (fun cs b => nsel i oi cs b hi) (fun cs b => nsel j' oj cs b hoj) hQ YX.same hy h1
      refine wpOp_mono (fun a' w' ⟨hy', hk⟩ => ?_) h2
      obtain ⟨hcj, hk⟩ := hk
      rw [Array.setIfInBounds_comm _ _ (Ne.symm hji)] at hcj hk
      exact ⟨(CJ_set hij).1 hcj, ih (listed.setIfInBounds j' true) a' hfree' (ready_mono hr (Ne.symm hji)) hy' hk⟩
end
/-- on states: the block b is dead in the state's heap -/
def AV (c : Cx) (ops : Array Oper) (j b : Nat) (t : TypeId) (N : Nat) (nw : List Int) (Q : Post) (m : Nat) (listed : Array Bool) (s : S) : Prop :=
  ∀ ρ0 w0, GR c.gl c.D ρ0 → ∀ ρ a, FR c ρ s.F a → WF c s → (∀ b ∈ c.D, ρ b = ρ0 b) → anyV c ρ0 w0 ops (np (Lift c ρ0 w0 Q)) j b t N nw ρ s.H m listed a
section
variable {c : Cx} {Q : Post} {F : Fr} {H : Hp} {n : Nat} {ops : Array Oper} {m : Nat} {listed : Array Bool} {d : Nat} {op : Op} {ty : TypeId} {pos : String} {af : Array Edge} {v : V} {j b N : Nat} {t : TypeId} {nw : List Int}
theorem CW_anyV {id : Nat} {l : List Oper} {l0 : List Int} (j b m : Nat) (nw : List Int) (hsz : l.toArray.size = m) (hm : c.P.follows .mixedOrders = true) (hns : Region.noSelect l.toArray = true) (hj : Nat.blt j m = true) (hb : lkB H b = some (.ints t l0)) (hl0 : l0.length = N)
    (h : Region.noSelect l.toArray = true → AV c l.toArray j b t N nw Q m (Array.replicate m false) ⟨F, (b, .dead) :: H, n⟩) : CW c (.region id l.toArray true) Q ⟨F, H, n⟩ := by
  subst hsz
  have h := h hns
  intro ρ0 w0 hg ρ a w hs
  refine Code.wp_mono (fun e a w h => h.2) (wp_region_any (Q := np (Lift c ρ0 w0 Q)) hm ?_)
  refine anyV_sound (b := b) (t := t) (N := N) (nw := nw) (j := j) (ρ := ρ) (H := (b, .dead) :: H) _ _ _ _ ?_ (h ρ0 w0 hg ρ a hs.fr (hs.wf.kill hb) hs.cc.drew.inv.fix)
  have hjs : j < l.length := by simpa [Nat.blt_eq] using hj
  refine .inr ⟨by simp [Array.getD_eq_getD_getElem?, hjs], l0, hl0, ?_⟩
  refine CC.sub (H' := H) (ρ' := ρ) ⟨fun b' k hk hd => ⟨?_, rfl, fun _ _ => rfl⟩, fun _ _ => rfl⟩ hs.cc.drew
  rw [lkB_cons] at hk
  split at hk
  · rename_i e; subst e; injection hk with hk; rw [← hk]; exact hb
  · rename_i e; rw [lkB_cons, if_neg e] at hk; exact hk
theorem AV_take {s : S} {i : Nat} {o : Oper} (hns : Region.noSelect ops = true) (hi : ops[i]? = some o) (hg : o.guard = none) (hij : Nat.beq i j = false) (hd : lkB s.H b = some .dead) (hf : (Region.free .any ops listed i && (Region.ready .any ops listed).contains i) = true) (hq : QX c o s v) (hN : okDst c.N o.dst = true) (hsc : sc s.n v.ids = true)
    (h : AV c ops j b t N nw Q m (listed.setIfInBounds i true) (s.put o.dst v)) : AV c ops j b t N nw Q (m + 1) listed s := by
  intro ρ0 w0 hgr ρ a hfr hwf hfix
  simp only [Bool.and_eq_true] at hf
  refine anyV_take hi hns (Nat.ne_of_beq_eq_false hij) hd (fun ch a w h => h.1 ch rfl) m listed a (Region.free_spec hi hf.1) (by simpa using hf.2) (.inl ⟨by simp [Region.wanted, hg], fun ρ' H' hx w hw => hq ρ0 w0 hgr ρ a hfr hfix ρ' H' hx w hw⟩) ?_
  have := h ρ0 w0 hgr ρ _ (hfr.put' o.dst v _ (okDst_lt hN) (.inr rfl)) (hwf.put o.dst v hsc) hfix
  rwa [put_H] at this
theorem vQ (i : Nat) (hns : Region.noSelect ops = true) (hi : ops[i]? = some ⟨some d, op, ty, pos, af, none⟩) (hij : Nat.beq i j = false) (hd : lkB H b = some .dead) (hf : (Region.free .any ops listed i && (Region.ready .any ops listed).contains i) = true) (hq : QX c ⟨some d, op, ty, pos, af, none⟩ ⟨F, H, n⟩ v) (hN : Nat.blt d c.N = true)
    (hsc : sc n v.ids = true) (h : AV c ops j b t N nw Q m (listed.setIfInBounds i true) ⟨(d, v) :: F, H, n⟩) : AV c ops j b t N nw Q (m + 1) listed ⟨F, H, n⟩ := AV_take hns hi rfl hij hd hf hq hN hsc h
theorem vQg (i : Nat) {k e : Nat} {want : Bool} (hns : Region.noSelect ops = true) (hi : ops[i]? = some ⟨some d, op, ty, pos, af, some (k, want)⟩) (hij : Nat.beq i j = false) (hd : lkB H b = some .dead) (hf : (Region.free .any ops listed i && (Region.ready .any ops listed).contains i) = true)
    (hk : (ops[k]?).bind (·.dst) = some e) (hb : lkV F e = some (.bool want)) (hq : QX c ⟨some d, op, ty, pos, af, some (k, want)⟩ ⟨F, H, n⟩ v) (hN : Nat.blt d c.N = true) (hsc : sc n v.ids = true) (h : AV c ops j b t N nw Q m (listed.setIfInBounds i true) ⟨(d, v) :: F, H, n⟩) : AV c ops j b t N nw Q (m + 1) listed ⟨F, H, n⟩ := by
  intro ρ0 w0 hgr ρ a hfr hwf hfix
  simp only [Bool.and_eq_true] at hf
  refine anyV_take hi hns (Nat.ne_of_beq_eq_false hij) hd (fun ch a w h => h.1 ch rfl) m listed a (Region.free_spec hi hf.1) (by simpa using hf.2) (.inl ⟨by rw [wanted_eq rfl hfr hk hb]; simp, fun ρ' H' hx w hw => hq ρ0 w0 hgr ρ a hfr hfix ρ' H' hx w hw⟩) ?_
  exact h ρ0 w0 hgr ρ _ (hfr.put' (some d) v _ (okDst_lt (d := some d) hN) (.inr rfl)) (hwf.put (some d) v hsc) hfix
theorem vSkip (i : Nat) {k e : Nat} {want x : Bool} (hns : Region.noSelect ops = true) (hi : ops[i]? = some ⟨some d, op, ty, pos, af, some (k, want)⟩) (hij : Nat.beq i j = false) (hd : lkB H b = some .dead) (hf : (Region.free .any ops listed i && (Region.ready .any ops listed).contains i) = true)
    (hk : (ops[k]?).bind (·.dst) = some e) (hb : lkV F e = some (.bool x)) (hne : (x == want) = false) (hN : Nat.blt d c.N = true) (h : AV c ops j b t N nw Q m (listed.setIfInBounds i true) ⟨(d, .bot) :: F, H, n⟩) : AV c ops j b t N nw Q (m + 1) listed ⟨F, H, n⟩ := by
  intro ρ0 w0 hgr ρ a hfr hwf hfix
  simp only [Bool.and_eq_true] at hf
  refine anyV_take hi hns (Nat.ne_of_beq_eq_false hij) hd (fun ch a w h => h.1 ch rfl) m listed a (Region.free_spec hi hf.1) (by simpa using hf.2) (.inr ⟨by rw [wanted_eq rfl hfr hk hb]; simp [hne], rfl⟩) ?_
  exact h ρ0 w0 hgr ρ _ (hfr.put' (some d) .bot undef (okDst_lt (d := some d) hN) (.inl rfl)) (hwf.put (some d) .bot rfl) hfix
/-- the store, of a whole array, when nothing else may come -/
theorem AV_store {t0 : TypeId} {x y : Operand} {i : TI} (hj : ops[j]? = some ⟨none, .store t0 x y, ty, pos, af, none⟩) (hr : (Region.ready .any ops listed == [j] && (listed.setIfInBounds j true).getD j false && !(listed.getD j false)) = true) (ht : lkT c.T t0 = some i)
    (hx : ev c F x = some (.ptr b 0)) (hy : ev c F y = some (.arr nw)) (hd : lkB H b = some .dead) (hsz : nw.length = i.size) (hN : N = i.size) (h : AV c ops j b t N nw Q m (listed.setIfInBounds j true) ⟨F, H, n⟩) : AV c ops j b t N nw Q (m + 1) listed ⟨F, H, n⟩ := by
  subst hN
  simp only [Bool.and_eq_true, beq_iff_eq, Bool.not_eq_true'] at hr
  obtain ⟨⟨hr1, hr3⟩, hr4⟩ := hr
  intro ρ0 w0 hg ρ a hf hwf hfix
  refine ⟨fun h0 => by rw [hr1] at h0; (cases h0), fun k hk w hw => ?_⟩
  rw [hr1] at hk
  obtain rfl : k = j := by simpa using hk
  rcases hw with ⟨hl, _⟩ | ⟨_, l, hlen, hw⟩
  · rw [hr4] at hl; cases hl
  have hb : lkB ((b, Blk.ints t l) :: H) b = some (.ints t l) := by rw [lkB_cons, if_pos rfl]
  obtain ⟨ob, ho1, ho2⟩ := hw.hr.1 b _ hb (by simp)
  simp only [BR] at ho2; subst ho2
  obtain ⟨w', hrun, hwr⟩ := run_storeVar (v := .agg (icells nw)) (o := 0) c.tok ht ho1 (oneInts nw) (by simp [Value.cells, size_icells, hsz]) (by rw [size_icells]; omega)
  have hcc : CC c ρ0 w0 ρ ((b, .ints t nw) :: (b, .ints t l) :: H) w' := by
    refine hw.wrote hb (by simp) rfl rfl hwr ?_
    have h1 := putA_icells nw l 0
    have h2 := putI_full nw l [] (by omega)
    simp only [List.nil_append, List.length_nil] at h2
    rw [h2] at h1
    have h3 : putA (icells l) 0 (Value.agg (icells nw)).cells.toList = icells nw := h1
    simp only [BR]
    rw [h3]
  have hcc2 : CC c ρ0 w0 ρ ((b, .ints t nw) :: H) w' := by
    refine CC.sub (ρ' := ρ) (H' := (b, .ints t nw) :: (b, .ints t l) :: H) ⟨fun b' k hk hd => ⟨?_, rfl, fun _ _ => rfl⟩, fun _ _ => rfl⟩ hcc
    rw [lkB_cons] at hk ⊢
    split at hk
    · rename_i e; rw [if_pos e]; exact hk
    · rename_i e; rw [if_neg e, lkB_cons, if_neg e]; exact hk
  unfold wpOp
  simp only [hj]
  rw [if_pos (by simp [Region.wanted])]
  refine .inl ?_
  unfold Oper.wp
  have hex : (execOp a.eval ⟨none, .store t0 x y, ty, pos, af, none⟩).run c.P w = .ok .skip w' := by
    simp only [icells] at hrun
    simp [execOp, Instr.storeAt, Instr.sureAddr, ev_rv hg hfix hf hx (by simp), ev_rv hg hfix hf hy (by simp), rv, hrun]
  rw [hex]
  simp only [Oper.upon]
  exact ⟨.inl ⟨hr3, hcc2⟩, h ρ0 w0 hg ρ a hf hwf hfix⟩
theorem AV_done (hr : ((Region.ready .any ops listed).isEmpty && listed.getD j false) = true) (hd : lkB H b = some .dead) (h : Q .normal ⟨F, (b, .ints t nw) :: H, n⟩) : AV c ops j b t N nw Q m listed ⟨F, H, n⟩ := by
  simp only [Bool.and_eq_true, List.isEmpty_iff] at hr
  intro ρ0 w0 hg ρ a hf hwf hfix
  have key : ∀ w, CJ c ρ0 w0 j b t N nw ρ H listed w → np (Lift c ρ0 w0 Q) .normal a w := fun w hw => by
    rcases hw with ⟨_, hw⟩ | ⟨hl, _⟩
    · exact ⟨fun _ h => by (cases h), _, ρ, h, hw, hf, hwf.upd hd rfl⟩
    · rw [hr.2] at hl; cases hl
  cases m with
  | zero => exact ⟨hr.1, key⟩
  | succ m => exact ⟨fun _ => key, by rw [hr.1]; simp⟩
end
end Go.Proofs.YtcklfkblhmlbbaaDoor
namespace Go.Proofs.YtcklfkblhmlbbaaDoor
set_option maxRecDepth 10000
set_option linter.unusedSimpArgs false
set_option linter.unusedVariables false
def slL (p : Int) (c a : List Int) : List Int := [cuD p c a 0, cuD p c a 1, cuD p c a 2]
theorem slL_len (p : Int) (c a : List Int) : (slL p c a).length = 3 := rfl
theorem slN_len (p : Int) (c a : List Int) : (normL p (slL p c a)).length = 3 := by rw [normL_length]; rfl
attribute [local irreducible] CW OW QW QOp Con thenP inBlockP AW QX RW
theorem tangent_con (p : Int) (c a : List Int) (hp : primeB p = true) (hcl : c.length = 10) (hal : a.length = 3) (qc : smN 12 c) (qa : smN 12 a) : ConQ Tryd.prog [(0, 2000)] 51 [.arr c, .int p, .arr a] [(2000, .ro 0 cuT)] (.tuple [.arr (normL p (slL p c a)), .bool ((facP p (slL p c a) != 0) && cuG p c a)]) := by
  have hnl := slN_len p c a
  have hsl := slL_len p c a
  have hslo := slopes_con p c a hp hcl hal qc qa
  change ConQ _ _ _ _ _ (.arr (slL p c a)) at hslo
  generalize hfb : (facP p (slL p c a) != 0) = fb
  cases fb with
  | false =>
    refine conW tab_ok [(0, .arr c), (1, .int p), (2, .arr a)] 0 [2000] [] Tryd.func51 rfl rfl rfl rfl rfl rfl rfl rfl rfl ?_
    refine cR ?_
    iterate 2 refine oBox rfl rfl rfl rfl rfl rfl ?_
    refine oAlloc rfl rfl rfl rfl rfl rfl rfl ?_
    refine oA rfl rfl ?_
    refine oN ?_
    refine cR ?_
    refine oQ (Q_ldw rfl rfl rfl rfl hcl) rfl rfl ?_
    refine oM rfl rfl ?_
    refine oQ (Q_ldw rfl rfl rfl rfl hal) rfl rfl ?_
    refine oQ (Q_call (hslo) [] rfl rfl (Fits.mk' (vHc rfl vHn) rfl rfl (by first | (simp; done) | exact glOk rfl rfl rfl)) rfl rfl) rfl rfl ?_
    refine oAlloc rfl rfl rfl rfl rfl rfl rfl ?_
    first | refine oSw rfl rfl rfl rfl ?_ | refine oSa rfl rfl rfl rfl ?_
    refine oN ?_
    refine cR ?_
    refine oM rfl rfl ?_
    refine oQ (Q_slaF rfl rfl rfl rfl) rfl rfl ?_
    refine oCall (normal_con p 24 (slL p c a) 3 3 (Nat.le_of_eq hsl.symm) hp (by omega)) [(0, 3)] 0 rfl rfl (Fits.mk' (vHc rfl vHn) rfl rfl (by first | (simp; done) | exact glOk rfl rfl rfl)) rfl rfl ?_
    rintro r H1 ⟨rfl, rfl⟩
    simp only [List.take_of_length_le (show (slL p c a).length ≤ 3 from Nat.le_refl _), List.drop_eq_nil_of_le (show (slL p c a).length ≤ 3 from Nat.le_refl _), List.append_nil]
    rw [hfb]
    refine ⟨.bool false, [(3, .ints 24 (normL p (slL p c a)))], rfl, rfl, rfl, ?_⟩
    refine oA rfl rfl ?_
    refine oN ?_
    refine CW_seq ?_
    refine CW_anyV 9 2 11 (normL p (slL p c a)) rfl lateOk (by decide +kernel) rfl rfl rfl (fun hst => ?_)
    refine vQ 0 hst rfl rfl rfl (by decide +kernel) (QX_of (Q_ldw rfl rfl rfl rfl hnl) NE_load) rfl rfl ?_
    refine vQ 1 hst rfl rfl rfl (by decide +kernel) (QX_of (Q_move rfl rfl) NE_move) rfl rfl ?_
    refine vQ 2 hst rfl rfl rfl (by decide +kernel) (QX_of (Q_move rfl rfl) NE_move) rfl rfl ?_
    first | (refine vQg 3 hst rfl rfl rfl (by decide +kernel) rfl rfl (QX_of (Q_ldw rfl rfl rfl rfl hcl) NE_load) rfl rfl ?_) | refine vSkip 3 hst rfl rfl rfl (by decide +kernel) rfl rfl rfl rfl ?_
    first | (refine vQg 4 hst rfl rfl rfl (by decide +kernel) rfl rfl (QX_of (Q_move rfl rfl) NE_move) rfl rfl ?_) | refine vSkip 4 hst rfl rfl rfl (by decide +kernel) rfl rfl rfl rfl ?_
    first | (refine vQg 5 hst rfl rfl rfl (by decide +kernel) rfl rfl (QX_of (Q_ldw rfl rfl rfl rfl hal) NE_load) rfl rfl ?_) | refine vSkip 5 hst rfl rfl rfl (by decide +kernel) rfl rfl rfl rfl ?_
    first | (refine vQg 6 hst rfl rfl rfl (by decide +kernel) rfl rfl (QX_call (at_con p c a hp hcl hal qc qa) [] rfl rfl (Fits.mk' (vHc rfl vHn) rfl rfl (by first | (simp; done) | exact glOk rfl rfl rfl)) rfl rfl rfl) rfl rfl ?_) | refine vSkip 6 hst rfl rfl rfl (by decide +kernel) rfl rfl rfl rfl ?_
    first | (refine vQg 7 hst rfl rfl rfl (by decide +kernel) rfl rfl (QX_of (Q_bin rfl rfl rfl) NE_bin) rfl rfl ?_) | refine vSkip 7 hst rfl rfl rfl (by decide +kernel) rfl rfl rfl rfl ?_
    first | refine vQ 8 hst rfl rfl rfl (by decide +kernel) (QX_of (Q_pick_t rfl (by with_reducible rfl) rfl rfl) NE_pick) rfl rfl ?_ | refine vQ 8 hst rfl rfl rfl (by decide +kernel) (QX_of (Q_pick_f rfl (by with_reducible rfl) rfl rfl) NE_pick) rfl rfl ?_
    refine AV_store rfl (by decide +kernel) rfl rfl rfl rfl (by first | assumption | rfl | omega | (simp; omega)) rfl ?_
    refine vQ 10 hst rfl rfl rfl (by decide +kernel) (QX_of (Q_assign rfl rfl) NE_assign) rfl rfl ?_
    refine AV_done (by decide +kernel) rfl ?_
    all_goals with_reducible refine tN ?_
    all_goals (
     refine CW_ret ?_)
    all_goals (
     refine exitQ (.inr rfl) 0 (.cons (.arr rfl rfl rfl rfl (by first | omega | (dsimp only; omega) | (simp; omega) | (simp; done))) (.cons (.tmp rfl rfl) .nil)) ?_ rfl (vHc rfl vHn) rfl rfl
     rfl)
  | true =>
    refine conW tab_ok [(0, .arr c), (1, .int p), (2, .arr a)] 0 [2000] [] Tryd.func51 rfl rfl rfl rfl rfl rfl rfl rfl rfl ?_
    refine cR ?_
    iterate 2 refine oBox rfl rfl rfl rfl rfl rfl ?_
    refine oAlloc rfl rfl rfl rfl rfl rfl rfl ?_
    refine oA rfl rfl ?_
    refine oN ?_
    refine cR ?_
    refine oQ (Q_ldw rfl rfl rfl rfl hcl) rfl rfl ?_
    refine oM rfl rfl ?_
    refine oQ (Q_ldw rfl rfl rfl rfl hal) rfl rfl ?_
    refine oQ (Q_call (hslo) [] rfl rfl (Fits.mk' (vHc rfl vHn) rfl rfl (by first | (simp; done) | exact glOk rfl rfl rfl)) rfl rfl) rfl rfl ?_
    refine oAlloc rfl rfl rfl rfl rfl rfl rfl ?_
    first | refine oSw rfl rfl rfl rfl ?_ | refine oSa rfl rfl rfl rfl ?_
    refine oN ?_
    refine cR ?_
    refine oM rfl rfl ?_
    refine oQ (Q_slaF rfl rfl rfl rfl) rfl rfl ?_
    refine oCall (normal_con p 24 (slL p c a) 3 3 (Nat.le_of_eq hsl.symm) hp (by omega)) [(0, 3)] 0 rfl rfl (Fits.mk' (vHc rfl vHn) rfl rfl (by first | (simp; done) | exact glOk rfl rfl rfl)) rfl rfl ?_
    rintro r H1 ⟨rfl, rfl⟩
    simp only [List.take_of_length_le (show (slL p c a).length ≤ 3 from Nat.le_refl _), List.drop_eq_nil_of_le (show (slL p c a).length ≤ 3 from Nat.le_refl _), List.append_nil]
    rw [hfb]
    refine ⟨.bool true, [(3, .ints 24 (normL p (slL p c a)))], rfl, rfl, rfl, ?_⟩
    refine oA rfl rfl ?_
    refine oN ?_
    refine CW_seq ?_
    refine CW_anyV 9 2 11 (normL p (slL p c a)) rfl lateOk (by decide +kernel) rfl rfl rfl (fun hst => ?_)
    refine vQ 0 hst rfl rfl rfl (by decide +kernel) (QX_of (Q_ldw rfl rfl rfl rfl hnl) NE_load) rfl rfl ?_
    refine vQ 1 hst rfl rfl rfl (by decide +kernel) (QX_of (Q_move rfl rfl) NE_move) rfl rfl ?_
    refine vQ 2 hst rfl rfl rfl (by decide +kernel) (QX_of (Q_move rfl rfl) NE_move) rfl rfl ?_
    first | (refine vQg 3 hst rfl rfl rfl (by decide +kernel) rfl rfl (QX_of (Q_ldw rfl rfl rfl rfl hcl) NE_load) rfl rfl ?_) | refine vSkip 3 hst rfl rfl rfl (by decide +kernel) rfl rfl rfl rfl ?_
    first | (refine vQg 4 hst rfl rfl rfl (by decide +kernel) rfl rfl (QX_of (Q_move rfl rfl) NE_move) rfl rfl ?_) | refine vSkip 4 hst rfl rfl rfl (by decide +kernel) rfl rfl rfl rfl ?_
    first | (refine vQg 5 hst rfl rfl rfl (by decide +kernel) rfl rfl (QX_of (Q_ldw rfl rfl rfl rfl hal) NE_load) rfl rfl ?_) | refine vSkip 5 hst rfl rfl rfl (by decide +kernel) rfl rfl rfl rfl ?_
    first | (refine vQg 6 hst rfl rfl rfl (by decide +kernel) rfl rfl (QX_call (at_con p c a hp hcl hal qc qa) [] rfl rfl (Fits.mk' (vHc rfl vHn) rfl rfl (by first | (simp; done) | exact glOk rfl rfl rfl)) rfl rfl rfl) rfl rfl ?_) | refine vSkip 6 hst rfl rfl rfl (by decide +kernel) rfl rfl rfl rfl ?_
    first | (refine vQg 7 hst rfl rfl rfl (by decide +kernel) rfl rfl (QX_of (Q_bin rfl rfl rfl) NE_bin) rfl rfl ?_) | refine vSkip 7 hst rfl rfl rfl (by decide +kernel) rfl rfl rfl rfl ?_
    first | refine vQ 8 hst rfl rfl rfl (by decide +kernel) (QX_of (Q_pick_t rfl (by with_reducible rfl) rfl rfl) NE_pick) rfl rfl ?_ | refine vQ 8 hst rfl rfl rfl (by decide +kernel) (QX_of (Q_pick_f rfl (by with_reducible rfl) rfl rfl) NE_pick) rfl rfl ?_
    refine AV_store rfl (by decide +kernel) rfl rfl rfl rfl (by first | assumption | rfl | omega | (simp; omega)) rfl ?_
    refine vQ 10 hst rfl rfl rfl (by decide +kernel) (QX_of (Q_assign rfl rfl) NE_assign) rfl rfl ?_
    refine AV_done (by decide +kernel) rfl ?_
    all_goals with_reducible refine tN ?_
    all_goals (
     refine CW_ret ?_)
    all_goals (
     refine exitQ (.inr rfl) 0 (.cons (.arr rfl rfl rfl rfl (by first | omega | (dsimp only; omega) | (simp; omega) | (simp; done))) (.cons (.tmp rfl rfl) .nil)) ?_ rfl (vHc rfl vHn) rfl rfl
     rfl)
theorem l06Tangent_con (p : Int) (c a : List Int) (hp : primeB p = true) (hcl : c.length = 10) (hal : a.length = 3) (qc : smN 12 c) (qa : smN 12 a) : ConQ Tryd.prog [] 47 [.int p, .arr c, .arr a] [] (.tuple [.arr (normL p (slL p c a)), .bool (facP p (slL p c a) != 0)]) := by
  have hnl := slN_len p c a
  have hsl := slL_len p c a
  have hmd := l01Made_con p (cuD p c a 0) (cuD p c a 1) (cuD p c a 2) hp
  change ConQ _ _ _ _ _ (.tuple [.arr (normL p (slL p c a)), .bool (facP p (slL p c a) != 0)]) at hmd
  refine conW tab_ok [(0, .int p), (1, .arr c), (2, .arr a)] 0 [] [] Tryd.func47 rfl rfl rfl rfl rfl rfl rfl rfl rfl ?_
  refine cR ?_
  iterate 2 refine oBox rfl rfl rfl rfl rfl rfl ?_
  refine oAlloc rfl rfl rfl rfl rfl rfl rfl ?_
  refine oA rfl rfl ?_
  refine oN ?_
  refine CW_seq ?_
  refine CW_any (fun i => List.elem i [18, 19]) 20 rfl lateOk (by decide +kernel) (fun hst => ?_)
  refine aP 0 hst rfl rfl (by decide +kernel) (PX_move rfl rfl) rfl rfl ?_
  refine aP 1 hst rfl rfl (by decide +kernel) (PX_move rfl rfl) rfl rfl ?_
  refine aQ 2 hst rfl rfl (by decide +kernel) (QX_of (Q_ldw rfl rfl rfl rfl hcl) NE_load) rfl rfl ?_
  refine aQ 3 hst rfl rfl (by decide +kernel) (QX_of (Q_ldw rfl rfl rfl rfl hal) NE_load) rfl rfl ?_
  refine aQ 4 hst rfl rfl (by decide +kernel) (QX_call0 (l06Atd_con p c a 0 (by decide) hp hcl hal qc qa) rfl rfl rfl) rfl rfl ?_
  refine aP 5 hst rfl rfl (by decide +kernel) (PX_move rfl rfl) rfl rfl ?_
  refine aQ 6 hst rfl rfl (by decide +kernel) (QX_of (Q_ldw rfl rfl rfl rfl hcl) NE_load) rfl rfl ?_
  refine aQ 7 hst rfl rfl (by decide +kernel) (QX_of (Q_ldw rfl rfl rfl rfl hal) NE_load) rfl rfl ?_
  refine aQ 8 hst rfl rfl (by decide +kernel) (QX_call0 (l06Atd_con p c a 1 (by decide) hp hcl hal qc qa) rfl rfl rfl) rfl rfl ?_
  refine aP 9 hst rfl rfl (by decide +kernel) (PX_move rfl rfl) rfl rfl ?_
  refine aQ 10 hst rfl rfl (by decide +kernel) (QX_of (Q_ldw rfl rfl rfl rfl hcl) NE_load) rfl rfl ?_
  refine aQ 11 hst rfl rfl (by decide +kernel) (QX_of (Q_ldw rfl rfl rfl rfl hal) NE_load) rfl rfl ?_
  refine aQ 12 hst rfl rfl (by decide +kernel) (QX_call0 (l06Atd_con p c a 2 (by decide) hp hcl hal qc qa) rfl rfl rfl) rfl rfl ?_
  refine aQ 13 hst rfl rfl (by decide +kernel) (QX_call0 (hmd) rfl rfl rfl) rfl rfl ?_
  refine aP 14 hst rfl rfl (by decide +kernel) (PX_move rfl rfl) rfl rfl ?_
  refine aExt 15 hst rfl rfl (by decide +kernel) rfl rfl rfl rfl ?_
  refine aExt 16 hst rfl rfl (by decide +kernel) rfl rfl rfl rfl ?_
  refine AW_one (i := 17) (by decide +kernel) ?_
  refine gAlloc rfl rfl rfl rfl rfl rfl rfl rfl rfl ?_
  refine AW_last [18, 19] rfl (by decide +kernel) rfl ?_
  first | refine oSw rfl rfl rfl rfl ?_ | refine oSa rfl rfl rfl rfl ?_
  refine oA rfl rfl ?_
  refine OW_nil (npN ?_)
  all_goals with_reducible refine tN ?_
  all_goals (
   refine cR ?_
   refine oQ (Q_ldw rfl rfl rfl rfl hnl) rfl rfl ?_
   refine oM rfl rfl ?_
   first | refine oSw rfl rfl rfl rfl ?_ | refine oSa rfl rfl rfl rfl ?_
   refine oA rfl rfl ?_
   refine oN ?_
   refine CW_ret ?_)
  all_goals (
   ((refine exitQ (.inr rfl) 0 (.cons (.arr rfl rfl rfl rfl (by first | omega | (dsimp only; omega) | (simp; omega) | (simp; done))) (.cons (.tmp rfl rfl) .nil)) ?_ rfl vHn rfl rfl); rfl))
end Go.Proofs.YtcklfkblhmlbbaaDoor
namespace Go.Proofs.YtcklfkblhmlbbaaDoor
set_option maxRecDepth 10000
set_option linter.unusedSimpArgs false
set_option linter.unusedVariables false
theorem fnz_norm {p f : Int} (hp : primeB p = true) : ∀ l : List Int, fnz (l.map (· % p)) * f % p = 1 → fnz (l.map fun x => x % p * f % p) = 1
  | [], h => by simp [fnz] at h
  | a :: r, h => by
    simp only [List.map_cons, fnz] at h ⊢
    by_cases h0 : a % p = 0
    · rw [if_pos h0] at h
      rw [if_pos (by rw [h0]; simp)]
      exact fnz_norm hp r h
    · rw [if_neg h0] at h
      rw [if_neg (by rw [h]; decide)]
      exact h
theorem norm_mem {p : Int} (hp : primeB p = true) {l : List Int} (hl : l.length = 3) (h : facP p l ≠ 0) : normL p l ∈ allPts p := by
  have hb := prime_bd hp
  refine point_mem (by rw [normL_length]; exact hl) ?_
  have hz : fnz (l.map (· % p)) ≠ 0 := fun e => h ((fac_zero hp l).2 e)
  simp only [pointB, normB, Bool.and_eq_true, beq_iff_eq]
  refine ⟨hp, ?_, fnz_norm hp l (fac_inv hp hz)⟩
  rw [modB, List.all_eq_true]
  intro x hx
  obtain ⟨y, _, rfl⟩ := List.mem_map.1 hx
  have h1 := Int.emod_nonneg (y % p * facP p l) (show p ≠ 0 by omega)
  have h2 := Int.emod_lt_of_pos (y % p * facP p l) (show 0 < p by omega)
  simp only [Bool.and_eq_true, decide_eq_true_eq]
  omega
attribute [local irreducible] CW OW QW QOp Con thenP inBlockP AW QX RW
def crossT (a b : List Int) : List Int := [a.getD 1 0 * b.getD 2 0 - a.getD 2 0 * b.getD 1 0, a.getD 2 0 * b.getD 0 0 - a.getD 0 0 * b.getD 2 0, a.getD 0 0 * b.getD 1 0 - a.getD 1 0 * b.getD 0 0]
attribute [local simp] normL_length
@[simp] theorem crossT_len (a b : List Int) : (crossT a b).length = 3 := rfl
end Go.Proofs.YtcklfkblhmlbbaaDoor
namespace Go.Proofs.YtcklfkblhmlbbaaDoor
set_option linter.unusedVariables false
set_option linter.unusedSimpArgs false
def tgL (p : Int) (c a : List Int) : List Int := normL p (slL p c a)
def okT (p : Int) (c a : List Int) : Bool := (facP p (slL p c a) != 0) && cuG p c a
def flB (p : Int) (c a : List Int) : Bool := okT p c a && !meB p c (tgL p c a) && decide (mePts p c (tgL p c a) = [a]) && decide (meCts p c (tgL p c a) = [3])
theorem m_pos {p : Int} {c : List Int} {L : List (List Int)} : ∀ {m q : Nat}, q < (mPts p c L m).length → ∃ j, j < m ∧ (mPts p c L m).getD q [] = L.getD j [] ∧ (mCts p c L m).getD q 0 = (cnF p c L j : Int) ∧ 0 < cnF p c L j
  | 0, q, h => by simp [mPts] at h
  | m + 1, q, h => by
    have hl := mCts_len p c L m
    by_cases h0 : 0 < cnF p c L m
    · rw [mPts, if_pos h0, List.length_append, List.length_singleton] at h
      rw [mPts, mCts, if_pos h0, if_pos h0]
      by_cases hq : q < (mPts p c L m).length
      · obtain ⟨j, h1, h2, h3, h4⟩ := m_pos (m := m) hq
        refine ⟨j, by omega, ?_, ?_, h4⟩
        · rw [← h2]; simp [List.getD, List.getElem?_append, hq]
        · rw [← h3]; simp [List.getD, List.getElem?_append, show q < (mCts p c L m).length by omega]
      · have e : q = (mPts p c L m).length := by omega
        refine ⟨m, by omega, ?_, ?_, h0⟩
        · rw [e]; simp [List.getD]
        · rw [e, ← hl]; simp [List.getD]
    · rw [mPts, if_neg h0, List.append_nil] at h
      rw [mPts, mCts, if_neg h0, if_neg h0, List.append_nil, List.append_nil]
      obtain ⟨j, h1, h2⟩ := m_pos (m := m) h
      exact ⟨j, by omega, h2⟩
theorem m_none {p : Int} {c : List Int} {L : List (List Int)} : ∀ {m : Nat}, (∀ i, i < m → cnF p c L i = 0) → mPts p c L m = [] ∧ mCts p c L m = []
  | 0, _ => ⟨rfl, rfl⟩
  | m + 1, h => by
    obtain ⟨h1, h2⟩ := m_none (m := m) (fun i hi => h i (by omega))
    have h0 := h m (by omega)
    rw [mPts, mCts, if_neg (by omega), if_neg (by omega), h1, h2]
    exact ⟨rfl, rfl⟩
theorem m_one {p : Int} {c : List Int} {L : List (List Int)} {j : Nat} (hj0 : 0 < cnF p c L j) : ∀ {m : Nat}, j < m → (∀ i, i < m → i ≠ j → cnF p c L i = 0) → mPts p c L m = [L.getD j []] ∧ mCts p c L m = [(cnF p c L j : Int)]
  | 0, h, _ => by omega
  | m + 1, hj, h => by
    by_cases e : j = m
    · subst e
      obtain ⟨h1, h2⟩ := m_none (p := p) (c := c) (L := L) (m := j) (fun i hi => h i (by omega) (by omega))
      rw [mPts, mCts, if_pos hj0, if_pos hj0, h1, h2]
      exact ⟨rfl, rfl⟩
    · obtain ⟨h1, h2⟩ := m_one hj0 (m := m) (by omega) (fun i hi => h i (by omega))
      have h0 := h m (by omega) (fun x => e x.symm)
      rw [mPts, mCts, if_neg (by omega), if_neg (by omega), h1, h2]
      exact ⟨rfl, rfl⟩
theorem me_len (p : Int) (c l : List Int) : (meCts p c l).length = (mePts p c l).length := mCts_len _ _ _ _
theorem me_mem {p : Int} {c l x : List Int} (h : x ∈ mePts p c l) : x ∈ allPts p := (lnV_mem (mPts_mem (Nat.le_refl _) h)).1
theorem me_three {p : Int} (hp : primeB p = true) (c : List Int) {l a : List Int} (hl : l ∈ allPts p) (hz : meB p c l = false) {i : Nat} (hi : i < (mePts p c l).length) (ha : (mePts p c l).getD i [] = a) (h3 : (meCts p c l).getD i 0 = 3) : mePts p c l = [a] ∧ meCts p c l = [3] := by
  obtain ⟨j, h1, h2, h4, h5⟩ := m_pos hi
  have h6 : cnF p c (lnV p l) j = 3 := by
    have : (meCts p c l).getD i 0 = (cnF p c (lnV p l) j : Int) := h4
    omega
  obtain ⟨g1, g2⟩ := m_one h5 h1 (fun k hk hkj => cn_three hp c hl h1 hk (fun x => hkj x.symm) hz h6)
  have ha' : (lnV p l).getD j [] = a := by rw [← ha]; exact h2.symm
  refine ⟨by rw [mePts, g1, ha'], by rw [meCts, g2, h6]; rfl⟩
/-- what the program's isFlex looks at -/
theorem flex_eq {p : Int} (hp : primeB p = true) (c : List Int) {l a : List Int} (hl : l ∈ allPts p) (hz : meB p c l = false) : (decide (mePts p c l = [a]) && decide (meCts p c l = [3])) = true ↔ ∃ i : Nat, idxL (fun x => decide (a = x)) (mePts p c l) = (i : Int) ∧ i < (mePts p c l).length ∧ (meCts p c l).getD i 0 = 3 := by
  rw [Bool.and_eq_true, decide_eq_true_eq, decide_eq_true_eq]
  constructor
  · rintro ⟨h1, h2⟩
    refine ⟨0, ?_, by rw [h1]; exact Nat.zero_lt_one, by rw [h2]; rfl⟩
    rw [h1]
    exact idxL_found (show 0 < [a].length from Nat.zero_lt_one) (fun j hj => absurd hj (Nat.not_lt_zero _)) (by simp)
  · rintro ⟨i, h1, h2, h3⟩
    rcases idxL_cases (fun x => decide (a = x)) (mePts p c l) with ⟨h4, _⟩ | ⟨j, h4, h5, h6, _⟩
    · omega
    · have e : i = j := by omega
      subst e
      have h7 : a = (mePts p c l).getD i [] := by simpa using h6
      exact me_three hp c hl hz h2 h7.symm h3
theorem tgL_mem {p : Int} (hp : primeB p = true) {c a : List Int} (h : okT p c a = true) : tgL p c a ∈ allPts p := by
  simp only [okT, Bool.and_eq_true] at h
  exact norm_mem hp rfl (by simpa using h.1)
theorem gs {l : List Int} {i : Nat} {x : Int} (h : i < l.length) : (l.set i x).getD i 0 = x := by simp [List.getD, h]
end Go.Proofs.YtcklfkblhmlbbaaDoor
namespace Go.Proofs.YtcklfkblhmlbbaaDoor
set_option maxRecDepth 10000
set_option linter.unusedSimpArgs false
set_option linter.unusedVariables false
def fxV (p : Int) (c : List Int) : List (List Int) := (allPts p).filter (flB p c)
theorem fxV_eq (p : Int) (c : List Int) : (cpV p c).filter (flB p c) = fxV p c := by
  unfold fxV cpV
  rw [List.filter_filter]
  congr 1
  funext m
  cases h : flB p c m with
  | false => rfl
  | true =>
    simp only [flB, okT, Bool.and_eq_true] at h
    simp [h.1.1.1.2]
theorem fxV_three {p : Int} {c : List Int} : ∀ x ∈ fxV p c, x.length = 3 := fun x hx => allPts_three (List.mem_filter.1 hx).1
theorem fxV_len {p : Int} (hp : primeB p = true) (c : List Int) : (fxV p c).length ≤ 183 := Nat.le_trans (List.length_filter_le _ _) (allPts_len hp).1
theorem one_eq {P : List (List Int)} {a : List Int} (h : P.length = 1) : P = [a] ↔ P.getD 0 [] = a := by
  match P, h with
  | [x], _ => simp
theorem one_eqI {C : List Int} {a : Int} (h : C.length = 1) : C = [a] ↔ C.getD 0 0 = a := by
  match C, h with
  | [x], _ => simp
attribute [local irreducible] CW OW QW QOp Con thenP inBlockP AW QX RW AX
theorem indexP_con (L : List (List Int)) (sp : List Int) (k : Nat) (h3 : ∀ x ∈ L, x.length = 3) (a : List Int) (ha : a.length = 3) (hn9 : L.length ≤ 1000000000) : ConQ Tryd.prog [] 97 [.slice 0 0 L.length k, .arr a] [(0, .ints 29 (L.flatten ++ sp))] (.int (idxL (fun x => decide (a = x)) L)) := by
  have hf3 := flat3 h3
  have h3i : ∀ i, i < L.length → (L.getD i []).length = 3 := fun i hi => h3 _ (getD_mem hi)
  refine conW tab_ok [(0, .slice 0 0 L.length k), (1, .arr a)] 1 [0] [0] Tryd.func97 rfl rfl rfl rfl rfl rfl rfl rfl rfl ?_
  refine cR ?_
  refine oBox rfl rfl rfl rfl rfl rfl ?_
  refine oA rfl rfl ?_
  refine oN ?_
  refine CW_seq ?_
  refine cR ?_
  refine oM rfl rfl ?_
  first | refine oQ (Q_len rfl rfl rfl rfl) rfl rfl ?_ | refine oQ (Q_len0 rfl rfl rfl rfl) rfl rfl ?_
  refine oM rfl rfl ?_
  refine oN ?_
  refine CW_block ?_
  refine CW_loop (ι := Nat) (fun i => i ≤ L.length ∧ ∀ j, j < i → (fun x => decide (a = x)) ((L).getD j []) = false) (fun i => ⟨[(0, .slice 0 0 L.length k), (3, .ptr 1 0), (7, .int (L.length : Nat)), (8, .int (i : Nat))], [(0, .ints 29 (L.flatten ++ sp)), (1, .ints 29 a)], 2⟩) (fun i => L.length - i) 0 ?_ ?_ ?_
  · exact ⟨Nat.zero_le _, fun i h => absurd h (Nat.not_lt_zero _)⟩
  · refine View.mk' [] rfl rfl rfl ?_ ?_
    repeat' first | exact vFn | refine vFc rfl ?_ | exact vHn | refine vHc rfl ?_ | refine vFc (congrArg (fun z => some (V.int z)) ?_) ?_ | refine vHc (congrArg (fun z => some (Blk.ints _ z)) ?_) ?_ | refine vFc (congrArg (fun z => some (V.bool z)) ?_) ?_ | refine vFs rfl rfl ?_ ?_
  rintro i ⟨hi, hi2⟩
  refine cR ?_
  refine oQ (Q_bin rfl rfl rfl) rfl rfl ?_
  refine oN ?_
  refine CW_seq ?_
  first | refine cT rfl ?_ | refine cF rfl ?_ | refine CW_cond rfl (fun hc => ?_) (fun hc => ?_)
  all_goals try simp only [s1, s2, s3, s4, s5, s6, s7, s8, s9, s10, s11, s12] at hc
  all_goals first
    | (
     refine CW_skip ?_)
    | (
     refine CW_exit ?_)
  all_goals first
    | with_reducible refine tR ?_
    | with_reducible refine tE ?_
    | (
     with_reducible refine tN ?_
     refine CW_seq ?_
     refine CW_block ?_
     refine cR ?_
     refine oM rfl rfl ?_
     refine oA rfl rfl ?_
     refine oN ?_
     refine CW_seq ?_
     refine CW_draw lateOk (by decide +kernel) ?_
     refine qQ (Q_ldw rfl rfl rfl rfl ha) rfl rfl ?_
     iterate 2 refine qM rfl rfl ?_
     (have h3i_ := h3i i (by omega)); refine qQ (Q_ixs0z 3 rfl rfl rfl rfl rfl rfl (by omega)) rfl rfl ?_
     refine qQ (Q_lda (n := 3) rfl rfl rfl rfl rfl (by rw [List.length_append, hf3]; omega)) rfl rfl ?_; rw [flat_get h3 (show i < L.length by omega)]
     refine qQ (Q_arrb rfl rfl rfl rfl rfl rfl rfl rfl rfl ha h3i_) rfl rfl ?_
     refine QW_nil ?_
     all_goals with_reducible refine tN ?_
     all_goals (
      first | refine cT rfl ?_ | refine cF rfl ?_ | refine CW_cond rfl (fun hc => ?_) (fun hc => ?_)
      all_goals try simp only [s1, s2, s3, s4, s5, s6, s7, s8, s9, s10, s11, s12] at hc
      all_goals first
        | (
         refine CW_skip ?_)
        | (
         refine cR ?_
         refine oM rfl rfl ?_
         refine oA rfl rfl ?_
         refine oN ?_
         refine CW_ret ?_))
     all_goals first | with_reducible refine bN ?_ | with_reducible refine bE ?_ | with_reducible refine bR ?_ | refine bX rfl ?_
     all_goals first
       | with_reducible refine tR ?_
       | with_reducible refine tE ?_
       | (
        with_reducible refine tN ?_
        refine CW_region ?_
        first | refine oQ (Q_binu rfl rfl rfl (by omega)) rfl rfl ?_ | refine oQ (Q_bin rfl rfl rfl) rfl rfl ?_
        refine oM rfl rfl ?_
        refine OW_nil ?_))
  all_goals first
    | with_reducible refine tR ?_
    | with_reducible refine tE ?_
    | (
     with_reducible refine tN ?_
     refine ⟨i + 1, ?_, ?_, View.mk' [] rfl rfl rfl ?_ ?_⟩
     · refine ⟨by omega, fun j hj => ?_⟩
       by_cases e : j = i
       · subst e; exact decide_eq_false hc
       · exact hi2 j (by omega)
     · omega
     all_goals (repeat' first | exact vFn | refine vFc rfl ?_ | exact vHn | refine vHc rfl ?_ | refine vFc (congrArg (fun z => some (V.int z)) ?_) ?_ | refine vHc (congrArg (fun z => some (Blk.ints _ z)) ?_) ?_ | refine vFc (congrArg (fun z => some (V.bool z)) ?_) ?_ | refine vFs rfl rfl ?_ ?_))
  all_goals first | with_reducible refine bN ?_ | with_reducible refine bE ?_ | with_reducible refine bR ?_ | refine bX rfl ?_
  all_goals first
    | with_reducible refine tR ?_
    | with_reducible refine tE ?_
    | (
     with_reducible refine tN ?_
     refine cR ?_
     refine oA rfl rfl ?_
     refine oN ?_
     refine CW_ret ?_)
  all_goals (
   refine exitQ (.inr rfl) 1 (.cons (.tmp rfl rfl) .nil) ?_ rfl (vHc rfl vHn) rfl rfl
   first
     | exact congrArg V.int (idxL_found (by omega) hi2 (decide_eq_true hc)).symm
     | exact congrArg V.int (idxL_none (fun j hj => hi2 j (by simp at *; omega))).symm
     | rfl)
theorem indexP_nil  (a : List Int) (ha : a.length = 3) : ConQ Tryd.prog [] 97 [.nilsl, .arr a] [] (.int (idxL (fun x => decide (a = x)) ([] : List (List Int)))) := by
  refine conW tab_ok [(0, .nilsl), (1, .arr a)] 0 [] [] Tryd.func97 rfl rfl rfl rfl rfl rfl rfl rfl rfl ?_
  refine cR ?_
  refine oBox rfl rfl rfl rfl rfl rfl ?_
  refine oA rfl rfl ?_
  refine oN ?_
  refine CW_seq ?_
  refine cR ?_
  refine oM rfl rfl ?_
  first | refine oQ (Q_len rfl rfl rfl rfl) rfl rfl ?_ | refine oQ (Q_len0 rfl rfl rfl rfl) rfl rfl ?_
  refine oM rfl rfl ?_
  refine oN ?_
  refine CW_block ?_
  refine CW_loop (ι := Nat) (fun i => i ≤ 0 ∧ ∀ j, j < i → (fun x => decide (a = x)) ((([] : List (List Int))).getD j []) = false) (fun i => ⟨[(0, .nilsl), (3, .ptr 0 0), (7, .int (0 : Nat)), (8, .int (i : Nat))], [(0, .ints 29 a)], 1⟩) (fun i => 0 - i) 0 ?_ ?_ ?_
  · exact ⟨Nat.zero_le _, fun i h => absurd h (Nat.not_lt_zero _)⟩
  · refine View.mk' [] rfl rfl rfl ?_ ?_
    repeat' first | exact vFn | refine vFc rfl ?_ | exact vHn | refine vHc rfl ?_ | refine vFc (congrArg (fun z => some (V.int z)) ?_) ?_ | refine vHc (congrArg (fun z => some (Blk.ints _ z)) ?_) ?_ | refine vFc (congrArg (fun z => some (V.bool z)) ?_) ?_ | refine vFs rfl rfl ?_ ?_
  rintro i ⟨hi, hi2⟩
  refine cR ?_
  refine oQ (Q_bin rfl rfl rfl) rfl rfl ?_
  refine oN ?_
  refine CW_seq ?_
  first | refine cT rfl ?_ | refine cF rfl ?_ | refine CW_cond rfl (fun hc => ?_) (fun hc => ?_)
  all_goals try simp only [s1, s2, s3, s4, s5, s6, s7, s8, s9, s10, s11, s12] at hc
  all_goals try (exfalso; first | omega | (simp at hc; done); done)
  all_goals first
    | (
     refine CW_skip ?_)
    | (
     refine CW_exit ?_)
  all_goals first
    | with_reducible refine tR ?_
    | with_reducible refine tE ?_
    | (
     with_reducible refine tN ?_
     refine CW_seq ?_
     refine CW_block ?_
     refine cR ?_
     refine oM rfl rfl ?_
     refine oA rfl rfl ?_
     refine oN ?_
     refine CW_seq ?_
     refine CW_draw lateOk (by decide +kernel) ?_
     first | refine qQ (Lw rfl rfl rfl rfl) rfl rfl ?_ | refine qQ (La rfl rfl rfl rfl rfl) rfl rfl ?_
     iterate 2 refine qM rfl rfl ?_
     first | refine qQ (Q_ixs0z 3 rfl rfl rfl rfl rfl rfl (by first | omega | (dsimp only; omega) | (simp; omega) | (simp; done))) rfl rfl ?_ | refine qQ (Q_ixsz 3 rfl rfl rfl rfl rfl rfl (by first | omega | (dsimp only; omega) | (simp; omega) | (simp; done))) rfl rfl ?_
     first | refine qQ (Lw rfl rfl rfl rfl) rfl rfl ?_ | refine qQ (La rfl rfl rfl rfl rfl) rfl rfl ?_
     refine qQ (Q_arrb rfl rfl rfl rfl rfl rfl rfl rfl rfl (by first | omega | (dsimp only; omega) | (simp; omega) | (simp; done)) (by first | omega | (dsimp only; omega) | (simp; omega) | (simp; done))) rfl rfl ?_
     refine QW_nil ?_
     all_goals with_reducible refine tN ?_
     all_goals (
      first | refine cT rfl ?_ | refine cF rfl ?_ | refine CW_cond rfl (fun hc => ?_) (fun hc => ?_)
      all_goals try simp only [s1, s2, s3, s4, s5, s6, s7, s8, s9, s10, s11, s12] at hc
      all_goals try (exfalso; first | omega | (simp at hc; done); done)
      all_goals first
        | (
         refine CW_skip ?_)
        | (
         refine cR ?_
         refine oM rfl rfl ?_
         refine oA rfl rfl ?_
         refine oN ?_
         refine CW_ret ?_))
     all_goals first | with_reducible refine bN ?_ | with_reducible refine bE ?_ | with_reducible refine bR ?_ | refine bX rfl ?_
     all_goals first
       | with_reducible refine tR ?_
       | with_reducible refine tE ?_
       | (
        with_reducible refine tN ?_
        refine CW_region ?_
        first | refine oQ (Q_binu rfl rfl rfl (by omega)) rfl rfl ?_ | refine oQ (Q_bin rfl rfl rfl) rfl rfl ?_
        refine oM rfl rfl ?_
        refine OW_nil ?_))
  all_goals first
    | with_reducible refine tR ?_
    | with_reducible refine tE ?_
    | (
     with_reducible refine tN ?_
     refine ⟨i + 1, ?_, ?_, View.mk' [] rfl rfl rfl ?_ ?_⟩
     · refine ⟨by omega, fun j hj => ?_⟩
       by_cases e : j = i
       · subst e; exact decide_eq_false hc
       · exact hi2 j (by omega)
     · omega
     all_goals (repeat' first | exact vFn | refine vFc rfl ?_ | exact vHn | refine vHc rfl ?_ | refine vFc (congrArg (fun z => some (V.int z)) ?_) ?_ | refine vHc (congrArg (fun z => some (Blk.ints _ z)) ?_) ?_ | refine vFc (congrArg (fun z => some (V.bool z)) ?_) ?_ | refine vFs rfl rfl ?_ ?_))
  all_goals first | with_reducible refine bN ?_ | with_reducible refine bE ?_ | with_reducible refine bR ?_ | refine bX rfl ?_
  all_goals first
    | with_reducible refine tR ?_
    | with_reducible refine tE ?_
    | (
     with_reducible refine tN ?_
     refine cR ?_
     refine oA rfl rfl ?_
     refine oN ?_
     refine CW_ret ?_)
  all_goals (
   refine exitQ (.inr rfl) 0 (.cons (.tmp rfl rfl) .nil) ?_ rfl vHn rfl rfl
   first
     | exact congrArg V.int (idxL_found (by omega) hi2 (decide_eq_true hc)).symm
     | exact congrArg V.int (idxL_none (fun j hj => hi2 j (by simp at *; omega))).symm
     | rfl)
theorem isFlexN_con (n : Nat) (c a : List Int) (hp : primeB (n : Int) = true) (hcl : c.length = 10) (qc : smN 12 c) (ha : a ∈ allPts (n : Int)) : ConQ Tryd.prog [(0, 2000)] 63 [.arr c, .int (n : Int), .arr a] [(2000, .ro 0 cuT)] (.bool (flB (n : Int) c a)) := by
  have hal := allPts_three ha
  have hpb := prime_bd hp
  have hqa := allPts_smN hp ha
  have htan := tangent_con (n : Int) c a hp hcl hal qc hqa
  change ConQ _ _ _ _ _ (.tuple [.arr (tgL (n : Int) c a), .bool (okT (n : Int) c a)]) at htan
  have htl : (tgL (n : Int) c a).length = 3 := by unfold tgL; rw [normL_length]; rfl
  by_cases hk : okT (n : Int) c a = true
  · have htm := tgL_mem hp hk
    cases hz : meB (n : Int) c (tgL (n : Int) c a) with
    | true =>
      have hm := multZ_con n c (tgL (n : Int) c a) hp hcl qc htm hz
      have hfl : flB (n : Int) c a = false := by simp [flB, hz]
      rw [hk] at htan
      generalize tgL (n : Int) c a = tt at *
      rw [hfl]
      refine conW tab_ok [(0, .arr c), (1, .int (n : Int)), (2, .arr a)] 0 [2000] [] Tryd.func63 rfl rfl rfl rfl rfl rfl rfl rfl rfl ?_
      refine cR ?_
      iterate 2 refine oBox rfl rfl rfl rfl rfl rfl ?_
      refine oA rfl rfl ?_
      refine oN ?_
      refine cR ?_
      first | refine oQ (Lw rfl rfl rfl rfl) rfl rfl ?_ | refine oQ (La rfl rfl rfl rfl rfl) rfl rfl ?_
      refine oM rfl rfl ?_
      first | refine oQ (Lw rfl rfl rfl rfl) rfl rfl ?_ | refine oQ (La rfl rfl rfl rfl rfl) rfl rfl ?_
      refine oQe (Q_call (htan) [] rfl rfl (Fits.mk' (vHc rfl vHn) rfl rfl (by first | (simp; done) | exact glOk rfl rfl rfl)) rfl rfl) (show _ = .tuple [.arr tt, .bool true] from rfl) rfl rfl ?_
      refine oM rfl rfl ?_
      iterate 2 refine oQ (Q_extract rfl rfl) rfl rfl ?_
      refine oAlloc rfl rfl rfl rfl rfl rfl rfl ?_
      first | refine oSw rfl rfl rfl rfl ?_ | refine oSa rfl rfl rfl rfl ?_
      refine oA rfl rfl ?_
      refine oN ?_
      refine CW_seq ?_
      refine cR ?_
      refine oM rfl rfl ?_
      refine oQ (Q_not rfl) rfl rfl ?_
      refine oN ?_
      first | refine cT rfl ?_ | refine cF rfl ?_ | refine CW_cond rfl (fun hc => ?_) (fun hc => ?_)
      all_goals try simp only [s1, s2, s3, s4, s5, s6, s7, s8, s9, s10, s11, s12] at hc
      all_goals first
        | (
         refine CW_skip ?_)
        | (
         refine cR ?_
         refine oA rfl rfl ?_
         refine oN ?_
         refine CW_ret ?_)
      all_goals first
        | with_reducible refine tR ?_
        | with_reducible refine tE ?_
        | (
         with_reducible refine tN ?_
         refine cR ?_
         first | refine oQ (Lw rfl rfl rfl rfl) rfl rfl ?_ | refine oQ (La rfl rfl rfl rfl rfl) rfl rfl ?_
         refine oM rfl rfl ?_
         first | refine oQ (Lw rfl rfl rfl rfl) rfl rfl ?_ | refine oQ (La rfl rfl rfl rfl rfl) rfl rfl ?_
         refine oQe (Q_call (hm) [] rfl rfl (Fits.mk' (vHc rfl vHn) rfl rfl (by first | (simp; done) | exact glOk rfl rfl rfl)) rfl rfl) (show _ = .tuple [.nilsl, .nilsl, .bool false] from rfl) rfl rfl ?_
         refine oM rfl rfl ?_
         iterate 3 refine oQ (Q_extract rfl rfl) rfl rfl ?_
         iterate 3 refine oA rfl rfl ?_
         refine oN ?_
         refine cR ?_
         refine oM rfl rfl ?_
         first | refine oQ (Lw rfl rfl rfl rfl) rfl rfl ?_ | refine oQ (La rfl rfl rfl rfl rfl) rfl rfl ?_
         refine oQ (Q_call0 (indexP_nil a hal) rfl rfl rfl) rfl rfl ?_
         refine oA rfl rfl ?_
         refine oN ?_
         refine cR ?_
         iterate 2 refine oM rfl rfl ?_
         all_goals first | refine oT rfl rfl ?_ | refine o1 rfl rfl rfl ?_ | refine o0 rfl rfl rfl ?_ | refine ogP1 rfl rfl rfl (fun hg => ?_) (fun hg => ?_) | refine ogP0 rfl rfl rfl (fun hg => ?_) (fun hg => ?_)
         all_goals try simp only [s1, s2, s3, s4, s5, s6, s7, s8, s9, s10, s11, s12] at hg
         all_goals first | (refine oM rfl rfl ?_) | skip
         all_goals first | refine oT rfl rfl ?_ | refine o1 rfl rfl rfl ?_ | refine o0 rfl rfl rfl ?_ | refine ogP1 rfl rfl rfl (fun hg => ?_) (fun hg => ?_) | refine ogP0 rfl rfl rfl (fun hg => ?_) (fun hg => ?_)
         all_goals try simp only [s1, s2, s3, s4, s5, s6, s7, s8, s9, s10, s11, s12] at hg
         all_goals first | (refine oQ (Q_bin rfl rfl rfl) rfl rfl ?_) | skip
         all_goals first | refine oQ (Q_pick_t rfl (by with_reducible rfl) rfl rfl) rfl rfl ?_ | refine oQ (Q_pick_f rfl (by with_reducible rfl) rfl rfl) rfl rfl ?_
         all_goals first | (refine oM rfl rfl ?_)
         all_goals first | refine oT rfl rfl ?_ | refine o1 rfl rfl rfl ?_ | refine o0 rfl rfl rfl ?_ | refine ogP1 rfl rfl rfl (fun hg => ?_) (fun hg => ?_) | refine ogP0 rfl rfl rfl (fun hg => ?_) (fun hg => ?_)
         all_goals try simp only [s1, s2, s3, s4, s5, s6, s7, s8, s9, s10, s11, s12] at hg
         all_goals first | (refine oM rfl rfl ?_) | skip
         all_goals first | refine oT rfl rfl ?_ | refine o1 rfl rfl rfl ?_ | refine o0 rfl rfl rfl ?_ | refine ogP1 rfl rfl rfl (fun hg => ?_) (fun hg => ?_) | refine ogP0 rfl rfl rfl (fun hg => ?_) (fun hg => ?_)
         all_goals try simp only [s1, s2, s3, s4, s5, s6, s7, s8, s9, s10, s11, s12] at hg
         all_goals first | (refine oM rfl rfl ?_) | skip
         all_goals first | refine oT rfl rfl ?_ | refine o1 rfl rfl rfl ?_ | refine o0 rfl rfl rfl ?_ | refine ogP1 rfl rfl rfl (fun hg => ?_) (fun hg => ?_) | refine ogP0 rfl rfl rfl (fun hg => ?_) (fun hg => ?_)
         all_goals try simp only [s1, s2, s3, s4, s5, s6, s7, s8, s9, s10, s11, s12] at hg
         all_goals first | refine oQ (Is0 rfl rfl rfl rfl rfl rfl) rfl rfl ?_ | refine oQ (Is1 rfl rfl rfl rfl rfl rfl) rfl rfl ?_ | skip
         all_goals first | refine oT rfl rfl ?_ | refine o1 rfl rfl rfl ?_ | refine o0 rfl rfl rfl ?_ | refine ogP1 rfl rfl rfl (fun hg => ?_) (fun hg => ?_) | refine ogP0 rfl rfl rfl (fun hg => ?_) (fun hg => ?_)
         all_goals try simp only [s1, s2, s3, s4, s5, s6, s7, s8, s9, s10, s11, s12] at hg
         all_goals first | (refine oQ (Ld rfl rfl rfl rfl) rfl rfl ?_) | skip
         all_goals first | refine oT rfl rfl ?_ | refine o1 rfl rfl rfl ?_ | refine o0 rfl rfl rfl ?_ | refine ogP1 rfl rfl rfl (fun hg => ?_) (fun hg => ?_) | refine ogP0 rfl rfl rfl (fun hg => ?_) (fun hg => ?_)
         all_goals try simp only [s1, s2, s3, s4, s5, s6, s7, s8, s9, s10, s11, s12] at hg
         all_goals first | (refine oQ (Q_bin rfl rfl rfl) rfl rfl ?_) | skip
         all_goals first | refine oQ (Q_pick_t rfl (by with_reducible rfl) rfl rfl) rfl rfl ?_ | refine oQ (Q_pick_f rfl (by with_reducible rfl) rfl rfl) rfl rfl ?_
         all_goals first | (refine oA rfl rfl ?_)
         all_goals refine oN ?_
         all_goals (
          refine CW_ret ?_))
      all_goals (
       ((refine exitQ (.inr rfl) 0 (.cons (.tmp rfl rfl) .nil) ?_ rfl (vHc rfl vHn) rfl rfl); rfl))
    | false =>
      have hm := multN_con n c (tgL (n : Int) c a) hp hcl qc htm hz
      have h3 : ∀ x ∈ mePts (n : Int) c (tgL (n : Int) c a), x.length = 3 := fun x hx => allPts_three (me_mem hx)
      have hln : (mePts (n : Int) c (tgL (n : Int) c a)).length ≤ 1000000000 := by
        have h1 := mPts_len (n : Int) c (lnV (n : Int) (tgL (n : Int) c a)) (lnV (n : Int) (tgL (n : Int) c a)).length
        have h2 := lnV_len hp htm
        unfold mePts
        omega
      have hfe := flex_eq hp c (a := a) htm hz
      have hcl2 := me_len (n : Int) c (tgL (n : Int) c a)
      have hfl : flB (n : Int) c a = (decide (mePts (n : Int) c (tgL (n : Int) c a) = [a]) && decide (meCts (n : Int) c (tgL (n : Int) c a) = [3])) := by simp [flB, hz, hk]
      rw [hk] at htan
      rw [hfl]
      have hix := fun k sp => indexP_con (mePts (n : Int) c (tgL (n : Int) c a)) sp k h3 a hal hln
      have hic := idxL_cases (fun x => decide (a = x)) (mePts (n : Int) c (tgL (n : Int) c a))
      generalize (decide (mePts (n : Int) c (tgL (n : Int) c a) = [a]) && decide (meCts (n : Int) c (tgL (n : Int) c a) = [3])) = bb at *
      generalize mePts (n : Int) c (tgL (n : Int) c a) = PP at *
      generalize meCts (n : Int) c (tgL (n : Int) c a) = CC at *
      generalize tgL (n : Int) c a = tt at *
      generalize idxL (fun x => decide (a = x)) PP = ii at *
      rcases hic with ⟨rfl, _⟩ | ⟨i, rfl, hi, _⟩
      · have hbb : bb = false := by
          rw [Bool.eq_false_iff]
          intro h
          obtain ⟨i, h1, _⟩ := hfe.1 h
          omega
        rw [hbb]
        refine conW tab_ok [(0, .arr c), (1, .int (n : Int)), (2, .arr a)] 0 [2000] [] Tryd.func63 rfl rfl rfl rfl rfl rfl rfl rfl rfl ?_
        refine cR ?_
        iterate 2 refine oBox rfl rfl rfl rfl rfl rfl ?_
        refine oA rfl rfl ?_
        refine oN ?_
        refine cR ?_
        first | refine oQ (Lw rfl rfl rfl rfl) rfl rfl ?_ | refine oQ (La rfl rfl rfl rfl rfl) rfl rfl ?_
        refine oM rfl rfl ?_
        first | refine oQ (Lw rfl rfl rfl rfl) rfl rfl ?_ | refine oQ (La rfl rfl rfl rfl rfl) rfl rfl ?_
        refine oQe (Q_call (htan) [] rfl rfl (Fits.mk' (vHc rfl vHn) rfl rfl (by first | (simp; done) | exact glOk rfl rfl rfl)) rfl rfl) (show _ = .tuple [.arr tt, .bool true] from rfl) rfl rfl ?_
        refine oM rfl rfl ?_
        iterate 2 refine oQ (Q_extract rfl rfl) rfl rfl ?_
        refine oAlloc rfl rfl rfl rfl rfl rfl rfl ?_
        first | refine oSw rfl rfl rfl rfl ?_ | refine oSa rfl rfl rfl rfl ?_
        refine oA rfl rfl ?_
        refine oN ?_
        refine CW_seq ?_
        refine cR ?_
        refine oM rfl rfl ?_
        refine oQ (Q_not rfl) rfl rfl ?_
        refine oN ?_
        first | refine cT rfl ?_ | refine cF rfl ?_ | refine CW_cond rfl (fun hc => ?_) (fun hc => ?_)
        all_goals try simp only [s1, s2, s3, s4, s5, s6, s7, s8, s9, s10, s11, s12] at hc
        all_goals first
          | (
           refine CW_skip ?_)
          | (
           refine cR ?_
           refine oA rfl rfl ?_
           refine oN ?_
           refine CW_ret ?_)
        all_goals first
          | with_reducible refine tR ?_
          | with_reducible refine tE ?_
          | (
           with_reducible refine tN ?_
           refine cR ?_
           first | refine oQ (Lw rfl rfl rfl rfl) rfl rfl ?_ | refine oQ (La rfl rfl rfl rfl rfl) rfl rfl ?_
           refine oM rfl rfl ?_
           first | refine oQ (Lw rfl rfl rfl rfl) rfl rfl ?_ | refine oQ (La rfl rfl rfl rfl rfl) rfl rfl ?_
           refine oCall (hm) [] 2 rfl rfl (Fits.mk' (vHc rfl vHn) rfl rfl (by first | (simp; done) | exact glOk rfl rfl rfl)) rfl rfl ?_
           rintro r H1 ⟨k, sp, k', sp', h1, h2, h3, h4, rfl, rfl⟩
           refine ⟨.tuple [.slice 3 0 PP.length k, .slice 4 0 PP.length k', .bool true], [(2000, .ro 0 cuT), (3, .ints 29 (PP.flatten ++ sp)), (4, .ints 2 (CC ++ sp'))], rfl, rfl, rfl, ?_⟩
           refine oM rfl rfl ?_
           iterate 3 refine oQ (Q_extract rfl rfl) rfl rfl ?_
           iterate 3 refine oA rfl rfl ?_
           refine oN ?_
           refine cR ?_
           refine oM rfl rfl ?_
           first | refine oQ (Lw rfl rfl rfl rfl) rfl rfl ?_ | refine oQ (La rfl rfl rfl rfl rfl) rfl rfl ?_
           refine oQ (Q_call (hix k sp) [(0, 3)] rfl rfl (Fits.mk' (vHc rfl vHn) rfl rfl (by first | (simp; done) | exact glOk rfl rfl rfl)) rfl rfl) rfl rfl ?_
           refine oA rfl rfl ?_
           refine oN ?_
           refine cR ?_
           iterate 2 refine oM rfl rfl ?_
           all_goals first | refine oT rfl rfl ?_ | refine o1 rfl rfl rfl ?_ | refine o0 rfl rfl rfl ?_ | refine ogP1 rfl rfl rfl (fun hg => ?_) (fun hg => ?_) | refine ogP0 rfl rfl rfl (fun hg => ?_) (fun hg => ?_)
           all_goals try simp only [s1, s2, s3, s4, s5, s6, s7, s8, s9, s10, s11, s12] at hg
           all_goals first | (refine oM rfl rfl ?_) | skip
           all_goals first | refine oT rfl rfl ?_ | refine o1 rfl rfl rfl ?_ | refine o0 rfl rfl rfl ?_ | refine ogP1 rfl rfl rfl (fun hg => ?_) (fun hg => ?_) | refine ogP0 rfl rfl rfl (fun hg => ?_) (fun hg => ?_)
           all_goals try simp only [s1, s2, s3, s4, s5, s6, s7, s8, s9, s10, s11, s12] at hg
           all_goals first | (refine oQ (v := .bool false) (Q_bin rfl rfl rfl) rfl rfl ?_) | skip
           all_goals first | refine oQ (Q_pick_t rfl (by with_reducible rfl) rfl rfl) rfl rfl ?_ | refine oQ (Q_pick_f rfl (by with_reducible rfl) rfl rfl) rfl rfl ?_
           all_goals first | (refine oM rfl rfl ?_)
           all_goals first | refine oT rfl rfl ?_ | refine o1 rfl rfl rfl ?_ | refine o0 rfl rfl rfl ?_ | refine ogP1 rfl rfl rfl (fun hg => ?_) (fun hg => ?_) | refine ogP0 rfl rfl rfl (fun hg => ?_) (fun hg => ?_)
           all_goals try simp only [s1, s2, s3, s4, s5, s6, s7, s8, s9, s10, s11, s12] at hg
           all_goals first | (refine oM rfl rfl ?_) | skip
           all_goals first | refine oT rfl rfl ?_ | refine o1 rfl rfl rfl ?_ | refine o0 rfl rfl rfl ?_ | refine ogP1 rfl rfl rfl (fun hg => ?_) (fun hg => ?_) | refine ogP0 rfl rfl rfl (fun hg => ?_) (fun hg => ?_)
           all_goals try simp only [s1, s2, s3, s4, s5, s6, s7, s8, s9, s10, s11, s12] at hg
           all_goals first | (refine oM rfl rfl ?_) | skip
           all_goals first | refine oT rfl rfl ?_ | refine o1 rfl rfl rfl ?_ | refine o0 rfl rfl rfl ?_ | refine ogP1 rfl rfl rfl (fun hg => ?_) (fun hg => ?_) | refine ogP0 rfl rfl rfl (fun hg => ?_) (fun hg => ?_)
           all_goals try simp only [s1, s2, s3, s4, s5, s6, s7, s8, s9, s10, s11, s12] at hg
           all_goals first | refine oQ (Is0 rfl rfl rfl rfl rfl rfl) rfl rfl ?_ | refine oQ (Is1 rfl rfl rfl rfl rfl rfl) rfl rfl ?_ | skip
           all_goals first | refine oT rfl rfl ?_ | refine o1 rfl rfl rfl ?_ | refine o0 rfl rfl rfl ?_ | refine ogP1 rfl rfl rfl (fun hg => ?_) (fun hg => ?_) | refine ogP0 rfl rfl rfl (fun hg => ?_) (fun hg => ?_)
           all_goals try simp only [s1, s2, s3, s4, s5, s6, s7, s8, s9, s10, s11, s12] at hg
           all_goals first | (refine oQ (Ld rfl rfl rfl rfl) rfl rfl ?_) | skip
           all_goals first | refine oT rfl rfl ?_ | refine o1 rfl rfl rfl ?_ | refine o0 rfl rfl rfl ?_ | refine ogP1 rfl rfl rfl (fun hg => ?_) (fun hg => ?_) | refine ogP0 rfl rfl rfl (fun hg => ?_) (fun hg => ?_)
           all_goals try simp only [s1, s2, s3, s4, s5, s6, s7, s8, s9, s10, s11, s12] at hg
           all_goals first | (refine oQ (Q_bin rfl rfl rfl) rfl rfl ?_) | skip
           all_goals first | refine oQ (Q_pick_t rfl (by with_reducible rfl) rfl rfl) rfl rfl ?_ | refine oQ (Q_pick_f rfl (by with_reducible rfl) rfl rfl) rfl rfl ?_
           all_goals first | (refine oA rfl rfl ?_)
           all_goals refine oN ?_
           all_goals (
            refine CW_ret ?_))
        all_goals (
         ((refine exitQ (.inr rfl) 0 (.cons (.tmp rfl rfl) .nil) ?_ rfl (vHc rfl vHn) rfl rfl); rfl))
      · have hbb : bb = decide (CC.getD i 0 = 3) := by
          rw [Bool.eq_iff_iff, hfe]
          constructor
          · rintro ⟨j, h1, h2, h3⟩
            have e : j = i := by omega
            subst e
            simpa using h3
          · intro h
            exact ⟨i, rfl, hi, by simpa using h⟩
        rw [hbb]
        refine conW tab_ok [(0, .arr c), (1, .int (n : Int)), (2, .arr a)] 0 [2000] [] Tryd.func63 rfl rfl rfl rfl rfl rfl rfl rfl rfl ?_
        refine cR ?_
        iterate 2 refine oBox rfl rfl rfl rfl rfl rfl ?_
        refine oA rfl rfl ?_
        refine oN ?_
        refine cR ?_
        first | refine oQ (Lw rfl rfl rfl rfl) rfl rfl ?_ | refine oQ (La rfl rfl rfl rfl rfl) rfl rfl ?_
        refine oM rfl rfl ?_
        first | refine oQ (Lw rfl rfl rfl rfl) rfl rfl ?_ | refine oQ (La rfl rfl rfl rfl rfl) rfl rfl ?_
        refine oQe (Q_call (htan) [] rfl rfl (Fits.mk' (vHc rfl vHn) rfl rfl (by first | (simp; done) | exact glOk rfl rfl rfl)) rfl rfl) (show _ = .tuple [.arr tt, .bool true] from rfl) rfl rfl ?_
        refine oM rfl rfl ?_
        iterate 2 refine oQ (Q_extract rfl rfl) rfl rfl ?_
        refine oAlloc rfl rfl rfl rfl rfl rfl rfl ?_
        first | refine oSw rfl rfl rfl rfl ?_ | refine oSa rfl rfl rfl rfl ?_
        refine oA rfl rfl ?_
        refine oN ?_
        refine CW_seq ?_
        refine cR ?_
        refine oM rfl rfl ?_
        refine oQ (Q_not rfl) rfl rfl ?_
        refine oN ?_
        first | refine cT rfl ?_ | refine cF rfl ?_ | refine CW_cond rfl (fun hc => ?_) (fun hc => ?_)
        all_goals try simp only [s1, s2, s3, s4, s5, s6, s7, s8, s9, s10, s11, s12] at hc
        all_goals first
          | (
           refine CW_skip ?_)
          | (
           refine cR ?_
           refine oA rfl rfl ?_
           refine oN ?_
           refine CW_ret ?_)
        all_goals first
          | with_reducible refine tR ?_
          | with_reducible refine tE ?_
          | (
           with_reducible refine tN ?_
           refine cR ?_
           first | refine oQ (Lw rfl rfl rfl rfl) rfl rfl ?_ | refine oQ (La rfl rfl rfl rfl rfl) rfl rfl ?_
           refine oM rfl rfl ?_
           first | refine oQ (Lw rfl rfl rfl rfl) rfl rfl ?_ | refine oQ (La rfl rfl rfl rfl rfl) rfl rfl ?_
           refine oCall (hm) [] 2 rfl rfl (Fits.mk' (vHc rfl vHn) rfl rfl (by first | (simp; done) | exact glOk rfl rfl rfl)) rfl rfl ?_
           rintro r H1 ⟨k, sp, k', sp', h1, h2, h3, h4, rfl, rfl⟩
           refine ⟨.tuple [.slice 3 0 PP.length k, .slice 4 0 PP.length k', .bool true], [(2000, .ro 0 cuT), (3, .ints 29 (PP.flatten ++ sp)), (4, .ints 2 (CC ++ sp'))], rfl, rfl, rfl, ?_⟩
           refine oM rfl rfl ?_
           iterate 3 refine oQ (Q_extract rfl rfl) rfl rfl ?_
           iterate 3 refine oA rfl rfl ?_
           refine oN ?_
           refine cR ?_
           refine oM rfl rfl ?_
           first | refine oQ (Lw rfl rfl rfl rfl) rfl rfl ?_ | refine oQ (La rfl rfl rfl rfl rfl) rfl rfl ?_
           refine oQ (Q_call (hix k sp) [(0, 3)] rfl rfl (Fits.mk' (vHc rfl vHn) rfl rfl (by first | (simp; done) | exact glOk rfl rfl rfl)) rfl rfl) rfl rfl ?_
           refine oA rfl rfl ?_
           refine oN ?_
           refine cR ?_
           iterate 2 refine oM rfl rfl ?_
           all_goals first | refine oT rfl rfl ?_ | refine o1 rfl rfl rfl ?_ | refine o0 rfl rfl rfl ?_ | refine ogP1 rfl rfl rfl (fun hg => ?_) (fun hg => ?_) | refine ogP0 rfl rfl rfl (fun hg => ?_) (fun hg => ?_)
           all_goals try simp only [s1, s2, s3, s4, s5, s6, s7, s8, s9, s10, s11, s12] at hg
           all_goals first | (refine oM rfl rfl ?_) | skip
           all_goals first | refine oT rfl rfl ?_ | refine o1 rfl rfl rfl ?_ | refine o0 rfl rfl rfl ?_ | refine ogP1 rfl rfl rfl (fun hg => ?_) (fun hg => ?_) | refine ogP0 rfl rfl rfl (fun hg => ?_) (fun hg => ?_)
           all_goals try simp only [s1, s2, s3, s4, s5, s6, s7, s8, s9, s10, s11, s12] at hg
           all_goals first | (refine oQ (v := .bool true) (Q_bin rfl rfl (by simp [arith])) rfl rfl ?_) | skip
           all_goals first | refine oQ (Q_pick_t rfl (by with_reducible rfl) rfl rfl) rfl rfl ?_ | refine oQ (Q_pick_f rfl (by with_reducible rfl) rfl rfl) rfl rfl ?_
           all_goals first | (refine oM rfl rfl ?_)
           all_goals first | refine oT rfl rfl ?_ | refine o1 rfl rfl rfl ?_ | refine o0 rfl rfl rfl ?_ | refine ogP1 rfl rfl rfl (fun hg => ?_) (fun hg => ?_) | refine ogP0 rfl rfl rfl (fun hg => ?_) (fun hg => ?_)
           all_goals try simp only [s1, s2, s3, s4, s5, s6, s7, s8, s9, s10, s11, s12] at hg
           all_goals first | (refine oM rfl rfl ?_) | skip
           all_goals first | refine oT rfl rfl ?_ | refine o1 rfl rfl rfl ?_ | refine o0 rfl rfl rfl ?_ | refine ogP1 rfl rfl rfl (fun hg => ?_) (fun hg => ?_) | refine ogP0 rfl rfl rfl (fun hg => ?_) (fun hg => ?_)
           all_goals try simp only [s1, s2, s3, s4, s5, s6, s7, s8, s9, s10, s11, s12] at hg
           all_goals first | (refine oM rfl rfl ?_) | skip
           all_goals first | refine oT rfl rfl ?_ | refine o1 rfl rfl rfl ?_ | refine o0 rfl rfl rfl ?_ | refine ogP1 rfl rfl rfl (fun hg => ?_) (fun hg => ?_) | refine ogP0 rfl rfl rfl (fun hg => ?_) (fun hg => ?_)
           all_goals try simp only [s1, s2, s3, s4, s5, s6, s7, s8, s9, s10, s11, s12] at hg
           all_goals first | refine oQ (Is0 rfl rfl rfl rfl rfl rfl) rfl rfl ?_ | refine oQ (Is1 rfl rfl rfl rfl rfl rfl) rfl rfl ?_ | skip
           all_goals first | refine oT rfl rfl ?_ | refine o1 rfl rfl rfl ?_ | refine o0 rfl rfl rfl ?_ | refine ogP1 rfl rfl rfl (fun hg => ?_) (fun hg => ?_) | refine ogP0 rfl rfl rfl (fun hg => ?_) (fun hg => ?_)
           all_goals try simp only [s1, s2, s3, s4, s5, s6, s7, s8, s9, s10, s11, s12] at hg
           all_goals first | ((have hcg : (CC ++ sp').getD i 0 = CC.getD i 0 := by simp [List.getD, List.getElem?_append, show i < CC.length by omega]); refine oQ (Ld rfl rfl rfl rfl (by simp; omega)) rfl rfl ?_; rw [hcg]) | skip
           all_goals first | refine oT rfl rfl ?_ | refine o1 rfl rfl rfl ?_ | refine o0 rfl rfl rfl ?_ | refine ogP1 rfl rfl rfl (fun hg => ?_) (fun hg => ?_) | refine ogP0 rfl rfl rfl (fun hg => ?_) (fun hg => ?_)
           all_goals try simp only [s1, s2, s3, s4, s5, s6, s7, s8, s9, s10, s11, s12] at hg
           all_goals first | (refine oQ (Q_bin rfl rfl rfl) rfl rfl ?_) | skip
           all_goals first | refine oQ (Q_pick_t rfl (by with_reducible rfl) rfl rfl) rfl rfl ?_ | refine oQ (Q_pick_f rfl (by with_reducible rfl) rfl rfl) rfl rfl ?_
           all_goals first | (refine oA rfl rfl ?_)
           all_goals refine oN ?_
           all_goals (
            refine CW_ret ?_))
        all_goals (
         refine exitQ (.inr rfl) 0 (.cons (.tmp rfl rfl) .nil) ?_ rfl (vHc rfl vHn) rfl rfl
         simp only [resV]
         first | rfl | (cases hcc : decide (CC.getD i 0 = 3) <;> simp_all))
  · have hk' : okT (n : Int) c a = false := by simpa using hk
    have hfl : flB (n : Int) c a = false := by simp [flB, hk']
    rw [hk'] at htan
    rw [hfl]
    refine conW tab_ok [(0, .arr c), (1, .int (n : Int)), (2, .arr a)] 0 [2000] [] Tryd.func63 rfl rfl rfl rfl rfl rfl rfl rfl rfl ?_
    refine cR ?_
    iterate 2 refine oBox rfl rfl rfl rfl rfl rfl ?_
    refine oA rfl rfl ?_
    refine oN ?_
    refine cR ?_
    first | refine oQ (Lw rfl rfl rfl rfl) rfl rfl ?_ | refine oQ (La rfl rfl rfl rfl rfl) rfl rfl ?_
    refine oM rfl rfl ?_
    first | refine oQ (Lw rfl rfl rfl rfl) rfl rfl ?_ | refine oQ (La rfl rfl rfl rfl rfl) rfl rfl ?_
    refine oQe (Q_call (htan) [] rfl rfl (Fits.mk' (vHc rfl vHn) rfl rfl (by first | (simp; done) | exact glOk rfl rfl rfl)) rfl rfl) (show _ = .tuple [.arr (tgL (n : Int) c a), .bool false] from rfl) rfl rfl ?_
    refine oM rfl rfl ?_
    iterate 2 refine oQ (Q_extract rfl rfl) rfl rfl ?_
    refine oAlloc rfl rfl rfl rfl rfl rfl rfl ?_
    first | refine oSw rfl rfl rfl rfl ?_ | refine oSa rfl rfl rfl rfl ?_
    refine oA rfl rfl ?_
    refine oN ?_
    refine CW_seq ?_
    refine cR ?_
    refine oM rfl rfl ?_
    refine oQ (Q_not rfl) rfl rfl ?_
    refine oN ?_
    first | refine cT rfl ?_ | refine cF rfl ?_ | refine CW_cond rfl (fun hc => ?_) (fun hc => ?_)
    all_goals try simp only [s1, s2, s3, s4, s5, s6, s7, s8, s9, s10, s11, s12] at hc
    all_goals try (exfalso; first | (simp at hc; done) | cases hc; done)
    all_goals first
      | (
       refine CW_skip ?_)
      | (
       refine cR ?_
       refine oA rfl rfl ?_
       refine oN ?_
       refine CW_ret ?_)
    all_goals first
      | with_reducible refine tR ?_
      | with_reducible refine tE ?_
      | (
       with_reducible refine tN ?_
       refine cR ?_
       first | refine oQ (Lw rfl rfl rfl rfl) rfl rfl ?_ | refine oQ (La rfl rfl rfl rfl rfl) rfl rfl ?_
       refine oM rfl rfl ?_
       first | refine oQ (Lw rfl rfl rfl rfl) rfl rfl ?_ | refine oQ (La rfl rfl rfl rfl rfl) rfl rfl ?_
       fail "call of (loop.example/g01310/impl.Cubic).multiplicities at slot 26"
       refine oM rfl rfl ?_
       iterate 3 refine oQ (Q_extract rfl rfl) rfl rfl ?_
       iterate 3 refine oA rfl rfl ?_
       refine oN ?_
       refine cR ?_
       refine oM rfl rfl ?_
       first | refine oQ (Lw rfl rfl rfl rfl) rfl rfl ?_ | refine oQ (La rfl rfl rfl rfl rfl) rfl rfl ?_
       fail "call of slices.Index[[]loop.example/g01310/impl.Point,loop.example/g01310/impl.Point] at slot 32"
       refine oA rfl rfl ?_
       refine oN ?_
       refine cR ?_
       iterate 2 refine oM rfl rfl ?_
       all_goals first | refine oT rfl rfl ?_ | refine o1 rfl rfl rfl ?_ | refine o0 rfl rfl rfl ?_ | refine ogP1 rfl rfl rfl (fun hg => ?_) (fun hg => ?_) | refine ogP0 rfl rfl rfl (fun hg => ?_) (fun hg => ?_)
       all_goals try simp only [s1, s2, s3, s4, s5, s6, s7, s8, s9, s10, s11, s12] at hg
       all_goals first | (refine oM rfl rfl ?_) | skip
       all_goals first | refine oT rfl rfl ?_ | refine o1 rfl rfl rfl ?_ | refine o0 rfl rfl rfl ?_ | refine ogP1 rfl rfl rfl (fun hg => ?_) (fun hg => ?_) | refine ogP0 rfl rfl rfl (fun hg => ?_) (fun hg => ?_)
       all_goals try simp only [s1, s2, s3, s4, s5, s6, s7, s8, s9, s10, s11, s12] at hg
       all_goals first | (refine oQ (Q_bin rfl rfl rfl) rfl rfl ?_) | skip
       all_goals first | refine oQ (Q_pick_t rfl (by with_reducible rfl) rfl rfl) rfl rfl ?_ | refine oQ (Q_pick_f rfl (by with_reducible rfl) rfl rfl) rfl rfl ?_
       all_goals first | (refine oM rfl rfl ?_)
       all_goals first | refine oT rfl rfl ?_ | refine o1 rfl rfl rfl ?_ | refine o0 rfl rfl rfl ?_ | refine ogP1 rfl rfl rfl (fun hg => ?_) (fun hg => ?_) | refine ogP0 rfl rfl rfl (fun hg => ?_) (fun hg => ?_)
       all_goals try simp only [s1, s2, s3, s4, s5, s6, s7, s8, s9, s10, s11, s12] at hg
       all_goals first | (refine oM rfl rfl ?_) | skip
       all_goals first | refine oT rfl rfl ?_ | refine o1 rfl rfl rfl ?_ | refine o0 rfl rfl rfl ?_ | refine ogP1 rfl rfl rfl (fun hg => ?_) (fun hg => ?_) | refine ogP0 rfl rfl rfl (fun hg => ?_) (fun hg => ?_)
       all_goals try simp only [s1, s2, s3, s4, s5, s6, s7, s8, s9, s10, s11, s12] at hg
       all_goals first | (refine oM rfl rfl ?_) | skip
       all_goals first | refine oT rfl rfl ?_ | refine o1 rfl rfl rfl ?_ | refine o0 rfl rfl rfl ?_ | refine ogP1 rfl rfl rfl (fun hg => ?_) (fun hg => ?_) | refine ogP0 rfl rfl rfl (fun hg => ?_) (fun hg => ?_)
       all_goals try simp only [s1, s2, s3, s4, s5, s6, s7, s8, s9, s10, s11, s12] at hg
       all_goals first | refine oQ (Is0 rfl rfl rfl rfl rfl rfl) rfl rfl ?_ | refine oQ (Is1 rfl rfl rfl rfl rfl rfl) rfl rfl ?_ | skip
       all_goals first | refine oT rfl rfl ?_ | refine o1 rfl rfl rfl ?_ | refine o0 rfl rfl rfl ?_ | refine ogP1 rfl rfl rfl (fun hg => ?_) (fun hg => ?_) | refine ogP0 rfl rfl rfl (fun hg => ?_) (fun hg => ?_)
       all_goals try simp only [s1, s2, s3, s4, s5, s6, s7, s8, s9, s10, s11, s12] at hg
       all_goals first | (refine oQ (Ld rfl rfl rfl rfl) rfl rfl ?_) | skip
       all_goals first | refine oT rfl rfl ?_ | refine o1 rfl rfl rfl ?_ | refine o0 rfl rfl rfl ?_ | refine ogP1 rfl rfl rfl (fun hg => ?_) (fun hg => ?_) | refine ogP0 rfl rfl rfl (fun hg => ?_) (fun hg => ?_)
       all_goals try simp only [s1, s2, s3, s4, s5, s6, s7, s8, s9, s10, s11, s12] at hg
       all_goals first | (refine oQ (Q_bin rfl rfl rfl) rfl rfl ?_) | skip
       all_goals first | refine oQ (Q_pick_t rfl (by with_reducible rfl) rfl rfl) rfl rfl ?_ | refine oQ (Q_pick_f rfl (by with_reducible rfl) rfl rfl) rfl rfl ?_
       all_goals first | (refine oA rfl rfl ?_)
       all_goals refine oN ?_
       all_goals (
        refine CW_ret ?_))
    all_goals (
     ((refine exitQ (.inr rfl) 0 (.cons (.tmp rfl rfl) .nil) ?_ rfl (vHc rfl vHn) rfl rfl); rfl))
theorem l06FlexN_con (n : Nat) (c a : List Int) (hp : primeB (n : Int) = true) (hcl : c.length = 10) (qc : smN 12 c) (ha : a ∈ allPts (n : Int)) : ConQ Tryd.prog [] 61 [.int (n : Int), .arr c, .arr a] [] (.bool (flB (n : Int) c a)) := by
  have hal := allPts_three ha
  have hpb := prime_bd hp
  have hqa := allPts_smN hp ha
  have hon := l06On_con (n : Int) c a hp hcl hal qc hqa
  have htan := l06Tangent_con (n : Int) c a hp hcl hal qc hqa
  change ConQ _ _ _ _ _ (.tuple [.arr (tgL (n : Int) c a), .bool (facP (n : Int) (slL (n : Int) c a) != 0)]) at htan
  have htl : (tgL (n : Int) c a).length = 3 := by unfold tgL; rw [normL_length]; rfl
  by_cases hk : okT (n : Int) c a = true
  · have htm := tgL_mem hp hk
    have hk2 := hk
    simp only [okT, Bool.and_eq_true] at hk2
    rw [hk2.2] at hon
    rw [hk2.1] at htan
    cases hz : meB (n : Int) c (tgL (n : Int) c a) with
    | true =>
      have hm := l06MeetZ_con n c (tgL (n : Int) c a) hp hcl qc htm hz
      have hfl : flB (n : Int) c a = false := by simp [flB, hz]
      generalize tgL (n : Int) c a = tt at *
      rw [hfl]
      refine conW tab_ok [(0, .int (n : Int)), (1, .arr c), (2, .arr a)] 0 [] [] Tryd.func61 rfl rfl rfl rfl rfl rfl rfl rfl rfl ?_
      refine cR ?_
      iterate 2 refine oBox rfl rfl rfl rfl rfl rfl ?_
      refine oA rfl rfl ?_
      refine oN ?_
      refine CW_seq ?_
      refine cR ?_
      refine oM rfl rfl ?_
      first | refine oQ (Lw rfl rfl rfl rfl) rfl rfl ?_ | refine oQ (La rfl rfl rfl rfl rfl) rfl rfl ?_
      first | refine oQ (Lw rfl rfl rfl rfl) rfl rfl ?_ | refine oQ (La rfl rfl rfl rfl rfl) rfl rfl ?_
      refine oQ (Q_call0 (hon) rfl rfl rfl) rfl rfl ?_
      refine oQ (Q_not rfl) rfl rfl ?_
      refine oN ?_
      first | refine cT rfl ?_ | refine cF rfl ?_ | refine CW_cond rfl (fun hc => ?_) (fun hc => ?_)
      all_goals try simp only [s1, s2, s3, s4, s5, s6, s7, s8, s9, s10, s11, s12] at hc
      all_goals first
        | (
         refine CW_skip ?_)
        | (
         refine cR ?_
         refine oA rfl rfl ?_
         refine oN ?_
         refine CW_ret ?_)
      all_goals first
        | with_reducible refine tR ?_
        | with_reducible refine tE ?_
        | (
         with_reducible refine tN ?_
         refine cR ?_
         refine oM rfl rfl ?_
         first | refine oQ (Lw rfl rfl rfl rfl) rfl rfl ?_ | refine oQ (La rfl rfl rfl rfl rfl) rfl rfl ?_
         first | refine oQ (Lw rfl rfl rfl rfl) rfl rfl ?_ | refine oQ (La rfl rfl rfl rfl rfl) rfl rfl ?_
         refine oQ (Q_call0 (htan) rfl rfl rfl) rfl rfl ?_
         refine oM rfl rfl ?_
         iterate 2 refine oQ (Q_extract rfl rfl) rfl rfl ?_
         refine oAlloc rfl rfl rfl rfl rfl rfl rfl ?_
         first | refine oSw rfl rfl rfl rfl ?_ | refine oSa rfl rfl rfl rfl ?_
         refine oA rfl rfl ?_
         refine oN ?_
         refine CW_seq ?_
         refine cR ?_
         refine oM rfl rfl ?_
         refine oQ (Q_not rfl) rfl rfl ?_
         refine oN ?_
         first | refine cT rfl ?_ | refine cF rfl ?_ | refine CW_cond rfl (fun hc => ?_) (fun hc => ?_)
         all_goals try simp only [s1, s2, s3, s4, s5, s6, s7, s8, s9, s10, s11, s12] at hc
         all_goals first
           | (
            refine CW_skip ?_)
           | (
            refine cR ?_
            refine oA rfl rfl ?_
            refine oN ?_
            refine CW_ret ?_)
         all_goals first
           | with_reducible refine tR ?_
           | with_reducible refine tE ?_
           | (
            with_reducible refine tN ?_
            refine cR ?_
            refine oM rfl rfl ?_
            first | refine oQ (Lw rfl rfl rfl rfl) rfl rfl ?_ | refine oQ (La rfl rfl rfl rfl rfl) rfl rfl ?_
            first | refine oQ (Lw rfl rfl rfl rfl) rfl rfl ?_ | refine oQ (La rfl rfl rfl rfl rfl) rfl rfl ?_
            refine oQ (Q_call0 (hm) rfl rfl rfl) rfl rfl ?_
            refine oM rfl rfl ?_
            iterate 3 refine oQ (Q_extract rfl rfl) rfl rfl ?_
            iterate 3 refine oA rfl rfl ?_
            refine oN ?_
            refine CW_seq ?_
            refine CW_draw lateOk (by decide +kernel) ?_
            iterate 2 refine qM rfl rfl ?_
            all_goals first | refine qT rfl rfl ?_ | refine q1 rfl rfl rfl ?_ | refine q0 rfl rfl rfl ?_ | refine qgP1 rfl rfl rfl (fun hg => ?_) (fun hg => ?_) | refine qgP0 rfl rfl rfl (fun hg => ?_) (fun hg => ?_)
            all_goals try simp only [s1, s2, s3, s4, s5, s6, s7, s8, s9, s10, s11, s12] at hg
            all_goals first | (refine qM rfl rfl ?_) | skip
            all_goals first | refine qT rfl rfl ?_ | refine q1 rfl rfl rfl ?_ | refine q0 rfl rfl rfl ?_ | refine qgP1 rfl rfl rfl (fun hg => ?_) (fun hg => ?_) | refine qgP0 rfl rfl rfl (fun hg => ?_) (fun hg => ?_)
            all_goals try simp only [s1, s2, s3, s4, s5, s6, s7, s8, s9, s10, s11, s12] at hg
            all_goals first | refine qQ (Q_len rfl rfl rfl rfl) rfl rfl ?_ | refine qQ (Q_len0 rfl rfl rfl rfl) rfl rfl ?_ | skip
            all_goals first | refine qT rfl rfl ?_ | refine q1 rfl rfl rfl ?_ | refine q0 rfl rfl rfl ?_ | refine qgP1 rfl rfl rfl (fun hg => ?_) (fun hg => ?_) | refine qgP0 rfl rfl rfl (fun hg => ?_) (fun hg => ?_)
            all_goals try simp only [s1, s2, s3, s4, s5, s6, s7, s8, s9, s10, s11, s12] at hg
            all_goals first | (refine qQ (Q_bin rfl rfl rfl) rfl rfl ?_) | skip
            all_goals first | refine qQ (Q_pick_t rfl (by with_reducible rfl) rfl rfl) rfl rfl ?_ | refine qQ (Q_pick_f rfl (by with_reducible rfl) rfl rfl) rfl rfl ?_
            all_goals first | (refine qM rfl rfl ?_)
            all_goals first | refine qT rfl rfl ?_ | refine q1 rfl rfl rfl ?_ | refine q0 rfl rfl rfl ?_ | refine qgP1 rfl rfl rfl (fun hg => ?_) (fun hg => ?_) | refine qgP0 rfl rfl rfl (fun hg => ?_) (fun hg => ?_)
            all_goals try simp only [s1, s2, s3, s4, s5, s6, s7, s8, s9, s10, s11, s12] at hg
            all_goals first | (refine qM rfl rfl ?_) | skip
            all_goals first | refine qT rfl rfl ?_ | refine q1 rfl rfl rfl ?_ | refine q0 rfl rfl rfl ?_ | refine qgP1 rfl rfl rfl (fun hg => ?_) (fun hg => ?_) | refine qgP0 rfl rfl rfl (fun hg => ?_) (fun hg => ?_)
            all_goals try simp only [s1, s2, s3, s4, s5, s6, s7, s8, s9, s10, s11, s12] at hg
            all_goals first | refine qQ (Q_ixs0z 3 rfl rfl rfl rfl rfl rfl (by first | omega | (dsimp only; omega) | (simp; omega) | (simp; done))) rfl rfl ?_ | refine qQ (Q_ixsz 3 rfl rfl rfl rfl rfl rfl (by first | omega | (dsimp only; omega) | (simp; omega) | (simp; done))) rfl rfl ?_ | skip
            all_goals first | refine qT rfl rfl ?_ | refine q1 rfl rfl rfl ?_ | refine q0 rfl rfl rfl ?_ | refine qgP1 rfl rfl rfl (fun hg => ?_) (fun hg => ?_) | refine qgP0 rfl rfl rfl (fun hg => ?_) (fun hg => ?_)
            all_goals try simp only [s1, s2, s3, s4, s5, s6, s7, s8, s9, s10, s11, s12] at hg
            all_goals first | refine qQ (Lw rfl rfl rfl rfl) rfl rfl ?_ | refine qQ (La rfl rfl rfl rfl rfl) rfl rfl ?_ | skip
            all_goals first | refine qT rfl rfl ?_ | refine q1 rfl rfl rfl ?_ | refine q0 rfl rfl rfl ?_ | refine qgP1 rfl rfl rfl (fun hg => ?_) (fun hg => ?_) | refine qgP0 rfl rfl rfl (fun hg => ?_) (fun hg => ?_)
            all_goals try simp only [s1, s2, s3, s4, s5, s6, s7, s8, s9, s10, s11, s12] at hg
            all_goals first | refine qQ (Lw rfl rfl rfl rfl) rfl rfl ?_ | refine qQ (La rfl rfl rfl rfl rfl) rfl rfl ?_ | skip
            all_goals first | refine qT rfl rfl ?_ | refine q1 rfl rfl rfl ?_ | refine q0 rfl rfl rfl ?_ | refine qgP1 rfl rfl rfl (fun hg => ?_) (fun hg => ?_) | refine qgP0 rfl rfl rfl (fun hg => ?_) (fun hg => ?_)
            all_goals try simp only [s1, s2, s3, s4, s5, s6, s7, s8, s9, s10, s11, s12] at hg
            all_goals first | (refine qQ (Q_arrb rfl rfl rfl rfl rfl rfl rfl rfl rfl (by first | omega | (dsimp only; omega) | (simp; omega) | (simp; done)) (by first | omega | (dsimp only; omega) | (simp; omega) | (simp; done))) rfl rfl ?_) | skip
            all_goals first | refine qQ (Q_pick_t rfl (by with_reducible rfl) rfl rfl) rfl rfl ?_ | refine qQ (Q_pick_f rfl (by with_reducible rfl) rfl rfl) rfl rfl ?_
            all_goals first | (refine qM rfl rfl ?_)
            all_goals first | refine qT rfl rfl ?_ | refine q1 rfl rfl rfl ?_ | refine q0 rfl rfl rfl ?_ | refine qgP1 rfl rfl rfl (fun hg => ?_) (fun hg => ?_) | refine qgP0 rfl rfl rfl (fun hg => ?_) (fun hg => ?_)
            all_goals try simp only [s1, s2, s3, s4, s5, s6, s7, s8, s9, s10, s11, s12] at hg
            all_goals first | (refine qM rfl rfl ?_) | skip
            all_goals first | refine qT rfl rfl ?_ | refine q1 rfl rfl rfl ?_ | refine q0 rfl rfl rfl ?_ | refine qgP1 rfl rfl rfl (fun hg => ?_) (fun hg => ?_) | refine qgP0 rfl rfl rfl (fun hg => ?_) (fun hg => ?_)
            all_goals try simp only [s1, s2, s3, s4, s5, s6, s7, s8, s9, s10, s11, s12] at hg
            all_goals first | refine qQ (Is0 rfl rfl rfl rfl rfl rfl) rfl rfl ?_ | refine qQ (Is1 rfl rfl rfl rfl rfl rfl) rfl rfl ?_ | skip
            all_goals first | refine qT rfl rfl ?_ | refine q1 rfl rfl rfl ?_ | refine q0 rfl rfl rfl ?_ | refine qgP1 rfl rfl rfl (fun hg => ?_) (fun hg => ?_) | refine qgP0 rfl rfl rfl (fun hg => ?_) (fun hg => ?_)
            all_goals try simp only [s1, s2, s3, s4, s5, s6, s7, s8, s9, s10, s11, s12] at hg
            all_goals first | (refine qQ (Ld rfl rfl rfl rfl) rfl rfl ?_) | skip
            all_goals first | refine qT rfl rfl ?_ | refine q1 rfl rfl rfl ?_ | refine q0 rfl rfl rfl ?_ | refine qgP1 rfl rfl rfl (fun hg => ?_) (fun hg => ?_) | refine qgP0 rfl rfl rfl (fun hg => ?_) (fun hg => ?_)
            all_goals try simp only [s1, s2, s3, s4, s5, s6, s7, s8, s9, s10, s11, s12] at hg
            all_goals first | (refine qQ (Q_bin rfl rfl rfl) rfl rfl ?_) | skip
            all_goals first | refine qQ (Q_pick_t rfl (by with_reducible rfl) rfl rfl) rfl rfl ?_ | refine qQ (Q_pick_f rfl (by with_reducible rfl) rfl rfl) rfl rfl ?_
            all_goals first | (refine qA rfl rfl ?_)
            all_goals refine QW_nil ?_
            all_goals with_reducible refine tN ?_
            all_goals (
             refine CW_ret ?_)))
      all_goals (
       ((refine exitQ (.inr rfl) 0 (.cons (.tmp rfl rfl) .nil) ?_ rfl vHn rfl rfl); rfl))
    | false =>
      have hm := l06MeetN_con n c (tgL (n : Int) c a) hp hcl qc htm hz
      have h3 : ∀ x ∈ mePts (n : Int) c (tgL (n : Int) c a), x.length = 3 := fun x hx => allPts_three (me_mem hx)
      have hf3 := flat3 h3
      have hcl2 := me_len (n : Int) c (tgL (n : Int) c a)
      have hfl : flB (n : Int) c a = (decide (mePts (n : Int) c (tgL (n : Int) c a) = [a]) && decide (meCts (n : Int) c (tgL (n : Int) c a) = [3])) := by simp [flB, hz, hk]
      have hln : (mePts (n : Int) c (tgL (n : Int) c a)).length ≤ 1000000000 := by
        have h1 := mPts_len (n : Int) c (lnV (n : Int) (tgL (n : Int) c a)) (lnV (n : Int) (tgL (n : Int) c a)).length
        have h2 := lnV_len hp htm
        unfold mePts
        omega
      rw [hfl]
      generalize mePts (n : Int) c (tgL (n : Int) c a) = PP at *
      generalize meCts (n : Int) c (tgL (n : Int) c a) = CC at *
      generalize tgL (n : Int) c a = tt at *
      by_cases h1P : PP.length = 1
      · have hCC : CC.length = 1 := by omega
        have h1T : ((PP.length : Int) == 1) = true := by rw [beq_iff_eq]; omega
        have hP3 := h3
        have h30 : (PP.getD 0 []).length = 3 := h3 _ (getD_mem (by omega))
        have e1 := one_eq (a := a) h1P
        have e2 := one_eqI (a := 3) hCC
        by_cases hpa : PP.getD 0 [] = a
        · have hbb : (decide (PP = [a]) && decide (CC = [3])) = decide (CC.getD 0 0 = 3) := by
            rw [decide_eq_true (e1.2 hpa), Bool.true_and]
            exact decide_eq_decide.2 e2
          rw [hbb]
          refine conW tab_ok [(0, .int (n : Int)), (1, .arr c), (2, .arr a)] 0 [] [] Tryd.func61 rfl rfl rfl rfl rfl rfl rfl rfl rfl ?_
          refine cR ?_
          iterate 2 refine oBox rfl rfl rfl rfl rfl rfl ?_
          refine oA rfl rfl ?_
          refine oN ?_
          refine CW_seq ?_
          refine cR ?_
          refine oM rfl rfl ?_
          first | refine oQ (Lw rfl rfl rfl rfl) rfl rfl ?_ | refine oQ (La rfl rfl rfl rfl rfl) rfl rfl ?_
          first | refine oQ (Lw rfl rfl rfl rfl) rfl rfl ?_ | refine oQ (La rfl rfl rfl rfl rfl) rfl rfl ?_
          refine oQ (Q_call0 (hon) rfl rfl rfl) rfl rfl ?_
          refine oQ (Q_not rfl) rfl rfl ?_
          refine oN ?_
          first | refine cT rfl ?_ | refine cF rfl ?_ | refine CW_cond rfl (fun hc => ?_) (fun hc => ?_)
          all_goals try simp only [s1, s2, s3, s4, s5, s6, s7, s8, s9, s10, s11, s12] at hc
          all_goals first
            | (
             refine CW_skip ?_)
            | (
             refine cR ?_
             refine oA rfl rfl ?_
             refine oN ?_
             refine CW_ret ?_)
          all_goals first
            | with_reducible refine tR ?_
            | with_reducible refine tE ?_
            | (
             with_reducible refine tN ?_
             refine cR ?_
             refine oM rfl rfl ?_
             first | refine oQ (Lw rfl rfl rfl rfl) rfl rfl ?_ | refine oQ (La rfl rfl rfl rfl rfl) rfl rfl ?_
             first | refine oQ (Lw rfl rfl rfl rfl) rfl rfl ?_ | refine oQ (La rfl rfl rfl rfl rfl) rfl rfl ?_
             refine oQ (Q_call0 (htan) rfl rfl rfl) rfl rfl ?_
             refine oM rfl rfl ?_
             iterate 2 refine oQ (Q_extract rfl rfl) rfl rfl ?_
             refine oAlloc rfl rfl rfl rfl rfl rfl rfl ?_
             first | refine oSw rfl rfl rfl rfl ?_ | refine oSa rfl rfl rfl rfl ?_
             refine oA rfl rfl ?_
             refine oN ?_
             refine CW_seq ?_
             refine cR ?_
             refine oM rfl rfl ?_
             refine oQ (Q_not rfl) rfl rfl ?_
             refine oN ?_
             first | refine cT rfl ?_ | refine cF rfl ?_ | refine CW_cond rfl (fun hc => ?_) (fun hc => ?_)
             all_goals try simp only [s1, s2, s3, s4, s5, s6, s7, s8, s9, s10, s11, s12] at hc
             all_goals first
               | (
                refine CW_skip ?_)
               | (
                refine cR ?_
                refine oA rfl rfl ?_
                refine oN ?_
                refine CW_ret ?_)
             all_goals first
               | with_reducible refine tR ?_
               | with_reducible refine tE ?_
               | (
                with_reducible refine tN ?_
                refine cR ?_
                refine oM rfl rfl ?_
                first | refine oQ (Lw rfl rfl rfl rfl) rfl rfl ?_ | refine oQ (La rfl rfl rfl rfl rfl) rfl rfl ?_
                first | refine oQ (Lw rfl rfl rfl rfl) rfl rfl ?_ | refine oQ (La rfl rfl rfl rfl rfl) rfl rfl ?_
                refine oCall (hm) [] 2 rfl rfl (Fits.mk' vHn rfl rfl (by first | (simp; done) | exact glOk rfl rfl rfl)) rfl rfl ?_
                rintro r H1 ⟨k, sp, k', sp', h1, h2, h3, h4, rfl, rfl⟩
                refine ⟨.tuple [.slice 3 0 PP.length k, .slice 4 0 PP.length k', .bool true], [(3, .ints 29 (PP.flatten ++ sp)), (4, .ints 2 (CC ++ sp'))], rfl, rfl, rfl, ?_⟩
                refine oM rfl rfl ?_
                iterate 3 refine oQ (Q_extract rfl rfl) rfl rfl ?_
                iterate 3 refine oA rfl rfl ?_
                refine oN ?_
                refine CW_seq ?_
                refine CW_draw lateOk (by decide +kernel) ?_
                iterate 2 refine qM rfl rfl ?_
                all_goals first | refine qT rfl rfl ?_ | refine q1 rfl rfl rfl ?_ | refine q0 rfl rfl rfl ?_ | refine qgP1 rfl rfl rfl (fun hg => ?_) (fun hg => ?_) | refine qgP0 rfl rfl rfl (fun hg => ?_) (fun hg => ?_)
                all_goals try simp only [s1, s2, s3, s4, s5, s6, s7, s8, s9, s10, s11, s12] at hg
                all_goals first | (refine qM rfl rfl ?_) | skip
                all_goals first | refine qT rfl rfl ?_ | refine q1 rfl rfl rfl ?_ | refine q0 rfl rfl rfl ?_ | refine qgP1 rfl rfl rfl (fun hg => ?_) (fun hg => ?_) | refine qgP0 rfl rfl rfl (fun hg => ?_) (fun hg => ?_)
                all_goals try simp only [s1, s2, s3, s4, s5, s6, s7, s8, s9, s10, s11, s12] at hg
                all_goals first | refine qQ (Q_len rfl rfl rfl rfl) rfl rfl ?_ | refine qQ (Q_len0 rfl rfl rfl rfl) rfl rfl ?_ | skip
                all_goals first | refine qT rfl rfl ?_ | refine q1 rfl rfl rfl ?_ | refine q0 rfl rfl rfl ?_ | refine qgP1 rfl rfl rfl (fun hg => ?_) (fun hg => ?_) | refine qgP0 rfl rfl rfl (fun hg => ?_) (fun hg => ?_)
                all_goals try simp only [s1, s2, s3, s4, s5, s6, s7, s8, s9, s10, s11, s12] at hg
                all_goals first | (refine qQ (v := .bool true) (Q_bin rfl rfl (by simp only [arith]; rw [h1T])) rfl rfl ?_) | skip
                all_goals first | refine qQ (Q_pick_t rfl (by with_reducible rfl) rfl rfl) rfl rfl ?_ | refine qQ (Q_pick_f rfl (by with_reducible rfl) rfl rfl) rfl rfl ?_
                all_goals first | (refine qM rfl rfl ?_)
                all_goals first | refine qT rfl rfl ?_ | refine q1 rfl rfl rfl ?_ | refine q0 rfl rfl rfl ?_ | refine qgP1 rfl rfl rfl (fun hg => ?_) (fun hg => ?_) | refine qgP0 rfl rfl rfl (fun hg => ?_) (fun hg => ?_)
                all_goals try simp only [s1, s2, s3, s4, s5, s6, s7, s8, s9, s10, s11, s12] at hg
                all_goals first | (refine qM rfl rfl ?_) | skip
                all_goals first | refine qT rfl rfl ?_ | refine q1 rfl rfl rfl ?_ | refine q0 rfl rfl rfl ?_ | refine qgP1 rfl rfl rfl (fun hg => ?_) (fun hg => ?_) | refine qgP0 rfl rfl rfl (fun hg => ?_) (fun hg => ?_)
                all_goals try simp only [s1, s2, s3, s4, s5, s6, s7, s8, s9, s10, s11, s12] at hg
                all_goals first | (refine qQ (Q_ixs0z 3 (j := 0) rfl rfl rfl rfl rfl rfl (by omega)) rfl rfl ?_) | skip
                all_goals first | refine qT rfl rfl ?_ | refine q1 rfl rfl rfl ?_ | refine q0 rfl rfl rfl ?_ | refine qgP1 rfl rfl rfl (fun hg => ?_) (fun hg => ?_) | refine qgP0 rfl rfl rfl (fun hg => ?_) (fun hg => ?_)
                all_goals try simp only [s1, s2, s3, s4, s5, s6, s7, s8, s9, s10, s11, s12] at hg
                all_goals first | (refine qQ (Q_lda (n := 3) rfl rfl rfl rfl rfl (by rw [List.length_append, hf3]; omega)) rfl rfl ?_; rw [flat_get hP3 (show 0 < PP.length by omega)]) | skip
                all_goals first | refine qT rfl rfl ?_ | refine q1 rfl rfl rfl ?_ | refine q0 rfl rfl rfl ?_ | refine qgP1 rfl rfl rfl (fun hg => ?_) (fun hg => ?_) | refine qgP0 rfl rfl rfl (fun hg => ?_) (fun hg => ?_)
                all_goals try simp only [s1, s2, s3, s4, s5, s6, s7, s8, s9, s10, s11, s12] at hg
                all_goals first | refine qQ (Lw rfl rfl rfl rfl) rfl rfl ?_ | refine qQ (La rfl rfl rfl rfl rfl) rfl rfl ?_ | skip
                all_goals first | refine qT rfl rfl ?_ | refine q1 rfl rfl rfl ?_ | refine q0 rfl rfl rfl ?_ | refine qgP1 rfl rfl rfl (fun hg => ?_) (fun hg => ?_) | refine qgP0 rfl rfl rfl (fun hg => ?_) (fun hg => ?_)
                all_goals try simp only [s1, s2, s3, s4, s5, s6, s7, s8, s9, s10, s11, s12] at hg
                all_goals first | (refine qQ (Q_arrb rfl rfl rfl rfl rfl rfl rfl rfl rfl h30 hal) rfl rfl ?_; rw [decide_eq_true hpa]) | skip
                all_goals first | refine qQ (Q_pick_t rfl (by with_reducible rfl) rfl rfl) rfl rfl ?_ | refine qQ (Q_pick_f rfl (by with_reducible rfl) rfl rfl) rfl rfl ?_
                all_goals first | (refine qM rfl rfl ?_)
                all_goals first | refine qT rfl rfl ?_ | refine q1 rfl rfl rfl ?_ | refine q0 rfl rfl rfl ?_ | refine qgP1 rfl rfl rfl (fun hg => ?_) (fun hg => ?_) | refine qgP0 rfl rfl rfl (fun hg => ?_) (fun hg => ?_)
                all_goals try simp only [s1, s2, s3, s4, s5, s6, s7, s8, s9, s10, s11, s12] at hg
                all_goals first | (refine qM rfl rfl ?_) | skip
                all_goals first | refine qT rfl rfl ?_ | refine q1 rfl rfl rfl ?_ | refine q0 rfl rfl rfl ?_ | refine qgP1 rfl rfl rfl (fun hg => ?_) (fun hg => ?_) | refine qgP0 rfl rfl rfl (fun hg => ?_) (fun hg => ?_)
                all_goals try simp only [s1, s2, s3, s4, s5, s6, s7, s8, s9, s10, s11, s12] at hg
                all_goals first | refine qQ (Is0 rfl rfl rfl rfl rfl rfl) rfl rfl ?_ | refine qQ (Is1 rfl rfl rfl rfl rfl rfl) rfl rfl ?_ | skip
                all_goals first | refine qT rfl rfl ?_ | refine q1 rfl rfl rfl ?_ | refine q0 rfl rfl rfl ?_ | refine qgP1 rfl rfl rfl (fun hg => ?_) (fun hg => ?_) | refine qgP0 rfl rfl rfl (fun hg => ?_) (fun hg => ?_)
                all_goals try simp only [s1, s2, s3, s4, s5, s6, s7, s8, s9, s10, s11, s12] at hg
                all_goals first | ((have hcg : (CC ++ sp').getD 0 0 = CC.getD 0 0 := by simp [List.getD, List.getElem?_append, show 0 < CC.length by omega]); refine qQ (Ld rfl rfl rfl rfl (by simp; omega)) rfl rfl ?_; rw [hcg]) | skip
                all_goals first | refine qT rfl rfl ?_ | refine q1 rfl rfl rfl ?_ | refine q0 rfl rfl rfl ?_ | refine qgP1 rfl rfl rfl (fun hg => ?_) (fun hg => ?_) | refine qgP0 rfl rfl rfl (fun hg => ?_) (fun hg => ?_)
                all_goals try simp only [s1, s2, s3, s4, s5, s6, s7, s8, s9, s10, s11, s12] at hg
                all_goals first | (refine qQ (Q_bin rfl rfl rfl) rfl rfl ?_) | skip
                all_goals first | refine qQ (Q_pick_t rfl (by with_reducible rfl) rfl rfl) rfl rfl ?_ | refine qQ (Q_pick_f rfl (by with_reducible rfl) rfl rfl) rfl rfl ?_
                all_goals first | (refine qA rfl rfl ?_)
                all_goals refine QW_nil ?_
                all_goals with_reducible refine tN ?_
                all_goals (
                 refine CW_ret ?_)))
          all_goals (
           refine exitQ (.inr rfl) 0 (.cons (.tmp rfl rfl) .nil) ?_ rfl vHn rfl rfl
           simp only [resV]
           first | rfl | (cases hcc : decide (CC.getD 0 0 = 3) <;> simp_all))
        · have hbb : (decide (PP = [a]) && decide (CC = [3])) = false := by
            rw [decide_eq_false (fun x => hpa (e1.1 x)), Bool.false_and]
          rw [hbb]
          refine conW tab_ok [(0, .int (n : Int)), (1, .arr c), (2, .arr a)] 0 [] [] Tryd.func61 rfl rfl rfl rfl rfl rfl rfl rfl rfl ?_
          refine cR ?_
          iterate 2 refine oBox rfl rfl rfl rfl rfl rfl ?_
          refine oA rfl rfl ?_
          refine oN ?_
          refine CW_seq ?_
          refine cR ?_
          refine oM rfl rfl ?_
          first | refine oQ (Lw rfl rfl rfl rfl) rfl rfl ?_ | refine oQ (La rfl rfl rfl rfl rfl) rfl rfl ?_
          first | refine oQ (Lw rfl rfl rfl rfl) rfl rfl ?_ | refine oQ (La rfl rfl rfl rfl rfl) rfl rfl ?_
          refine oQ (Q_call0 (hon) rfl rfl rfl) rfl rfl ?_
          refine oQ (Q_not rfl) rfl rfl ?_
          refine oN ?_
          first | refine cT rfl ?_ | refine cF rfl ?_ | refine CW_cond rfl (fun hc => ?_) (fun hc => ?_)
          all_goals try simp only [s1, s2, s3, s4, s5, s6, s7, s8, s9, s10, s11, s12] at hc
          all_goals first
            | (
             refine CW_skip ?_)
            | (
             refine cR ?_
             refine oA rfl rfl ?_
             refine oN ?_
             refine CW_ret ?_)
          all_goals first
            | with_reducible refine tR ?_
            | with_reducible refine tE ?_
            | (
             with_reducible refine tN ?_
             refine cR ?_
             refine oM rfl rfl ?_
             first | refine oQ (Lw rfl rfl rfl rfl) rfl rfl ?_ | refine oQ (La rfl rfl rfl rfl rfl) rfl rfl ?_
             first | refine oQ (Lw rfl rfl rfl rfl) rfl rfl ?_ | refine oQ (La rfl rfl rfl rfl rfl) rfl rfl ?_
             refine oQ (Q_call0 (htan) rfl rfl rfl) rfl rfl ?_
             refine oM rfl rfl ?_
             iterate 2 refine oQ (Q_extract rfl rfl) rfl rfl ?_
             refine oAlloc rfl rfl rfl rfl rfl rfl rfl ?_
             first | refine oSw rfl rfl rfl rfl ?_ | refine oSa rfl rfl rfl rfl ?_
             refine oA rfl rfl ?_
             refine oN ?_
             refine CW_seq ?_
             refine cR ?_
             refine oM rfl rfl ?_
             refine oQ (Q_not rfl) rfl rfl ?_
             refine oN ?_
             first | refine cT rfl ?_ | refine cF rfl ?_ | refine CW_cond rfl (fun hc => ?_) (fun hc => ?_)
             all_goals try simp only [s1, s2, s3, s4, s5, s6, s7, s8, s9, s10, s11, s12] at hc
             all_goals first
               | (
                refine CW_skip ?_)
               | (
                refine cR ?_
                refine oA rfl rfl ?_
                refine oN ?_
                refine CW_ret ?_)
             all_goals first
               | with_reducible refine tR ?_
               | with_reducible refine tE ?_
               | (
                with_reducible refine tN ?_
                refine cR ?_
                refine oM rfl rfl ?_
                first | refine oQ (Lw rfl rfl rfl rfl) rfl rfl ?_ | refine oQ (La rfl rfl rfl rfl rfl) rfl rfl ?_
                first | refine oQ (Lw rfl rfl rfl rfl) rfl rfl ?_ | refine oQ (La rfl rfl rfl rfl rfl) rfl rfl ?_
                refine oCall (hm) [] 2 rfl rfl (Fits.mk' vHn rfl rfl (by first | (simp; done) | exact glOk rfl rfl rfl)) rfl rfl ?_
                rintro r H1 ⟨k, sp, k', sp', h1, h2, h3, h4, rfl, rfl⟩
                refine ⟨.tuple [.slice 3 0 PP.length k, .slice 4 0 PP.length k', .bool true], [(3, .ints 29 (PP.flatten ++ sp)), (4, .ints 2 (CC ++ sp'))], rfl, rfl, rfl, ?_⟩
                refine oM rfl rfl ?_
                iterate 3 refine oQ (Q_extract rfl rfl) rfl rfl ?_
                iterate 3 refine oA rfl rfl ?_
                refine oN ?_
                refine CW_seq ?_
                refine CW_draw lateOk (by decide +kernel) ?_
                iterate 2 refine qM rfl rfl ?_
                all_goals first | refine qT rfl rfl ?_ | refine q1 rfl rfl rfl ?_ | refine q0 rfl rfl rfl ?_ | refine qgP1 rfl rfl rfl (fun hg => ?_) (fun hg => ?_) | refine qgP0 rfl rfl rfl (fun hg => ?_) (fun hg => ?_)
                all_goals try simp only [s1, s2, s3, s4, s5, s6, s7, s8, s9, s10, s11, s12] at hg
                all_goals first | (refine qM rfl rfl ?_) | skip
                all_goals first | refine qT rfl rfl ?_ | refine q1 rfl rfl rfl ?_ | refine q0 rfl rfl rfl ?_ | refine qgP1 rfl rfl rfl (fun hg => ?_) (fun hg => ?_) | refine qgP0 rfl rfl rfl (fun hg => ?_) (fun hg => ?_)
                all_goals try simp only [s1, s2, s3, s4, s5, s6, s7, s8, s9, s10, s11, s12] at hg
                all_goals first | refine qQ (Q_len rfl rfl rfl rfl) rfl rfl ?_ | refine qQ (Q_len0 rfl rfl rfl rfl) rfl rfl ?_ | skip
                all_goals first | refine qT rfl rfl ?_ | refine q1 rfl rfl rfl ?_ | refine q0 rfl rfl rfl ?_ | refine qgP1 rfl rfl rfl (fun hg => ?_) (fun hg => ?_) | refine qgP0 rfl rfl rfl (fun hg => ?_) (fun hg => ?_)
                all_goals try simp only [s1, s2, s3, s4, s5, s6, s7, s8, s9, s10, s11, s12] at hg
                all_goals first | (refine qQ (v := .bool true) (Q_bin rfl rfl (by simp only [arith]; rw [h1T])) rfl rfl ?_) | skip
                all_goals first | refine qQ (Q_pick_t rfl (by with_reducible rfl) rfl rfl) rfl rfl ?_ | refine qQ (Q_pick_f rfl (by with_reducible rfl) rfl rfl) rfl rfl ?_
                all_goals first | (refine qM rfl rfl ?_)
                all_goals first | refine qT rfl rfl ?_ | refine q1 rfl rfl rfl ?_ | refine q0 rfl rfl rfl ?_ | refine qgP1 rfl rfl rfl (fun hg => ?_) (fun hg => ?_) | refine qgP0 rfl rfl rfl (fun hg => ?_) (fun hg => ?_)
                all_goals try simp only [s1, s2, s3, s4, s5, s6, s7, s8, s9, s10, s11, s12] at hg
                all_goals first | (refine qM rfl rfl ?_) | skip
                all_goals first | refine qT rfl rfl ?_ | refine q1 rfl rfl rfl ?_ | refine q0 rfl rfl rfl ?_ | refine qgP1 rfl rfl rfl (fun hg => ?_) (fun hg => ?_) | refine qgP0 rfl rfl rfl (fun hg => ?_) (fun hg => ?_)
                all_goals try simp only [s1, s2, s3, s4, s5, s6, s7, s8, s9, s10, s11, s12] at hg
                all_goals first | (refine qQ (Q_ixs0z 3 (j := 0) rfl rfl rfl rfl rfl rfl (by omega)) rfl rfl ?_) | skip
                all_goals first | refine qT rfl rfl ?_ | refine q1 rfl rfl rfl ?_ | refine q0 rfl rfl rfl ?_ | refine qgP1 rfl rfl rfl (fun hg => ?_) (fun hg => ?_) | refine qgP0 rfl rfl rfl (fun hg => ?_) (fun hg => ?_)
                all_goals try simp only [s1, s2, s3, s4, s5, s6, s7, s8, s9, s10, s11, s12] at hg
                all_goals first | (refine qQ (Q_lda (n := 3) rfl rfl rfl rfl rfl (by rw [List.length_append, hf3]; omega)) rfl rfl ?_; rw [flat_get hP3 (show 0 < PP.length by omega)]) | skip
                all_goals first | refine qT rfl rfl ?_ | refine q1 rfl rfl rfl ?_ | refine q0 rfl rfl rfl ?_ | refine qgP1 rfl rfl rfl (fun hg => ?_) (fun hg => ?_) | refine qgP0 rfl rfl rfl (fun hg => ?_) (fun hg => ?_)
                all_goals try simp only [s1, s2, s3, s4, s5, s6, s7, s8, s9, s10, s11, s12] at hg
                all_goals first | refine qQ (Lw rfl rfl rfl rfl) rfl rfl ?_ | refine qQ (La rfl rfl rfl rfl rfl) rfl rfl ?_ | skip
                all_goals first | refine qT rfl rfl ?_ | refine q1 rfl rfl rfl ?_ | refine q0 rfl rfl rfl ?_ | refine qgP1 rfl rfl rfl (fun hg => ?_) (fun hg => ?_) | refine qgP0 rfl rfl rfl (fun hg => ?_) (fun hg => ?_)
                all_goals try simp only [s1, s2, s3, s4, s5, s6, s7, s8, s9, s10, s11, s12] at hg
                all_goals first | (refine qQ (Q_arrb rfl rfl rfl rfl rfl rfl rfl rfl rfl h30 hal) rfl rfl ?_) | skip
                all_goals first | refine qQ (Q_pick_t rfl (by with_reducible rfl) rfl rfl) rfl rfl ?_ | refine qQ (Q_pick_f rfl (by with_reducible rfl) rfl rfl) rfl rfl ?_
                all_goals first | (refine qM rfl rfl ?_)
                all_goals first | refine qT rfl rfl ?_ | refine q1 rfl rfl rfl ?_ | refine q0 rfl rfl rfl ?_ | refine qgP1 rfl rfl rfl (fun hg => ?_) (fun hg => ?_) | refine qgP0 rfl rfl rfl (fun hg => ?_) (fun hg => ?_)
                all_goals try simp only [s1, s2, s3, s4, s5, s6, s7, s8, s9, s10, s11, s12] at hg
                all_goals first | (refine qM rfl rfl ?_) | skip
                all_goals first | refine qT rfl rfl ?_ | refine q1 rfl rfl rfl ?_ | refine q0 rfl rfl rfl ?_ | refine qgP1 rfl rfl rfl (fun hg => ?_) (fun hg => ?_) | refine qgP0 rfl rfl rfl (fun hg => ?_) (fun hg => ?_)
                all_goals try simp only [s1, s2, s3, s4, s5, s6, s7, s8, s9, s10, s11, s12] at hg
                all_goals first | ((exfalso; exact hpa hg)) | skip
                all_goals first | refine qT rfl rfl ?_ | refine q1 rfl rfl rfl ?_ | refine q0 rfl rfl rfl ?_ | refine qgP1 rfl rfl rfl (fun hg => ?_) (fun hg => ?_) | refine qgP0 rfl rfl rfl (fun hg => ?_) (fun hg => ?_)
                all_goals try simp only [s1, s2, s3, s4, s5, s6, s7, s8, s9, s10, s11, s12] at hg
                all_goals first | (refine qQ (Ld rfl rfl rfl rfl) rfl rfl ?_) | skip
                all_goals first | refine qT rfl rfl ?_ | refine q1 rfl rfl rfl ?_ | refine q0 rfl rfl rfl ?_ | refine qgP1 rfl rfl rfl (fun hg => ?_) (fun hg => ?_) | refine qgP0 rfl rfl rfl (fun hg => ?_) (fun hg => ?_)
                all_goals try simp only [s1, s2, s3, s4, s5, s6, s7, s8, s9, s10, s11, s12] at hg
                all_goals first | (refine qQ (Q_bin rfl rfl rfl) rfl rfl ?_) | skip
                all_goals first | refine qQ (Q_pick_t rfl (by with_reducible rfl) rfl rfl) rfl rfl ?_ | refine qQ (Q_pick_f rfl (by with_reducible rfl) rfl rfl) rfl rfl ?_
                all_goals first | (refine qA rfl rfl ?_)
                all_goals refine QW_nil ?_
                all_goals with_reducible refine tN ?_
                all_goals (
                 refine CW_ret ?_)))
          all_goals (
           refine exitQ (.inr rfl) 0 (.cons (.tmp rfl rfl) .nil) ?_ rfl vHn rfl rfl
           rfl)
      · have hbb : (decide (PP = [a]) && decide (CC = [3])) = false := by
          rw [decide_eq_false (fun x => h1P (by rw [x]; rfl)), Bool.false_and]
        have h1Q : ((PP.length : Int) == 1) = false := by rw [beq_eq_false_iff_ne]; omega
        rw [hbb]
        refine conW tab_ok [(0, .int (n : Int)), (1, .arr c), (2, .arr a)] 0 [] [] Tryd.func61 rfl rfl rfl rfl rfl rfl rfl rfl rfl ?_
        refine cR ?_
        iterate 2 refine oBox rfl rfl rfl rfl rfl rfl ?_
        refine oA rfl rfl ?_
        refine oN ?_
        refine CW_seq ?_
        refine cR ?_
        refine oM rfl rfl ?_
        first | refine oQ (Lw rfl rfl rfl rfl) rfl rfl ?_ | refine oQ (La rfl rfl rfl rfl rfl) rfl rfl ?_
        first | refine oQ (Lw rfl rfl rfl rfl) rfl rfl ?_ | refine oQ (La rfl rfl rfl rfl rfl) rfl rfl ?_
        refine oQ (Q_call0 (hon) rfl rfl rfl) rfl rfl ?_
        refine oQ (Q_not rfl) rfl rfl ?_
        refine oN ?_
        first | refine cT rfl ?_ | refine cF rfl ?_ | refine CW_cond rfl (fun hc => ?_) (fun hc => ?_)
        all_goals try simp only [s1, s2, s3, s4, s5, s6, s7, s8, s9, s10, s11, s12] at hc
        all_goals first
          | (
           refine CW_skip ?_)
          | (
           refine cR ?_
           refine oA rfl rfl ?_
           refine oN ?_
           refine CW_ret ?_)
        all_goals first
          | with_reducible refine tR ?_
          | with_reducible refine tE ?_
          | (
           with_reducible refine tN ?_
           refine cR ?_
           refine oM rfl rfl ?_
           first | refine oQ (Lw rfl rfl rfl rfl) rfl rfl ?_ | refine oQ (La rfl rfl rfl rfl rfl) rfl rfl ?_
           first | refine oQ (Lw rfl rfl rfl rfl) rfl rfl ?_ | refine oQ (La rfl rfl rfl rfl rfl) rfl rfl ?_
           refine oQ (Q_call0 (htan) rfl rfl rfl) rfl rfl ?_
           refine oM rfl rfl ?_
           iterate 2 refine oQ (Q_extract rfl rfl) rfl rfl ?_
           refine oAlloc rfl rfl rfl rfl rfl rfl rfl ?_
           first | refine oSw rfl rfl rfl rfl ?_ | refine oSa rfl rfl rfl rfl ?_
           refine oA rfl rfl ?_
           refine oN ?_
           refine CW_seq ?_
           refine cR ?_
           refine oM rfl rfl ?_
           refine oQ (Q_not rfl) rfl rfl ?_
           refine oN ?_
           first | refine cT rfl ?_ | refine cF rfl ?_ | refine CW_cond rfl (fun hc => ?_) (fun hc => ?_)
           all_goals try simp only [s1, s2, s3, s4, s5, s6, s7, s8, s9, s10, s11, s12] at hc
           all_goals first
             | (
              refine CW_skip ?_)
             | (
              refine cR ?_
              refine oA rfl rfl ?_
              refine oN ?_
              refine CW_ret ?_)
           all_goals first
             | with_reducible refine tR ?_
             | with_reducible refine tE ?_
             | (
              with_reducible refine tN ?_
              refine cR ?_
              refine oM rfl rfl ?_
              first | refine oQ (Lw rfl rfl rfl rfl) rfl rfl ?_ | refine oQ (La rfl rfl rfl rfl rfl) rfl rfl ?_
              first | refine oQ (Lw rfl rfl rfl rfl) rfl rfl ?_ | refine oQ (La rfl rfl rfl rfl rfl) rfl rfl ?_
              refine oCall (hm) [] 2 rfl rfl (Fits.mk' vHn rfl rfl (by first | (simp; done) | exact glOk rfl rfl rfl)) rfl rfl ?_
              rintro r H1 ⟨k, sp, k', sp', h1, h2, h3, h4, rfl, rfl⟩
              refine ⟨.tuple [.slice 3 0 PP.length k, .slice 4 0 PP.length k', .bool true], [(3, .ints 29 (PP.flatten ++ sp)), (4, .ints 2 (CC ++ sp'))], rfl, rfl, rfl, ?_⟩
              refine oM rfl rfl ?_
              iterate 3 refine oQ (Q_extract rfl rfl) rfl rfl ?_
              iterate 3 refine oA rfl rfl ?_
              refine oN ?_
              refine CW_seq ?_
              refine CW_draw lateOk (by decide +kernel) ?_
              iterate 2 refine qM rfl rfl ?_
              all_goals first | refine qT rfl rfl ?_ | refine q1 rfl rfl rfl ?_ | refine q0 rfl rfl rfl ?_ | refine qgP1 rfl rfl rfl (fun hg => ?_) (fun hg => ?_) | refine qgP0 rfl rfl rfl (fun hg => ?_) (fun hg => ?_)
              all_goals try simp only [s1, s2, s3, s4, s5, s6, s7, s8, s9, s10, s11, s12] at hg
              all_goals first | (refine qM rfl rfl ?_) | skip
              all_goals first | refine qT rfl rfl ?_ | refine q1 rfl rfl rfl ?_ | refine q0 rfl rfl rfl ?_ | refine qgP1 rfl rfl rfl (fun hg => ?_) (fun hg => ?_) | refine qgP0 rfl rfl rfl (fun hg => ?_) (fun hg => ?_)
              all_goals try simp only [s1, s2, s3, s4, s5, s6, s7, s8, s9, s10, s11, s12] at hg
              all_goals first | refine qQ (Q_len rfl rfl rfl rfl) rfl rfl ?_ | refine qQ (Q_len0 rfl rfl rfl rfl) rfl rfl ?_ | skip
              all_goals first | refine qT rfl rfl ?_ | refine q1 rfl rfl rfl ?_ | refine q0 rfl rfl rfl ?_ | refine qgP1 rfl rfl rfl (fun hg => ?_) (fun hg => ?_) | refine qgP0 rfl rfl rfl (fun hg => ?_) (fun hg => ?_)
              all_goals try simp only [s1, s2, s3, s4, s5, s6, s7, s8, s9, s10, s11, s12] at hg
              all_goals first | (refine qQ (v := .bool false) (Q_bin rfl rfl (by simp only [arith]; rw [h1Q])) rfl rfl ?_) | skip
              all_goals first | refine qQ (Q_pick_t rfl (by with_reducible rfl) rfl rfl) rfl rfl ?_ | refine qQ (Q_pick_f rfl (by with_reducible rfl) rfl rfl) rfl rfl ?_
              all_goals first | (refine qM rfl rfl ?_)
              all_goals first | refine qT rfl rfl ?_ | refine q1 rfl rfl rfl ?_ | refine q0 rfl rfl rfl ?_ | refine qgP1 rfl rfl rfl (fun hg => ?_) (fun hg => ?_) | refine qgP0 rfl rfl rfl (fun hg => ?_) (fun hg => ?_)
              all_goals try simp only [s1, s2, s3, s4, s5, s6, s7, s8, s9, s10, s11, s12] at hg
              all_goals first | (refine qM rfl rfl ?_) | skip
              all_goals first | refine qT rfl rfl ?_ | refine q1 rfl rfl rfl ?_ | refine q0 rfl rfl rfl ?_ | refine qgP1 rfl rfl rfl (fun hg => ?_) (fun hg => ?_) | refine qgP0 rfl rfl rfl (fun hg => ?_) (fun hg => ?_)
              all_goals try simp only [s1, s2, s3, s4, s5, s6, s7, s8, s9, s10, s11, s12] at hg
              all_goals first | refine qQ (Q_ixs0z 3 rfl rfl rfl rfl rfl rfl (by first | omega | (dsimp only; omega) | (simp; omega) | (simp; done))) rfl rfl ?_ | refine qQ (Q_ixsz 3 rfl rfl rfl rfl rfl rfl (by first | omega | (dsimp only; omega) | (simp; omega) | (simp; done))) rfl rfl ?_ | skip
              all_goals first | refine qT rfl rfl ?_ | refine q1 rfl rfl rfl ?_ | refine q0 rfl rfl rfl ?_ | refine qgP1 rfl rfl rfl (fun hg => ?_) (fun hg => ?_) | refine qgP0 rfl rfl rfl (fun hg => ?_) (fun hg => ?_)
              all_goals try simp only [s1, s2, s3, s4, s5, s6, s7, s8, s9, s10, s11, s12] at hg
              all_goals first | refine qQ (Lw rfl rfl rfl rfl) rfl rfl ?_ | refine qQ (La rfl rfl rfl rfl rfl) rfl rfl ?_ | skip
              all_goals first | refine qT rfl rfl ?_ | refine q1 rfl rfl rfl ?_ | refine q0 rfl rfl rfl ?_ | refine qgP1 rfl rfl rfl (fun hg => ?_) (fun hg => ?_) | refine qgP0 rfl rfl rfl (fun hg => ?_) (fun hg => ?_)
              all_goals try simp only [s1, s2, s3, s4, s5, s6, s7, s8, s9, s10, s11, s12] at hg
              all_goals first | refine qQ (Lw rfl rfl rfl rfl) rfl rfl ?_ | refine qQ (La rfl rfl rfl rfl rfl) rfl rfl ?_ | skip
              all_goals first | refine qT rfl rfl ?_ | refine q1 rfl rfl rfl ?_ | refine q0 rfl rfl rfl ?_ | refine qgP1 rfl rfl rfl (fun hg => ?_) (fun hg => ?_) | refine qgP0 rfl rfl rfl (fun hg => ?_) (fun hg => ?_)
              all_goals try simp only [s1, s2, s3, s4, s5, s6, s7, s8, s9, s10, s11, s12] at hg
              all_goals first | (refine qQ (Q_arrb rfl rfl rfl rfl rfl rfl rfl rfl rfl (by first | omega | (dsimp only; omega) | (simp; omega) | (simp; done)) (by first | omega | (dsimp only; omega) | (simp; omega) | (simp; done))) rfl rfl ?_) | skip
              all_goals first | refine qQ (Q_pick_t rfl (by with_reducible rfl) rfl rfl) rfl rfl ?_ | refine qQ (Q_pick_f rfl (by with_reducible rfl) rfl rfl) rfl rfl ?_
              all_goals first | (refine qM rfl rfl ?_)
              all_goals first | refine qT rfl rfl ?_ | refine q1 rfl rfl rfl ?_ | refine q0 rfl rfl rfl ?_ | refine qgP1 rfl rfl rfl (fun hg => ?_) (fun hg => ?_) | refine qgP0 rfl rfl rfl (fun hg => ?_) (fun hg => ?_)
              all_goals try simp only [s1, s2, s3, s4, s5, s6, s7, s8, s9, s10, s11, s12] at hg
              all_goals first | (refine qM rfl rfl ?_) | skip
              all_goals first | refine qT rfl rfl ?_ | refine q1 rfl rfl rfl ?_ | refine q0 rfl rfl rfl ?_ | refine qgP1 rfl rfl rfl (fun hg => ?_) (fun hg => ?_) | refine qgP0 rfl rfl rfl (fun hg => ?_) (fun hg => ?_)
              all_goals try simp only [s1, s2, s3, s4, s5, s6, s7, s8, s9, s10, s11, s12] at hg
              all_goals first | refine qQ (Is0 rfl rfl rfl rfl rfl rfl) rfl rfl ?_ | refine qQ (Is1 rfl rfl rfl rfl rfl rfl) rfl rfl ?_ | skip
              all_goals first | refine qT rfl rfl ?_ | refine q1 rfl rfl rfl ?_ | refine q0 rfl rfl rfl ?_ | refine qgP1 rfl rfl rfl (fun hg => ?_) (fun hg => ?_) | refine qgP0 rfl rfl rfl (fun hg => ?_) (fun hg => ?_)
              all_goals try simp only [s1, s2, s3, s4, s5, s6, s7, s8, s9, s10, s11, s12] at hg
              all_goals first | (refine qQ (Ld rfl rfl rfl rfl) rfl rfl ?_) | skip
              all_goals first | refine qT rfl rfl ?_ | refine q1 rfl rfl rfl ?_ | refine q0 rfl rfl rfl ?_ | refine qgP1 rfl rfl rfl (fun hg => ?_) (fun hg => ?_) | refine qgP0 rfl rfl rfl (fun hg => ?_) (fun hg => ?_)
              all_goals try simp only [s1, s2, s3, s4, s5, s6, s7, s8, s9, s10, s11, s12] at hg
              all_goals first | (refine qQ (Q_bin rfl rfl rfl) rfl rfl ?_) | skip
              all_goals first | refine qQ (Q_pick_t rfl (by with_reducible rfl) rfl rfl) rfl rfl ?_ | refine qQ (Q_pick_f rfl (by with_reducible rfl) rfl rfl) rfl rfl ?_
              all_goals first | (refine qA rfl rfl ?_)
              all_goals refine QW_nil ?_
              all_goals with_reducible refine tN ?_
              all_goals (
               refine CW_ret ?_)))
        all_goals (
         refine exitQ (.inr rfl) 0 (.cons (.tmp rfl rfl) .nil) ?_ rfl vHn rfl rfl
         rfl)
  · have hfl : flB (n : Int) c a = false := by
      have hk' : okT (n : Int) c a = false := by simpa using hk
      simp [flB, hk']
    have hk2 : ∀ h1 : (facP (n : Int) (slL (n : Int) c a) != 0) = true, cuG (n : Int) c a = true → False := fun h1 h2 => hk (by simp only [okT, h1, h2]; rfl)
    rw [hfl]
    generalize (facP (n : Int) (slL (n : Int) c a) != 0) = b1 at *
    generalize cuG (n : Int) c a = b2 at *
    cases b1 with
    | false =>
      refine conW tab_ok [(0, .int (n : Int)), (1, .arr c), (2, .arr a)] 0 [] [] Tryd.func61 rfl rfl rfl rfl rfl rfl rfl rfl rfl ?_
      refine cR ?_
      iterate 2 refine oBox rfl rfl rfl rfl rfl rfl ?_
      refine oA rfl rfl ?_
      refine oN ?_
      refine CW_seq ?_
      refine cR ?_
      refine oM rfl rfl ?_
      first | refine oQ (Lw rfl rfl rfl rfl) rfl rfl ?_ | refine oQ (La rfl rfl rfl rfl rfl) rfl rfl ?_
      first | refine oQ (Lw rfl rfl rfl rfl) rfl rfl ?_ | refine oQ (La rfl rfl rfl rfl rfl) rfl rfl ?_
      refine oQ (Q_call0 (hon) rfl rfl rfl) rfl rfl ?_
      refine oQ (Q_not rfl) rfl rfl ?_
      refine oN ?_
      first | refine cT rfl ?_ | refine cF rfl ?_ | refine CW_cond rfl (fun hc => ?_) (fun hc => ?_)
      all_goals try simp only [s1, s2, s3, s4, s5, s6, s7, s8, s9, s10, s11, s12] at hc
      all_goals try (exfalso; first | (simp at hc; done) | cases hc; done)
      all_goals first
        | (
         refine CW_skip ?_)
        | (
         refine cR ?_
         refine oA rfl rfl ?_
         refine oN ?_
         refine CW_ret ?_)
      all_goals first
        | with_reducible refine tR ?_
        | with_reducible refine tE ?_
        | (
         with_reducible refine tN ?_
         refine cR ?_
         refine oM rfl rfl ?_
         first | refine oQ (Lw rfl rfl rfl rfl) rfl rfl ?_ | refine oQ (La rfl rfl rfl rfl rfl) rfl rfl ?_
         first | refine oQ (Lw rfl rfl rfl rfl) rfl rfl ?_ | refine oQ (La rfl rfl rfl rfl rfl) rfl rfl ?_
         refine oQ (Q_call0 (htan) rfl rfl rfl) rfl rfl ?_
         refine oM rfl rfl ?_
         iterate 2 refine oQ (Q_extract rfl rfl) rfl rfl ?_
         refine oAlloc rfl rfl rfl rfl rfl rfl rfl ?_
         first | refine oSw rfl rfl rfl rfl ?_ | refine oSa rfl rfl rfl rfl ?_
         refine oA rfl rfl ?_
         refine oN ?_
         refine CW_seq ?_
         refine cR ?_
         refine oM rfl rfl ?_
         refine oQ (Q_not rfl) rfl rfl ?_
         refine oN ?_
         first | refine cT rfl ?_ | refine cF rfl ?_ | refine CW_cond rfl (fun hc => ?_) (fun hc => ?_)
         all_goals try simp only [s1, s2, s3, s4, s5, s6, s7, s8, s9, s10, s11, s12] at hc
         all_goals try (exfalso; first | (simp at hc; done) | cases hc; done)
         all_goals first
           | (
            refine CW_skip ?_)
           | (
            refine cR ?_
            refine oA rfl rfl ?_
            refine oN ?_
            refine CW_ret ?_)
         all_goals first
           | with_reducible refine tR ?_
           | with_reducible refine tE ?_
           | (
            with_reducible refine tN ?_
            refine cR ?_
            refine oM rfl rfl ?_
            first | refine oQ (Lw rfl rfl rfl rfl) rfl rfl ?_ | refine oQ (La rfl rfl rfl rfl rfl) rfl rfl ?_
            first | refine oQ (Lw rfl rfl rfl rfl) rfl rfl ?_ | refine oQ (La rfl rfl rfl rfl rfl) rfl rfl ?_
            (exfalso; simp at hc; done)
            refine oM rfl rfl ?_
            iterate 3 refine oQ (Q_extract rfl rfl) rfl rfl ?_
            iterate 3 refine oA rfl rfl ?_
            refine oN ?_
            refine CW_seq ?_
            refine CW_draw lateOk (by decide +kernel) ?_
            iterate 2 refine qM rfl rfl ?_
            all_goals first | refine qT rfl rfl ?_ | refine q1 rfl rfl rfl ?_ | refine q0 rfl rfl rfl ?_ | refine qgP1 rfl rfl rfl (fun hg => ?_) (fun hg => ?_) | refine qgP0 rfl rfl rfl (fun hg => ?_) (fun hg => ?_)
            all_goals try simp only [s1, s2, s3, s4, s5, s6, s7, s8, s9, s10, s11, s12] at hg
            all_goals first | (refine qM rfl rfl ?_) | skip
            all_goals first | refine qT rfl rfl ?_ | refine q1 rfl rfl rfl ?_ | refine q0 rfl rfl rfl ?_ | refine qgP1 rfl rfl rfl (fun hg => ?_) (fun hg => ?_) | refine qgP0 rfl rfl rfl (fun hg => ?_) (fun hg => ?_)
            all_goals try simp only [s1, s2, s3, s4, s5, s6, s7, s8, s9, s10, s11, s12] at hg
            all_goals first | refine qQ (Q_len rfl rfl rfl rfl) rfl rfl ?_ | refine qQ (Q_len0 rfl rfl rfl rfl) rfl rfl ?_ | skip
            all_goals first | refine qT rfl rfl ?_ | refine q1 rfl rfl rfl ?_ | refine q0 rfl rfl rfl ?_ | refine qgP1 rfl rfl rfl (fun hg => ?_) (fun hg => ?_) | refine qgP0 rfl rfl rfl (fun hg => ?_) (fun hg => ?_)
            all_goals try simp only [s1, s2, s3, s4, s5, s6, s7, s8, s9, s10, s11, s12] at hg
            all_goals first | (refine qQ (Q_bin rfl rfl rfl) rfl rfl ?_) | skip
            all_goals first | refine qQ (Q_pick_t rfl (by with_reducible rfl) rfl rfl) rfl rfl ?_ | refine qQ (Q_pick_f rfl (by with_reducible rfl) rfl rfl) rfl rfl ?_
            all_goals first | (refine qM rfl rfl ?_)
            all_goals first | refine qT rfl rfl ?_ | refine q1 rfl rfl rfl ?_ | refine q0 rfl rfl rfl ?_ | refine qgP1 rfl rfl rfl (fun hg => ?_) (fun hg => ?_) | refine qgP0 rfl rfl rfl (fun hg => ?_) (fun hg => ?_)
            all_goals try simp only [s1, s2, s3, s4, s5, s6, s7, s8, s9, s10, s11, s12] at hg
            all_goals first | (refine qM rfl rfl ?_) | skip
            all_goals first | refine qT rfl rfl ?_ | refine q1 rfl rfl rfl ?_ | refine q0 rfl rfl rfl ?_ | refine qgP1 rfl rfl rfl (fun hg => ?_) (fun hg => ?_) | refine qgP0 rfl rfl rfl (fun hg => ?_) (fun hg => ?_)
            all_goals try simp only [s1, s2, s3, s4, s5, s6, s7, s8, s9, s10, s11, s12] at hg
            all_goals first | refine qQ (Q_ixs0z 3 rfl rfl rfl rfl rfl rfl (by first | omega | (dsimp only; omega) | (simp; omega) | (simp; done))) rfl rfl ?_ | refine qQ (Q_ixsz 3 rfl rfl rfl rfl rfl rfl (by first | omega | (dsimp only; omega) | (simp; omega) | (simp; done))) rfl rfl ?_ | skip
            all_goals first | refine qT rfl rfl ?_ | refine q1 rfl rfl rfl ?_ | refine q0 rfl rfl rfl ?_ | refine qgP1 rfl rfl rfl (fun hg => ?_) (fun hg => ?_) | refine qgP0 rfl rfl rfl (fun hg => ?_) (fun hg => ?_)
            all_goals try simp only [s1, s2, s3, s4, s5, s6, s7, s8, s9, s10, s11, s12] at hg
            all_goals first | refine qQ (Lw rfl rfl rfl rfl) rfl rfl ?_ | refine qQ (La rfl rfl rfl rfl rfl) rfl rfl ?_ | skip
            all_goals first | refine qT rfl rfl ?_ | refine q1 rfl rfl rfl ?_ | refine q0 rfl rfl rfl ?_ | refine qgP1 rfl rfl rfl (fun hg => ?_) (fun hg => ?_) | refine qgP0 rfl rfl rfl (fun hg => ?_) (fun hg => ?_)
            all_goals try simp only [s1, s2, s3, s4, s5, s6, s7, s8, s9, s10, s11, s12] at hg
            all_goals first | refine qQ (Lw rfl rfl rfl rfl) rfl rfl ?_ | refine qQ (La rfl rfl rfl rfl rfl) rfl rfl ?_ | skip
            all_goals first | refine qT rfl rfl ?_ | refine q1 rfl rfl rfl ?_ | refine q0 rfl rfl rfl ?_ | refine qgP1 rfl rfl rfl (fun hg => ?_) (fun hg => ?_) | refine qgP0 rfl rfl rfl (fun hg => ?_) (fun hg => ?_)
            all_goals try simp only [s1, s2, s3, s4, s5, s6, s7, s8, s9, s10, s11, s12] at hg
            all_goals first | (refine qQ (Q_arrb rfl rfl rfl rfl rfl rfl rfl rfl rfl (by first | omega | (dsimp only; omega) | (simp; omega) | (simp; done)) (by first | omega | (dsimp only; omega) | (simp; omega) | (simp; done))) rfl rfl ?_) | skip
            all_goals first | refine qQ (Q_pick_t rfl (by with_reducible rfl) rfl rfl) rfl rfl ?_ | refine qQ (Q_pick_f rfl (by with_reducible rfl) rfl rfl) rfl rfl ?_
            all_goals first | (refine qM rfl rfl ?_)
            all_goals first | refine qT rfl rfl ?_ | refine q1 rfl rfl rfl ?_ | refine q0 rfl rfl rfl ?_ | refine qgP1 rfl rfl rfl (fun hg => ?_) (fun hg => ?_) | refine qgP0 rfl rfl rfl (fun hg => ?_) (fun hg => ?_)
            all_goals try simp only [s1, s2, s3, s4, s5, s6, s7, s8, s9, s10, s11, s12] at hg
            all_goals first | (refine qM rfl rfl ?_) | skip
            all_goals first | refine qT rfl rfl ?_ | refine q1 rfl rfl rfl ?_ | refine q0 rfl rfl rfl ?_ | refine qgP1 rfl rfl rfl (fun hg => ?_) (fun hg => ?_) | refine qgP0 rfl rfl rfl (fun hg => ?_) (fun hg => ?_)
            all_goals try simp only [s1, s2, s3, s4, s5, s6, s7, s8, s9, s10, s11, s12] at hg
            all_goals first | refine qQ (Is0 rfl rfl rfl rfl rfl rfl) rfl rfl ?_ | refine qQ (Is1 rfl rfl rfl rfl rfl rfl) rfl rfl ?_ | skip
            all_goals first | refine qT rfl rfl ?_ | refine q1 rfl rfl rfl ?_ | refine q0 rfl rfl rfl ?_ | refine qgP1 rfl rfl rfl (fun hg => ?_) (fun hg => ?_) | refine qgP0 rfl rfl rfl (fun hg => ?_) (fun hg => ?_)
            all_goals try simp only [s1, s2, s3, s4, s5, s6, s7, s8, s9, s10, s11, s12] at hg
            all_goals first | (refine qQ (Ld rfl rfl rfl rfl) rfl rfl ?_) | skip
            all_goals first | refine qT rfl rfl ?_ | refine q1 rfl rfl rfl ?_ | refine q0 rfl rfl rfl ?_ | refine qgP1 rfl rfl rfl (fun hg => ?_) (fun hg => ?_) | refine qgP0 rfl rfl rfl (fun hg => ?_) (fun hg => ?_)
            all_goals try simp only [s1, s2, s3, s4, s5, s6, s7, s8, s9, s10, s11, s12] at hg
            all_goals first | (refine qQ (Q_bin rfl rfl rfl) rfl rfl ?_) | skip
            all_goals first | refine qQ (Q_pick_t rfl (by with_reducible rfl) rfl rfl) rfl rfl ?_ | refine qQ (Q_pick_f rfl (by with_reducible rfl) rfl rfl) rfl rfl ?_
            all_goals first | (refine qA rfl rfl ?_)
            all_goals refine QW_nil ?_
            all_goals with_reducible refine tN ?_
            all_goals (
             refine CW_ret ?_)))
      all_goals (
       ((refine exitQ (.inr rfl) 0 (.cons (.tmp rfl rfl) .nil) ?_ rfl vHn rfl rfl); rfl))
    | true =>
      have hb2 : b2 = false := by
        cases b2 with
        | false => rfl
        | true => exact (hk2 rfl rfl).elim
      rw [hb2] at hon
      refine conW tab_ok [(0, .int (n : Int)), (1, .arr c), (2, .arr a)] 0 [] [] Tryd.func61 rfl rfl rfl rfl rfl rfl rfl rfl rfl ?_
      refine cR ?_
      iterate 2 refine oBox rfl rfl rfl rfl rfl rfl ?_
      refine oA rfl rfl ?_
      refine oN ?_
      refine CW_seq ?_
      refine cR ?_
      refine oM rfl rfl ?_
      first | refine oQ (Lw rfl rfl rfl rfl) rfl rfl ?_ | refine oQ (La rfl rfl rfl rfl rfl) rfl rfl ?_
      first | refine oQ (Lw rfl rfl rfl rfl) rfl rfl ?_ | refine oQ (La rfl rfl rfl rfl rfl) rfl rfl ?_
      refine oQ (Q_call0 (hon) rfl rfl rfl) rfl rfl ?_
      refine oQ (Q_not rfl) rfl rfl ?_
      refine oN ?_
      first | refine cT rfl ?_ | refine cF rfl ?_ | refine CW_cond rfl (fun hc => ?_) (fun hc => ?_)
      all_goals try simp only [s1, s2, s3, s4, s5, s6, s7, s8, s9, s10, s11, s12] at hc
      all_goals try (exfalso; first | (simp at hc; done) | cases hc; done)
      all_goals first
        | (
         refine CW_skip ?_)
        | (
         refine cR ?_
         refine oA rfl rfl ?_
         refine oN ?_
         refine CW_ret ?_)
      all_goals first
        | with_reducible refine tR ?_
        | with_reducible refine tE ?_
        | (
         with_reducible refine tN ?_
         refine cR ?_
         refine oM rfl rfl ?_
         first | refine oQ (Lw rfl rfl rfl rfl) rfl rfl ?_ | refine oQ (La rfl rfl rfl rfl rfl) rfl rfl ?_
         first | refine oQ (Lw rfl rfl rfl rfl) rfl rfl ?_ | refine oQ (La rfl rfl rfl rfl rfl) rfl rfl ?_
         refine oQ (Q_call0 (htan) rfl rfl rfl) rfl rfl ?_
         refine oM rfl rfl ?_
         iterate 2 refine oQ (Q_extract rfl rfl) rfl rfl ?_
         refine oAlloc rfl rfl rfl rfl rfl rfl rfl ?_
         first | refine oSw rfl rfl rfl rfl ?_ | refine oSa rfl rfl rfl rfl ?_
         refine oA rfl rfl ?_
         refine oN ?_
         refine CW_seq ?_
         refine cR ?_
         refine oM rfl rfl ?_
         refine oQ (Q_not rfl) rfl rfl ?_
         refine oN ?_
         first | refine cT rfl ?_ | refine cF rfl ?_ | refine CW_cond rfl (fun hc => ?_) (fun hc => ?_)
         all_goals try simp only [s1, s2, s3, s4, s5, s6, s7, s8, s9, s10, s11, s12] at hc
         all_goals try (exfalso; first | (simp at hc; done) | cases hc; done)
         all_goals first
           | (
            refine CW_skip ?_)
           | (
            refine cR ?_
            refine oA rfl rfl ?_
            refine oN ?_
            refine CW_ret ?_)
         all_goals first
           | with_reducible refine tR ?_
           | with_reducible refine tE ?_
           | (
            with_reducible refine tN ?_
            refine cR ?_
            refine oM rfl rfl ?_
            first | refine oQ (Lw rfl rfl rfl rfl) rfl rfl ?_ | refine oQ (La rfl rfl rfl rfl rfl) rfl rfl ?_
            first | refine oQ (Lw rfl rfl rfl rfl) rfl rfl ?_ | refine oQ (La rfl rfl rfl rfl rfl) rfl rfl ?_
            (exfalso; simp at hc; done)
            refine oM rfl rfl ?_
            iterate 3 refine oQ (Q_extract rfl rfl) rfl rfl ?_
            iterate 3 refine oA rfl rfl ?_
            refine oN ?_
            refine CW_seq ?_
            refine CW_draw lateOk (by decide +kernel) ?_
            iterate 2 refine qM rfl rfl ?_
            all_goals first | refine qT rfl rfl ?_ | refine q1 rfl rfl rfl ?_ | refine q0 rfl rfl rfl ?_ | refine qgP1 rfl rfl rfl (fun hg => ?_) (fun hg => ?_) | refine qgP0 rfl rfl rfl (fun hg => ?_) (fun hg => ?_)
            all_goals try simp only [s1, s2, s3, s4, s5, s6, s7, s8, s9, s10, s11, s12] at hg
            all_goals first | (refine qM rfl rfl ?_) | skip
            all_goals first | refine qT rfl rfl ?_ | refine q1 rfl rfl rfl ?_ | refine q0 rfl rfl rfl ?_ | refine qgP1 rfl rfl rfl (fun hg => ?_) (fun hg => ?_) | refine qgP0 rfl rfl rfl (fun hg => ?_) (fun hg => ?_)
            all_goals try simp only [s1, s2, s3, s4, s5, s6, s7, s8, s9, s10, s11, s12] at hg
            all_goals first | refine qQ (Q_len rfl rfl rfl rfl) rfl rfl ?_ | refine qQ (Q_len0 rfl rfl rfl rfl) rfl rfl ?_ | skip
            all_goals first | refine qT rfl rfl ?_ | refine q1 rfl rfl rfl ?_ | refine q0 rfl rfl rfl ?_ | refine qgP1 rfl rfl rfl (fun hg => ?_) (fun hg => ?_) | refine qgP0 rfl rfl rfl (fun hg => ?_) (fun hg => ?_)
            all_goals try simp only [s1, s2, s3, s4, s5, s6, s7, s8, s9, s10, s11, s12] at hg
            all_goals first | (refine qQ (Q_bin rfl rfl rfl) rfl rfl ?_) | skip
            all_goals first | refine qQ (Q_pick_t rfl (by with_reducible rfl) rfl rfl) rfl rfl ?_ | refine qQ (Q_pick_f rfl (by with_reducible rfl) rfl rfl) rfl rfl ?_
            all_goals first | (refine qM rfl rfl ?_)
            all_goals first | refine qT rfl rfl ?_ | refine q1 rfl rfl rfl ?_ | refine q0 rfl rfl rfl ?_ | refine qgP1 rfl rfl rfl (fun hg => ?_) (fun hg => ?_) | refine qgP0 rfl rfl rfl (fun hg => ?_) (fun hg => ?_)
            all_goals try simp only [s1, s2, s3, s4, s5, s6, s7, s8, s9, s10, s11, s12] at hg
            all_goals first | (refine qM rfl rfl ?_) | skip
            all_goals first | refine qT rfl rfl ?_ | refine q1 rfl rfl rfl ?_ | refine q0 rfl rfl rfl ?_ | refine qgP1 rfl rfl rfl (fun hg => ?_) (fun hg => ?_) | refine qgP0 rfl rfl rfl (fun hg => ?_) (fun hg => ?_)
            all_goals try simp only [s1, s2, s3, s4, s5, s6, s7, s8, s9, s10, s11, s12] at hg
            all_goals first | refine qQ (Q_ixs0z 3 rfl rfl rfl rfl rfl rfl (by first | omega | (dsimp only; omega) | (simp; omega) | (simp; done))) rfl rfl ?_ | refine qQ (Q_ixsz 3 rfl rfl rfl rfl rfl rfl (by first | omega | (dsimp only; omega) | (simp; omega) | (simp; done))) rfl rfl ?_ | skip
            all_goals first | refine qT rfl rfl ?_ | refine q1 rfl rfl rfl ?_ | refine q0 rfl rfl rfl ?_ | refine qgP1 rfl rfl rfl (fun hg => ?_) (fun hg => ?_) | refine qgP0 rfl rfl rfl (fun hg => ?_) (fun hg => ?_)
            all_goals try simp only [s1, s2, s3, s4, s5, s6, s7, s8, s9, s10, s11, s12] at hg
            all_goals first | refine qQ (Lw rfl rfl rfl rfl) rfl rfl ?_ | refine qQ (La rfl rfl rfl rfl rfl) rfl rfl ?_ | skip
            all_goals first | refine qT rfl rfl ?_ | refine q1 rfl rfl rfl ?_ | refine q0 rfl rfl rfl ?_ | refine qgP1 rfl rfl rfl (fun hg => ?_) (fun hg => ?_) | refine qgP0 rfl rfl rfl (fun hg => ?_) (fun hg => ?_)
            all_goals try simp only [s1, s2, s3, s4, s5, s6, s7, s8, s9, s10, s11, s12] at hg
            all_goals first | refine qQ (Lw rfl rfl rfl rfl) rfl rfl ?_ | refine qQ (La rfl rfl rfl rfl rfl) rfl rfl ?_ | skip
            all_goals first | refine qT rfl rfl ?_ | refine q1 rfl rfl rfl ?_ | refine q0 rfl rfl rfl ?_ | refine qgP1 rfl rfl rfl (fun hg => ?_) (fun hg => ?_) | refine qgP0 rfl rfl rfl (fun hg => ?_) (fun hg => ?_)
            all_goals try simp only [s1, s2, s3, s4, s5, s6, s7, s8, s9, s10, s11, s12] at hg
            all_goals first | (refine qQ (Q_arrb rfl rfl rfl rfl rfl rfl rfl rfl rfl (by first | omega | (dsimp only; omega) | (simp; omega) | (simp; done)) (by first | omega | (dsimp only; omega) | (simp; omega) | (simp; done))) rfl rfl ?_) | skip
            all_goals first | refine qQ (Q_pick_t rfl (by with_reducible rfl) rfl rfl) rfl rfl ?_ | refine qQ (Q_pick_f rfl (by with_reducible rfl) rfl rfl) rfl rfl ?_
            all_goals first | (refine qM rfl rfl ?_)
            all_goals first | refine qT rfl rfl ?_ | refine q1 rfl rfl rfl ?_ | refine q0 rfl rfl rfl ?_ | refine qgP1 rfl rfl rfl (fun hg => ?_) (fun hg => ?_) | refine qgP0 rfl rfl rfl (fun hg => ?_) (fun hg => ?_)
            all_goals try simp only [s1, s2, s3, s4, s5, s6, s7, s8, s9, s10, s11, s12] at hg
            all_goals first | (refine qM rfl rfl ?_) | skip
            all_goals first | refine qT rfl rfl ?_ | refine q1 rfl rfl rfl ?_ | refine q0 rfl rfl rfl ?_ | refine qgP1 rfl rfl rfl (fun hg => ?_) (fun hg => ?_) | refine qgP0 rfl rfl rfl (fun hg => ?_) (fun hg => ?_)
            all_goals try simp only [s1, s2, s3, s4, s5, s6, s7, s8, s9, s10, s11, s12] at hg
            all_goals first | refine qQ (Is0 rfl rfl rfl rfl rfl rfl) rfl rfl ?_ | refine qQ (Is1 rfl rfl rfl rfl rfl rfl) rfl rfl ?_ | skip
            all_goals first | refine qT rfl rfl ?_ | refine q1 rfl rfl rfl ?_ | refine q0 rfl rfl rfl ?_ | refine qgP1 rfl rfl rfl (fun hg => ?_) (fun hg => ?_) | refine qgP0 rfl rfl rfl (fun hg => ?_) (fun hg => ?_)
            all_goals try simp only [s1, s2, s3, s4, s5, s6, s7, s8, s9, s10, s11, s12] at hg
            all_goals first | (refine qQ (Ld rfl rfl rfl rfl) rfl rfl ?_) | skip
            all_goals first | refine qT rfl rfl ?_ | refine q1 rfl rfl rfl ?_ | refine q0 rfl rfl rfl ?_ | refine qgP1 rfl rfl rfl (fun hg => ?_) (fun hg => ?_) | refine qgP0 rfl rfl rfl (fun hg => ?_) (fun hg => ?_)
            all_goals try simp only [s1, s2, s3, s4, s5, s6, s7, s8, s9, s10, s11, s12] at hg
            all_goals first | (refine qQ (Q_bin rfl rfl rfl) rfl rfl ?_) | skip
            all_goals first | refine qQ (Q_pick_t rfl (by with_reducible rfl) rfl rfl) rfl rfl ?_ | refine qQ (Q_pick_f rfl (by with_reducible rfl) rfl rfl) rfl rfl ?_
            all_goals first | (refine qA rfl rfl ?_)
            all_goals refine QW_nil ?_
            all_goals with_reducible refine tN ?_
            all_goals (
             refine CW_ret ?_)))
      all_goals (
       ((refine exitQ (.inr rfl) 0 (.cons (.tmp rfl rfl) .nil) ?_ rfl vHn rfl rfl); rfl))
end Go.Proofs.YtcklfkblhmlbbaaDoor
namespace Go.Proofs.YtcklfkblhmlbbaaDoor
set_option maxRecDepth 10000
set_option linter.unusedSimpArgs false
set_option linter.unusedVariables false
attribute [local irreducible] CW OW QW QOp Con thenP inBlockP AW QX RW AX
theorem isFlex_con (p : Int) (c a : List Int) (hp : primeB p = true) (hcl : c.length = 10) (qc : smN 12 c) (ha : a ∈ allPts p) : ConQ Tryd.prog [(0, 2000)] 63 [.arr c, .int p, .arr a] [(2000, .ro 0 cuT)] (.bool (flB p c a)) := by
  obtain ⟨n, rfl⟩ := toN hp
  exact isFlexN_con n c a hp hcl qc ha
theorem l06Flex_con (p : Int) (c a : List Int) (hp : primeB p = true) (hcl : c.length = 10) (qc : smN 12 c) (ha : a ∈ allPts p) : ConQ Tryd.prog [] 61 [.int p, .arr c, .arr a] [] (.bool (flB p c a)) := by
  obtain ⟨n, rfl⟩ := toN hp
  exact l06FlexN_con n c a hp hcl qc ha
theorem flexesOf1_con (p : Int) (c m : List Int) (hp : primeB p = true) (hcl : c.length = 10) (qc : smN 12 c) (hm : m ∈ allPts p) : ConQ Tryd.prog [(0, 2000)] 62 [.arr m, .ptr 1000 0, .ptr 1001 0] [(1000, .ints 27 c), (1001, .ints 2 [p]), (2000, .ro 0 cuT)] (.bool (flB p c m)) := by
  have hm3 := allPts_three hm
  refine conW tab_ok [(0, .arr m), (1, .ptr 1000 0), (2, .ptr 1001 0)] 0 [1000, 1001, 2000] [1000, 1001] Tryd.func62 rfl rfl rfl rfl rfl rfl rfl rfl rfl ?_
  refine cR ?_
  refine oBox rfl rfl rfl rfl rfl rfl ?_
  refine oA rfl rfl ?_
  refine oN ?_
  refine cR ?_
  first | refine oQ (Lw rfl rfl rfl rfl) rfl rfl ?_ | refine oQ (La rfl rfl rfl rfl rfl) rfl rfl ?_
  first | refine oQ (Q_ldc rfl rfl rfl rfl rfl) rfl rfl ?_ | refine oQ (Ld rfl rfl rfl rfl) rfl rfl ?_
  first | refine oQ (Lw rfl rfl rfl rfl) rfl rfl ?_ | refine oQ (La rfl rfl rfl rfl rfl) rfl rfl ?_
  refine oQ (Q_call (isFlex_con p c m hp hcl qc hm) [] rfl rfl (Fits.mk' (vHc rfl vHn) rfl rfl (by first | (simp; done) | exact glOk rfl rfl rfl)) rfl rfl) rfl rfl ?_
  refine oA rfl rfl ?_
  refine oN ?_
  refine CW_ret ?_
  all_goals (
   ((refine exitQ (.inr rfl) 0 (.cons (.tmp rfl rfl) .nil) ?_ rfl (vHc rfl (vHc rfl (vHc rfl vHn))) rfl rfl); rfl))
theorem impl_FlexesOf_con (p : Int) (c : List Int) (hcl : c.length = 10) : Con Tryd.prog [(0, 2000)] 32 [.int p, .arr c] [(2000, .ro 0 cuT)] (listR 3 29 [(2000, .ro 0 cuT)] 0 (cuC p c) (fxV p c)) := by
  by_cases hcd : cuC p c = 0
  · obtain ⟨hp, hq⟩ := cuC_zero hcd
    refine conW tab_ok [(0, .int p), (1, .arr c)] 0 [2000] [] Tryd.func32 rfl rfl rfl rfl rfl rfl rfl rfl rfl ?_
    refine cR ?_
    iterate 2 refine oBox rfl rfl rfl rfl rfl rfl ?_
    iterate 2 refine oA rfl rfl ?_
    refine oN ?_
    refine CW_seq ?_
    refine cR ?_
    refine oQ (Ld rfl rfl rfl rfl) rfl rfl ?_
    refine oQ (Q_ldw rfl rfl rfl rfl hcl) rfl rfl ?_
    refine oQ (Q_call0 (cubicCode_con p true c hcl) rfl rfl rfl) rfl rfl ?_
    refine oA rfl rfl ?_
    refine oN ?_
    refine cR ?_
    refine oM rfl rfl ?_
    refine oQ (Q_bin rfl rfl rfl) rfl rfl ?_
    refine oN ?_
    first | refine cT rfl ?_ | refine cF rfl ?_ | refine CW_cond rfl (fun hc => ?_) (fun hc => ?_)
    all_goals try simp only [s1, s2, s3, s4, s5, s6, s7, s8, s9, s10, s11, s12] at hc
    all_goals try (exfalso; first | exact absurd hcd hc | exact absurd hc hcd; done)
    all_goals first
      | (
       refine CW_skip ?_)
      | (
       refine cR ?_
       refine oM rfl rfl ?_
       iterate 2 refine oA rfl rfl ?_
       refine oN ?_
       refine CW_ret ?_)
    all_goals first
      | with_reducible refine tR ?_
      | with_reducible refine tE ?_
      | (
       with_reducible refine tN ?_
       refine cR ?_
       refine oQ (Ld rfl rfl rfl rfl) rfl rfl ?_
       refine oQ (Q_makeFunc rfl rfl) rfl rfl ?_
       refine oCall (pointsThat_g2 62 27 c 2 [p] (flB p c) p hp (fun m hm => flexesOf1_con p c m hp hcl (smN_point hq) hm)) [(1000, 1), (1001, 0)] 1 rfl rfl (Fits.mk' (vHc rfl (vHc rfl (vHc rfl vHn))) rfl rfl (by first | (simp; done) | exact glOk rfl rfl rfl)) rfl rfl ?_
       rintro r H1 ⟨k9, sp9, hk9, hs9, rfl, rfl⟩
       refine ⟨.slice 2 0 (fxV p c).length k9, [(1, .ints 27 c), (0, .ints 2 [p]), (2000, .ro 0 cuT), (2, .ints 29 ((fxV p c).flatten ++ sp9))], rfl, rfl, rfl, ?_⟩
       iterate 2 refine oA rfl rfl ?_
       refine oN ?_
       refine CW_ret ?_)
    all_goals (
     first | (exfalso; first | exact hc hcd | exact hcd hc; done) | exact exitH (r0 := .tuple [.slice 0 0 (fxV p c).length k9, .int 0]) (H0 := [(2000, .ro 0 cuT), (0, .ints 29 ((fxV p c).flatten ++ sp9))]) (.inr rfl) [(0, 2)] 1 (.cons (.tmp rfl rfl) (.cons (.tmp rfl rfl) .nil)) rfl rfl rfl (vHc rfl (vHc rfl vHn)) rfl rfl (listR_ok hcd hk9 hs9 rfl rfl))
  · skip
    refine conW tab_ok [(0, .int p), (1, .arr c)] 0 [2000] [] Tryd.func32 rfl rfl rfl rfl rfl rfl rfl rfl rfl ?_
    refine cR ?_
    iterate 2 refine oBox rfl rfl rfl rfl rfl rfl ?_
    iterate 2 refine oA rfl rfl ?_
    refine oN ?_
    refine CW_seq ?_
    refine cR ?_
    refine oQ (Ld rfl rfl rfl rfl) rfl rfl ?_
    refine oQ (Q_ldw rfl rfl rfl rfl hcl) rfl rfl ?_
    refine oQ (Q_call0 (cubicCode_con p true c hcl) rfl rfl rfl) rfl rfl ?_
    refine oA rfl rfl ?_
    refine oN ?_
    refine cR ?_
    refine oM rfl rfl ?_
    refine oQ (Q_bin rfl rfl rfl) rfl rfl ?_
    refine oN ?_
    first | refine cT rfl ?_ | refine cF rfl ?_ | refine CW_cond rfl (fun hc => ?_) (fun hc => ?_)
    all_goals try simp only [s1, s2, s3, s4, s5, s6, s7, s8, s9, s10, s11, s12] at hc
    all_goals try (exfalso; first | exact absurd hcd hc | exact absurd hc hcd; done)
    all_goals first
      | (
       refine CW_skip ?_)
      | (
       refine cR ?_
       refine oM rfl rfl ?_
       iterate 2 refine oA rfl rfl ?_
       refine oN ?_
       refine CW_ret ?_)
    all_goals first
      | with_reducible refine tR ?_
      | with_reducible refine tE ?_
      | (
       with_reducible refine tN ?_
       refine cR ?_
       (exfalso; first | exact hc hcd | exact hcd hc)
       refine oQ (Q_makeFunc rfl rfl) rfl rfl ?_
       fail "call of loop.example/g01310/impl.pointsThat at slot 15"
       iterate 2 refine oA rfl rfl ?_
       refine oN ?_
       refine CW_ret ?_)
    all_goals (
     first | (exfalso; first | exact hc hcd | exact hcd hc; done) | exact exitH (r0 := .tuple [.nilsl, .int (cuC p c)]) (H0 := [(2000, .ro 0 cuT)]) (.inr rfl) [] 0 (.cons (.tmp rfl rfl) (.cons (.tmp rfl rfl) .nil)) rfl rfl rfl (vHc rfl vHn) rfl rfl (listR_no hcd rfl rfl))
theorem spec_FlexesOf_con (p : Int) (c : List Int) (hcl : c.length = 10) : Con Tryd.prog [] 31 [.int p, .arr c] [] (listR 3 29 [] 0 (cuC p c) (fxV p c)) := by
  rw [← fxV_eq p c]
  by_cases hcd : cuC p c = 0
  · obtain ⟨hp, hq⟩ := cuC_zero hcd
    have hsm := smN_point hq
    have hb := prime_bd hp
    have hal := cpV_len hp c
    have h3 : ∀ x ∈ cpV p c, x.length = 3 := cpV_three
    have hf3 := flat3 h3
    refine conW tab_ok [(0, .int p), (1, .arr c)] 0 [] [] Tryd.func31 rfl rfl rfl rfl rfl rfl rfl rfl rfl ?_
    refine cR ?_
    refine oBox rfl rfl rfl rfl rfl rfl ?_
    iterate 2 refine oA rfl rfl ?_
    refine oN ?_
    refine CW_seq ?_
    refine cR ?_
    refine oM rfl rfl ?_
    refine oQ (Q_ldw rfl rfl rfl rfl hcl) rfl rfl ?_
    refine oQ (Q_call0 (l06Code_nil p c hcl) rfl rfl rfl) rfl rfl ?_
    refine oA rfl rfl ?_
    refine oN ?_
    refine cR ?_
    refine oM rfl rfl ?_
    refine oQ (Q_bin rfl rfl rfl) rfl rfl ?_
    refine oN ?_
    first | refine cT rfl ?_ | refine cF rfl ?_ | refine CW_cond rfl (fun hc => ?_) (fun hc => ?_)
    all_goals try simp only [s1, s2, s3, s4, s5, s6, s7, s8, s9, s10, s11, s12] at hc
    all_goals try (exfalso; first | exact absurd hcd hc | exact absurd hc hcd; done)
    all_goals first
      | (
       refine CW_skip ?_)
      | (
       refine cR ?_
       refine oM rfl rfl ?_
       iterate 2 refine oA rfl rfl ?_
       refine oN ?_
       refine CW_ret ?_)
    all_goals first
      | with_reducible refine tR ?_
      | with_reducible refine tE ?_
      | (
       with_reducible refine tN ?_
       refine cR ?_
       refine oM rfl rfl ?_
       refine oQ (Q_ldw rfl rfl rfl rfl hcl) rfl rfl ?_
       refine oCall (l06Points_con p c hp hcl hsm) [] 1 rfl rfl (Fits.mk' vHn rfl rfl (by first | (simp; done) | exact glOk rfl rfl rfl)) rfl rfl ?_
       rintro r H1 ⟨k0, sp0, hk0, hsp0, rfl, rfl⟩
       refine ⟨.slice 1 0 (cpV p c).length k0, [(1, .ints 29 ((cpV p c).flatten ++ sp0))], rfl, rfl, rfl, ?_⟩
       refine oBsl rfl rfl rfl rfl (.inr ⟨rfl, rfl, by decide⟩) rfl rfl rfl rfl rfl rfl ?_
       iterate 2 refine oA rfl rfl ?_
       refine oN ?_
       refine CW_seq ?_
       refine cR ?_
       refine oA rfl rfl ?_
       refine oN ?_
       refine CW_block ?_
       refine CW_loop (ι := Nat × Nat × List Int) (fun x => x.1 ≤ (cpV p c).length ∧ (((cpV p c).take x.1).filter (flB p c)).length ≤ x.2.1 ∧ x.2.1 * 3 ≤ (((cpV p c).take x.1).filter (flB p c)).length * 3 + x.2.2.length) (fun x => ⟨[(0, .int p), (3, .ptr 0 0), (7, .slice 1 0 (cpV p c).length k0), (8, .slice 2 0 (((cpV p c).take x.1).filter (flB p c)).length x.2.1), (9, .int x.1)], [(0, .ints 27 c), (1, .ints 29 ((cpV p c).flatten ++ sp0)), (2, .ints 29 ((((cpV p c).take x.1).filter (flB p c)).flatten ++ x.2.2))], 3⟩) (fun x => (cpV p c).length - x.1) (0, 0, []) ?_ ?_ ?_
       · exact ⟨Nat.zero_le _, Nat.le_refl _, Nat.le_refl _⟩
       · refine View.mk' [] rfl rfl rfl ?_ ?_
         repeat' first | exact vFn | refine vFc rfl ?_ | exact vHn | refine vHc rfl ?_ | refine vFc (congrArg (fun z => some (V.int z)) ?_) ?_ | refine vHc (congrArg (fun z => some (Blk.ints _ z)) ?_) ?_ | refine vFc (congrArg (fun z => some (V.bool z)) ?_) ?_ | refine vFs rfl rfl ?_ ?_
       rintro ⟨i, k, sp⟩ ⟨hi, hk, hsp⟩
       dsimp only at hi hk hsp ⊢
       have hfn := filter_len (g := flB p c) i hi
       have hlen := flat3 (filter_three (g := flB p c) h3 i)
       have hmem := fun h : i < (cpV p c).length => getD_mem h
       have h3i := fun h : i < (cpV p c).length => h3 _ (getD_mem h)
       refine CW_seq ?_
       refine cR ?_
       iterate 2 refine oM rfl rfl ?_
       first | refine oQ (Q_len rfl rfl rfl rfl) rfl rfl ?_ | refine oQ (Q_len0 rfl rfl rfl rfl) rfl rfl ?_
       refine oQ (Q_bin rfl rfl rfl) rfl rfl ?_
       refine oN ?_
       first | refine cT rfl ?_ | refine cF rfl ?_ | refine CW_cond rfl (fun hc => ?_) (fun hc => ?_)
       all_goals try simp only [s1, s2, s3, s4, s5, s6, s7, s8, s9, s10, s11, s12] at hc
       all_goals try (exfalso; first | exact absurd hcd hc | exact absurd hc hcd; done)
       all_goals first
         | (
          refine CW_skip ?_)
         | (
          refine CW_exit ?_)
       all_goals first
         | with_reducible refine tR ?_
         | with_reducible refine tE ?_
         | (
          with_reducible refine tN ?_
          refine CW_seq ?_
          refine CW_block ?_
          refine CW_seq ?_
          refine CW_draw lateOk (by decide +kernel) ?_
          refine qM rfl rfl ?_
          refine qQ (Q_ldw rfl rfl rfl rfl hcl) rfl rfl ?_
          iterate 2 refine qM rfl rfl ?_
          (have h3i := h3i (by omega)); (have hmem := hmem (by omega)); refine qQ (Q_ixs0z 3 rfl rfl rfl rfl rfl rfl (by omega)) rfl rfl ?_
          refine qQ (Q_lda (n := 3) rfl rfl rfl rfl rfl (by rw [List.length_append, hf3]; omega)) rfl rfl ?_; rw [flat_get h3 (show i < (cpV p c).length by omega)]
          refine qQ (Q_call0 (l06Flex_con p c _ hp hcl hsm (List.mem_filter.1 hmem).1) rfl rfl rfl) rfl rfl ?_
          refine QW_nil ?_
          all_goals with_reducible refine tN ?_
          all_goals (
           first | refine cT rfl ?_ | refine cF rfl ?_ | refine CW_cond rfl (fun hc => ?_) (fun hc => ?_)
           all_goals try simp only [s1, s2, s3, s4, s5, s6, s7, s8, s9, s10, s11, s12] at hc
           all_goals try (exfalso; first | exact absurd hcd hc | exact absurd hc hcd; done)
           all_goals first
             | (
              refine CW_skip ?_)
             | (
              refine CW_region ?_
              iterate 3 refine oM rfl rfl ?_
              first | refine oQ (Q_ixs0z 3 rfl rfl rfl rfl rfl rfl (by first | omega | (dsimp only; omega) | (simp; omega) | (simp; done))) rfl rfl ?_ | refine oQ (Q_ixsz 3 rfl rfl rfl rfl rfl rfl (by first | omega | (dsimp only; omega) | (simp; omega) | (simp; done))) rfl rfl ?_
              refine oQ (Q_lda (n := 3) rfl rfl rfl rfl rfl (by rw [List.length_append, hf3]; omega)) rfl rfl ?_; rw [flat_get h3 (show i < (cpV p c).length by omega)]
              refine oBsl1 h3i rfl rfl rfl rfl rfl rfl rfl rfl rfl rfl ?_
              refine oApp (sz := 3) (by_ := 24) (xl := (cpV p c).getD i []) rfl rfl rfl rfl rfl rfl ⟨by decide, rfl, .inr rfl⟩ rfl rfl rfl rfl rfl rfl hlen (by rw [h3i]) (by omega) (by omega) (by omega) (by omega) rfl rfl (fun k2 sp2 h1 h2 => ?_)
              refine oA rfl rfl ?_
              refine OW_nil ?_))
          all_goals first | with_reducible refine bN ?_ | with_reducible refine bE ?_ | with_reducible refine bR ?_ | refine bX rfl ?_
          all_goals with_reducible refine tN ?_
          all_goals (
           refine CW_region ?_
           refine oM rfl rfl ?_
           first | refine oQ (Q_binu rfl rfl rfl (by omega)) rfl rfl ?_ | refine oQ (Q_bin rfl rfl rfl) rfl rfl ?_
           refine oA rfl rfl ?_
           refine OW_nil ?_))
       all_goals first
         | with_reducible refine tR ?_
         | with_reducible refine tE ?_
         | (
          with_reducible refine tN ?_
          first
            | (
             refine ⟨(i + 1, k2, sp2), ?_, ?_, View.mk' [(2, 4)] rfl rfl rfl ?_ ?_⟩
             · dsimp only
               first
                 | (rw [filter_snoc (g := flB p c) (by omega) hc, List.length_append, List.length_singleton]; exact ⟨by omega, h1, h2⟩)
                 | (rw [filter_skip (g := flB p c) (by omega) hc]; exact ⟨by omega, hk, hsp⟩)
             · omega
             all_goals (repeat' first | exact vFn | refine vFc rfl ?_ | exact vHn | refine vHc rfl ?_ | refine vFc (congrArg (fun z => some (V.int z)) ?_) ?_ | refine vHc (congrArg (fun z => some (Blk.ints _ z)) ?_) ?_ | refine vFc (congrArg (fun z => some (V.bool z)) ?_) ?_ | refine vFs rfl rfl ?_ ?_)
             all_goals dsimp only
             all_goals first
               | (rw [filter_snoc (g := flB p c) (by omega) hc]; simp; done)
               | (rw [filter_skip (g := flB p c) (by omega) hc]; done))
            | (
             refine ⟨(i + 1, k, sp), ?_, ?_, View.mk' [] rfl rfl rfl ?_ ?_⟩
             · dsimp only
               first
                 | (rw [filter_snoc (g := flB p c) (by omega) hc, List.length_append, List.length_singleton]; exact ⟨by omega, h1, h2⟩)
                 | (rw [filter_skip (g := flB p c) (by omega) hc]; exact ⟨by omega, hk, hsp⟩)
             · omega
             all_goals (repeat' first | exact vFn | refine vFc rfl ?_ | exact vHn | refine vHc rfl ?_ | refine vFc (congrArg (fun z => some (V.int z)) ?_) ?_ | refine vHc (congrArg (fun z => some (Blk.ints _ z)) ?_) ?_ | refine vFc (congrArg (fun z => some (V.bool z)) ?_) ?_ | refine vFs rfl rfl ?_ ?_)
             all_goals dsimp only
             all_goals first
               | (rw [filter_snoc (g := flB p c) (by omega) hc]; simp; done)
               | (rw [filter_skip (g := flB p c) (by omega) hc]; done)))
       all_goals first | with_reducible refine bN ?_ | with_reducible refine bE ?_ | with_reducible refine bR ?_ | refine bX rfl ?_
       all_goals with_reducible refine tN ?_
       all_goals (
        refine cR ?_
        refine oM rfl rfl ?_
        iterate 2 refine oA rfl rfl ?_
        refine oN ?_
        refine CW_ret ?_))
    all_goals (
     first
       | (exfalso; first | exact hc hcd | exact hcd hc; done)
       | (have e : i = (cpV p c).length := (by omega)
          subst e
          rw [List.take_length] at hk hsp
          exact exitH (r0 := .tuple [.slice 0 0 ((cpV p c).filter (flB p c)).length k, .int 0]) (H0 := [(0, .ints 29 (((cpV p c).filter (flB p c)).flatten ++ sp))]) (.inr rfl) [(0, 2)] 1 (.cons (.tmp rfl rfl) (.cons (.tmp rfl rfl) .nil)) (by simp only [List.take_length]; rfl) rfl rfl (vHc (by simp only [List.take_length]; rfl) vHn) rfl rfl (listR_ok hcd hk hsp rfl rfl)))
  · skip
    refine conW tab_ok [(0, .int p), (1, .arr c)] 0 [] [] Tryd.func31 rfl rfl rfl rfl rfl rfl rfl rfl rfl ?_
    refine cR ?_
    refine oBox rfl rfl rfl rfl rfl rfl ?_
    iterate 2 refine oA rfl rfl ?_
    refine oN ?_
    refine CW_seq ?_
    refine cR ?_
    refine oM rfl rfl ?_
    refine oQ (Q_ldw rfl rfl rfl rfl hcl) rfl rfl ?_
    refine oQ (Q_call0 (l06Code_nil p c hcl) rfl rfl rfl) rfl rfl ?_
    refine oA rfl rfl ?_
    refine oN ?_
    refine cR ?_
    refine oM rfl rfl ?_
    refine oQ (Q_bin rfl rfl rfl) rfl rfl ?_
    refine oN ?_
    first | refine cT rfl ?_ | refine cF rfl ?_ | refine CW_cond rfl (fun hc => ?_) (fun hc => ?_)
    all_goals try simp only [s1, s2, s3, s4, s5, s6, s7, s8, s9, s10, s11, s12] at hc
    all_goals try (exfalso; first | exact absurd hcd hc | exact absurd hc hcd; done)
    all_goals first
      | (
       refine CW_skip ?_)
      | (
       refine cR ?_
       refine oM rfl rfl ?_
       iterate 2 refine oA rfl rfl ?_
       refine oN ?_
       refine CW_ret ?_)
    all_goals first
      | with_reducible refine tR ?_
      | with_reducible refine tE ?_
      | (
       with_reducible refine tN ?_
       refine cR ?_
       refine oM rfl rfl ?_
       (exfalso; first | exact hc hcd | exact hcd hc)
       fail "call of loop.example/g01310/spec.l06Points at slot 18"
       refine oBsl rfl rfl rfl rfl (.inr ⟨rfl, rfl, by decide⟩) rfl rfl rfl rfl rfl rfl ?_
       iterate 2 refine oA rfl rfl ?_
       refine oN ?_
       refine CW_seq ?_
       refine cR ?_
       refine oA rfl rfl ?_
       refine oN ?_
       refine CW_block ?_
       fail "loop 0 wants its states"
       · first | trivial | omega | (simp; done) | (simp; omega)
       · refine View.mk' [] rfl rfl rfl ?_ ?_
         repeat' first | exact vFn | refine vFc rfl ?_ | exact vHn | refine vHc rfl ?_ | refine vFc (congrArg (fun z => some (V.int z)) ?_) ?_ | refine vHc (congrArg (fun z => some (Blk.ints _ z)) ?_) ?_ | refine vFc (congrArg (fun z => some (V.bool z)) ?_) ?_ | refine vFs rfl rfl ?_ ?_
       intro i hi
       refine CW_seq ?_
       refine cR ?_
       iterate 2 refine oM rfl rfl ?_
       first | refine oQ (Q_len rfl rfl rfl rfl) rfl rfl ?_ | refine oQ (Q_len0 rfl rfl rfl rfl) rfl rfl ?_
       refine oQ (Q_bin rfl rfl rfl) rfl rfl ?_
       refine oN ?_
       first | refine cT rfl ?_ | refine cF rfl ?_ | refine CW_cond rfl (fun hc => ?_) (fun hc => ?_)
       all_goals try simp only [s1, s2, s3, s4, s5, s6, s7, s8, s9, s10, s11, s12] at hc
       all_goals try (exfalso; first | exact absurd hcd hc | exact absurd hc hcd; done)
       all_goals first
         | (
          refine CW_skip ?_)
         | (
          refine CW_exit ?_)
       all_goals first
         | with_reducible refine tR ?_
         | with_reducible refine tE ?_
         | (
          with_reducible refine tN ?_
          refine CW_seq ?_
          refine CW_block ?_
          refine CW_seq ?_
          refine CW_draw lateOk (by decide +kernel) ?_
          refine qM rfl rfl ?_
          first | refine qQ (Lw rfl rfl rfl rfl) rfl rfl ?_ | refine qQ (La rfl rfl rfl rfl rfl) rfl rfl ?_
          iterate 2 refine qM rfl rfl ?_
          first | refine qQ (Q_ixs0z 3 rfl rfl rfl rfl rfl rfl (by first | omega | (dsimp only; omega) | (simp; omega) | (simp; done))) rfl rfl ?_ | refine qQ (Q_ixsz 3 rfl rfl rfl rfl rfl rfl (by first | omega | (dsimp only; omega) | (simp; omega) | (simp; done))) rfl rfl ?_
          first | refine qQ (Lw rfl rfl rfl rfl) rfl rfl ?_ | refine qQ (La rfl rfl rfl rfl rfl) rfl rfl ?_
          fail "call of loop.example/g01310/spec.l06Flex at slot 32"
          refine QW_nil ?_
          all_goals with_reducible refine tN ?_
          all_goals (
           first | refine cT rfl ?_ | refine cF rfl ?_ | refine CW_cond rfl (fun hc => ?_) (fun hc => ?_)
           all_goals try simp only [s1, s2, s3, s4, s5, s6, s7, s8, s9, s10, s11, s12] at hc
           all_goals try (exfalso; first | exact absurd hcd hc | exact absurd hc hcd; done)
           all_goals first
             | (
              refine CW_skip ?_)
             | (
              refine CW_region ?_
              iterate 3 refine oM rfl rfl ?_
              first | refine oQ (Q_ixs0z 3 rfl rfl rfl rfl rfl rfl (by first | omega | (dsimp only; omega) | (simp; omega) | (simp; done))) rfl rfl ?_ | refine oQ (Q_ixsz 3 rfl rfl rfl rfl rfl rfl (by first | omega | (dsimp only; omega) | (simp; omega) | (simp; done))) rfl rfl ?_
              first | refine oQ (Lw rfl rfl rfl rfl) rfl rfl ?_ | refine oQ (La rfl rfl rfl rfl rfl) rfl rfl ?_
              refine oBsl rfl rfl rfl rfl (.inr ⟨rfl, rfl, by decide⟩) rfl rfl rfl rfl rfl rfl ?_
              fail "builtin append at slot 39"
              refine oA rfl rfl ?_
              refine OW_nil ?_))
          all_goals first | with_reducible refine bN ?_ | with_reducible refine bE ?_ | with_reducible refine bR ?_ | refine bX rfl ?_
          all_goals with_reducible refine tN ?_
          all_goals (
           refine CW_region ?_
           refine oM rfl rfl ?_
           first | refine oQ (Q_binu rfl rfl rfl (by omega)) rfl rfl ?_ | refine oQ (Q_bin rfl rfl rfl) rfl rfl ?_
           refine oA rfl rfl ?_
           refine OW_nil ?_))
       all_goals first
         | with_reducible refine tR ?_
         | with_reducible refine tE ?_
         | (
          with_reducible refine tN ?_
          fail "again 0")
       all_goals first | with_reducible refine bN ?_ | with_reducible refine bE ?_ | with_reducible refine bR ?_ | refine bX rfl ?_
       all_goals with_reducible refine tN ?_
       all_goals (
        refine cR ?_
        refine oM rfl rfl ?_
        iterate 2 refine oA rfl rfl ?_
        refine oN ?_
        refine CW_ret ?_))
    all_goals (
     first | (exfalso; first | exact hc hcd | exact hcd hc; done) | exact exitH (r0 := .tuple [.nilsl, .int (cuC p c)]) (H0 := []) (.inr rfl) [] 0 (.cons (.tmp rfl rfl) (.cons (.tmp rfl rfl) .nil)) rfl rfl rfl vHn rfl rfl (listR_no hcd rfl rfl))
end Go.Proofs.YtcklfkblhmlbbaaDoor
namespace Go.Proofs.YtcklfkblhmlbbaaDoor
attribute [local irreducible] CW OW QW QOp Con thenP inBlockP
set_option maxRecDepth 10000
set_option linter.unusedSimpArgs false
set_option linter.unusedVariables false
/-- the numbers m, m + 1, .., n of them -/
def seqL (m n : Nat) : List Int := (List.range' m n).map fun (i : Nat) => (i : Int)
theorem seqL_length (m n : Nat) : (seqL m n).length = n := by simp [seqL]
theorem seqL_snoc (m n : Nat) : seqL m (n + 1) = seqL m n ++ [((m + n : Nat) : Int)] := by
  simp [seqL, List.range'_concat]
theorem seqL_get {m n i : Nat} (h : i < n) : (seqL m n).getD i 0 = ((m + i : Nat) : Int) := by
  simp [seqL, List.getD, h]
theorem seqL_at {m n i : Nat} {sp : List Int} (h : i < n) : (seqL m n ++ sp)[i]? = some ((m + i : Nat) : Int) := by
  rw [List.getElem?_append_left (by rw [seqL_length]; exact h)]
  have := seqL_get (m := m) h
  rw [List.getD, List.getElem?_eq_getElem (by rw [seqL_length]; exact h)] at this
  rw [List.getElem?_eq_getElem (by rw [seqL_length]; exact h)]
  simpa using this
end Go.Proofs.YtcklfkblhmlbbaaDoor
namespace Go.Proofs.YtcklfkblhmlbbaaDoor
attribute [local irreducible] CW OW QW QOp Con thenP inBlockP
set_option maxRecDepth 10000
set_option linter.unusedSimpArgs false
set_option linter.unusedVariables false
theorem take_elem {A B : List Int} {sz i n : Nat} (hi : i < n) (h : A.take (n * sz) = B.take (n * sz)) : (A.drop (i * sz)).take sz = (B.drop (i * sz)).take sz := by
  have h1 : (i + 1) * sz ≤ n * sz := Nat.mul_le_mul_right sz hi
  rw [Nat.add_mul, Nat.one_mul] at h1
  have := congrArg (fun l => (l.drop (i * sz)).take sz) h
  simp only [List.drop_take, List.take_take] at this
  rwa [Nat.min_eq_left (by omega)] at this
theorem eqPoint_con (a b : List Int) (ha : a.length = 3) (hb : b.length = 3) : ConQ Tryd.prog [] 35 [.arr a, .arr b] [] (.bool (decide (a = b))) := by
  refine conW tab_ok [(0, .arr a), (1, .arr b)] 0 [] [] Tryd.func35 rfl rfl rfl rfl rfl rfl rfl rfl rfl ?_
  refine cR ?_
  iterate 2 refine oBox rfl rfl rfl rfl rfl rfl ?_
  refine oA rfl rfl ?_
  refine oN ?_
  refine CW_seq ?_
  refine cR ?_
  refine oA rfl rfl ?_
  refine oN ?_
  refine CW_block ?_
  refine CW_loop (ι := Nat) (fun i => i ≤ 3 ∧ a.take i = b.take i) (fun i => ⟨[(2, .ptr 0 0), (3, .ptr 1 0), (5, .int i)], [(0, .ints 29 a), (1, .ints 29 b)], 2⟩) (fun i => 3 - i) 0 ?_ ?_ ?_
  · exact ⟨Nat.zero_le _, rfl⟩
  · refine View.mk' [] rfl rfl rfl ?_ ?_
    repeat' first | exact vFn | refine vFc rfl ?_ | exact vHn | refine vHc rfl ?_ | refine vFc (congrArg (fun z => some (V.int z)) ?_) ?_ | refine vHc (congrArg (fun z => some (Blk.ints _ z)) ?_) ?_ | refine vFc (congrArg (fun z => some (V.bool z)) ?_) ?_ | refine vFs rfl rfl ?_ ?_
  rintro i ⟨hi, hi2⟩
  refine CW_seq ?_
  refine cR ?_
  refine oM rfl rfl ?_
  refine oQ (Q_bin rfl rfl rfl) rfl rfl ?_
  refine oN ?_
  first | refine cT rfl ?_ | refine cF rfl ?_ | refine CW_cond rfl (fun hc => ?_) (fun hc => ?_)
  all_goals try simp only [s1, s2, s3, s4, s5, s6, s7, s8, s9, s10, s11, s12] at hc
  all_goals first
    | (
     refine CW_skip ?_)
    | (
     refine CW_exit ?_)
  all_goals first
    | with_reducible refine tR ?_
    | with_reducible refine tE ?_
    | (
     with_reducible refine tN ?_
     refine CW_seq ?_
     refine CW_block ?_
     refine CW_seq ?_
     refine CW_draw lateOk (by decide +kernel) ?_
     refine qM rfl rfl ?_
     first | refine qQ (Ia0 rfl rfl rfl rfl rfl rfl) rfl rfl ?_ | refine qQ (Ia1 rfl rfl rfl rfl rfl rfl) rfl rfl ?_
     refine qQ (Ld rfl rfl rfl rfl) rfl rfl ?_
     refine qM rfl rfl ?_
     first | refine qQ (Ia0 rfl rfl rfl rfl rfl rfl) rfl rfl ?_ | refine qQ (Ia1 rfl rfl rfl rfl rfl rfl) rfl rfl ?_
     refine qQ (Ld rfl rfl rfl rfl) rfl rfl ?_
     refine qQ (Q_bin rfl rfl rfl) rfl rfl ?_
     refine QW_nil ?_
     all_goals with_reducible refine tN ?_
     all_goals (
      first | refine cT rfl ?_ | refine cF rfl ?_ | refine CW_cond rfl (fun hc => ?_) (fun hc => ?_)
      all_goals try simp only [s1, s2, s3, s4, s5, s6, s7, s8, s9, s10, s11, s12] at hc
      all_goals first
        | (
         refine CW_skip ?_)
        | (
         refine cR ?_
         refine oA rfl rfl ?_
         refine oN ?_
         refine CW_ret ?_))
     all_goals first | with_reducible refine bN ?_ | with_reducible refine bE ?_ | with_reducible refine bR ?_ | refine bX rfl ?_
     all_goals first
       | with_reducible refine tR ?_
       | with_reducible refine tE ?_
       | (
        with_reducible refine tN ?_
        refine CW_region ?_
        refine oM rfl rfl ?_
        first | refine oQ (Q_binu rfl rfl rfl (by omega)) rfl rfl ?_ | refine oQ (Q_bin rfl rfl rfl) rfl rfl ?_
        refine oA rfl rfl ?_
        refine OW_nil ?_))
  all_goals first
    | with_reducible refine tR ?_
    | with_reducible refine tE ?_
    | (
     with_reducible refine tN ?_
     refine ⟨i + 1, ?_, ?_, View.mk' [] rfl rfl rfl ?_ ?_⟩
     · exact ⟨by omega, take_eq_snoc (by omega) (by omega) hi2 hc⟩
     · omega
     all_goals (repeat' first | exact vFn | refine vFc rfl ?_ | exact vHn | refine vHc rfl ?_ | refine vFc (congrArg (fun z => some (V.int z)) ?_) ?_ | refine vHc (congrArg (fun z => some (Blk.ints _ z)) ?_) ?_ | refine vFc (congrArg (fun z => some (V.bool z)) ?_) ?_ | refine vFs rfl rfl ?_ ?_))
  all_goals first | with_reducible refine bN ?_ | with_reducible refine bE ?_ | with_reducible refine bR ?_ | refine bX rfl ?_
  all_goals first
    | with_reducible refine tR ?_
    | with_reducible refine tE ?_
    | (
     with_reducible refine tN ?_
     refine cR ?_
     refine oA rfl rfl ?_
     refine oN ?_
     refine CW_ret ?_)
  all_goals (
   refine exitQ (.inr rfl) 0 (.cons (.tmp rfl rfl) .nil) ?_ rfl vHn rfl rfl
   simp only [resV, V.bool.injEq]
   first
     | (have e : i = 3 := (by omega); subst e; rw [List.take_of_length_le (by omega), List.take_of_length_le (by omega)] at hi2; simp [hi2]; done)
     | (have h9 := take_ne (A := a) (B := b) (n := 3) (by omega) (by omega) (by omega) hc; symm; exact decide_eq_false (fun h => h9 (by rw [h]))))
theorem eqPointS_con (t t' : TypeId) (A B : List Int) (n k m k' : Nat) (hn : n * 3 ≤ A.length) (hm : m * 3 ≤ B.length) (h6 : n ≤ 1000000000 ∧ m ≤ 1000000000) : ConQ Tryd.prog [] 20 [.slice 0 0 n k, .slice 1 0 m k'] [(0, .ints t A), (1, .ints t' B)] (.bool (decide (A.take (n * 3) = B.take (m * 3)))) := by
  refine conW tab_ok [(0, .slice 0 0 n k), (1, .slice 1 0 m k')] 2 [0, 1] [0, 1] Tryd.func20 rfl rfl rfl rfl rfl rfl rfl rfl rfl ?_
  refine cR ?_
  refine oA rfl rfl ?_
  refine oN ?_
  refine CW_seq ?_
  refine cR ?_
  refine oM rfl rfl ?_
  first | refine oQ (Q_len rfl rfl rfl rfl) rfl rfl ?_ | refine oQ (Q_len0 rfl rfl rfl rfl) rfl rfl ?_
  refine oM rfl rfl ?_
  first | refine oQ (Q_len rfl rfl rfl rfl) rfl rfl ?_ | refine oQ (Q_len0 rfl rfl rfl rfl) rfl rfl ?_
  refine oQ (Q_bin rfl rfl rfl) rfl rfl ?_
  refine oN ?_
  first | refine cT rfl ?_ | refine cF rfl ?_ | refine CW_cond rfl (fun hc => ?_) (fun hc => ?_)
  all_goals try simp only [s1, s2, s3, s4, s5, s6, s7, s8, s9, s10, s11, s12] at hc
  all_goals first
    | (
     refine CW_skip ?_)
    | (
     refine cR ?_
     refine oA rfl rfl ?_
     refine oN ?_
     refine CW_ret ?_)
  all_goals first
    | with_reducible refine tR ?_
    | with_reducible refine tE ?_
    | (
     with_reducible refine tN ?_
     refine CW_seq ?_
     refine cR ?_
     refine oA rfl rfl ?_
     refine oN ?_
     refine CW_block ?_
     refine CW_loop (ι := Nat) (fun i => i ≤ n ∧ n = m ∧ A.take (i * 3) = B.take (i * 3)) (fun i => ⟨[(0, .slice 0 0 n k), (1, .slice 1 0 m k'), (5, .int i)], [(0, .ints t A), (1, .ints t' B)], 2⟩) (fun i => n - i) 0 ?_ ?_ ?_
     · exact ⟨Nat.zero_le _, by omega, by simp⟩
     · refine View.mk' [] rfl rfl rfl ?_ ?_
       repeat' first | exact vFn | refine vFc rfl ?_ | exact vHn | refine vHc rfl ?_ | refine vFc (congrArg (fun z => some (V.int z)) ?_) ?_ | refine vHc (congrArg (fun z => some (Blk.ints _ z)) ?_) ?_ | refine vFc (congrArg (fun z => some (V.bool z)) ?_) ?_ | refine vFs rfl rfl ?_ ?_
     intro i hi
     obtain ⟨hi1, hi2, hi3⟩ := hi
     refine CW_seq ?_
     refine cR ?_
     iterate 2 refine oM rfl rfl ?_
     first | refine oQ (Q_len rfl rfl rfl rfl) rfl rfl ?_ | refine oQ (Q_len0 rfl rfl rfl rfl) rfl rfl ?_
     refine oQ (Q_bin rfl rfl rfl) rfl rfl ?_
     refine oN ?_
     first | refine cT rfl ?_ | refine cF rfl ?_ | refine CW_cond rfl (fun hc => ?_) (fun hc => ?_)
     all_goals try simp only [s1, s2, s3, s4, s5, s6, s7, s8, s9, s10, s11, s12] at hc
     all_goals first
       | (
        refine CW_skip ?_)
       | (
        refine CW_exit ?_)
     all_goals first
       | with_reducible refine tR ?_
       | with_reducible refine tE ?_
       | (
        with_reducible refine tN ?_
        refine CW_seq ?_
        refine CW_block ?_
        refine CW_seq ?_
        refine CW_draw lateOk (by decide +kernel) ?_
        iterate 2 refine qM rfl rfl ?_
        first | refine qQ (Q_ixs0z 3 rfl rfl rfl rfl rfl rfl (by first | omega | (dsimp only; omega) | (simp; omega) | (simp; done))) rfl rfl ?_ | refine qQ (Q_ixsz 3 rfl rfl rfl rfl rfl rfl (by first | omega | (dsimp only; omega) | (simp; omega) | (simp; done))) rfl rfl ?_
        first | refine qQ (Lw rfl rfl rfl rfl) rfl rfl ?_ | refine qQ (La rfl rfl rfl rfl rfl) rfl rfl ?_
        iterate 2 refine qM rfl rfl ?_
        first | refine qQ (Q_ixs0z 3 rfl rfl rfl rfl rfl rfl (by first | omega | (dsimp only; omega) | (simp; omega) | (simp; done))) rfl rfl ?_ | refine qQ (Q_ixsz 3 rfl rfl rfl rfl rfl rfl (by first | omega | (dsimp only; omega) | (simp; omega) | (simp; done))) rfl rfl ?_
        first | refine qQ (Lw rfl rfl rfl rfl) rfl rfl ?_ | refine qQ (La rfl rfl rfl rfl rfl) rfl rfl ?_
        refine qQ (Q_call0 (eqPoint_con _ _ (by simp; omega) (by simp; omega)) rfl rfl rfl) rfl rfl ?_
        refine qQ (Q_not rfl) rfl rfl ?_
        refine QW_nil ?_
        all_goals with_reducible refine tN ?_
        all_goals (
         first | refine cT rfl ?_ | refine cF rfl ?_ | refine CW_cond rfl (fun hc => ?_) (fun hc => ?_)
         all_goals try simp only [s1, s2, s3, s4, s5, s6, s7, s8, s9, s10, s11, s12] at hc
         all_goals first
           | (
            refine CW_skip ?_)
           | (
            refine cR ?_
            refine oA rfl rfl ?_
            refine oN ?_
            refine CW_ret ?_))
        all_goals first | with_reducible refine bN ?_ | with_reducible refine bE ?_ | with_reducible refine bR ?_ | refine bX rfl ?_
        all_goals first
          | with_reducible refine tR ?_
          | with_reducible refine tE ?_
          | (
           with_reducible refine tN ?_
           refine CW_region ?_
           refine oM rfl rfl ?_
           first | refine oQ (Q_binu rfl rfl rfl (by omega)) rfl rfl ?_ | refine oQ (Q_bin rfl rfl rfl) rfl rfl ?_
           refine oA rfl rfl ?_
           refine OW_nil ?_))
     all_goals first
       | with_reducible refine tR ?_
       | with_reducible refine tE ?_
       | (
        with_reducible refine tN ?_
        refine ⟨i + 1, ?_, ?_, View.mk' [] rfl rfl rfl ?_ ?_⟩
        · exact ⟨by omega, hi2, by rw [Nat.add_mul, Nat.one_mul, List.take_add, List.take_add, hi3, hc]⟩
        · omega
        all_goals (repeat' first | exact vFn | refine vFc rfl ?_ | exact vHn | refine vHc rfl ?_ | refine vFc (congrArg (fun z => some (V.int z)) ?_) ?_ | refine vHc (congrArg (fun z => some (Blk.ints _ z)) ?_) ?_ | refine vFc (congrArg (fun z => some (V.bool z)) ?_) ?_ | refine vFs rfl rfl ?_ ?_))
     all_goals first | with_reducible refine bN ?_ | with_reducible refine bE ?_ | with_reducible refine bR ?_ | refine bX rfl ?_
     all_goals first
       | with_reducible refine tR ?_
       | with_reducible refine tE ?_
       | (
        with_reducible refine tN ?_
        refine cR ?_
        refine oA rfl rfl ?_
        refine oN ?_
        refine CW_ret ?_))
  all_goals (
   refine exitQ (.inr rfl) 2 (.cons (.tmp rfl rfl) .nil) ?_ rfl (vHc rfl (vHc rfl vHn)) rfl rfl
   simp only [resV, V.bool.injEq]
   first
     | (have e : i = n := (by omega); subst e; subst hi2; simp [hi3]; done)
     | (have h9 : A.take (n * 3) ≠ B.take (n * 3) := (fun h => hc (take_elem (show i < n by omega) h)); subst hi2; symm; exact decide_eq_false h9)
     | (symm; rw [decide_eq_false_iff_not]; intro h; have := congrArg List.length h; simp at this; omega))
end Go.Proofs.YtcklfkblhmlbbaaDoor
namespace Go.Proofs.YtcklfkblhmlbbaaDoor
attribute [local irreducible] CW OW QW QOp Con thenP inBlockP
set_option maxRecDepth 10000
set_option linter.unusedSimpArgs false
set_option linter.unusedVariables false
theorem markPointS_con (m : Nat) (t : TypeId) (L : List Int) (n k : Nat) (hn : n * 3 ≤ L.length) (hL : n ≤ 100000000) (hm : m ≤ 1000000000) : Con Tryd.prog [] 21 [.slice 0 0 n k, .int m] [(0, .ints t L)] (fun r H' => r = .int ((m + n * 3 : Nat) : Int) ∧ H' = [(0, .ints t (seqL m (n * 3) ++ L.drop (n * 3)))]) := by
  refine conW tab_ok [(0, .slice 0 0 n k), (1, .int m)] 1 [0] [0] Tryd.func21 rfl rfl rfl rfl rfl rfl rfl rfl rfl ?_
  refine cR ?_
  refine oA rfl rfl ?_
  refine oN ?_
  refine CW_seq ?_
  refine cR ?_
  refine oA rfl rfl ?_
  refine oN ?_
  refine CW_block ?_
  refine CW_loop (ι := Nat) (fun i => i ≤ n) (fun i => ⟨[(0, .slice 0 0 n k), (1, .int ((m + i * 3 : Nat) : Int)), (5, .int i)], [(0, .ints t (seqL m (i * 3) ++ L.drop (i * 3)))], 1⟩) (fun i => n - i) 0 ?_ ?_ ?_
  · first | trivial | omega | (simp; done) | (simp; omega)
  · refine View.mk' [] rfl rfl rfl ?_ ?_
    repeat' first | exact vFn | refine vFc rfl ?_ | exact vHn | refine vHc rfl ?_ | refine vFc (congrArg (fun z => some (V.int z)) ?_) ?_ | refine vHc (congrArg (fun z => some (Blk.ints _ z)) ?_) ?_ | refine vFc (congrArg (fun z => some (V.bool z)) ?_) ?_ | refine vFs rfl rfl ?_ ?_
    all_goals first | (simp [seqL]; done) | simp
  intro i hi
  refine CW_seq ?_
  refine cR ?_
  iterate 2 refine oM rfl rfl ?_
  first | refine oQ (Q_len rfl rfl rfl rfl) rfl rfl ?_ | refine oQ (Q_len0 rfl rfl rfl rfl) rfl rfl ?_
  refine oQ (Q_bin rfl rfl rfl) rfl rfl ?_
  refine oN ?_
  first | refine cT rfl ?_ | refine cF rfl ?_ | refine CW_cond rfl (fun hc => ?_) (fun hc => ?_)
  all_goals try simp only [s1, s2, s3, s4, s5, s6, s7, s8, s9, s10, s11, s12] at hc
  all_goals first
    | (
     refine CW_skip ?_)
    | (
     refine CW_exit ?_)
  all_goals first
    | with_reducible refine tR ?_
    | with_reducible refine tE ?_
    | (
     with_reducible refine tN ?_
     refine CW_seq ?_
     refine CW_block ?_
     refine cR ?_
     refine oA rfl rfl ?_
     refine oN ?_
     refine CW_block ?_
     refine CW_loop (ι := Nat) (fun j => j ≤ 3) (fun j => ⟨[(0, .slice 0 0 n k), (1, .int ((m + (i * 3 + j) : Nat) : Int)), (5, .int i), (6, .int j)], [(0, .ints t (seqL m (i * 3 + j) ++ L.drop (i * 3 + j)))], 1⟩) (fun j => 3 - j) 0 ?_ ?_ ?_
     · first | trivial | omega | (simp; done) | (simp; omega)
     · refine View.mk' [] rfl rfl rfl ?_ ?_
       repeat' first | exact vFn | refine vFc rfl ?_ | exact vHn | refine vHc rfl ?_ | refine vFc (congrArg (fun z => some (V.int z)) ?_) ?_ | refine vHc (congrArg (fun z => some (Blk.ints _ z)) ?_) ?_ | refine vFc (congrArg (fun z => some (V.bool z)) ?_) ?_ | refine vFs rfl rfl ?_ ?_
     intro j hj
     have hsl := seqL_length m (i * 3 + j)
     have hb : i * 3 + 3 ≤ n * 3 := by have h1 : (i + 1) * 3 ≤ n * 3 := (Nat.mul_le_mul_right 3 (by omega)); omega
     refine CW_seq ?_
     refine cR ?_
     refine oM rfl rfl ?_
     refine oQ (Q_bin rfl rfl rfl) rfl rfl ?_
     refine oN ?_
     first | refine cT rfl ?_ | refine cF rfl ?_ | refine CW_cond rfl (fun hc => ?_) (fun hc => ?_)
     all_goals try simp only [s1, s2, s3, s4, s5, s6, s7, s8, s9, s10, s11, s12] at hc
     all_goals first
       | (
        refine CW_skip ?_)
       | (
        refine CW_exit ?_)
     all_goals first
       | with_reducible refine tR ?_
       | with_reducible refine tE ?_
       | (
        with_reducible refine tN ?_
        refine CW_seq ?_
        refine CW_block ?_
        refine cR ?_
        iterate 4 refine oM rfl rfl ?_
        refine oQ (Q_ixs0z 3 rfl rfl rfl rfl rfl rfl (by omega)) rfl rfl ?_
        refine oQ (Q_ixa1 rfl rfl rfl rfl rfl rfl (by omega)) rfl rfl ?_
        refine oS rfl rfl rfl rfl rfl ?_
        refine oN ?_
        refine CW_region ?_
        refine oM rfl rfl ?_
        refine oQ (Q_binu (z := ((m + (i * 3 + (j + 1)) : Nat) : Int)) rfl rfl (congrArg some (by omega)) (by omega)) rfl rfl ?_
        refine oA rfl rfl ?_
        refine OW_nil ?_
        all_goals first | with_reducible refine bN ?_ | with_reducible refine bE ?_ | with_reducible refine bR ?_ | refine bX rfl ?_
        all_goals with_reducible refine tN ?_
        all_goals (
         refine CW_region ?_
         refine oM rfl rfl ?_
         first | refine oQ (Q_binu rfl rfl rfl (by omega)) rfl rfl ?_ | refine oQ (Q_bin rfl rfl rfl) rfl rfl ?_
         refine oA rfl rfl ?_
         refine OW_nil ?_))
     all_goals first
       | with_reducible refine tR ?_
       | with_reducible refine tE ?_
       | (
        with_reducible refine tN ?_
        refine ⟨j + 1, ?_, ?_, View.mk' [] rfl rfl rfl ?_ ?_⟩
        · omega
        · omega
        all_goals (repeat' first | exact vFn | refine vFc rfl ?_ | exact vHn | refine vHc rfl ?_ | refine vFc (congrArg (fun z => some (V.int z)) ?_) ?_ | refine vHc (congrArg (fun z => some (Blk.ints _ z)) ?_) ?_ | refine vFc (congrArg (fun z => some (V.bool z)) ?_) ?_ | refine vFs rfl rfl ?_ ?_)
        all_goals (rw [mid_set hsl (by omega), ← seqL_snoc])
        all_goals rfl)
     all_goals first | with_reducible refine bN ?_ | with_reducible refine bE ?_ | with_reducible refine bR ?_ | refine bX rfl ?_
     all_goals first | with_reducible refine bN ?_ | with_reducible refine bE ?_ | with_reducible refine bR ?_ | refine bX rfl ?_
     all_goals with_reducible refine tN ?_
     all_goals (
      refine CW_region ?_
      refine oM rfl rfl ?_
      first | refine oQ (Q_binu rfl rfl rfl (by omega)) rfl rfl ?_ | refine oQ (Q_bin rfl rfl rfl) rfl rfl ?_
      refine oA rfl rfl ?_
      refine OW_nil ?_))
  all_goals first
    | with_reducible refine tR ?_
    | with_reducible refine tE ?_
    | (
     with_reducible refine tN ?_
     refine ⟨i + 1, ?_, ?_, View.mk' [] rfl rfl rfl ?_ ?_⟩
     · omega
     · omega
     all_goals (repeat' first | exact vFn | refine vFc rfl ?_ | exact vHn | refine vHc rfl ?_ | refine vFc (congrArg (fun z => some (V.int z)) ?_) ?_ | refine vHc (congrArg (fun z => some (Blk.ints _ z)) ?_) ?_ | refine vFc (congrArg (fun z => some (V.bool z)) ?_) ?_ | refine vFs rfl rfl ?_ ?_)
     all_goals (have e : j = 3 := by omega)
     all_goals (subst e; simp only [Nat.add_mul, Nat.one_mul]))
  all_goals first | with_reducible refine bN ?_ | with_reducible refine bE ?_ | with_reducible refine bR ?_ | refine bX rfl ?_
  all_goals with_reducible refine tN ?_
  all_goals (
   refine cR ?_
   refine oM rfl rfl ?_
   refine oA rfl rfl ?_
   refine oN ?_
   refine CW_ret ?_)
  all_goals (
   have e : i = n := by omega
   subst e
   exact exitH (.inr rfl) [] 1 (.cons (.tmp rfl rfl) .nil) rfl rfl rfl (vHc rfl vHn) rfl rfl ⟨rfl, rfl⟩)
theorem markPointS_nil (m : Nat) : ConQ Tryd.prog [] 21 [.nilsl, .int m] [] (.int m) := by
  refine conW tab_ok [(0, .nilsl), (1, .int m)] 0 [] [] Tryd.func21 rfl rfl rfl rfl rfl rfl rfl rfl rfl ?_
  refine cR ?_
  refine oA rfl rfl ?_
  refine oN ?_
  refine CW_seq ?_
  refine cR ?_
  refine oA rfl rfl ?_
  refine oN ?_
  refine CW_block ?_
  refine CW_loop (ι := Nat) (fun i => i = 0) (fun i => ⟨[(0, .nilsl), (1, .int m), (5, .int i)], [], 0⟩) (fun i => 0) 0 ?_ ?_ ?_
  · first | trivial | omega | (simp; done) | (simp; omega)
  · refine View.mk' [] rfl rfl rfl ?_ ?_
    repeat' first | exact vFn | refine vFc rfl ?_ | exact vHn | refine vHc rfl ?_ | refine vFc (congrArg (fun z => some (V.int z)) ?_) ?_ | refine vHc (congrArg (fun z => some (Blk.ints _ z)) ?_) ?_ | refine vFc (congrArg (fun z => some (V.bool z)) ?_) ?_ | refine vFs rfl rfl ?_ ?_
  intro i hi
  refine CW_seq ?_
  refine cR ?_
  iterate 2 refine oM rfl rfl ?_
  first | refine oQ (Q_len rfl rfl rfl rfl) rfl rfl ?_ | refine oQ (Q_len0 rfl rfl rfl rfl) rfl rfl ?_
  refine oQ (Q_bin rfl rfl rfl) rfl rfl ?_
  refine oN ?_
  first | refine cT rfl ?_ | refine cF rfl ?_ | refine CW_cond rfl (fun hc => ?_) (fun hc => ?_)
  all_goals try simp only [s1, s2, s3, s4, s5, s6, s7, s8, s9, s10, s11, s12] at hc
  all_goals try (exfalso; first | omega | (simp at hc); done)
  all_goals first
    | (
     refine CW_skip ?_)
    | (
     refine CW_exit ?_)
  all_goals first
    | with_reducible refine tR ?_
    | with_reducible refine tE ?_
    | (
     with_reducible refine tN ?_
     refine CW_seq ?_
     refine CW_block ?_
     refine cR ?_
     refine oA rfl rfl ?_
     refine oN ?_
     refine CW_block ?_
     refine CW_loop (ι := Nat) (fun i => i = 0) (fun i => ⟨[], [], 0⟩) (fun i => 0) 0 ?_ ?_ ?_
     · first | trivial | omega | (simp; done) | (simp; omega)
     · refine View.mk' [] rfl rfl rfl ?_ ?_
       repeat' first | exact vFn | refine vFc rfl ?_ | exact vHn | refine vHc rfl ?_ | refine vFc (congrArg (fun z => some (V.int z)) ?_) ?_ | refine vHc (congrArg (fun z => some (Blk.ints _ z)) ?_) ?_ | refine vFc (congrArg (fun z => some (V.bool z)) ?_) ?_ | refine vFs rfl rfl ?_ ?_
     intro i hi
     refine CW_seq ?_
     refine cR ?_
     refine oM rfl rfl ?_
     refine oQ (Q_bin rfl rfl rfl) rfl rfl ?_
     refine oN ?_
     first | refine cT rfl ?_ | refine cF rfl ?_ | refine CW_cond rfl (fun hc => ?_) (fun hc => ?_)
     all_goals try simp only [s1, s2, s3, s4, s5, s6, s7, s8, s9, s10, s11, s12] at hc
     all_goals try (exfalso; first | omega | (simp at hc); done)
     all_goals first
       | (
        refine CW_skip ?_)
       | (
        refine CW_exit ?_)
     all_goals first
       | with_reducible refine tR ?_
       | with_reducible refine tE ?_
       | (
        with_reducible refine tN ?_
        refine CW_seq ?_
        refine CW_block ?_
        refine cR ?_
        iterate 4 refine oM rfl rfl ?_
        first | refine oQ (Q_ixs0z 3 rfl rfl rfl rfl rfl rfl (by first | omega | (dsimp only; omega) | (simp; omega) | (simp; done))) rfl rfl ?_ | refine oQ (Q_ixsz 3 rfl rfl rfl rfl rfl rfl (by first | omega | (dsimp only; omega) | (simp; omega) | (simp; done))) rfl rfl ?_
        first | refine oQ (Ia0 rfl rfl rfl rfl rfl rfl) rfl rfl ?_ | refine oQ (Ia1 rfl rfl rfl rfl rfl rfl) rfl rfl ?_
        refine oS rfl rfl rfl rfl rfl ?_
        refine oN ?_
        refine CW_region ?_
        refine oM rfl rfl ?_
        first | refine oQ (Q_binu rfl rfl rfl (by omega)) rfl rfl ?_ | refine oQ (Q_bin rfl rfl rfl) rfl rfl ?_
        refine oA rfl rfl ?_
        refine OW_nil ?_
        all_goals first | with_reducible refine bN ?_ | with_reducible refine bE ?_ | with_reducible refine bR ?_ | refine bX rfl ?_
        all_goals with_reducible refine tN ?_
        all_goals (
         refine CW_region ?_
         refine oM rfl rfl ?_
         first | refine oQ (Q_binu rfl rfl rfl (by omega)) rfl rfl ?_ | refine oQ (Q_bin rfl rfl rfl) rfl rfl ?_
         refine oA rfl rfl ?_
         refine OW_nil ?_))
     all_goals first
       | with_reducible refine tR ?_
       | with_reducible refine tE ?_
       | (
        with_reducible refine tN ?_
        refine ⟨i + 1, ?_, ?_, View.mk' [] rfl rfl rfl ?_ ?_⟩
        · omega
        · omega
        all_goals (repeat' first | exact vFn | refine vFc rfl ?_ | exact vHn | refine vHc rfl ?_ | refine vFc (congrArg (fun z => some (V.int z)) ?_) ?_ | refine vHc (congrArg (fun z => some (Blk.ints _ z)) ?_) ?_ | refine vFc (congrArg (fun z => some (V.bool z)) ?_) ?_ | refine vFs rfl rfl ?_ ?_))
     all_goals first | with_reducible refine bN ?_ | with_reducible refine bE ?_ | with_reducible refine bR ?_ | refine bX rfl ?_
     all_goals first | with_reducible refine bN ?_ | with_reducible refine bE ?_ | with_reducible refine bR ?_ | refine bX rfl ?_
     all_goals with_reducible refine tN ?_
     all_goals (
      refine CW_region ?_
      refine oM rfl rfl ?_
      first | refine oQ (Q_binu rfl rfl rfl (by omega)) rfl rfl ?_ | refine oQ (Q_bin rfl rfl rfl) rfl rfl ?_
      refine oA rfl rfl ?_
      refine OW_nil ?_))
  all_goals first
    | with_reducible refine tR ?_
    | with_reducible refine tE ?_
    | (
     with_reducible refine tN ?_
     refine ⟨i + 1, ?_, ?_, View.mk' [] rfl rfl rfl ?_ ?_⟩
     · omega
     · omega
     all_goals (repeat' first | exact vFn | refine vFc rfl ?_ | exact vHn | refine vHc rfl ?_ | refine vFc (congrArg (fun z => some (V.int z)) ?_) ?_ | refine vHc (congrArg (fun z => some (Blk.ints _ z)) ?_) ?_ | refine vFc (congrArg (fun z => some (V.bool z)) ?_) ?_ | refine vFs rfl rfl ?_ ?_))
  all_goals first | with_reducible refine bN ?_ | with_reducible refine bE ?_ | with_reducible refine bR ?_ | refine bX rfl ?_
  all_goals with_reducible refine tN ?_
  all_goals (
   refine cR ?_
   refine oM rfl rfl ?_
   refine oA rfl rfl ?_
   refine oN ?_
   refine CW_ret ?_)
  all_goals (
   ((refine exitQ (.inr rfl) 0 (.cons (.tmp rfl rfl) .nil) ?_ rfl vHn rfl rfl); rfl))
theorem heldPointS_con (m : Nat) (t : TypeId) (sp : List Int) (n k : Nat) (hL : n ≤ 100000000) (hm : m ≤ 1000000000) : ConQ Tryd.prog [] 22 [.slice 0 0 n k, .int m] [(0, .ints t (seqL m (n * 3) ++ sp))] (.int ((m + n * 3 : Nat) : Int)) := by
  refine conW tab_ok [(0, .slice 0 0 n k), (1, .int m)] 1 [0] [0] Tryd.func22 rfl rfl rfl rfl rfl rfl rfl rfl rfl ?_
  refine cR ?_
  refine oA rfl rfl ?_
  refine oN ?_
  refine CW_seq ?_
  refine cR ?_
  refine oA rfl rfl ?_
  refine oN ?_
  refine CW_block ?_
  refine CW_loop (ι := Nat) (fun i => i ≤ n) (fun i => ⟨[(0, .slice 0 0 n k), (1, .int ((m + i * 3 : Nat) : Int)), (5, .int i)], [(0, .ints t (seqL m (n * 3) ++ sp))], 1⟩) (fun i => n - i) 0 ?_ ?_ ?_
  · first | trivial | omega | (simp; done) | (simp; omega)
  · refine View.mk' [] rfl rfl rfl ?_ ?_
    repeat' first | exact vFn | refine vFc rfl ?_ | exact vHn | refine vHc rfl ?_ | refine vFc (congrArg (fun z => some (V.int z)) ?_) ?_ | refine vHc (congrArg (fun z => some (Blk.ints _ z)) ?_) ?_ | refine vFc (congrArg (fun z => some (V.bool z)) ?_) ?_ | refine vFs rfl rfl ?_ ?_
    all_goals simp
  intro i hi
  refine CW_seq ?_
  refine cR ?_
  iterate 2 refine oM rfl rfl ?_
  first | refine oQ (Q_len rfl rfl rfl rfl) rfl rfl ?_ | refine oQ (Q_len0 rfl rfl rfl rfl) rfl rfl ?_
  refine oQ (Q_bin rfl rfl rfl) rfl rfl ?_
  refine oN ?_
  first | refine cT rfl ?_ | refine cF rfl ?_ | refine CW_cond rfl (fun hc => ?_) (fun hc => ?_)
  all_goals try simp only [s1, s2, s3, s4, s5, s6, s7, s8, s9, s10, s11, s12] at hc
  all_goals first
    | (
     refine CW_skip ?_)
    | (
     refine CW_exit ?_)
  all_goals first
    | with_reducible refine tR ?_
    | with_reducible refine tE ?_
    | (
     with_reducible refine tN ?_
     refine CW_seq ?_
     refine CW_block ?_
     refine cR ?_
     refine oA rfl rfl ?_
     refine oN ?_
     refine CW_block ?_
     refine CW_loop (ι := Nat) (fun j => j ≤ 3) (fun j => ⟨[(0, .slice 0 0 n k), (1, .int ((m + (i * 3 + j) : Nat) : Int)), (5, .int i), (6, .int j)], [(0, .ints t (seqL m (n * 3) ++ sp))], 1⟩) (fun j => 3 - j) 0 ?_ ?_ ?_
     · first | trivial | omega | (simp; done) | (simp; omega)
     · refine View.mk' [] rfl rfl rfl ?_ ?_
       repeat' first | exact vFn | refine vFc rfl ?_ | exact vHn | refine vHc rfl ?_ | refine vFc (congrArg (fun z => some (V.int z)) ?_) ?_ | refine vHc (congrArg (fun z => some (Blk.ints _ z)) ?_) ?_ | refine vFc (congrArg (fun z => some (V.bool z)) ?_) ?_ | refine vFs rfl rfl ?_ ?_
     intro j hj
     have hb : i * 3 + 3 ≤ n * 3 := by have h1 : (i + 1) * 3 ≤ n * 3 := (Nat.mul_le_mul_right 3 (by omega)); omega
     refine CW_seq ?_
     refine cR ?_
     refine oM rfl rfl ?_
     refine oQ (Q_bin rfl rfl rfl) rfl rfl ?_
     refine oN ?_
     first | refine cT rfl ?_ | refine cF rfl ?_ | refine CW_cond rfl (fun hc => ?_) (fun hc => ?_)
     all_goals try simp only [s1, s2, s3, s4, s5, s6, s7, s8, s9, s10, s11, s12] at hc
     all_goals first
       | (
        refine CW_skip ?_)
       | (
        refine CW_exit ?_)
     all_goals first
       | with_reducible refine tR ?_
       | with_reducible refine tE ?_
       | (
        with_reducible refine tN ?_
        refine CW_seq ?_
        refine CW_block ?_
        refine CW_seq ?_
        refine cR ?_
        iterate 3 refine oM rfl rfl ?_
        refine oQ (Q_ixs0z 3 rfl rfl rfl rfl rfl rfl (by omega)) rfl rfl ?_
        refine oQ (Q_ixa1 rfl rfl rfl rfl rfl rfl (by omega)) rfl rfl ?_
        refine oQ (Q_ldc rfl rfl rfl rfl (seqL_at (show i * 3 + j < n * 3 by omega))) rfl rfl ?_
        refine oM rfl rfl ?_
        refine oQ (Q_bin rfl rfl rfl) rfl rfl ?_
        refine oN ?_
        first | refine cT rfl ?_ | refine cF rfl ?_ | refine CW_cond rfl (fun hc => ?_) (fun hc => ?_)
        all_goals try simp only [s1, s2, s3, s4, s5, s6, s7, s8, s9, s10, s11, s12] at hc
        all_goals first
          | (
           refine CW_skip ?_)
          | (
           refine cR ?_
           refine oA rfl rfl ?_
           refine oN ?_
           refine CW_ret ?_)
        all_goals first
          | with_reducible refine tR ?_
          | with_reducible refine tE ?_
          | (
           with_reducible refine tN ?_
           refine CW_region ?_
           refine oM rfl rfl ?_
           refine oQ (Q_binu (z := ((m + (i * 3 + (j + 1)) : Nat) : Int)) rfl rfl (congrArg some (by omega)) (by omega)) rfl rfl ?_
           refine oA rfl rfl ?_
           refine OW_nil ?_)
        all_goals first | with_reducible refine bN ?_ | with_reducible refine bE ?_ | with_reducible refine bR ?_ | refine bX rfl ?_
        all_goals first
          | with_reducible refine tR ?_
          | with_reducible refine tE ?_
          | (
           with_reducible refine tN ?_
           refine CW_region ?_
           refine oM rfl rfl ?_
           first | refine oQ (Q_binu rfl rfl rfl (by omega)) rfl rfl ?_ | refine oQ (Q_bin rfl rfl rfl) rfl rfl ?_
           refine oA rfl rfl ?_
           refine OW_nil ?_))
     all_goals first
       | with_reducible refine tR ?_
       | with_reducible refine tE ?_
       | (
        with_reducible refine tN ?_
        refine ⟨j + 1, ?_, ?_, View.mk' [] rfl rfl rfl ?_ ?_⟩
        · omega
        · omega
        all_goals (repeat' first | exact vFn | refine vFc rfl ?_ | exact vHn | refine vHc rfl ?_ | refine vFc (congrArg (fun z => some (V.int z)) ?_) ?_ | refine vHc (congrArg (fun z => some (Blk.ints _ z)) ?_) ?_ | refine vFc (congrArg (fun z => some (V.bool z)) ?_) ?_ | refine vFs rfl rfl ?_ ?_))
     all_goals first | with_reducible refine bN ?_ | with_reducible refine bE ?_ | with_reducible refine bR ?_ | refine bX rfl ?_
     all_goals first | with_reducible refine bN ?_ | with_reducible refine bE ?_ | with_reducible refine bR ?_ | refine bX rfl ?_
     all_goals first
       | with_reducible refine tR ?_
       | with_reducible refine tE ?_
       | (
        with_reducible refine tN ?_
        refine CW_region ?_
        refine oM rfl rfl ?_
        first | refine oQ (Q_binu rfl rfl rfl (by omega)) rfl rfl ?_ | refine oQ (Q_bin rfl rfl rfl) rfl rfl ?_
        refine oA rfl rfl ?_
        refine OW_nil ?_))
  all_goals first
    | with_reducible refine tR ?_
    | with_reducible refine tE ?_
    | (
     with_reducible refine tN ?_
     refine ⟨i + 1, ?_, ?_, View.mk' [] rfl rfl rfl ?_ ?_⟩
     · omega
     · omega
     all_goals (repeat' first | exact vFn | refine vFc rfl ?_ | exact vHn | refine vHc rfl ?_ | refine vFc (congrArg (fun z => some (V.int z)) ?_) ?_ | refine vHc (congrArg (fun z => some (Blk.ints _ z)) ?_) ?_ | refine vFc (congrArg (fun z => some (V.bool z)) ?_) ?_ | refine vFs rfl rfl ?_ ?_)
     all_goals (have e : j = 3 := by omega)
     all_goals (subst e; simp only [Nat.add_mul, Nat.one_mul]))
  all_goals first | with_reducible refine bN ?_ | with_reducible refine bE ?_ | with_reducible refine bR ?_ | refine bX rfl ?_
  all_goals first
    | with_reducible refine tR ?_
    | with_reducible refine tE ?_
    | (
     with_reducible refine tN ?_
     refine cR ?_
     refine oM rfl rfl ?_
     refine oA rfl rfl ?_
     refine oN ?_
     refine CW_ret ?_)
  all_goals (
   first
     | (exfalso; exact hc trivial)
     | (exfalso; omega)
     | (have e : i = n := (by omega)
        subst e
        (refine exitQ (.inr rfl) 1 (.cons (.tmp rfl rfl) .nil) ?_ rfl (vHc rfl vHn) rfl rfl); rfl))
theorem heldPointS_nil (m : Nat) : ConQ Tryd.prog [] 22 [.nilsl, .int m] [] (.int m) := by
  refine conW tab_ok [(0, .nilsl), (1, .int m)] 0 [] [] Tryd.func22 rfl rfl rfl rfl rfl rfl rfl rfl rfl ?_
  refine cR ?_
  refine oA rfl rfl ?_
  refine oN ?_
  refine CW_seq ?_
  refine cR ?_
  refine oA rfl rfl ?_
  refine oN ?_
  refine CW_block ?_
  refine CW_loop (ι := Nat) (fun i => i = 0) (fun i => ⟨[(0, .nilsl), (1, .int m), (5, .int i)], [], 0⟩) (fun i => 0) 0 ?_ ?_ ?_
  · first | trivial | omega | (simp; done) | (simp; omega)
  · refine View.mk' [] rfl rfl rfl ?_ ?_
    repeat' first | exact vFn | refine vFc rfl ?_ | exact vHn | refine vHc rfl ?_ | refine vFc (congrArg (fun z => some (V.int z)) ?_) ?_ | refine vHc (congrArg (fun z => some (Blk.ints _ z)) ?_) ?_ | refine vFc (congrArg (fun z => some (V.bool z)) ?_) ?_ | refine vFs rfl rfl ?_ ?_
  intro i hi
  refine CW_seq ?_
  refine cR ?_
  iterate 2 refine oM rfl rfl ?_
  first | refine oQ (Q_len rfl rfl rfl rfl) rfl rfl ?_ | refine oQ (Q_len0 rfl rfl rfl rfl) rfl rfl ?_
  refine oQ (Q_bin rfl rfl rfl) rfl rfl ?_
  refine oN ?_
  first | refine cT rfl ?_ | refine cF rfl ?_ | refine CW_cond rfl (fun hc => ?_) (fun hc => ?_)
  all_goals try simp only [s1, s2, s3, s4, s5, s6, s7, s8, s9, s10, s11, s12] at hc
  all_goals try (exfalso; first | omega | (simp at hc); done)
  all_goals first
    | (
     refine CW_skip ?_)
    | (
     refine CW_exit ?_)
  all_goals first
    | with_reducible refine tR ?_
    | with_reducible refine tE ?_
    | (
     with_reducible refine tN ?_
     refine CW_seq ?_
     refine CW_block ?_
     refine cR ?_
     refine oA rfl rfl ?_
     refine oN ?_
     refine CW_block ?_
     refine CW_loop (ι := Nat) (fun i => i = 0) (fun i => ⟨[], [], 0⟩) (fun i => 0) 0 ?_ ?_ ?_
     · first | trivial | omega | (simp; done) | (simp; omega)
     · refine View.mk' [] rfl rfl rfl ?_ ?_
       repeat' first | exact vFn | refine vFc rfl ?_ | exact vHn | refine vHc rfl ?_ | refine vFc (congrArg (fun z => some (V.int z)) ?_) ?_ | refine vHc (congrArg (fun z => some (Blk.ints _ z)) ?_) ?_ | refine vFc (congrArg (fun z => some (V.bool z)) ?_) ?_ | refine vFs rfl rfl ?_ ?_
     intro i hi
     refine CW_seq ?_
     refine cR ?_
     refine oM rfl rfl ?_
     refine oQ (Q_bin rfl rfl rfl) rfl rfl ?_
     refine oN ?_
     first | refine cT rfl ?_ | refine cF rfl ?_ | refine CW_cond rfl (fun hc => ?_) (fun hc => ?_)
     all_goals try simp only [s1, s2, s3, s4, s5, s6, s7, s8, s9, s10, s11, s12] at hc
     all_goals try (exfalso; first | omega | (simp at hc); done)
     all_goals first
       | (
        refine CW_skip ?_)
       | (
        refine CW_exit ?_)
     all_goals first
       | with_reducible refine tR ?_
       | with_reducible refine tE ?_
       | (
        with_reducible refine tN ?_
        refine CW_seq ?_
        refine CW_block ?_
        refine CW_seq ?_
        refine cR ?_
        iterate 3 refine oM rfl rfl ?_
        first | refine oQ (Q_ixs0z 3 rfl rfl rfl rfl rfl rfl (by first | omega | (dsimp only; omega) | (simp; omega) | (simp; done))) rfl rfl ?_ | refine oQ (Q_ixsz 3 rfl rfl rfl rfl rfl rfl (by first | omega | (dsimp only; omega) | (simp; omega) | (simp; done))) rfl rfl ?_
        first | refine oQ (Ia0 rfl rfl rfl rfl rfl rfl) rfl rfl ?_ | refine oQ (Ia1 rfl rfl rfl rfl rfl rfl) rfl rfl ?_
        refine oQ (Ld rfl rfl rfl rfl) rfl rfl ?_
        refine oM rfl rfl ?_
        refine oQ (Q_bin rfl rfl rfl) rfl rfl ?_
        refine oN ?_
        first | refine cT rfl ?_ | refine cF rfl ?_ | refine CW_cond rfl (fun hc => ?_) (fun hc => ?_)
        all_goals try simp only [s1, s2, s3, s4, s5, s6, s7, s8, s9, s10, s11, s12] at hc
        all_goals try (exfalso; first | omega | (simp at hc); done)
        all_goals first
          | (
           refine CW_skip ?_)
          | (
           refine cR ?_
           refine oA rfl rfl ?_
           refine oN ?_
           refine CW_ret ?_)
        all_goals first
          | with_reducible refine tR ?_
          | with_reducible refine tE ?_
          | (
           with_reducible refine tN ?_
           refine CW_region ?_
           refine oM rfl rfl ?_
           first | refine oQ (Q_binu rfl rfl rfl (by omega)) rfl rfl ?_ | refine oQ (Q_bin rfl rfl rfl) rfl rfl ?_
           refine oA rfl rfl ?_
           refine OW_nil ?_)
        all_goals first | with_reducible refine bN ?_ | with_reducible refine bE ?_ | with_reducible refine bR ?_ | refine bX rfl ?_
        all_goals first
          | with_reducible refine tR ?_
          | with_reducible refine tE ?_
          | (
           with_reducible refine tN ?_
           refine CW_region ?_
           refine oM rfl rfl ?_
           first | refine oQ (Q_binu rfl rfl rfl (by omega)) rfl rfl ?_ | refine oQ (Q_bin rfl rfl rfl) rfl rfl ?_
           refine oA rfl rfl ?_
           refine OW_nil ?_))
     all_goals first
       | with_reducible refine tR ?_
       | with_reducible refine tE ?_
       | (
        with_reducible refine tN ?_
        refine ⟨i + 1, ?_, ?_, View.mk' [] rfl rfl rfl ?_ ?_⟩
        · omega
        · omega
        all_goals (repeat' first | exact vFn | refine vFc rfl ?_ | exact vHn | refine vHc rfl ?_ | refine vFc (congrArg (fun z => some (V.int z)) ?_) ?_ | refine vHc (congrArg (fun z => some (Blk.ints _ z)) ?_) ?_ | refine vFc (congrArg (fun z => some (V.bool z)) ?_) ?_ | refine vFs rfl rfl ?_ ?_))
     all_goals first | with_reducible refine bN ?_ | with_reducible refine bE ?_ | with_reducible refine bR ?_ | refine bX rfl ?_
     all_goals first | with_reducible refine bN ?_ | with_reducible refine bE ?_ | with_reducible refine bR ?_ | refine bX rfl ?_
     all_goals first
       | with_reducible refine tR ?_
       | with_reducible refine tE ?_
       | (
        with_reducible refine tN ?_
        refine CW_region ?_
        refine oM rfl rfl ?_
        first | refine oQ (Q_binu rfl rfl rfl (by omega)) rfl rfl ?_ | refine oQ (Q_bin rfl rfl rfl) rfl rfl ?_
        refine oA rfl rfl ?_
        refine OW_nil ?_))
  all_goals first
    | with_reducible refine tR ?_
    | with_reducible refine tE ?_
    | (
     with_reducible refine tN ?_
     refine ⟨i + 1, ?_, ?_, View.mk' [] rfl rfl rfl ?_ ?_⟩
     · omega
     · omega
     all_goals (repeat' first | exact vFn | refine vFc rfl ?_ | exact vHn | refine vHc rfl ?_ | refine vFc (congrArg (fun z => some (V.int z)) ?_) ?_ | refine vHc (congrArg (fun z => some (Blk.ints _ z)) ?_) ?_ | refine vFc (congrArg (fun z => some (V.bool z)) ?_) ?_ | refine vFs rfl rfl ?_ ?_))
  all_goals first | with_reducible refine bN ?_ | with_reducible refine bE ?_ | with_reducible refine bR ?_ | refine bX rfl ?_
  all_goals first
    | with_reducible refine tR ?_
    | with_reducible refine tE ?_
    | (
     with_reducible refine tN ?_
     refine cR ?_
     refine oM rfl rfl ?_
     refine oA rfl rfl ?_
     refine oN ?_
     refine CW_ret ?_)
  all_goals (
   ((refine exitQ (.inr rfl) 0 (.cons (.tmp rfl rfl) .nil) ?_ rfl vHn rfl rfl); rfl))
theorem eqPointS_nn  : ConQ Tryd.prog [] 20 [.nilsl, .nilsl] [] (.bool true) := by
  refine conW tab_ok [(0, .nilsl), (1, .nilsl)] 0 [] [] Tryd.func20 rfl rfl rfl rfl rfl rfl rfl rfl rfl ?_
  refine cR ?_
  refine oA rfl rfl ?_
  refine oN ?_
  refine CW_seq ?_
  refine cR ?_
  refine oM rfl rfl ?_
  first | refine oQ (Q_len rfl rfl rfl rfl) rfl rfl ?_ | refine oQ (Q_len0 rfl rfl rfl rfl) rfl rfl ?_
  refine oM rfl rfl ?_
  first | refine oQ (Q_len rfl rfl rfl rfl) rfl rfl ?_ | refine oQ (Q_len0 rfl rfl rfl rfl) rfl rfl ?_
  refine oQ (Q_bin rfl rfl rfl) rfl rfl ?_
  refine oN ?_
  first | refine cT rfl ?_ | refine cF rfl ?_ | refine CW_cond rfl (fun hc => ?_) (fun hc => ?_)
  all_goals try simp only [s1, s2, s3, s4, s5, s6, s7, s8, s9, s10, s11, s12] at hc
  all_goals try (exfalso; first | omega | (simp at hc); done)
  all_goals first
    | (
     refine CW_skip ?_)
    | (
     refine cR ?_
     refine oA rfl rfl ?_
     refine oN ?_
     refine CW_ret ?_)
  all_goals first
    | with_reducible refine tR ?_
    | with_reducible refine tE ?_
    | (
     with_reducible refine tN ?_
     refine CW_seq ?_
     refine cR ?_
     refine oA rfl rfl ?_
     refine oN ?_
     refine CW_block ?_
     refine CW_loop (ι := Nat) (fun i => i = 0) (fun i => ⟨[(0, .nilsl), (1, .nilsl), (5, .int i)], [], 0⟩) (fun i => 0) 0 ?_ ?_ ?_
     · first | trivial | omega | (simp; done) | (simp; omega)
     · refine View.mk' [] rfl rfl rfl ?_ ?_
       repeat' first | exact vFn | refine vFc rfl ?_ | exact vHn | refine vHc rfl ?_ | refine vFc (congrArg (fun z => some (V.int z)) ?_) ?_ | refine vHc (congrArg (fun z => some (Blk.ints _ z)) ?_) ?_ | refine vFc (congrArg (fun z => some (V.bool z)) ?_) ?_ | refine vFs rfl rfl ?_ ?_
     intro i hi
     refine CW_seq ?_
     refine cR ?_
     iterate 2 refine oM rfl rfl ?_
     first | refine oQ (Q_len rfl rfl rfl rfl) rfl rfl ?_ | refine oQ (Q_len0 rfl rfl rfl rfl) rfl rfl ?_
     refine oQ (Q_bin rfl rfl rfl) rfl rfl ?_
     refine oN ?_
     first | refine cT rfl ?_ | refine cF rfl ?_ | refine CW_cond rfl (fun hc => ?_) (fun hc => ?_)
     all_goals try simp only [s1, s2, s3, s4, s5, s6, s7, s8, s9, s10, s11, s12] at hc
     all_goals try (exfalso; first | omega | (simp at hc); done)
     all_goals first
       | (
        refine CW_skip ?_)
       | (
        refine CW_exit ?_)
     all_goals first
       | with_reducible refine tR ?_
       | with_reducible refine tE ?_
       | (
        with_reducible refine tN ?_
        refine CW_seq ?_
        refine CW_block ?_
        refine CW_seq ?_
        refine CW_draw lateOk (by decide +kernel) ?_
        iterate 2 refine qM rfl rfl ?_
        first | refine qQ (Q_ixs0z 3 rfl rfl rfl rfl rfl rfl (by first | omega | (dsimp only; omega) | (simp; omega) | (simp; done))) rfl rfl ?_ | refine qQ (Q_ixsz 3 rfl rfl rfl rfl rfl rfl (by first | omega | (dsimp only; omega) | (simp; omega) | (simp; done))) rfl rfl ?_
        first | refine qQ (Lw rfl rfl rfl rfl) rfl rfl ?_ | refine qQ (La rfl rfl rfl rfl rfl) rfl rfl ?_
        iterate 2 refine qM rfl rfl ?_
        first | refine qQ (Q_ixs0z 3 rfl rfl rfl rfl rfl rfl (by first | omega | (dsimp only; omega) | (simp; omega) | (simp; done))) rfl rfl ?_ | refine qQ (Q_ixsz 3 rfl rfl rfl rfl rfl rfl (by first | omega | (dsimp only; omega) | (simp; omega) | (simp; done))) rfl rfl ?_
        first | refine qQ (Lw rfl rfl rfl rfl) rfl rfl ?_ | refine qQ (La rfl rfl rfl rfl rfl) rfl rfl ?_
        fail "call of loop.example/g01310/laws.eqPoint at slot 25"
        refine qQ (Q_not rfl) rfl rfl ?_
        refine QW_nil ?_
        all_goals with_reducible refine tN ?_
        all_goals (
         first | refine cT rfl ?_ | refine cF rfl ?_ | refine CW_cond rfl (fun hc => ?_) (fun hc => ?_)
         all_goals try simp only [s1, s2, s3, s4, s5, s6, s7, s8, s9, s10, s11, s12] at hc
         all_goals try (exfalso; first | omega | (simp at hc); done)
         all_goals first
           | (
            refine CW_skip ?_)
           | (
            refine cR ?_
            refine oA rfl rfl ?_
            refine oN ?_
            refine CW_ret ?_))
        all_goals first | with_reducible refine bN ?_ | with_reducible refine bE ?_ | with_reducible refine bR ?_ | refine bX rfl ?_
        all_goals first
          | with_reducible refine tR ?_
          | with_reducible refine tE ?_
          | (
           with_reducible refine tN ?_
           refine CW_region ?_
           refine oM rfl rfl ?_
           first | refine oQ (Q_binu rfl rfl rfl (by omega)) rfl rfl ?_ | refine oQ (Q_bin rfl rfl rfl) rfl rfl ?_
           refine oA rfl rfl ?_
           refine OW_nil ?_))
     all_goals first
       | with_reducible refine tR ?_
       | with_reducible refine tE ?_
       | (
        with_reducible refine tN ?_
        refine ⟨i + 1, ?_, ?_, View.mk' [] rfl rfl rfl ?_ ?_⟩
        · omega
        · omega
        all_goals (repeat' first | exact vFn | refine vFc rfl ?_ | exact vHn | refine vHc rfl ?_ | refine vFc (congrArg (fun z => some (V.int z)) ?_) ?_ | refine vHc (congrArg (fun z => some (Blk.ints _ z)) ?_) ?_ | refine vFc (congrArg (fun z => some (V.bool z)) ?_) ?_ | refine vFs rfl rfl ?_ ?_))
     all_goals first | with_reducible refine bN ?_ | with_reducible refine bE ?_ | with_reducible refine bR ?_ | refine bX rfl ?_
     all_goals first
       | with_reducible refine tR ?_
       | with_reducible refine tE ?_
       | (
        with_reducible refine tN ?_
        refine cR ?_
        refine oA rfl rfl ?_
        refine oN ?_
        refine CW_ret ?_))
  all_goals (
   ((refine exitQ (.inr rfl) 0 (.cons (.tmp rfl rfl) .nil) ?_ rfl vHn rfl rfl); rfl))
end Go.Proofs.YtcklfkblhmlbbaaDoor
namespace Go.Proofs.YtcklfkblhmlbbaaDoor
attribute [local irreducible] CW OW QW QOp Con thenP inBlockP AW QX RW
set_option maxRecDepth 10000
set_option linter.unusedSimpArgs false
set_option linter.unusedVariables false
theorem eqPointS_same (t t' : TypeId) (L : List (List Int)) (sp sp' : List Int) (k k' : Nat) (h3 : ∀ x ∈ L, x.length = 3) (h6 : L.length ≤ 1000000000) : ConQ Tryd.prog [] 20 [.slice 0 0 L.length k, .slice 1 0 L.length k'] [(0, .ints t (L.flatten ++ sp)), (1, .ints t' (L.flatten ++ sp'))] (.bool true) := by
  have hf := flat3 h3
  have := eqPointS_con t t' (L.flatten ++ sp) (L.flatten ++ sp') L.length k L.length k' (by simp [hf]) (by simp [hf]) ⟨h6, h6⟩
  rw [← hf, List.take_left, List.take_left] at this
  simpa using this
theorem listR_pos {sz : Nat} {T : TypeId} {H0 : Hp} {b : Nat} {code : Int} {L : List (List Int)} {r : V} {H' : Hp} (hc : code = 0) (h : listR sz T H0 b code L r H') : ∃ (k : Nat) (sp : List Int), L.length ≤ k ∧ k * sz ≤ L.length * sz + sp.length ∧ r = .tuple [.slice b 0 L.length k, .int 0] ∧ H' = H0 ++ [(b, .ints T (L.flatten ++ sp))] := by
  unfold listR at h
  rwa [if_pos hc] at h
theorem listR_neg {sz : Nat} {T : TypeId} {H0 : Hp} {b : Nat} {code : Int} {L : List (List Int)} {r : V} {H' : Hp} (hc : ¬ code = 0) (h : listR sz T H0 b code L r H') : r = .tuple [.nilsl, .int code] ∧ H' = H0 := by
  unfold listR at h
  rwa [if_neg hc] at h
theorem law_FnExactFlexesOf (p : Int) (c : List Int) (qlc : c.length = 10) : ConQ Tryd.prog [(0, 2000)] 7 [.int p, .arr c] [(2000, .ro 0 cuT)] (.bool true) := by
  by_cases hcd : cuC p c = 0
  · have h3 : ∀ x ∈ (fxV p c), x.length = 3 := fxV_three
    have hln : (fxV p c).length ≤ 100000 := Nat.le_trans (fxV_len (cuC_zero hcd).1 c) (by decide)
    have hfl := flat3 h3
    generalize hLL : (fxV p c) = LL at *
    have hsp := spec_FlexesOf_con p c qlc
    have him := impl_FlexesOf_con p c qlc
    rw [hLL] at hsp him
    refine conW tab_ok [(0, .int p), (1, .arr c)] 0 [2000] [] Tryd.func7 rfl rfl rfl rfl rfl rfl rfl rfl rfl ?_
    refine cR ?_
    refine oBox rfl rfl rfl rfl rfl rfl ?_
    refine oA rfl rfl ?_
    refine oN ?_
    refine cR ?_
    refine oM rfl rfl ?_
    first | refine oQ (Lw rfl rfl rfl rfl) rfl rfl ?_ | refine oQ (La rfl rfl rfl rfl rfl) rfl rfl ?_
    refine oQ (Q_call0 (toCubic_con _ qlc) rfl rfl rfl) rfl rfl ?_
    refine oCall (hsp) [] 1 rfl rfl (Fits.mk' vHn rfl rfl (by first | (simp; done) | exact glOk rfl rfl rfl)) rfl rfl ?_
    rintro r H1 hR
    obtain ⟨k0, sp0, hk0, hs0, rfl, rfl⟩ := listR_pos hcd hR
    refine ⟨.tuple [.slice 1 0 LL.length k0, .int 0], [(1, .ints 29 (LL.flatten ++ sp0))], rfl, rfl, rfl, ?_⟩
    refine oM rfl rfl ?_
    iterate 2 refine oQ (Q_extract rfl rfl) rfl rfl ?_
    iterate 2 refine oA rfl rfl ?_
    refine oN ?_
    refine cR ?_
    refine oM rfl rfl ?_
    first | refine oQ (Lw rfl rfl rfl rfl) rfl rfl ?_ | refine oQ (La rfl rfl rfl rfl rfl) rfl rfl ?_
    refine oQ (Q_call0 (toCubic_con _ qlc) rfl rfl rfl) rfl rfl ?_
    refine oCall (him) [] 1 rfl rfl (Fits.mk' (vHc rfl vHn) rfl rfl (by first | (simp; done) | exact glOk rfl rfl rfl)) rfl rfl ?_
    rintro r H1 hR
    obtain ⟨k1, sp1, hk1, hs1, rfl, rfl⟩ := listR_pos hcd hR
    refine ⟨.tuple [.slice 2 0 LL.length k1, .int 0], [(2000, .ro 0 cuT), (2, .ints 29 (LL.flatten ++ sp1))], rfl, rfl, rfl, ?_⟩
    refine oM rfl rfl ?_
    iterate 2 refine oQ (Q_extract rfl rfl) rfl rfl ?_
    iterate 2 refine oA rfl rfl ?_
    refine oN ?_
    refine CW_seq ?_
    refine cR ?_
    iterate 2 refine oM rfl rfl ?_
    refine oQ (Q_call (eqPointS_same 29 29 LL sp1 sp0 k1 k0 h3 (by omega)) [(0, 2), (1, 1)] rfl rfl (Fits.mk' (vHc rfl (vHc rfl vHn)) rfl rfl (by first | (simp; done) | exact glOk rfl rfl rfl)) rfl rfl) rfl rfl ?_
    refine oQ (Q_not rfl) rfl rfl ?_
    refine oM rfl rfl ?_
    all_goals first | refine oT rfl rfl ?_ | refine o1 rfl rfl rfl ?_ | refine o0 rfl rfl rfl ?_ | refine ogP1 rfl rfl rfl (fun hg => ?_) (fun hg => ?_) | refine ogP0 rfl rfl rfl (fun hg => ?_) (fun hg => ?_)
    all_goals try simp only [s1, s2, s3, s4, s5, s6, s7, s8, s9, s10, s11, s12] at hg
    all_goals first | (refine oM rfl rfl ?_) | skip
    all_goals first | refine oT rfl rfl ?_ | refine o1 rfl rfl rfl ?_ | refine o0 rfl rfl rfl ?_ | refine ogP1 rfl rfl rfl (fun hg => ?_) (fun hg => ?_) | refine ogP0 rfl rfl rfl (fun hg => ?_) (fun hg => ?_)
    all_goals try simp only [s1, s2, s3, s4, s5, s6, s7, s8, s9, s10, s11, s12] at hg
    all_goals first | (refine oM rfl rfl ?_) | skip
    all_goals first | refine oT rfl rfl ?_ | refine o1 rfl rfl rfl ?_ | refine o0 rfl rfl rfl ?_ | refine ogP1 rfl rfl rfl (fun hg => ?_) (fun hg => ?_) | refine ogP0 rfl rfl rfl (fun hg => ?_) (fun hg => ?_)
    all_goals try simp only [s1, s2, s3, s4, s5, s6, s7, s8, s9, s10, s11, s12] at hg
    all_goals first | (refine oQ (Q_bin rfl rfl rfl) rfl rfl ?_) | skip
    all_goals first | refine oQ (Q_pick_t rfl (by with_reducible rfl) rfl rfl) rfl rfl ?_ | refine oQ (Q_pick_f rfl (by with_reducible rfl) rfl rfl) rfl rfl ?_
    all_goals refine oN ?_
    all_goals (
     first | refine cT rfl ?_ | refine cF rfl ?_ | refine CW_cond rfl (fun hc => ?_) (fun hc => ?_)
     all_goals try simp only [s1, s2, s3, s4, s5, s6, s7, s8, s9, s10, s11, s12] at hc
     all_goals try (exfalso; first | omega | (simp at hc; done); done)
     all_goals first
       | (
        refine CW_skip ?_)
       | (
        refine cR ?_
        refine oA rfl rfl ?_
        refine oN ?_
        refine CW_ret ?_))
    all_goals first
      | with_reducible refine tR ?_
      | with_reducible refine tE ?_
      | (
       with_reducible refine tN ?_
       refine cR ?_
       refine oA rfl rfl ?_
       refine oN ?_
       refine cR ?_
       iterate 2 refine oM rfl rfl ?_
       refine oCall (markPointS_con 101 29 (LL.flatten ++ sp1) LL.length k1 (by rw [List.length_append, hfl]; omega) (by omega) (by omega)) [(0, 2)] 0 rfl rfl (Fits.mk' (vHc rfl vHn) rfl rfl (by first | (simp; done) | exact glOk rfl rfl rfl)) rfl rfl ?_
       rintro r H1 ⟨rfl, rfl⟩
       refine ⟨.int ((101 + LL.length * 3 : Nat) : Int), [(2, .ints 29 (seqL 101 (LL.length * 3) ++ (LL.flatten ++ sp1).drop (LL.length * 3)))], rfl, rfl, rfl, ?_⟩
       refine oA rfl rfl ?_
       refine oN ?_
       refine cR ?_
       refine oA rfl rfl ?_
       refine oN ?_
       refine cR ?_
       iterate 2 refine oM rfl rfl ?_
       refine oQ (Q_call (heldPointS_con 101 29 ((LL.flatten ++ sp1).drop (LL.length * 3)) LL.length k1 (by omega) (by omega)) [(0, 2)] rfl rfl (Fits.mk' (vHc rfl vHn) rfl rfl (by first | (simp; done) | exact glOk rfl rfl rfl)) rfl rfl) rfl rfl ?_
       refine oA rfl rfl ?_
       refine oN ?_
       refine CW_seq ?_
       refine cR ?_
       refine oM rfl rfl ?_
       refine oQ (Q_bin rfl rfl rfl) rfl rfl ?_
       refine oN ?_
       first | refine cT rfl ?_ | refine cF rfl ?_ | refine CW_cond rfl (fun hc => ?_) (fun hc => ?_)
       all_goals try simp only [s1, s2, s3, s4, s5, s6, s7, s8, s9, s10, s11, s12] at hc
       all_goals try (exfalso; first | omega | (simp at hc; done); done)
       all_goals first
         | (
          refine CW_skip ?_)
         | (
          refine cR ?_
          refine oA rfl rfl ?_
          refine oN ?_
          refine CW_ret ?_)
       all_goals first
         | with_reducible refine tR ?_
         | with_reducible refine tE ?_
         | (
          with_reducible refine tN ?_
          refine CW_seq ?_
          refine cR ?_
          iterate 2 refine oM rfl rfl ?_
          refine oQ (Q_bin rfl rfl rfl) rfl rfl ?_
          refine oN ?_
          first | refine cT rfl ?_ | refine cF rfl ?_ | refine CW_cond rfl (fun hc => ?_) (fun hc => ?_)
          all_goals try simp only [s1, s2, s3, s4, s5, s6, s7, s8, s9, s10, s11, s12] at hc
          all_goals try (exfalso; first | omega | (simp at hc; done); done)
          all_goals first
            | (
             refine CW_skip ?_)
            | (
             refine cR ?_
             refine oA rfl rfl ?_
             refine oN ?_
             refine CW_ret ?_)
          all_goals first
            | with_reducible refine tR ?_
            | with_reducible refine tE ?_
            | (
             with_reducible refine tN ?_
             refine cR ?_
             refine oM rfl rfl ?_
             first | refine oQ (Lw rfl rfl rfl rfl) rfl rfl ?_ | refine oQ (La rfl rfl rfl rfl rfl) rfl rfl ?_
             refine oQ (Q_call0 (toCubic_con _ qlc) rfl rfl rfl) rfl rfl ?_
             refine oCall (him) [] 1 rfl rfl (Fits.mk' (vHc rfl vHn) rfl rfl (by first | (simp; done) | exact glOk rfl rfl rfl)) rfl rfl ?_
             rintro r H1 hR
             obtain ⟨k2, sp2, hk2, hs2, rfl, rfl⟩ := listR_pos hcd hR
             refine ⟨.tuple [.slice 3 0 LL.length k2, .int 0], [(2000, .ro 0 cuT), (3, .ints 29 (LL.flatten ++ sp2))], rfl, rfl, rfl, ?_⟩
             refine oM rfl rfl ?_
             iterate 2 refine oQ (Q_extract rfl rfl) rfl rfl ?_
             iterate 2 refine oA rfl rfl ?_
             refine oN ?_
             refine CW_seq ?_
             refine cR ?_
             iterate 2 refine oM rfl rfl ?_
             refine oQ (Q_call (eqPointS_same 29 29 LL sp2 sp0 k2 k0 h3 (by omega)) [(0, 3), (1, 1)] rfl rfl (Fits.mk' (vHc rfl (vHc rfl vHn)) rfl rfl (by first | (simp; done) | exact glOk rfl rfl rfl)) rfl rfl) rfl rfl ?_
             refine oQ (Q_not rfl) rfl rfl ?_
             refine oM rfl rfl ?_
             all_goals first | refine oT rfl rfl ?_ | refine o1 rfl rfl rfl ?_ | refine o0 rfl rfl rfl ?_ | refine ogP1 rfl rfl rfl (fun hg => ?_) (fun hg => ?_) | refine ogP0 rfl rfl rfl (fun hg => ?_) (fun hg => ?_)
             all_goals try simp only [s1, s2, s3, s4, s5, s6, s7, s8, s9, s10, s11, s12] at hg
             all_goals first | (refine oM rfl rfl ?_) | skip
             all_goals first | refine oT rfl rfl ?_ | refine o1 rfl rfl rfl ?_ | refine o0 rfl rfl rfl ?_ | refine ogP1 rfl rfl rfl (fun hg => ?_) (fun hg => ?_) | refine ogP0 rfl rfl rfl (fun hg => ?_) (fun hg => ?_)
             all_goals try simp only [s1, s2, s3, s4, s5, s6, s7, s8, s9, s10, s11, s12] at hg
             all_goals first | (refine oM rfl rfl ?_) | skip
             all_goals first | refine oT rfl rfl ?_ | refine o1 rfl rfl rfl ?_ | refine o0 rfl rfl rfl ?_ | refine ogP1 rfl rfl rfl (fun hg => ?_) (fun hg => ?_) | refine ogP0 rfl rfl rfl (fun hg => ?_) (fun hg => ?_)
             all_goals try simp only [s1, s2, s3, s4, s5, s6, s7, s8, s9, s10, s11, s12] at hg
             all_goals first | (refine oQ (Q_bin rfl rfl rfl) rfl rfl ?_) | skip
             all_goals first | refine oQ (Q_pick_t rfl (by with_reducible rfl) rfl rfl) rfl rfl ?_ | refine oQ (Q_pick_f rfl (by with_reducible rfl) rfl rfl) rfl rfl ?_
             all_goals refine oN ?_
             all_goals (
              first | refine cT rfl ?_ | refine cF rfl ?_ | refine CW_cond rfl (fun hc => ?_) (fun hc => ?_)
              all_goals try simp only [s1, s2, s3, s4, s5, s6, s7, s8, s9, s10, s11, s12] at hc
              all_goals try (exfalso; first | omega | (simp at hc; done); done)
              all_goals first
                | (
                 refine CW_skip ?_)
                | (
                 refine cR ?_
                 refine oA rfl rfl ?_
                 refine oN ?_
                 refine CW_ret ?_))
             all_goals first
               | with_reducible refine tR ?_
               | with_reducible refine tE ?_
               | (
                with_reducible refine tN ?_
                refine cR ?_
                refine oA rfl rfl ?_
                refine oN ?_
                refine cR ?_
                iterate 2 refine oM rfl rfl ?_
                refine oQ (Q_call (heldPointS_con 101 29 ((LL.flatten ++ sp1).drop (LL.length * 3)) LL.length k1 (by omega) (by omega)) [(0, 2)] rfl rfl (Fits.mk' (vHc rfl vHn) rfl rfl (by first | (simp; done) | exact glOk rfl rfl rfl)) rfl rfl) rfl rfl ?_
                refine oA rfl rfl ?_
                refine oN ?_
                refine CW_seq ?_
                refine cR ?_
                refine oM rfl rfl ?_
                refine oQ (Q_bin rfl rfl rfl) rfl rfl ?_
                refine oN ?_
                first | refine cT rfl ?_ | refine cF rfl ?_ | refine CW_cond rfl (fun hc => ?_) (fun hc => ?_)
                all_goals try simp only [s1, s2, s3, s4, s5, s6, s7, s8, s9, s10, s11, s12] at hc
                all_goals try (exfalso; first | omega | (simp at hc; done); done)
                all_goals first
                  | (
                   refine CW_skip ?_)
                  | (
                   refine cR ?_
                   refine oA rfl rfl ?_
                   refine oN ?_
                   refine CW_ret ?_)
                all_goals first
                  | with_reducible refine tR ?_
                  | with_reducible refine tE ?_
                  | (
                   with_reducible refine tN ?_
                   refine CW_seq ?_
                   refine cR ?_
                   iterate 2 refine oM rfl rfl ?_
                   refine oQ (Q_bin rfl rfl rfl) rfl rfl ?_
                   refine oN ?_
                   first | refine cT rfl ?_ | refine cF rfl ?_ | refine CW_cond rfl (fun hc => ?_) (fun hc => ?_)
                   all_goals try simp only [s1, s2, s3, s4, s5, s6, s7, s8, s9, s10, s11, s12] at hc
                   all_goals try (exfalso; first | omega | (simp at hc; done); done)
                   all_goals first
                     | (
                      refine CW_skip ?_)
                     | (
                      refine cR ?_
                      refine oA rfl rfl ?_
                      refine oN ?_
                      refine CW_ret ?_)
                   all_goals first
                     | with_reducible refine tR ?_
                     | with_reducible refine tE ?_
                     | (
                      with_reducible refine tN ?_
                      refine cR ?_
                      refine oA rfl rfl ?_
                      refine oN ?_
                      refine CW_ret ?_))))))
    all_goals (
     first | ((refine exitQ (.inr rfl) 0 (.cons (.tmp rfl rfl) .nil) ?_ rfl (vHc rfl vHn) rfl rfl); rfl) | (exfalso; simp at hg; done) | (exfalso; simp_all; done))
  · skip
    refine conW tab_ok [(0, .int p), (1, .arr c)] 0 [2000] [] Tryd.func7 rfl rfl rfl rfl rfl rfl rfl rfl rfl ?_
    refine cR ?_
    refine oBox rfl rfl rfl rfl rfl rfl ?_
    refine oA rfl rfl ?_
    refine oN ?_
    refine cR ?_
    refine oM rfl rfl ?_
    first | refine oQ (Lw rfl rfl rfl rfl) rfl rfl ?_ | refine oQ (La rfl rfl rfl rfl rfl) rfl rfl ?_
    refine oQ (Q_call0 (toCubic_con _ qlc) rfl rfl rfl) rfl rfl ?_
    refine oCall (spec_FlexesOf_con p c qlc) [] 0 rfl rfl (Fits.mk' vHn rfl rfl (by first | (simp; done) | exact glOk rfl rfl rfl)) rfl rfl ?_
    rintro r H1 hR
    obtain ⟨rfl, rfl⟩ := listR_neg hcd hR
    refine ⟨.tuple [.nilsl, .int (cuC p c)], [], rfl, rfl, rfl, ?_⟩
    refine oM rfl rfl ?_
    iterate 2 refine oQ (Q_extract rfl rfl) rfl rfl ?_
    iterate 2 refine oA rfl rfl ?_
    refine oN ?_
    refine cR ?_
    refine oM rfl rfl ?_
    first | refine oQ (Lw rfl rfl rfl rfl) rfl rfl ?_ | refine oQ (La rfl rfl rfl rfl rfl) rfl rfl ?_
    refine oQ (Q_call0 (toCubic_con _ qlc) rfl rfl rfl) rfl rfl ?_
    refine oCall (impl_FlexesOf_con p c qlc) [] 0 rfl rfl (Fits.mk' (vHc rfl vHn) rfl rfl (by first | (simp; done) | exact glOk rfl rfl rfl)) rfl rfl ?_
    rintro r H1 hR
    obtain ⟨rfl, rfl⟩ := listR_neg hcd hR
    refine ⟨.tuple [.nilsl, .int (cuC p c)], [(2000, .ro 0 cuT)], rfl, rfl, rfl, ?_⟩
    refine oM rfl rfl ?_
    iterate 2 refine oQ (Q_extract rfl rfl) rfl rfl ?_
    iterate 2 refine oA rfl rfl ?_
    refine oN ?_
    refine CW_seq ?_
    refine cR ?_
    iterate 2 refine oM rfl rfl ?_
    refine oQ (Q_call0 (eqPointS_nn) rfl rfl rfl) rfl rfl ?_
    refine oQ (Q_not rfl) rfl rfl ?_
    refine oM rfl rfl ?_
    all_goals first | refine oT rfl rfl ?_ | refine o1 rfl rfl rfl ?_ | refine o0 rfl rfl rfl ?_ | refine ogP1 rfl rfl rfl (fun hg => ?_) (fun hg => ?_) | refine ogP0 rfl rfl rfl (fun hg => ?_) (fun hg => ?_)
    all_goals try simp only [s1, s2, s3, s4, s5, s6, s7, s8, s9, s10, s11, s12] at hg
    all_goals first | (refine oM rfl rfl ?_) | skip
    all_goals first | refine oT rfl rfl ?_ | refine o1 rfl rfl rfl ?_ | refine o0 rfl rfl rfl ?_ | refine ogP1 rfl rfl rfl (fun hg => ?_) (fun hg => ?_) | refine ogP0 rfl rfl rfl (fun hg => ?_) (fun hg => ?_)
    all_goals try simp only [s1, s2, s3, s4, s5, s6, s7, s8, s9, s10, s11, s12] at hg
    all_goals first | (refine oM rfl rfl ?_) | skip
    all_goals first | refine oT rfl rfl ?_ | refine o1 rfl rfl rfl ?_ | refine o0 rfl rfl rfl ?_ | refine ogP1 rfl rfl rfl (fun hg => ?_) (fun hg => ?_) | refine ogP0 rfl rfl rfl (fun hg => ?_) (fun hg => ?_)
    all_goals try simp only [s1, s2, s3, s4, s5, s6, s7, s8, s9, s10, s11, s12] at hg
    all_goals first | (refine oQ (Q_bin rfl rfl rfl) rfl rfl ?_) | skip
    all_goals first | refine oQ (Q_pick_t rfl (by with_reducible rfl) rfl rfl) rfl rfl ?_ | refine oQ (Q_pick_f rfl (by with_reducible rfl) rfl rfl) rfl rfl ?_
    all_goals refine oN ?_
    all_goals (
     first | refine cT rfl ?_ | refine cF rfl ?_ | refine CW_cond rfl (fun hc => ?_) (fun hc => ?_)
     all_goals try simp only [s1, s2, s3, s4, s5, s6, s7, s8, s9, s10, s11, s12] at hc
     all_goals try (exfalso; first | omega | (simp at hc; done); done)
     all_goals first
       | (
        refine CW_skip ?_)
       | (
        refine cR ?_
        refine oA rfl rfl ?_
        refine oN ?_
        refine CW_ret ?_))
    all_goals first
      | with_reducible refine tR ?_
      | with_reducible refine tE ?_
      | (
       with_reducible refine tN ?_
       refine cR ?_
       refine oA rfl rfl ?_
       refine oN ?_
       refine cR ?_
       iterate 2 refine oM rfl rfl ?_
       refine oQ (Q_call0 (markPointS_nil 101) rfl rfl rfl) rfl rfl ?_
       refine oA rfl rfl ?_
       refine oN ?_
       refine cR ?_
       refine oA rfl rfl ?_
       refine oN ?_
       refine cR ?_
       iterate 2 refine oM rfl rfl ?_
       refine oQ (Q_call0 (heldPointS_nil 101) rfl rfl rfl) rfl rfl ?_
       refine oA rfl rfl ?_
       refine oN ?_
       refine CW_seq ?_
       refine cR ?_
       refine oM rfl rfl ?_
       refine oQ (Q_bin rfl rfl rfl) rfl rfl ?_
       refine oN ?_
       first | refine cT rfl ?_ | refine cF rfl ?_ | refine CW_cond rfl (fun hc => ?_) (fun hc => ?_)
       all_goals try simp only [s1, s2, s3, s4, s5, s6, s7, s8, s9, s10, s11, s12] at hc
       all_goals try (exfalso; first | omega | (simp at hc; done); done)
       all_goals first
         | (
          refine CW_skip ?_)
         | (
          refine cR ?_
          refine oA rfl rfl ?_
          refine oN ?_
          refine CW_ret ?_)
       all_goals first
         | with_reducible refine tR ?_
         | with_reducible refine tE ?_
         | (
          with_reducible refine tN ?_
          refine CW_seq ?_
          refine cR ?_
          iterate 2 refine oM rfl rfl ?_
          refine oQ (Q_bin rfl rfl rfl) rfl rfl ?_
          refine oN ?_
          first | refine cT rfl ?_ | refine cF rfl ?_ | refine CW_cond rfl (fun hc => ?_) (fun hc => ?_)
          all_goals try simp only [s1, s2, s3, s4, s5, s6, s7, s8, s9, s10, s11, s12] at hc
          all_goals try (exfalso; first | omega | (simp at hc; done); done)
          all_goals first
            | (
             refine CW_skip ?_)
            | (
             refine cR ?_
             refine oA rfl rfl ?_
             refine oN ?_
             refine CW_ret ?_)
          all_goals first
            | with_reducible refine tR ?_
            | with_reducible refine tE ?_
            | (
             with_reducible refine tN ?_
             refine cR ?_
             refine oM rfl rfl ?_
             first | refine oQ (Lw rfl rfl rfl rfl) rfl rfl ?_ | refine oQ (La rfl rfl rfl rfl rfl) rfl rfl ?_
             refine oQ (Q_call0 (toCubic_con _ qlc) rfl rfl rfl) rfl rfl ?_
             refine oCall (impl_FlexesOf_con p c qlc) [] 0 rfl rfl (Fits.mk' (vHc rfl vHn) rfl rfl (by first | (simp; done) | exact glOk rfl rfl rfl)) rfl rfl ?_
             rintro r H1 hR
             obtain ⟨rfl, rfl⟩ := listR_neg hcd hR
             refine ⟨.tuple [.nilsl, .int (cuC p c)], [(2000, .ro 0 cuT)], rfl, rfl, rfl, ?_⟩
             refine oM rfl rfl ?_
             iterate 2 refine oQ (Q_extract rfl rfl) rfl rfl ?_
             iterate 2 refine oA rfl rfl ?_
             refine oN ?_
             refine CW_seq ?_
             refine cR ?_
             iterate 2 refine oM rfl rfl ?_
             refine oQ (Q_call0 (eqPointS_nn) rfl rfl rfl) rfl rfl ?_
             refine oQ (Q_not rfl) rfl rfl ?_
             refine oM rfl rfl ?_
             all_goals first | refine oT rfl rfl ?_ | refine o1 rfl rfl rfl ?_ | refine o0 rfl rfl rfl ?_ | refine ogP1 rfl rfl rfl (fun hg => ?_) (fun hg => ?_) | refine ogP0 rfl rfl rfl (fun hg => ?_) (fun hg => ?_)
             all_goals try simp only [s1, s2, s3, s4, s5, s6, s7, s8, s9, s10, s11, s12] at hg
             all_goals first | (refine oM rfl rfl ?_) | skip
             all_goals first | refine oT rfl rfl ?_ | refine o1 rfl rfl rfl ?_ | refine o0 rfl rfl rfl ?_ | refine ogP1 rfl rfl rfl (fun hg => ?_) (fun hg => ?_) | refine ogP0 rfl rfl rfl (fun hg => ?_) (fun hg => ?_)
             all_goals try simp only [s1, s2, s3, s4, s5, s6, s7, s8, s9, s10, s11, s12] at hg
             all_goals first | (refine oM rfl rfl ?_) | skip
             all_goals first | refine oT rfl rfl ?_ | refine o1 rfl rfl rfl ?_ | refine o0 rfl rfl rfl ?_ | refine ogP1 rfl rfl rfl (fun hg => ?_) (fun hg => ?_) | refine ogP0 rfl rfl rfl (fun hg => ?_) (fun hg => ?_)
             all_goals try simp only [s1, s2, s3, s4, s5, s6, s7, s8, s9, s10, s11, s12] at hg
             all_goals first | (refine oQ (Q_bin rfl rfl rfl) rfl rfl ?_) | skip
             all_goals first | refine oQ (Q_pick_t rfl (by with_reducible rfl) rfl rfl) rfl rfl ?_ | refine oQ (Q_pick_f rfl (by with_reducible rfl) rfl rfl) rfl rfl ?_
             all_goals refine oN ?_
             all_goals (
              first | refine cT rfl ?_ | refine cF rfl ?_ | refine CW_cond rfl (fun hc => ?_) (fun hc => ?_)
              all_goals try simp only [s1, s2, s3, s4, s5, s6, s7, s8, s9, s10, s11, s12] at hc
              all_goals try (exfalso; first | omega | (simp at hc; done); done)
              all_goals first
                | (
                 refine CW_skip ?_)
                | (
                 refine cR ?_
                 refine oA rfl rfl ?_
                 refine oN ?_
                 refine CW_ret ?_))
             all_goals first
               | with_reducible refine tR ?_
               | with_reducible refine tE ?_
               | (
                with_reducible refine tN ?_
                refine cR ?_
                refine oA rfl rfl ?_
                refine oN ?_
                refine cR ?_
                iterate 2 refine oM rfl rfl ?_
                refine oQ (Q_call0 (heldPointS_nil 101) rfl rfl rfl) rfl rfl ?_
                refine oA rfl rfl ?_
                refine oN ?_
                refine CW_seq ?_
                refine cR ?_
                refine oM rfl rfl ?_
                refine oQ (Q_bin rfl rfl rfl) rfl rfl ?_
                refine oN ?_
                first | refine cT rfl ?_ | refine cF rfl ?_ | refine CW_cond rfl (fun hc => ?_) (fun hc => ?_)
                all_goals try simp only [s1, s2, s3, s4, s5, s6, s7, s8, s9, s10, s11, s12] at hc
                all_goals try (exfalso; first | omega | (simp at hc; done); done)
                all_goals first
                  | (
                   refine CW_skip ?_)
                  | (
                   refine cR ?_
                   refine oA rfl rfl ?_
                   refine oN ?_
                   refine CW_ret ?_)
                all_goals first
                  | with_reducible refine tR ?_
                  | with_reducible refine tE ?_
                  | (
                   with_reducible refine tN ?_
                   refine CW_seq ?_
                   refine cR ?_
                   iterate 2 refine oM rfl rfl ?_
                   refine oQ (Q_bin rfl rfl rfl) rfl rfl ?_
                   refine oN ?_
                   first | refine cT rfl ?_ | refine cF rfl ?_ | refine CW_cond rfl (fun hc => ?_) (fun hc => ?_)
                   all_goals try simp only [s1, s2, s3, s4, s5, s6, s7, s8, s9, s10, s11, s12] at hc
                   all_goals try (exfalso; first | omega | (simp at hc; done); done)
                   all_goals first
                     | (
                      refine CW_skip ?_)
                     | (
                      refine cR ?_
                      refine oA rfl rfl ?_
                      refine oN ?_
                      refine CW_ret ?_)
                   all_goals first
                     | with_reducible refine tR ?_
                     | with_reducible refine tE ?_
                     | (
                      with_reducible refine tN ?_
                      refine cR ?_
                      refine oA rfl rfl ?_
                      refine oN ?_
                      refine CW_ret ?_))))))
    all_goals (
     first | ((refine exitQ (.inr rfl) 0 (.cons (.tmp rfl rfl) .nil) ?_ rfl (vHc rfl vHn) rfl rfl); rfl) | (exfalso; simp at hg; done) | (exfalso; simp_all; done))
end Go.Proofs.YtcklfkblhmlbbaaDoor
