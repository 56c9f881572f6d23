/- The engine, part N: a region that draws its order, in which all but one store only read. The store may come anywhere among them; what is stored to is looked at by none. -/
import Derived.Test.YtlhlnaehfjojiaaDoorEngJ
namespace Go.Proofs.YtlhlnaehfjojiaaDoor
set_option linter.unusedVariables false
section
variable {c : Cx} {ρ0 : Nat → Nat} {w0 : World} {ops : Array Oper} {Q : Exit → Act → World → Prop} {j b N : Nat} {t : TypeId} {nw : List Int} {ρ : Nat → Nat} {H : Hp}
/-- the world before and behind the store -/
def CJ (c : Cx) (ρ0 : Nat → Nat) (w0 : World) (j b : Nat) (t : TypeId) (N : Nat) (nw : List Int) (ρ : Nat → Nat) (H : Hp) (listed : Array Bool) (w : World) : Prop :=
  (listed.getD j false = true ∧ CC c ρ0 w0 ρ ((b, .ints t nw) :: H) w) ∨ (listed.getD j false = false ∧ ∃ l : List Int, l.length = N ∧ CC c ρ0 w0 ρ ((b, .ints t l) :: H) w)
theorem CJ_set {i : Nat} {listed : Array Bool} {w : World} (h : i ≠ j) : CJ c ρ0 w0 j b t N nw ρ H (listed.setIfInBounds i true) w ↔ CJ c ρ0 w0 j b t N nw ρ H listed w := by
  unfold CJ
  rw [getD_set_ne false h]
def anyV (c : Cx) (ρ0 : Nat → Nat) (w0 : World) (ops : Array Oper) (Q : Exit → Act → World → Prop) (j b : Nat) (t : TypeId) (N : Nat) (nw : List Int) (ρ : Nat → Nat) (H : Hp) : Nat → Array Bool → Act → Prop
  | 0, listed, a => Region.ready .any ops listed = [] ∧ ∀ w, CJ c ρ0 w0 j b t N nw ρ H listed w → Q .normal a w
  | m + 1, listed, a => (Region.ready .any ops listed = [] → ∀ w, CJ c ρ0 w0 j b t N nw ρ H listed w → Q .normal a w) ∧
    ∀ i ∈ Region.ready .any ops listed, ∀ w, CJ c ρ0 w0 j b t N nw ρ H listed w → wpOp c.P ops Q i (fun a' w' => CJ c ρ0 w0 j b t N nw ρ H (listed.setIfInBounds i true) w' ∧ anyV c ρ0 w0 ops Q j b t N nw ρ H m (listed.setIfInBounds i true) a') a w
theorem anyV_sound : ∀ (m : Nat) (listed : Array Bool) (a : Act) (w : World), CJ c ρ0 w0 j b t N nw ρ H listed w → anyV c ρ0 w0 ops Q j b t N nw ρ H m listed a → wpAny c.P .any ops Q m listed a w
  | 0, _, _, w, hw, h => ⟨h.1, h.2 w hw⟩
  | m + 1, _, _, w, hw, h => ⟨fun h0 => h.1 h0 w hw, fun i hi => wpOp_mono (fun a' w' h' => anyV_sound m _ a' w' h'.1 h'.2) (h.2 i hi w hw)⟩
theorem quietAt_mono {P : Program} {o : Oper} {a : Act} {T T' : World → Prop} {w : World} {v : Value} (h : o.quietAt P a T w v) (hT : ∀ w, T w → T' w) : o.quietAt P a T' w v := by
  unfold Oper.quietAt at h ⊢
  generalize (execOp a.eval o).run P w = r at *
  cases r with
  | ok n w' =>
    cases n <;> simp only [Oper.quietUpon] at h ⊢ <;> first | exact h | skip
    case enter f args => exact ⟨h.1, h.2.mono fun e w'' ⟨he, hw''⟩ => ⟨he, hT _ hw''⟩⟩
  | halt x w' => simp only [Oper.quietUpon] at h
theorem Ext_revive {k : Blk} (hd : lkB H b = some .dead) : Ext c ρ H ρ ((b, k) :: H) := by
  refine ⟨fun b' k' hl hne => ⟨?_, rfl, fun _ _ => rfl⟩, fun _ _ => rfl⟩
  rw [lkB_cons, if_neg]
  · exact hl
  · intro e
    subst e
    rw [hd] at hl
    injection hl with hl
    exact hne hl.symm
theorem YX.yieldsJ {o : Oper} {v : Value} {a : Act} {listed : Array Bool} (hd : lkB H b = some .dead) (h : YX c ρ0 w0 ops o v ρ H a) : YieldsIn c.P ops (CJ c ρ0 w0 j b t N nw ρ H listed) o v a := by
  refine h.imp (fun ⟨h1, h2⟩ => ⟨h1, fun w hw => ?_⟩) id
  rcases hw with ⟨hl, hw⟩ | ⟨hl, l, hlen, hw⟩
  · exact quietAt_mono (h2 ρ _ (Ext_revive hd) w hw) fun w hw => .inl ⟨hl, hw⟩
  · exact quietAt_mono (h2 ρ _ (Ext_revive hd) w hw) fun w hw => .inr ⟨hl, l, hlen, hw⟩
theorem anyV_take {i : Nat} {oi : Oper} {v : Value} (hi : ops[i]? = some oi) (hs : Region.noSelect ops = true) (hij : i ≠ j) (hd : lkB H b = some .dead) (hQ : ∀ ch a w, ¬ Q (.panic ch) a w) : ∀ (m : Nat) (listed : Array Bool) (a : Act),
    (∀ j oj, ops[j]? = some oj → j ≠ i → listed.getD j true = false → (∀ e ∈ oj.after, Region.binds .any e = true → e.on ≠ i) → oi.apart ops oj = true) → i ∈ Region.ready .any ops listed → YX c ρ0 w0 ops oi v ρ H a →
    anyV c ρ0 w0 ops Q j b t N nw ρ H m (listed.setIfInBounds i true) (a.put oi.dst v) → anyV c ρ0 w0 ops Q j b t N nw ρ H (m + 1) listed a := by
  have nsel := Region.noSelect_spec hs
  intro m
  induction m with
  | zero =>
    intro listed a _ hr hy h
    refine ⟨fun h => by rw [h] at hr; (cases hr), fun j' hj w hw => ?_⟩
    by_cases hji : j' = i
    · subst hji; exact wpOp_quiet hi (hy.yieldsJ hd) hw fun w' hw' => ⟨(CJ_set hij).2 hw', h⟩
    · have := ready_mono hj hji
      rw [h.1] at this
      cases this
  | succ m ih =>
    intro listed a hfree hr hy h
    refine ⟨fun h => by rw [h] at hr; (cases hr), fun j' hj w hw => ?_⟩
    by_cases hji : j' = i
    · subst hji; exact wpOp_quiet hi (hy.yieldsJ hd) hw fun w' hw' => ⟨(CJ_set hij).2 hw', h⟩
    · obtain ⟨hjun, oj, hoj, hall⟩ := mem_ready.1 hj
      have hnot : ∀ e ∈ oj.after, Region.binds .any e = true → e.on ≠ i := fun e he hb heq => by
        have h1 := hall e he hb
        rw [heq] at h1
        exact unl (mem_ready.1 hr).1 h1
      have hfree' : ∀ k ok, ops[k]? = some ok → k ≠ i → (listed.setIfInBounds j' true).getD k true = false → (∀ e ∈ ok.after, Region.binds .any e = true → e.on ≠ i) → oi.apart ops ok = true := fun k ok hk hki hun hno => by
        refine hfree k ok hk hki ?_ hno
        by_cases hjk : j' = k
        · subst hjk; exact hjun
        · rw [getD_set_ne true hjk] at hun; exact hun
      have h1 := h.2 j' (ready_mono hj hji) w ((CJ_set hij).2 hw)
      have h2 := wpOp_swap (Y := YX c ρ0 w0 ops oi v ρ H) hoj (hfree j' oj hoj hji hjun hnot) (fun cs b => nsel i oi cs b hi) (fun cs b => nsel j' oj cs b hoj) hQ YX.same hy h1
      refine wpOp_mono (fun a' w' ⟨hy', hk⟩ => ?_) h2
      obtain ⟨hcj, hk⟩ := hk
      rw [Array.setIfInBounds_comm _ _ (Ne.symm hji)] at hcj hk
      exact ⟨(CJ_set hij).1 hcj, ih (listed.setIfInBounds j' true) a' hfree' (ready_mono hr (Ne.symm hji)) hy' hk⟩
end
/-- on states: the block b is dead in the state's heap -/
def AV (c : Cx) (ops : Array Oper) (j b : Nat) (t : TypeId) (N : Nat) (nw : List Int) (Q : Post) (m : Nat) (listed : Array Bool) (s : S) : Prop :=
  ∀ ρ0 w0, GR c.gl c.D ρ0 → ∀ ρ a, FR c ρ s.F a → WF c s → (∀ b ∈ c.D, ρ b = ρ0 b) → anyV c ρ0 w0 ops (np (Lift c ρ0 w0 Q)) j b t N nw ρ s.H m listed a
section
variable {c : Cx} {Q : Post} {F : Fr} {H : Hp} {n : Nat} {ops : Array Oper} {m : Nat} {listed : Array Bool} {d : Nat} {op : Op} {ty : TypeId} {pos : String} {af : Array Edge} {v : V} {j b N : Nat} {t : TypeId} {nw : List Int}
theorem CW_anyV {id : Nat} {l : List Oper} {l0 : List Int} (j b m : Nat) (nw : List Int) (hsz : l.toArray.size = m) (hm : c.P.follows .mixedOrders = true) (hns : Region.noSelect l.toArray = true) (hj : Nat.blt j m = true) (hb : lkB H b = some (.ints t l0)) (hl0 : l0.length = N)
    (h : Region.noSelect l.toArray = true → AV c l.toArray j b t N nw Q m (Array.replicate m false) ⟨F, (b, .dead) :: H, n⟩) : CW c (.region id l.toArray true) Q ⟨F, H, n⟩ := by
  subst hsz
  have h := h hns
  intro ρ0 w0 hg ρ a w hs
  refine Code.wp_mono (fun e a w h => h.2) (wp_region_any (Q := np (Lift c ρ0 w0 Q)) hm ?_)
  refine anyV_sound (b := b) (t := t) (N := N) (nw := nw) (j := j) (ρ := ρ) (H := (b, .dead) :: H) _ _ _ _ ?_ (h ρ0 w0 hg ρ a hs.fr (hs.wf.kill hb) hs.cc.drew.inv.fix)
  have hjs : j < l.length := by simpa [Nat.blt_eq] using hj
  refine .inr ⟨by simp [Array.getD_eq_getD_getElem?, hjs], l0, hl0, ?_⟩
  refine CC.sub (H' := H) (ρ' := ρ) ⟨fun b' k hk hd => ⟨?_, rfl, fun _ _ => rfl⟩, fun _ _ => rfl⟩ hs.cc.drew
  rw [lkB_cons] at hk
  split at hk
  · rename_i e; subst e; injection hk with hk; rw [← hk]; exact hb
  · rename_i e; rw [lkB_cons, if_neg e] at hk; exact hk
theorem AV_take {s : S} {i : Nat} {o : Oper} (hns : Region.noSelect ops = true) (hi : ops[i]? = some o) (hg : o.guard = none) (hij : Nat.beq i j = false) (hd : lkB s.H b = some .dead) (hf : (Region.free .any ops listed i && (Region.ready .any ops listed).contains i) = true) (hq : QX c o s v) (hN : okDst c.N o.dst = true) (hsc : sc s.n v.ids = true)
    (h : AV c ops j b t N nw Q m (listed.setIfInBounds i true) (s.put o.dst v)) : AV c ops j b t N nw Q (m + 1) listed s := by
  intro ρ0 w0 hgr ρ a hfr hwf hfix
  simp only [Bool.and_eq_true] at hf
  refine anyV_take hi hns (Nat.ne_of_beq_eq_false hij) hd (fun ch a w h => h.1 ch rfl) m listed a (Region.free_spec hi hf.1) (by simpa using hf.2) (.inl ⟨by simp [Region.wanted, hg], fun ρ' H' hx w hw => hq ρ0 w0 hgr ρ a hfr hfix ρ' H' hx w hw⟩) ?_
  have := h ρ0 w0 hgr ρ _ (hfr.put' o.dst v _ (okDst_lt hN) (.inr rfl)) (hwf.put o.dst v hsc) hfix
  rwa [put_H] at this
theorem vQ (i : Nat) (hns : Region.noSelect ops = true) (hi : ops[i]? = some ⟨some d, op, ty, pos, af, none⟩) (hij : Nat.beq i j = false) (hd : lkB H b = some .dead) (hf : (Region.free .any ops listed i && (Region.ready .any ops listed).contains i) = true) (hq : QX c ⟨some d, op, ty, pos, af, none⟩ ⟨F, H, n⟩ v) (hN : Nat.blt d c.N = true)
    (hsc : sc n v.ids = true) (h : AV c ops j b t N nw Q m (listed.setIfInBounds i true) ⟨(d, v) :: F, H, n⟩) : AV c ops j b t N nw Q (m + 1) listed ⟨F, H, n⟩ := AV_take hns hi rfl hij hd hf hq hN hsc h
theorem vQg (i : Nat) {k e : Nat} {want : Bool} (hns : Region.noSelect ops = true) (hi : ops[i]? = some ⟨some d, op, ty, pos, af, some (k, want)⟩) (hij : Nat.beq i j = false) (hd : lkB H b = some .dead) (hf : (Region.free .any ops listed i && (Region.ready .any ops listed).contains i) = true)
    (hk : (ops[k]?).bind (·.dst) = some e) (hb : lkV F e = some (.bool want)) (hq : QX c ⟨some d, op, ty, pos, af, some (k, want)⟩ ⟨F, H, n⟩ v) (hN : Nat.blt d c.N = true) (hsc : sc n v.ids = true) (h : AV c ops j b t N nw Q m (listed.setIfInBounds i true) ⟨(d, v) :: F, H, n⟩) : AV c ops j b t N nw Q (m + 1) listed ⟨F, H, n⟩ := by
  intro ρ0 w0 hgr ρ a hfr hwf hfix
  simp only [Bool.and_eq_true] at hf
  refine anyV_take hi hns (Nat.ne_of_beq_eq_false hij) hd (fun ch a w h => h.1 ch rfl) m listed a (Region.free_spec hi hf.1) (by simpa using hf.2) (.inl ⟨by rw [wanted_eq rfl hfr hk hb]; simp, fun ρ' H' hx w hw => hq ρ0 w0 hgr ρ a hfr hfix ρ' H' hx w hw⟩) ?_
  exact h ρ0 w0 hgr ρ _ (hfr.put' (some d) v _ (okDst_lt (d := some d) hN) (.inr rfl)) (hwf.put (some d) v hsc) hfix
theorem vSkip (i : Nat) {k e : Nat} {want x : Bool} (hns : Region.noSelect ops = true) (hi : ops[i]? = some ⟨some d, op, ty, pos, af, some (k, want)⟩) (hij : Nat.beq i j = false) (hd : lkB H b = some .dead) (hf : (Region.free .any ops listed i && (Region.ready .any ops listed).contains i) = true)
    (hk : (ops[k]?).bind (·.dst) = some e) (hb : lkV F e = some (.bool x)) (hne : (x == want) = false) (hN : Nat.blt d c.N = true) (h : AV c ops j b t N nw Q m (listed.setIfInBounds i true) ⟨(d, .bot) :: F, H, n⟩) : AV c ops j b t N nw Q (m + 1) listed ⟨F, H, n⟩ := by
  intro ρ0 w0 hgr ρ a hfr hwf hfix
  simp only [Bool.and_eq_true] at hf
  refine anyV_take hi hns (Nat.ne_of_beq_eq_false hij) hd (fun ch a w h => h.1 ch rfl) m listed a (Region.free_spec hi hf.1) (by simpa using hf.2) (.inr ⟨by rw [wanted_eq rfl hfr hk hb]; simp [hne], rfl⟩) ?_
  exact h ρ0 w0 hgr ρ _ (hfr.put' (some d) .bot undef (okDst_lt (d := some d) hN) (.inl rfl)) (hwf.put (some d) .bot rfl) hfix
/-- the store, of a whole array, when nothing else may come -/
theorem AV_store {t0 : TypeId} {x y : Operand} {i : TI} (hj : ops[j]? = some ⟨none, .store t0 x y, ty, pos, af, none⟩) (hr : (Region.ready .any ops listed == [j] && (listed.setIfInBounds j true).getD j false && !(listed.getD j false)) = true) (ht : lkT c.T t0 = some i)
    (hx : ev c F x = some (.ptr b 0)) (hy : ev c F y = some (.arr nw)) (hd : lkB H b = some .dead) (hsz : nw.length = i.size) (hN : N = i.size) (h : AV c ops j b t N nw Q m (listed.setIfInBounds j true) ⟨F, H, n⟩) : AV c ops j b t N nw Q (m + 1) listed ⟨F, H, n⟩ := by
  subst hN
  simp only [Bool.and_eq_true, beq_iff_eq, Bool.not_eq_true'] at hr
  obtain ⟨⟨hr1, hr3⟩, hr4⟩ := hr
  intro ρ0 w0 hg ρ a hf hwf hfix
  refine ⟨fun h0 => by rw [hr1] at h0; (cases h0), fun k hk w hw => ?_⟩
  rw [hr1] at hk
  obtain rfl : k = j := by simpa using hk
  rcases hw with ⟨hl, _⟩ | ⟨_, l, hlen, hw⟩
  · rw [hr4] at hl; cases hl
  have hb : lkB ((b, Blk.ints t l) :: H) b = some (.ints t l) := by rw [lkB_cons, if_pos rfl]
  obtain ⟨ob, ho1, ho2⟩ := hw.hr.1 b _ hb (by simp)
  simp only [BR] at ho2; subst ho2
  obtain ⟨w', hrun, hwr⟩ := run_storeVar (v := .agg (icells nw)) (o := 0) c.tok ht ho1 (oneInts nw) (by simp [Value.cells, size_icells, hsz]) (by rw [size_icells]; omega)
  have hcc : CC c ρ0 w0 ρ ((b, .ints t nw) :: (b, .ints t l) :: H) w' := by
    refine hw.wrote hb (by simp) rfl rfl hwr ?_
    have h1 := putA_icells nw l 0
    have h2 := putI_full nw l [] (by omega)
    simp only [List.nil_append, List.length_nil] at h2
    rw [h2] at h1
    have h3 : putA (icells l) 0 (Value.agg (icells nw)).cells.toList = icells nw := h1
    simp only [BR]
    rw [h3]
  have hcc2 : CC c ρ0 w0 ρ ((b, .ints t nw) :: H) w' := by
    refine CC.sub (ρ' := ρ) (H' := (b, .ints t nw) :: (b, .ints t l) :: H) ⟨fun b' k hk hd => ⟨?_, rfl, fun _ _ => rfl⟩, fun _ _ => rfl⟩ hcc
    rw [lkB_cons] at hk ⊢
    split at hk
    · rename_i e; rw [if_pos e]; exact hk
    · rename_i e; rw [if_neg e, lkB_cons, if_neg e]; exact hk
  unfold wpOp
  simp only [hj]
  rw [if_pos (by simp [Region.wanted])]
  refine .inl ?_
  unfold Oper.wp
  have hex : (execOp a.eval ⟨none, .store t0 x y, ty, pos, af, none⟩).run c.P w = .ok .skip w' := by
    simp only [icells] at hrun
    simp [execOp, Instr.storeAt, Instr.sureAddr, ev_rv hg hfix hf hx (by simp), ev_rv hg hfix hf hy (by simp), rv, hrun]
  rw [hex]
  simp only [Oper.upon]
  exact ⟨.inl ⟨hr3, hcc2⟩, h ρ0 w0 hg ρ a hf hwf hfix⟩
theorem AV_done (hr : ((Region.ready .any ops listed).isEmpty && listed.getD j false) = true) (hd : lkB H b = some .dead) (h : Q .normal ⟨F, (b, .ints t nw) :: H, n⟩) : AV c ops j b t N nw Q m listed ⟨F, H, n⟩ := by
  simp only [Bool.and_eq_true, List.isEmpty_iff] at hr
  intro ρ0 w0 hg ρ a hf hwf hfix
  have key : ∀ w, CJ c ρ0 w0 j b t N nw ρ H listed w → np (Lift c ρ0 w0 Q) .normal a w := fun w hw => by
    rcases hw with ⟨_, hw⟩ | ⟨hl, _⟩
    · exact ⟨fun _ h => by (cases h), _, ρ, h, hw, hf, hwf.upd hd rfl⟩
    · rw [hr.2] at hl; cases hl
  cases m with
  | zero => exact ⟨hr.1, key⟩
  | succ m => exact ⟨fun _ => key, by rw [hr.1]; simp⟩
end
end Go.Proofs.YtlhlnaehfjojiaaDoor
