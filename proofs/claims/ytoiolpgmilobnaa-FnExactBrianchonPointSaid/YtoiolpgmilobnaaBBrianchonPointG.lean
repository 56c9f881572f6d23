/- What the last text of BrianchonPoint needs, part 7: contracts of functions and plain mathematics. No conditions beyond those each theorem states. -/
import Derived.LoopN
import Derived.Test.YtoiolpgmilobnaaBBrianchonPointF
namespace Go.Proofs.Ytoiolpgmilobnaa
set_option linter.unusedVariables false
section
variable {c : Cx} {s : S} {Q : Post}
def okPV (len : Nat) (ps : List (Nat × V)) : Bool := ps.all fun p => noAgg p.2 && Nat.blt p.1 len
/-- a slice of values of one cell, written out -/
theorem nr_bslv {dst : Option Tmp} {ty t : TypeId} {pos : String} {af : Array Edge} {ps : List (Nat × Operand)} {vs : List (Nat × V)} {z0 : V} {r : List V} {i ie : TI} {e len : Nat} (ht : lkT c.T t = some i) (hd : i.d = .slice e) (he : lkT c.T e = some ie) (hs : ie.size = 1) (hz : ie.z = some z0) (hz1 : (one z0 && noAgg z0) = true)
    (hp : evp c s.F ps = some vs) (hr : fillV (List.replicate len z0) vs = some r) (hok : okPV len vs = true) (hlim : len ≤ 16777216) : NewRun c s ⟨dst, .buildSlice t len ps.toArray, ty, pos, af, none⟩ (.vals e r) (.slice s.n 0 len len) := by
  intro ρ0 ρ a w0 w hg hfix hf hw hwf
  refine ⟨.cells (rvs ρ r).toArray e, w.alloc (.cells (rvs ρ r).toArray e), BR_vals_self, rfl, ⟨rfl, rfl, rfl, Nat.le_refl _⟩, ?_⟩
  have hu := (c.tok t i ht).1
  rw [hd] at hu
  obtain ⟨_, ⟨j, hj, _, _, hz'⟩, _⟩ := c.tok e ie he
  obtain ⟨hzz, hzi⟩ := hz' z0 hz
  have hzr : rv (fun b => b) z0 = rv ρ z0 := rv_congr z0 (fun b hb => by rw [hzi] at hb; simp at hb)
  rw [hzr] at hzz
  simp only [Bool.and_eq_true] at hz1
  have hcz : (rv ρ z0).cells = #[rv ρ z0] := cells_one' hz1.1 hz1.2
  have hlim' : ¬ 2 ^ 24 < len * 1 := by omega
  have hok' : ∀ p ∈ vs, noAgg p.2 = true ∧ p.1 < len := fun p hp => by
    have := List.all_eq_true.1 hok p hp
    simpa [Nat.blt_eq] using this
  have hfill := fill_vals (ρ := ρ) vs _ r hr (fun p hp => (hok' p hp).1) (fun p hp => by rw [List.length_replicate]; exact (hok' p hp).2)
  rw [← evp_rv hg hfix hf hp] at hfill
  have hcells : (Array.range (len * 1)).map (fun k => (#[rv ρ z0] : Array Value)[k % (#[rv ρ z0] : Array Value).size]!) = (rvs ρ (List.replicate len z0)).toArray := by
    apply Array.ext'
    simp [rvs_eq_map, List.map_const', Nat.mod_one]
  have hr1 : (Instr.buildSlice t len (ps.toArray.map fun p => (p.1, a.eval p.2))).run c.P w = .ok (.slice (some ⟨w.heap.size, 0, none⟩) len len) (w.alloc (.cells (rvs ρ r).toArray e)) := by
    unfold Instr.buildSlice
    simp only [Sem.run_bind, run_underlying hu, Result.andThen_ok, run_sizeOf' c.tok he, hs, if_neg hlim']
    by_cases hl : len * 1 = 0
    · have hl0 : len = 0 := by omega
      subst hl0
      simp only [Nat.zero_mul, if_true, Sem.run_bind, Sem.run_pure, Result.andThen_ok]
      simp only [List.replicate_zero, rvs, Nat.mul_one] at hfill
      have hz0 : ∀ f : Nat → Value, (Array.range (0 * 1)).map f = #[] := fun f => by simp
      simp only [Nat.zero_mul] at hz0
      simp [hz0, hfill, newRow]
    · simp only [if_neg hl, zeroValue, typeInfo, Sem.run_bind, run_program, Result.andThen_ok, hj, Sem.run_pure, hzz, hcz]
      rw [hcells]
      simp only [Nat.mul_one] at hfill
      simp [hfill, newRow]
  simp only [execOp, Sem.run_bind]
  rw [hr1]
  simp [rv, up]
end
/-- a loop of at most n rounds -/
def RW (c : Cx) (x : Code) (Q : Post) (n : Nat) (s : S) : Prop := ∀ ρ0 w0, GR c.gl c.D ρ0 → ∀ ρ a w, St c ρ0 w0 ρ s a w → Code.rounds c.P x (Lift c ρ0 w0 Q) n a w
theorem RW_succ {c : Cx} {x : Code} {Q : Post} {n : Nat} {s : S} (h : CW c x (thenP (RW c x Q n) Q) s) : RW c x Q (n + 1) s := by
  intro ρ0 w0 hg ρ a w hs
  refine Code.wp_mono ?_ (h ρ0 w0 hg ρ a w hs)
  rintro e a' w' ⟨s', ρ', hq, hs'⟩
  cases e <;> first | exact hq ρ0 w0 hg ρ' a' w' hs' | exact ⟨s', ρ', hq, hs'⟩
theorem CW_rounds {c : Cx} {x : Code} {Q : Post} {s : S} (n : Nat) (h : RW c x Q n s) : CW c (.loop x) Q s := fun ρ0 w0 hg ρ a w hs => wp_loop_rounds n (h ρ0 w0 hg ρ a w hs)
section
variable {c : Cx} {Q : Post} {F : Fr} {H : Hp} {n : Nat} {ops : Array Oper} {rest : List Oper} {tl : Nat → Bool} {m : Nat} {listed : Array Bool} {d : Nat} {ty : TypeId} {pos : String} {af : Array Edge}
theorem oBslv {t : TypeId} {ps : List (Nat × Operand)} {vs : List (Nat × V)} {z0 : V} {r : List V} {i ie : TI} {e len : Nat} (ht : lkT c.T t = some i) (hd : i.d = .slice e) (he : lkT c.T e = some ie) (hs : ie.size = 1) (hz : ie.z = some z0) (hz1 : (one z0 && noAgg z0) = true)
    (hp : evp c F ps = some vs) (hr : fillV (List.replicate len z0) vs = some r) (hok : okPV len vs = true) (hlim : Nat.ble len 16777216 = true) (hN : Nat.blt d c.N = true) (hn : Nat.blt n 1000 = true) (hk : sc n (idss r) = true)
    (h : OW c ops Q rest ⟨(d, .slice n 0 len len) :: F, (n, .vals e r) :: H, n + 1⟩) : OW c ops Q (⟨some d, .buildSlice t len ps.toArray, ty, pos, af, none⟩ :: rest) ⟨F, H, n⟩ :=
  OW_new (k := .vals e r) (v := .slice n 0 len len) rfl hN hn hk (by simp [sc, V.ids, Nat.blt_eq]) (nr_bslv ht hd he hs hz hz1 hp hr hok (Nat.le_of_ble_eq_true hlim)) h
theorem gBslv {i0 : Nat} {t : TypeId} {ps : List (Nat × Operand)} {vs : List (Nat × V)} {z0 : V} {r : List V} {i ie : TI} {e len : Nat} (hi : ops[i0]? = some ⟨some d, .buildSlice t len ps.toArray, ty, pos, af, none⟩) (htl : tl i0 = false) (ht : lkT c.T t = some i) (hd : i.d = .slice e) (he : lkT c.T e = some ie) (hs : ie.size = 1) (hz : ie.z = some z0) (hz1 : (one z0 && noAgg z0) = true)
    (hp : evp c F ps = some vs) (hr : fillV (List.replicate len z0) vs = some r) (hok : okPV len vs = true) (hlim : Nat.ble len 16777216 = true) (hN : Nat.blt d c.N = true) (hn : Nat.blt n 1000 = true) (hk : sc n (idss r) = true)
    (h : AW c ops tl Q m (listed.setIfInBounds i0 true) ⟨(d, .slice n 0 len len) :: F, (n, .vals e r) :: H, n + 1⟩) : GStep c ops tl Q m listed ⟨F, H, n⟩ i0 :=
  ⟨_, _, hi, rfl, htl, GOp_new (k := .vals e r) (v := .slice n 0 len len) hN hn hk (by simp [sc, V.ids, Nat.blt_eq]) (nr_bslv ht hd he hs hz hz1 hp hr hok (Nat.le_of_ble_eq_true hlim)), fun s' e => by subst e; exact h⟩
end
end Go.Proofs.Ytoiolpgmilobnaa
namespace Go.Proofs.Ytoiolpgmilobnaa
set_option linter.unusedVariables false
theorem mem_idss' : ∀ {l : List V} {b : Nat}, b ∈ idss l → ∃ v, v ∈ l ∧ b ∈ v.ids
  | [], b, h => by simp [idss] at h
  | v :: r, b, h => by
    rcases List.mem_append.1 (show b ∈ V.ids v ++ idss r by simpa [idss] using h) with h | h
    · exact ⟨v, by simp, h⟩
    · obtain ⟨u, hu, hb⟩ := mem_idss' h
      exact ⟨u, by simp [hu], hb⟩
theorem idss_mem : ∀ {l : List V} {v : V} {b : Nat}, v ∈ l → b ∈ v.ids → b ∈ idss l
  | u :: r, v, b, h, hb => by
    simp only [idss]
    rcases List.mem_cons.1 h with rfl | h
    · exact List.mem_append_left _ hb
    · exact List.mem_append_right _ (idss_mem h hb)
theorem idss_app : ∀ l m : List V, idss (l ++ m) = idss l ++ idss m
  | [], m => rfl
  | v :: r, m => by simp [idss, idss_app r m]
theorem idss_bots : ∀ n : Nat, idss (List.replicate n V.bot) = []
  | 0 => rfl
  | n + 1 => by rw [List.replicate_succ, idss, idss_bots n]; rfl
theorem ids_bots (t : TypeId) (l : List V) (n : Nat) : (Blk.vals t (l ++ List.replicate n V.bot)).ids = idss l := by
  show idss _ = _
  rw [idss_app, idss_bots, List.append_nil]
theorem rens_app (σ : Nat → Nat) (l m : List V) : rens σ (l ++ m) = rens σ l ++ rens σ m := by simp [rens_eq_map]
theorem rens_bots (σ : Nat → Nat) (n : Nat) : rens σ (List.replicate n V.bot) = List.replicate n V.bot := by simp [rens_eq_map, ren]
theorem ren_bots (σ : Nat → Nat) (t : TypeId) (l : List V) (n : Nat) : (Blk.vals t (l ++ List.replicate n V.bot)).ren σ = .vals t (rens σ l ++ List.replicate n V.bot) := by
  show Blk.vals t (rens σ _) = _
  rw [rens_app, rens_bots]
theorem putA_mid : ∀ (xs mid pre post : List Value), mid.length = xs.length → putA (pre ++ (mid ++ post)).toArray pre.length xs = (pre ++ (xs ++ post)).toArray
  | [], mid, pre, post, h => by have : mid = [] := List.eq_nil_of_length_eq_zero h; simp [putA, this]
  | x :: r, [], pre, post, h => by simp at h
  | x :: r, y :: mid, pre, post, h => by
    have ih := putA_mid r mid (pre ++ [x]) post (by simpa using h)
    simp only [List.length_append, List.length_cons, List.length_nil, Nat.zero_add, List.append_assoc, List.cons_append, List.nil_append] at ih
    simp only [putA, List.cons_append]
    rw [← ih]
    congr 1
    simp
theorem run_loadRow {P : Program} {w : World} {r : Nat} {t : TypeId} {xs : List Value} (h : w.heap[r]? = some (.cells xs.toArray t (0, 0))) {n : Nat} (hn : n ≤ xs.length) : (loadCells ⟨r, 0, none⟩ n).run P w = .ok (xs.take n).toArray w := by
  have hl := run_loadCells_list (P := P) w ⟨r, 0, none⟩ (xs.take n) (fun j v hv => by
    rw [add_none, cell_of_row w r (0 + j) _ _ _ h]
    rw [List.getElem?_take] at hv
    split at hv
    · simpa using hv
    · cases hv)
  rwa [List.length_take, Nat.min_eq_left hn] at hl
/-- values and what they are in a world -/
def RelL (ρ : Nat → Nat) (l : List V) (xs : List Value) : Prop := xs.length = l.length ∧ ∀ (i : Nat) (v : V), l[i]? = some v → ∃ x, xs[i]? = some x ∧ VR ρ v x
theorem RelL.app {ρ : Nat → Nat} {l m : List V} {xs ys : List Value} (h1 : RelL ρ l xs) (h2 : RelL ρ m ys) : RelL ρ (l ++ m) (xs ++ ys) := by
  refine ⟨by simp [h1.1, h2.1], fun i v hv => ?_⟩
  rcases Nat.lt_or_ge i l.length with h | h
  · rw [List.getElem?_append_left h] at hv
    obtain ⟨x, hx, hr⟩ := h1.2 i v hv
    exact ⟨x, by rw [List.getElem?_append_left (by rw [h1.1]; exact h)]; exact hx, hr⟩
  · rw [List.getElem?_append_right h] at hv
    obtain ⟨x, hx, hr⟩ := h2.2 _ v hv
    exact ⟨x, by rw [List.getElem?_append_right (by rw [h1.1]; exact h), h1.1]; exact hx, hr⟩
theorem RelL.pre {ρ : Nat → Nat} {l m : List V} {xs : List Value} (h : RelL ρ (l ++ m) xs) : RelL ρ l (xs.take l.length) := by
  refine ⟨by rw [List.length_take, h.1, List.length_append]; omega, fun i v hv => ?_⟩
  have hi : i < l.length := (List.getElem?_eq_some_iff.1 hv).1
  obtain ⟨x, hx, hr⟩ := h.2 i v (by rw [List.getElem?_append_left hi]; exact hv)
  exact ⟨x, by rw [List.getElem?_take, if_pos hi]; exact hx, hr⟩
theorem RelL.bots {ρ : Nat → Nat} {n : Nat} {xs : List Value} (h : xs.length = n) : RelL ρ (List.replicate n .bot) xs := by
  refine ⟨by simp [h], fun i v hv => ?_⟩
  have hi := (List.getElem?_eq_some_iff.1 hv)
  obtain ⟨hi, e⟩ := hi
  simp at hi e
  exact ⟨xs[i]'(by omega), by simp [h, hi], .inl e.symm⟩
theorem RelL.ones {ρ : Nat → Nat} {l : List V} {xs : List Value} (h : RelL ρ l xs) (h1 : (l.all fun v => one v && noAgg v) = true) : ∀ x ∈ xs, x.oneCell' = true := by
  intro x hx
  obtain ⟨i, hi, rfl⟩ := List.getElem_of_mem hx
  have hl : i < l.length := by rw [← h.1]; exact hi
  obtain ⟨y, hy, hr⟩ := h.2 i l[i] (by simp [hl])
  simp only [List.all_eq_true, Bool.and_eq_true] at h1
  obtain ⟨o1, o2⟩ := h1 _ (List.getElem_mem hl)
  rw [List.getElem?_eq_getElem hi] at hy
  injection hy with hy
  rw [hy]
  rcases hr with e | e
  · rw [e] at o1; simp [one] at o1
  · rw [e]; exact rv_one o1 o2
section
variable {c : Cx} {Q : Post} {F : Fr} {H : Hp} {n : Nat} {ops : Array Oper} {rest : List Oper} {d : Nat} {ty : TypeId} {pos : String} {af : Array Edge}
/-- append to an own list of lists: the told part A, what is put behind it -/
theorem oAppV {t t2 : TypeId} {ats : Array TypeId} {x y : Operand} {i i2 ie : TI} {e e2 b b' m k q q' by_ t' : Nat} {z0 : V} {A sp xl : List V}
    (hat : ats = #[t, t2]) (ht : lkT c.T t = some i) (hd : i.d = .slice e) (ht2 : lkT c.T t2 = some i2) (hd2 : i2.d = .slice e2) (he : lkT c.T e = some ie) (hsz : ie.size = 1) (hz : ie.z = some z0) (hz1 : (one z0 && noAgg z0) = true) (hby : ie.bytes = by_) (hb0 : Nat.blt 0 by_ = true)
    (hx : ev c F x = some (.slice b 0 m k)) (hy : ev c F y = some (.slice b' 0 q q')) (hb : lkB H b = some (.vals e (A ++ sp))) (hb' : lkB H b' = some (.vals t' xl)) (hA : A.length = m) (hxl : xl.length = q) (hone : (xl.all fun v => one v && noAgg v) = true) (hroom : m + sp.length = k)
    (hlim : (2 * (m + q) + 192) * by_ ≤ 281474976710656) (h63 : m + q ≤ 1000000000000) (hN : Nat.blt d c.N = true) (hn : Nat.blt n 1000 = true)
    (h : ∀ k' : Nat, m + q ≤ k' → OW c ops Q rest ⟨(d, .slice n 0 (m + q) k') :: F, (n, .vals e ((A ++ xl) ++ List.replicate (k' - (m + q)) .bot)) :: (b, .dead) :: H, n + 1⟩) :
    OW c ops Q (⟨some d, .call ⟨.builtin .append, #[x, y], ats⟩, ty, pos, af, none⟩ :: rest) ⟨F, H, n⟩ := by
  have h1000 : n < 1000 := by simpa [Nat.blt_eq] using hn
  have hb0 : 0 < by_ := by simpa [Nat.blt_eq] using hb0
  refine OW_any (ι := { k' : Nat // m + q ≤ k' }) (fun p => { F := F, H := (n, .vals e ((A ++ xl) ++ List.replicate (p.1 - (m + q)) .bot)) :: (b, .dead) :: H, n := n + 1 }) (fun p => .slice n 0 (m + q) p.1) rfl hN (fun _ => by simp [sc, V.ids, Nat.blt_eq]) (fun ρ0 w0 ρ a w hg hs => ?_)
    (fun p => h p.1 p.2)
  subst hat
  have hu := (c.tok t i ht).1
  rw [hd] at hu
  have hu2 := (c.tok t2 i2 ht2).1
  rw [hd2] at hu2
  obtain ⟨obb, hob1, hob2⟩ := hs.cc.hr.1 b _ hb (by simp)
  simp only [BR] at hob2
  obtain ⟨xb, hbl, hbx, rfl⟩ := hob2
  have hRb : RelL ρ (A ++ sp) xb := ⟨hbl, hbx⟩
  obtain ⟨oby, hoy1, hoy2⟩ := hs.cc.hr.1 b' _ hb' (by simp)
  simp only [BR] at hoy2
  obtain ⟨xy, hyl, hyx, rfl⟩ := hoy2
  have hRy : RelL ρ xl xy := ⟨hyl, hyx⟩
  have hyq : xy.length = q := by rw [hyl, hxl]
  have hbk : xb.length = k := by rw [hbl, List.length_append, hA, hroom]
  have hne : ∀ b', (b' < n ∨ 1000 ≤ b') → b' ≠ n := fun b' h => by omega
  have hids : ∀ r, ∀ b1 ∈ idss ((A ++ xl) ++ List.replicate r V.bot), b1 < n ∨ 1000 ≤ b1 := fun r b1 h1 => by
    obtain ⟨v, hv, hbv⟩ := mem_idss' h1
    rcases List.mem_append.1 hv with hv | hv
    · rcases List.mem_append.1 hv with hv | hv
      · exact hs.wf.hs b _ hb b1 (idss_mem (List.mem_append_left _ hv) hbv)
      · exact hs.wf.hs b' _ hb' b1 (idss_mem hv hbv)
    · rw [List.eq_of_mem_replicate hv] at hbv; simp [V.ids] at hbv
  have hones := hRy.ones hone
  have r1 : (Builtin.lenOf (rv ρ (.slice b' 0 q q'))).run c.P w = .ok q w := rfl
  have r2 : (Builtin.firstCells 1 q (rv ρ (.slice b' 0 q q'))).run c.P w = .ok xy.toArray w := by
    have := run_loadRow (P := c.P) (w := w) hoy1 (n := q * 1) (by omega)
    simp only [rv, Builtin.firstCells]
    rw [this, Nat.mul_one, ← hyq, List.take_length]
  by_cases hfit : m + q ≤ k
  · obtain ⟨w', hr, hwr⟩ := run_storeCells (P := c.P) xy w (ρ b) (0 + m * 1) 0 xb.toArray e hob1 hones (by simp; omega)
    have hrun : (Builtin.append_ #[t, t2] ty #[rv ρ (.slice b 0 m k), rv ρ (.slice b' 0 q q')]).run c.P w = .ok (rv ρ (.slice b 0 (m + q) k)) w' := by
      simp only [Builtin.append_, rv] at r1 r2 ⊢
      simp [run_underlying hu, run_underlying hu2, run_sizeOf' c.tok he, hsz, r1, r2, hfit, add_none]
      simp at hr
      simp [hr]
    have hsplit : xb = xb.take m ++ (((xb.drop m).take q) ++ xb.drop (m + q)) := by
      rw [show xb.drop (m + q) = (xb.drop m).drop q by rw [List.drop_drop], List.take_append_drop, List.take_append_drop]
    have hput : putA xb.toArray (0 + m * 1 + 0) xy = (xb.take m ++ (xy ++ xb.drop (m + q))).toArray := by
      have hl : (xb.take m).length = m := by simp; omega
      have := putA_mid xy ((xb.drop m).take q) (xb.take m) (xb.drop (m + q)) (by simp; omega)
      rw [hl, ← hsplit] at this
      rw [show 0 + m * 1 + 0 = m by omega]
      exact this
    rw [hput] at hwr
    have hbr : BR ρ (.vals e ((A ++ xl) ++ List.replicate (k - (m + q)) V.bot)) (.cells (xb.take m ++ (xy ++ xb.drop (m + q))).toArray e (0, 0)) := by
      have hRA := hRb.pre
      rw [hA] at hRA
      have := (hRA.app hRy).app (RelL.bots (ρ := ρ) (n := k - (m + q)) (xs := xb.drop (m + q)) (by simp [hbk]))
      rw [List.append_assoc (List.take m xb)] at this
      exact ⟨_, this.1, this.2, rfl⟩
    refine ⟨⟨k, hfit⟩, up ρ n (ρ b), w', ⟨hs.cc.adopt hb (by simp) rfl rfl (hs.wf.fresh n (Nat.le_refl _) h1000).2 (hs.wf.fresh n (Nat.le_refl _) h1000).1
      (fun b k' hl b' hb' => hne b' (hs.wf.hs b k' hl b' hb')) (fun b1 h1 => hne b1 (hids _ b1 (by simpa [Blk.ids] using h1))) hwr hbr, hs.fr.up hs.wf h1000 _, (hs.wf.kill hb).push (.vals e _) (sc_iff.2 fun b1 h1 => hids _ b1 (by simpa [Blk.ids] using h1))⟩, .inl (exec_app rfl hg hs hx hy rfl rfl ?_)⟩
    rw [hrun]
    have hbn : b ≠ n := by rintro rfl; have := (hs.wf.fresh b (Nat.le_refl _) h1000).1; rw [hb] at this; cases this
    simp [rv, up]
  · obtain ⟨_, ⟨j, hj, hjs, hjb, hz'⟩, _⟩ := c.tok e ie he
    obtain ⟨hzz, hzi⟩ := hz' z0 hz
    simp only [Bool.and_eq_true] at hz1
    have hcz : (rv (fun b => b) z0).cells = #[rv (fun b => b) z0] := cells_one' hz1.1 hz1.2
    have hcap : Builtin.nextslicecap (m + q) k ≤ 2 * (m + q) + 192 := nextslicecap_le (by omega)
    have hbytes : ¬ 2 ^ 48 < Builtin.nextslicecap (m + q) k * j.bytes := by
      rw [hjb, hby]
      have := Nat.mul_le_mul_right by_ hcap
      omega
    have hnb : j.bytes ≠ 0 := by rw [hjb, hby]; omega
    have q2 : (Builtin.firstCells 1 m (rv ρ (.slice b 0 m k))).run c.P w.drew = .ok (xb.take m).toArray w.drew := by
      have := run_loadRow (P := c.P) (w := w.drew) hob1 (n := m * 1) (by omega)
      simp only [rv, Builtin.firstCells]
      rw [this, Nat.mul_one]
    have r2d : (Builtin.firstCells 1 q (rv ρ (.slice b' 0 q q'))).run c.P w.drew = .ok xy.toArray w.drew := by
      have := run_loadRow (P := c.P) (w := w.drew) hoy1 (n := q * 1) (by omega)
      simp only [rv, Builtin.firstCells]
      rw [this, Nat.mul_one, ← hyq, List.take_length]
    have hzv : (zeroValue e).run c.P w.drew = .ok (rv (fun b => b) z0) w.drew := by
      simp [zeroValue, typeInfo, hj, hzz]
    let k' := (m + q) + w.tape w.drawn (.appendCap (m + q) k e) % (2 ^ 63 - (m + q))
    let zs := Builtin.zeroCells #[rv (fun b => b) z0] (k' - (m + q))
    have hzl : zs.toList.length = k' - (m + q) := by simp [zs, Builtin.zeroCells]
    have hrun : (Builtin.append_ #[t, t2] ty #[rv ρ (.slice b 0 m k), rv ρ (.slice b' 0 q q')]).run c.P w = .ok (.slice (some ⟨w.heap.size, 0, none⟩) (m + q) k') (w.drew.alloc (.cells ((xb.take m).toArray ++ xy.toArray ++ zs) e (0, 0))) := by
      simp only [Builtin.append_, rv] at r1 r2 r2d q2 ⊢
      simp [run_underlying hu, run_underlying hu2, run_sizeOf' c.tok he, hsz, r1, hfit, typeInfo, hj, hnb, hbytes, Question.forced, Question.cut, q2, r2d, hzv, hcz, newRow, k', zs]
      congr 2
      rw [← List.append_toArray, Array.append_assoc]
    have hbr : BR ρ (.vals e ((A ++ xl) ++ List.replicate (k' - (m + q)) V.bot)) (.cells ((xb.take m).toArray ++ xy.toArray ++ zs) e (0, 0)) := by
      have hRA := hRb.pre
      rw [hA] at hRA
      have := (hRA.app hRy).app (RelL.bots (ρ := ρ) (n := k' - (m + q)) (xs := zs.toList) hzl)
      exact ⟨_, this.1, this.2, by simp⟩
    have := (hs.kill hb).push h1000 (k := .vals e ((A ++ xl) ++ List.replicate (k' - (m + q)) V.bot)) (w' := w.drew.alloc (.cells ((xb.take m).toArray ++ xy.toArray ++ zs) e (0, 0))) (sc_iff.2 fun b1 h1 => hids _ b1 (by simpa [Blk.ids] using h1)) hbr rfl ⟨rfl, rfl, rfl, Nat.le_succ _⟩
    refine ⟨⟨k', by simp only [k']; omega⟩, _, _, this, .inl ?_⟩
    refine exec_app rfl hg hs hx hy rfl rfl ?_
    rw [hrun]
    simp [rv, up]
end
end Go.Proofs.Ytoiolpgmilobnaa
namespace Go.Proofs.Ytoiolpgmilobnaa
set_option linter.unusedVariables false
/-- a heap in which some blocks may not be looked at -/
def msk (D : List Nat) (H : Hp) : Hp := (D.map fun b => (b, Blk.dead)) ++ H
theorem msk_in {H : Hp} {b : Nat} : ∀ {D : List Nat}, b ∈ D → lkB (msk D H) b = some .dead
  | d :: D, h => by
    show lkB ((d, Blk.dead) :: msk D H) b = _
    rw [lkB_cons]
    split
    · rfl
    · rename_i e
      exact msk_in ((List.mem_cons.1 h).resolve_left fun x => e x.symm)
theorem msk_out {H : Hp} {b : Nat} : ∀ {D : List Nat}, b ∉ D → lkB (msk D H) b = lkB H b
  | [], _ => rfl
  | d :: D, h => by
    show lkB ((d, Blk.dead) :: msk D H) b = _
    rw [lkB_cons, if_neg (fun e => h (by subst e; exact List.mem_cons_self)), msk_out (fun x => h (List.mem_cons_of_mem _ x))]
theorem msk_live {D : List Nat} {H : Hp} {b : Nat} {k : Blk} (h : lkB (msk D H) b = some k) (hd : k ≠ .dead) : b ∉ D ∧ lkB H b = some k := by
  by_cases hb : b ∈ D
  · rw [msk_in hb] at h; injection h with h; exact absurd h.symm hd
  · exact ⟨hb, by rw [← msk_out hb]; exact h⟩
section
variable {c : Cx} {ρ0 ρ ρ' ρ2 : Nat → Nat} {H H' H2 : Hp} {w0 w : World} {D : List Nat}
theorem Ext.msk (h : Ext c ρ (msk D H) ρ' H') : Ext c ρ (msk D H) ρ' (msk D H') := ⟨fun b k hb hd => by
  obtain ⟨h1, h2, h3⟩ := h.lk b k hb hd
  exact ⟨by rw [msk_out (msk_live hb hd).1]; exact h1, h2, h3⟩, h.d⟩
end
section
variable {c : Cx} {ρ0 : Nat → Nat} {w0 : World} {ops : Array Oper} {Q : Exit → Act → World → Prop} {D : List Nat}
/-- whichever order comes; the blocks of D are looked at by none but stores -/
def anyX (c : Cx) (ρ0 : Nat → Nat) (w0 : World) (ops : Array Oper) (Q : Exit → Act → World → Prop) (D : List Nat) : Nat → Array Bool → Act → (Nat → Nat) → Hp → Prop
  | 0, listed, a, ρ, H => Region.ready .any ops listed = [] ∧ ∀ w, CC c ρ0 w0 ρ H w → Q .normal a w
  | m + 1, listed, a, ρ, H => (Region.ready .any ops listed = [] → ∀ w, CC c ρ0 w0 ρ H w → Q .normal a w) ∧
    ∀ i ∈ Region.ready .any ops listed, ∀ w, CC c ρ0 w0 ρ H w → wpOp c.P ops Q i (fun a' w' => ∃ ρ' H', Ext c ρ (msk D H) ρ' H' ∧ CC c ρ0 w0 ρ' H' w' ∧ anyX c ρ0 w0 ops Q D m (listed.setIfInBounds i true) a' ρ' H') a w
end
def AX (c : Cx) (ops : Array Oper) (D : List Nat) (Q : Post) (m : Nat) (listed : Array Bool) (s : S) : Prop :=
  ∀ ρ0 w0, GR c.gl c.D ρ0 → ∀ ρ a, FR c ρ s.F a → WF c s → (∀ b ∈ c.D, ρ b = ρ0 b) → anyX c ρ0 w0 ops (np (Lift c ρ0 w0 Q)) D m listed a ρ s.H
section
variable {c : Cx} {s : S} {Q : Post} {ops : Array Oper} {D : List Nat} {m : Nat} {listed : Array Bool}
end
section
variable {c : Cx} {Q : Post} {F : Fr} {H : Hp} {n : Nat} {ops : Array Oper} {D : List Nat} {m : Nat} {listed : Array Bool} {d : Nat} {op : Op} {ty : TypeId} {pos : String} {af : Array Edge} {v : V}
theorem CW_cut {s : S} {ι : Type} (ok : ι → Prop) (I : ι → S) {x y : Code} (h : CW c x (thenP (fun s' => ∃ j, ok j ∧ View c (I j) s') Q) s) (k : ∀ i, ok i → CW c y Q (I i)) : CW c (.seq x y) Q s :=
  CW_seq (CW_mono (fun e s' hq => by
    cases e with
    | normal => obtain ⟨j, hj, hv⟩ := hq; exact CW_view hv (k j hj)
    | _ => exact hq) h)
end
end Go.Proofs.Ytoiolpgmilobnaa
namespace Go.Proofs.Ytoiolpgmilobnaa
set_option maxRecDepth 10000
set_option linter.unusedSimpArgs false
set_option linter.unusedVariables false
/-- the place of the first number that is not 0, or -1 -/
def ldI (l : List Int) : Int := match (List.range l.length).find? (fun i => decide (l.getD i 0 ≠ 0)) with
  | some i => (i : Int)
  | none => -1
theorem ldI_found {l : List Int} {i : Nat} (hi : i < l.length) (h0 : ∀ j, j < i → l.getD j 0 = 0) (h : l.getD i 0 ≠ 0) : ldI l = (i : Int) := by
  have e : (List.range l.length).find? (fun i => decide (l.getD i 0 ≠ 0)) = some i := by
    rw [List.find?_eq_some_iff_getElem]
    refine ⟨by simpa using h, i, by simpa using hi, by simp, fun j hj => ?_⟩
    have := h0 j hj
    simpa using this
  unfold ldI; rw [e]
theorem ldI_none {l : List Int} (h0 : ∀ j, j < l.length → l.getD j 0 = 0) : ldI l = -1 := by
  have e : (List.range l.length).find? (fun i => decide (l.getD i 0 ≠ 0)) = none := by
    rw [List.find?_eq_none]
    intro j hj
    have := h0 j (by simpa using hj)
    simpa using this
  unfold ldI; rw [e]
attribute [local irreducible] CW OW QW QOp Con thenP inBlockP AW QX RW AX
theorem clone64_con (t : TypeId) (M : List Int) (o n k : Nat) (hn : o + n ≤ M.length) (h9 : n ≤ 1000000) : Con Try.prog [] 126 [.slice 0 o n k] [(0, .ints t M)] (fun v H' => ∃ k2 sp, n ≤ k2 ∧ k2 ≤ n + sp.length ∧ v = .slice 1 0 n k2 ∧ H' = [(0, .ints t M), (1, .ints 2 ((M.drop o).take n ++ sp))]) := by
  have hsl : ∀ H : Hp, lkB H 0 = some (.ints t M) → IsSl H 1 (.slice 0 o n k) n ((M.drop o).take n) := fun H h => by
    have := IsSl.mk (sz := 1) (o := o) (n := n) (k := k) h (by omega)
    simpa using this
  have hlen : ((M.drop o).take n).length = n := by simp; omega
  refine conW tab_ok [(0, .slice 0 o n k)] 1 [0] [0] Try.func126 rfl rfl rfl rfl rfl rfl rfl rfl rfl ?_
  refine cR ?_
  refine oA rfl rfl ?_
  refine oN ?_
  refine CW_seq ?_
  refine cR ?_
  refine oM rfl rfl ?_
  refine oQ (Q_eqnil rfl rfl rfl rfl) rfl rfl ?_
  refine oN ?_
  first | refine cT rfl ?_ | refine cF rfl ?_ | refine CW_cond rfl (fun hc => ?_) (fun hc => ?_)
  all_goals try simp only [s1, s2, s3, s4, s5, s6, s7, s8, s9, s10, s11, s12] at hc
  all_goals first
    | (
     refine CW_skip ?_)
    | (
     refine cR ?_
     refine oA rfl rfl ?_
     refine oN ?_
     refine CW_ret ?_)
  all_goals first
    | with_reducible refine tR ?_
    | with_reducible refine tE ?_
    | (
     with_reducible refine tN ?_
     refine cR ?_
     refine oBsl (zl := []) (r := []) rfl rfl rfl rfl (.inl ⟨rfl, rfl⟩) rfl rfl rfl rfl rfl rfl ?_
     refine oM rfl rfl ?_
     refine oAppOwn (sz := 1) (by_ := 8) (l := []) (m := 0) (k := 0) rfl rfl rfl rfl rfl rfl ⟨by decide, rfl, .inl ⟨rfl, rfl⟩⟩ rfl rfl rfl rfl rfl (hsl _ rfl) (by simp) (by omega) (by omega) (by omega) rfl rfl (fun k2 sp2 h1 h2 => ?_)
     (rw [Nat.zero_add] at h1 h2 ⊢)
     refine oA rfl rfl ?_
     refine oN ?_
     refine CW_ret ?_)
  all_goals (
   exact exitH (r0 := .slice 1 0 n k2) (H0 := [(0, .ints t M), (1, .ints 2 ((M.drop o).take n ++ sp2))]) (.inr rfl) [(1, 2)] 2 (.cons (.tmp rfl rfl) .nil) rfl rfl rfl (vHc rfl (vHc rfl vHn)) rfl rfl ⟨k2, sp2, h1, by omega, rfl, rfl⟩)
theorem l01Lead_con (t : TypeId) (L : List Int) (n k : Nat) (hn : n ≤ L.length) (h9 : n ≤ 1000000) : ConQ Try.prog [] 121 [.slice 0 0 n k] [(0, .ints t L)] (.int (ldI (L.take n))) := by
  have hl : (L.take n).length = n := by simp; omega
  have hg : ∀ j, j < n → (L.take n).getD j 0 = L.getD j 0 := fun j hj => by simp [List.getD, List.getElem?_take, hj]
  refine conW tab_ok [(0, .slice 0 0 n k)] 1 [0] [0] Try.func121 rfl rfl rfl rfl rfl rfl rfl rfl rfl ?_
  refine cR ?_
  refine oA rfl rfl ?_
  refine oN ?_
  refine CW_seq ?_
  refine cR ?_
  refine oA rfl rfl ?_
  refine oN ?_
  refine CW_block ?_
  refine CW_loop (ι := Nat) (fun i => i ≤ n ∧ ∀ j, j < i → L.getD j 0 = 0) (fun i => ⟨[(0, .slice 0 0 n k), (3, .int i)], [(0, .ints t L)], 1⟩) (fun i => n - i) 0 ?_ ?_ ?_
  · exact ⟨Nat.zero_le _, fun j h => absurd h (Nat.not_lt_zero _)⟩
  · refine View.mk' [] rfl rfl rfl ?_ ?_
    repeat' first | exact vFn | refine vFc rfl ?_ | exact vHn | refine vHc rfl ?_ | refine vFc (congrArg (fun z => some (V.int z)) ?_) ?_ | refine vHc (congrArg (fun z => some (Blk.ints _ z)) ?_) ?_ | refine vFc (congrArg (fun z => some (V.bool z)) ?_) ?_ | refine vFs rfl rfl ?_ ?_
  rintro i ⟨hi, hi2⟩
  refine CW_seq ?_
  refine cR ?_
  iterate 2 refine oM rfl rfl ?_
  first | refine oQ (Q_len rfl rfl rfl rfl) rfl rfl ?_ | refine oQ (Q_len0 rfl rfl rfl rfl) rfl rfl ?_
  refine oQ (Q_bin rfl rfl rfl) rfl rfl ?_
  refine oN ?_
  first | refine cT rfl ?_ | refine cF rfl ?_ | refine CW_cond rfl (fun hc => ?_) (fun hc => ?_)
  all_goals try simp only [s1, s2, s3, s4, s5, s6, s7, s8, s9, s10, s11, s12] at hc
  all_goals first
    | (
     refine CW_skip ?_)
    | (
     refine CW_exit ?_)
  all_goals first
    | with_reducible refine tR ?_
    | with_reducible refine tE ?_
    | (
     with_reducible refine tN ?_
     refine CW_seq ?_
     refine CW_block ?_
     refine cR ?_
     iterate 2 refine oM rfl rfl ?_
     first | refine oQ (Is0 rfl rfl rfl rfl rfl rfl) rfl rfl ?_ | refine oQ (Is1 rfl rfl rfl rfl rfl rfl) rfl rfl ?_
     refine oQ (Ld rfl rfl rfl rfl) rfl rfl ?_
     refine oQ (Q_bin rfl rfl rfl) rfl rfl ?_
     refine oN ?_
     first | refine cT rfl ?_ | refine cF rfl ?_ | refine CW_cond rfl (fun hc => ?_) (fun hc => ?_)
     all_goals try simp only [s1, s2, s3, s4, s5, s6, s7, s8, s9, s10, s11, s12] at hc
     all_goals first
       | (
        refine CW_skip ?_)
       | (
        refine cR ?_
        refine oM rfl rfl ?_
        refine oA rfl rfl ?_
        refine oN ?_
        refine CW_ret ?_)
     all_goals first | with_reducible refine bN ?_ | with_reducible refine bE ?_ | with_reducible refine bR ?_ | refine bX rfl ?_
     all_goals first
       | with_reducible refine tR ?_
       | with_reducible refine tE ?_
       | (
        with_reducible refine tN ?_
        refine CW_region ?_
        refine oM rfl rfl ?_
        first | refine oQ (Q_binu rfl rfl rfl (by omega)) rfl rfl ?_ | refine oQ (Q_bin rfl rfl rfl) rfl rfl ?_
        refine oA rfl rfl ?_
        refine OW_nil ?_))
  all_goals first
    | with_reducible refine tR ?_
    | with_reducible refine tE ?_
    | (
     with_reducible refine tN ?_
     refine ⟨i + 1, ?_, ?_, View.mk' [] rfl rfl rfl ?_ ?_⟩
     · refine ⟨by omega, fun j hj => ?_⟩
       by_cases e : j = i
       · subst e; first | exact hc | exact Decidable.not_not.1 hc
       · exact hi2 j (by omega)
     · omega
     all_goals (repeat' first | exact vFn | refine vFc rfl ?_ | exact vHn | refine vHc rfl ?_ | refine vFc (congrArg (fun z => some (V.int z)) ?_) ?_ | refine vHc (congrArg (fun z => some (Blk.ints _ z)) ?_) ?_ | refine vFc (congrArg (fun z => some (V.bool z)) ?_) ?_ | refine vFs rfl rfl ?_ ?_))
  all_goals first | with_reducible refine bN ?_ | with_reducible refine bE ?_ | with_reducible refine bR ?_ | refine bX rfl ?_
  all_goals first
    | with_reducible refine tR ?_
    | with_reducible refine tE ?_
    | (
     with_reducible refine tN ?_
     refine cR ?_
     refine oA rfl rfl ?_
     refine oN ?_
     refine CW_ret ?_)
  all_goals (
   refine exitQ (.inr rfl) 1 (.cons (.tmp rfl rfl) .nil) ?_ rfl (vHc rfl vHn) rfl rfl
   first
     | exact congrArg V.int (ldI_found (by omega) (fun j hj => by rw [hg j (by omega)]; exact hi2 j hj) (by rw [hg i (by omega)]; exact hc)).symm
     | exact congrArg V.int (ldI_none (fun j hj => by rw [hg j (by omega)]; exact hi2 j (by omega))).symm)
end Go.Proofs.Ytoiolpgmilobnaa
namespace Go.Proofs.Ytoiolpgmilobnaa
set_option maxRecDepth 10000
set_option linter.unusedSimpArgs false
set_option linter.unusedVariables false
attribute [local irreducible] CW OW QW QOp Con thenP inBlockP AW QX RW AX
theorem own64_con (t : TypeId) (M : List Int) (o n k : Nat) (hn : o + n ≤ M.length) (h9 : n ≤ 1000000) : Con Try.prog [] 119 [.slice 0 o n k] [(0, .ints t M)] (fun v H' => ∃ k2 sp, n ≤ k2 ∧ k2 ≤ n + sp.length ∧ v = .slice 1 0 n k2 ∧ H' = [(0, .ints t M), (1, .ints 2 ((M.drop o).take n ++ sp))]) := by
  have hsl : ∀ H : Hp, lkB H 0 = some (.ints t M) → IsSl H 1 (.slice 0 o n k) n ((M.drop o).take n) := fun H h => by
    have := IsSl.mk (sz := 1) (o := o) (n := n) (k := k) h (by omega)
    simpa using this
  refine conW tab_ok [(0, .slice 0 o n k)] 1 [0] [0] Try.func119 rfl rfl rfl rfl rfl rfl rfl rfl rfl ?_
  refine cR ?_
  refine oA rfl rfl ?_
  refine oN ?_
  refine cR ?_
  refine oBsl (zl := []) (r := []) rfl rfl rfl rfl (.inl ⟨rfl, rfl⟩) rfl rfl rfl rfl rfl rfl ?_
  refine oM rfl rfl ?_
  refine oAppOwn (sz := 1) (by_ := 8) (l := []) (m := 0) (k := 0) rfl rfl rfl rfl rfl rfl ⟨by decide, rfl, .inl ⟨rfl, rfl⟩⟩ rfl rfl rfl rfl rfl (hsl _ rfl) (by simp) (by omega) (by omega) (by omega) rfl rfl (fun k2 sp2 h1 h2 => ?_)
  (rw [Nat.zero_add] at h1 h2 ⊢)
  refine oA rfl rfl ?_
  refine oN ?_
  refine CW_ret ?_
  all_goals (
   exact exitH (r0 := .slice 1 0 n k2) (H0 := [(0, .ints t M), (1, .ints 2 ((M.drop o).take n ++ sp2))]) (.inr rfl) [(1, 2)] 2 (.cons (.tmp rfl rfl) .nil) rfl rfl rfl (vHc rfl (vHc rfl vHn)) rfl rfl ⟨k2, sp2, h1, by omega, rfl, rfl⟩)
end Go.Proofs.Ytoiolpgmilobnaa
namespace Go.Proofs.Ytoiolpgmilobnaa
set_option linter.unusedVariables false
section
variable {c : Cx} {ops : Array Oper} {Q : Post} {rest : List Oper} {F : Fr} {H : Hp} {n : Nat} {v : V} {ty : TypeId} {pos : String} {af : Array Edge}
theorem oStvB {t t' : TypeId} {x y : Operand} {i : TI} {b o m : Nat} {A A' : List V} (ht : lkT c.T t = some i) (hsz : i.size = 1) (hx : ev c F x = some (.ptr b o)) (hy : ev c F y = some v) (hb : lkB H b = some (.vals t' (A ++ List.replicate m .bot))) (h1 : one v = true) (h2 : noAgg v = true) (ho : o < A.length)
    (hl : A.set o v = A') (hsc : sc n (idss A') = true) (h : OW c ops Q rest ⟨F, (b, .vals t' (A' ++ List.replicate m .bot)) :: H, n⟩) : OW c ops Q (⟨none, .store t x y, ty, pos, af, none⟩ :: rest) ⟨F, H, n⟩ := by
  refine oStv ht hsz hx hy hb h1 h2 (by rw [List.length_append]; omega) ?_ (by rw [idss_app, idss_bots, List.append_nil]; exact hsc) h
  rw [List.set_append_left _ _ ho, hl]
end
end Go.Proofs.Ytoiolpgmilobnaa
namespace Go.Proofs.Ytoiolpgmilobnaa
set_option maxRecDepth 10000
set_option linter.unusedSimpArgs false
set_option linter.unusedVariables false
/-- rows, room and spare cells of the list that is being reduced -/
structure RS where
  cnt : Nat
  c : Nat
  A : Nat → List Int
  K : Nat → Nat
  S : Nat → List Int
/-- the rows after the row N is normal and k rows are done -/
def rw3 (p : Int) (A : Nat → List Int) (N c w k j : Nat) : List Int := if j = N then normL p (A N) else if j < k then lsL p (A j) (normL p (A N)) ((A j).getD c 0) w else A j
/-- and within the row k, j numbers are done -/
def rw4 (p : Int) (A : Nat → List Int) (N c w k j i : Nat) : List Int := if i = k then lsL p (A k) (normL p (A N)) ((A k).getD c 0) j ++ (A k).drop j else rw3 p A N c w k i
def rdB (p : Int) (A : Nat → List Int) (m w : Nat) : Prop := ∀ i, i < m → (A i).length = w ∧ ∀ j, 0 ≤ (A i).getD j 0 ∧ (A i).getD j 0 < p
theorem normL_bd {p : Int} (hp : 0 < p) (l : List Int) (j : Nat) : 0 ≤ (normL p l).getD j 0 ∧ (normL p l).getD j 0 < p := by
  rw [normL_get]
  exact ⟨Int.emod_nonneg _ (by omega), Int.emod_lt_of_pos _ hp⟩
theorem lsL_bd {p : Int} (hp : 0 < p) (r s : List Int) (k : Int) (w j : Nat) : 0 ≤ (lsL p r s k w).getD j 0 ∧ (lsL p r s k w).getD j 0 < p := by
  by_cases h : j < w
  · rw [lsL_get _ _ _ _ _ _ h]
    exact ⟨Int.emod_nonneg _ (by omega), Int.emod_lt_of_pos _ hp⟩
  · rw [lsL_get2 _ _ _ _ _ _ (by omega)]; omega
theorem rw3_bd {p : Int} (hp : 0 < p) {A : Nat → List Int} {m w N c k : Nat} (hN : N < m) (h : rdB p A m w) : rdB p (rw3 p A N c w k) m w := fun i hi => by
  unfold rw3
  split
  · exact ⟨by rw [normL_length]; exact (h N hN).1, normL_bd hp _⟩
  · split
    · exact ⟨lsL_len .., lsL_bd hp _ _ _ _⟩
    · exact h i hi
theorem getD_app {l s : List Int} {j : Nat} (h : j < l.length) : (l ++ s).getD j 0 = l.getD j 0 := by
  simp only [List.getD]; rw [List.getElem?_append_left h]
theorem rw3_at {p : Int} {A : Nat → List Int} {N c w k : Nat} (h : k ≠ N) : rw3 p A N c w k k = A k := by
  unfold rw3; rw [if_neg h, if_neg (by omega)]
theorem rw3_up {p : Int} {A : Nat → List Int} {N c w k j : Nat} (h : j ≠ k) : rw3 p A N c w (k + 1) j = rw3 p A N c w k j := by
  unfold rw3
  by_cases e : j = N
  · rw [if_pos e, if_pos e]
  · rw [if_neg e, if_neg e]
    by_cases l : j < k
    · rw [if_pos l, if_pos (by omega)]
    · rw [if_neg l, if_neg (by omega)]
theorem rw3_upN {p : Int} {A : Nat → List Int} {N c w k j : Nat} (h : k = N) : rw3 p A N c w (k + 1) j = rw3 p A N c w k j := by
  by_cases e : j = k
  · subst e; unfold rw3; rw [if_pos h, if_pos h]
  · exact rw3_up e
theorem lsL_zero {p : Int} {r s : List Int} {k : Int} {w : Nat} (hk : k = 0) (hl : r.length = w) (hb : ∀ j, 0 ≤ r.getD j 0 ∧ r.getD j 0 < p) : lsL p r s k w = r := by
  apply List.ext_getElem
  · rw [lsL_len, hl]
  · intro i h1 h2
    have := lsL_get p r s k w i (by rw [← hl]; exact h2)
    have b := hb i
    simp only [List.getD, List.getElem?_eq_getElem h1, List.getElem?_eq_getElem h2, Option.getD_some] at this b
    rw [this, hk, Int.zero_mul, Int.sub_zero, Int.emod_eq_of_lt b.1 b.2]
/-- a row with a 0 in the column stays -/
theorem rw3_zero {p : Int} {A : Nat → List Int} {m N c w k j : Nat} (hk : k < m) (h : rdB p A m w) (h0 : (A k).getD c 0 = 0) : rw3 p A N c w (k + 1) j = rw3 p A N c w k j := by
  by_cases e : j = k
  · subst e
    by_cases eN : j = N
    · exact rw3_upN eN
    · rw [rw3_at eN]
      unfold rw3; rw [if_neg eN, if_pos (by omega)]
      exact lsL_zero h0 (h j hk).1 (h j hk).2
  · exact rw3_up e
theorem rw4_zero {p : Int} {A : Nat → List Int} {N c w k i : Nat} (hN : k ≠ N) : rw4 p A N c w k 0 i = rw3 p A N c w k i := by
  unfold rw4
  split
  · rename_i e; subst e; rw [rw3_at hN]; simp [lsL]
  · rfl
theorem rw4_end {p : Int} {A : Nat → List Int} {m N c w k j i : Nat} (hN : k ≠ N) (hk : k < m) (h : rdB p A m w) (hj : j = w) : rw4 p A N c w k j i = rw3 p A N c w (k + 1) i := by
  subst hj
  unfold rw4
  split
  · rename_i e; subst e
    unfold rw3; rw [if_neg hN, if_pos (by omega), List.drop_of_length_le (by rw [(h i hk).1]; omega), List.append_nil]
  · rename_i e; exact (rw3_up e).symm
theorem rw4_get {p : Int} {A : Nat → List Int} {m N c w k j : Nat} {s : List Int} (hk : k < m) (h : rdB p A m w) (hj : j < w) : (rw4 p A N c w k j k ++ s).getD j 0 = (A k).getD j 0 := by
  have hl := (h k hk).1
  unfold rw4; rw [if_pos rfl]
  simp only [List.getD]
  rw [List.append_assoc, List.getElem?_append_right (by rw [lsL_len]; omega), lsL_len, Nat.sub_self, List.getElem?_append_left (by simp; omega), List.getElem?_drop, Nat.add_zero]
theorem rw4_len {p : Int} {A : Nat → List Int} {m N c w k j i : Nat} (hN : N < m) (hk : k < m) (hi : i < m) (h : rdB p A m w) (hj : j ≤ w) : (rw4 p A N c w k j i).length = w := by
  have hl := (h k hk).1
  unfold rw4
  split
  · rw [List.length_append, lsL_len, List.length_drop]; omega
  · unfold rw3
    split
    · rw [normL_length]; exact (h N hN).1
    · split
      · exact lsL_len ..
      · exact (h i hi).1
theorem rw4_getN {p : Int} {A : Nat → List Int} {m N c w k j : Nat} {s : List Int} (hN : N < m) (hne : N ≠ k) (h : rdB p A m w) (hj : j < w) : (rw4 p A N c w k j N ++ s).getD j 0 = (normL p (A N)).getD j 0 := by
  unfold rw4 rw3; rw [if_neg hne, if_pos rfl]
  exact getD_app (by rw [normL_length, (h N hN).1]; exact hj)
theorem set_at {α : Type} (a b : List α) (x y : α) (j : Nat) (h : a.length = j) : (a ++ (x :: b)).set j y = a ++ y :: b := by
  subst h; simp
theorem rw4_set {p : Int} {A : Nat → List Int} {m N c w k j : Nat} {s : List Int} (hk : k < m) (h : rdB p A m w) (hj : j < w) : (rw4 p A N c w k j k ++ s).set j (((A k).getD j 0 - (A k).getD c 0 * (normL p (A N)).getD j 0) % p) = rw4 p A N c w k (j + 1) k ++ s := by
  have hl := (h k hk).1
  unfold rw4; rw [if_pos rfl, if_pos rfl, lsL_snoc, List.append_assoc, List.drop_eq_getElem_cons (by omega), List.cons_append, set_at _ _ _ _ _ (lsL_len ..)]
  simp
/-- a round of the program is a round of the plain law -/
theorem rd_step {p : Int} (hp : primeB p = true) {M : Nat → List Int} {m w : Nat} {A A' : Nat → List Int} {N c i : Nat} (h : RedI p M m w A N c) (hA : rdB p A m w) (h1 : N ≤ i) (h2 : i < m) (hcw : c < w) (h0 : (A i).getD c 0 ≠ 0) (e1 : A' N = A i) (e2 : ∀ k, k < m → k ≠ N → A' k = if k = i then A N else A k) : RedI p M m w (rw3 p A' N c w m) (N + 1) (c + 1) := by
  refine RedI_piv hp h h1 h2 hcw (fun k hk => (hA k hk).1) (fun k hk => (hA k hk).2) h0 ?_ ?_
  · unfold rw3; rw [if_pos rfl, e1]
  · intro k hk hne
    unfold rw3; rw [if_neg hne, if_pos hk, e1, e2 k hk hne]
end Go.Proofs.Ytoiolpgmilobnaa
namespace Go.Proofs.Ytoiolpgmilobnaa
set_option maxRecDepth 10000
set_option linter.unusedSimpArgs false
set_option linter.unusedVariables false
set_option maxHeartbeats 4000000
attribute [local irreducible] CW OW QW QOp Con thenP inBlockP AW QX RW AX
theorem reduced33_con (p : Int) (t : TypeId) (M : List Int) (k c0 c1 c2 : Nat) (hM : M.length = 9) (hp : primeB p = true) (hb : ∀ j, 0 ≤ M.getD j 0 ∧ M.getD j 0 < p) : Con Try.prog [] 85 [.int p, .slice 0 0 3 k] [(0, .vals 103 [.slice 1 0 3 c0, .slice 1 3 3 c1, .slice 1 6 3 c2]), (1, .ints t M)] (fun v H' => ∃ (kO : Nat) (A : Nat → List Int) (K : Nat → Nat) (S : Nat → List Int), v = .slice 5 0 (rkI p (fun i => (M.drop (i * 3)).take 3) 3 3) kO ∧ rdB p A 3 3 ∧ (∃ c, c ≤ 3 ∧ (rkI p (fun i => (M.drop (i * 3)).take 3) 3 3 = 3 ∨ c = 3) ∧ RedI p (fun i => (M.drop (i * 3)).take 3) 3 3 A (rkI p (fun i => (M.drop (i * 3)).take 3) 3 3) c) ∧ H' = [(0, .vals 103 [.slice 1 0 3 c0, .slice 1 3 3 c1, .slice 1 6 3 c2]), (1, .ints t M), (2, .ints 2 ((A 0) ++ (S 0))), (3, .ints 2 ((A 1) ++ (S 1))), (4, .ints 2 ((A 2) ++ (S 2))), (5, .vals 103 ([.slice 2 0 3 (K 0), .slice 3 0 3 (K 1), .slice 4 0 3 (K 2)] ++ List.replicate (kO - 3) .bot))]) := by
  have hpb := prime_bd hp
  have cl := fun (o kk : Nat) (h : o + 3 ≤ M.length) => clone64_con t M o 3 kk h (by decide)
  have hM0 : rdB p (fun i => (M.drop (i * 3)).take 3) 3 3 := fun i hi => ⟨by simp; omega, fun j => by
    by_cases hj : j < 3
    · have := hb (i * 3 + j)
      simpa [List.getD, List.getElem?_take, hj] using this
    · have e : ((M.drop (i * 3)).take 3).getD j 0 = 0 := by simp [List.getD, List.getElem?_take, hj]
      rw [e]; omega⟩
  refine conW tab_ok [(0, .int p), (1, .slice 0 0 3 k)] 2 [0, 1] [0, 1] Try.func85 rfl rfl rfl rfl rfl rfl rfl rfl rfl ?_
  refine cR ?_
  refine oA rfl rfl ?_
  refine oN ?_
  refine cR ?_
  refine oBslv (r := []) rfl rfl rfl rfl rfl rfl rfl rfl rfl rfl rfl rfl rfl ?_
  refine oA rfl rfl ?_
  refine oN ?_
  refine CW_seq ?_
  refine cR ?_
  refine oM rfl rfl ?_
  first | refine oQ (Q_len rfl rfl rfl rfl) rfl rfl ?_ | refine oQ (Q_len0 rfl rfl rfl rfl) rfl rfl ?_
  refine oM rfl rfl ?_
  refine oN ?_
  refine CW_block ?_
  refine CW_rounds 4 ?_
  refine RW_succ ?_
  refine cR ?_
  refine oQ (Q_bin rfl rfl rfl) rfl rfl ?_
  refine oN ?_
  refine CW_seq ?_
  first | refine cT rfl ?_ | refine cF rfl ?_ | refine CW_cond rfl (fun hc => ?_) (fun hc => ?_)
  all_goals try simp only [s1, s2, s3, s4, s5, s6, s7, s8, s9, s10, s11, s12] at hc
  all_goals try (exfalso; first | omega | (simp at hc; done); done)
  all_goals first
    | (
     refine CW_skip ?_)
    | (
     refine CW_exit ?_)
  all_goals first
    | with_reducible refine tR ?_
    | with_reducible refine tE ?_
    | (
     with_reducible refine tN ?_
     refine CW_seq ?_
     refine CW_block ?_
     refine cR ?_
     first | refine oQ (Is0 rfl rfl rfl rfl rfl rfl) rfl rfl ?_ | refine oQ (Is1 rfl rfl rfl rfl rfl rfl) rfl rfl ?_
     refine oQ (Q_ldv rfl rfl rfl rfl rfl rfl) rfl rfl ?_
     refine oA rfl rfl ?_
     refine oN ?_
     refine CW_region ?_
     iterate 2 refine oM rfl rfl ?_
     first
       | (refine oCall (cl 0 c0 (by omega)) [(0, 1)] 2 rfl rfl (Fits.mk' (vHc rfl vHn) rfl rfl (by simp)) rfl rfl ?_; rintro r H1 ⟨k0, u0, ha0, hb0, rfl, rfl⟩; refine ⟨.slice 4 0 3 k0, [(1, .ints t M), (4, .ints 2 ((M.drop 0).take 3 ++ u0))], rfl, rfl, rfl, ?_⟩)
       | (refine oCall (cl 3 c1 (by omega)) [(0, 1)] 2 rfl rfl (Fits.mk' (vHc rfl vHn) rfl rfl (by simp)) rfl rfl ?_; rintro r H1 ⟨k1, u1, ha1, hb1, rfl, rfl⟩; refine ⟨.slice 8 0 3 k1, [(1, .ints t M), (8, .ints 2 ((M.drop 3).take 3 ++ u1))], rfl, rfl, rfl, ?_⟩)
       | (refine oCall (cl 6 c2 (by omega)) [(0, 1)] 2 rfl rfl (Fits.mk' (vHc rfl vHn) rfl rfl (by simp)) rfl rfl ?_; rintro r H1 ⟨k2, u2, ha2, hb2, rfl, rfl⟩; refine ⟨.slice 12 0 3 k2, [(1, .ints t M), (12, .ints 2 ((M.drop 6).take 3 ++ u2))], rfl, rfl, rfl, ?_⟩)
     refine oBslv rfl rfl rfl rfl rfl rfl rfl rfl rfl rfl rfl rfl rfl ?_
     first | refine oAppV (by_ := 24) (A := []) (sp := []) rfl rfl rfl rfl rfl rfl rfl rfl rfl rfl rfl rfl rfl rfl rfl rfl rfl rfl (by first | rfl | omega | (simp; omega)) (by omega) (by omega) rfl rfl (fun kO hkO => ?_) | refine oAppV (by_ := 24) rfl rfl rfl rfl rfl rfl rfl rfl rfl rfl rfl rfl rfl rfl rfl rfl rfl rfl (by first | rfl | omega | (simp; omega)) (by omega) (by omega) rfl rfl (fun kO hkO => ?_)
     refine oA rfl rfl ?_
     refine OW_nil ?_
     all_goals first | with_reducible refine bN ?_ | with_reducible refine bE ?_ | with_reducible refine bR ?_ | refine bX rfl ?_
     all_goals with_reducible refine tN ?_
     all_goals (
      refine CW_region ?_
      first | refine oQ (Q_binu rfl rfl rfl (by omega)) rfl rfl ?_ | refine oQ (Q_bin rfl rfl rfl) rfl rfl ?_
      refine oM rfl rfl ?_
      refine OW_nil ?_))
  all_goals first
    | with_reducible refine tR ?_
    | with_reducible refine tE ?_
    | (
     with_reducible refine tN ?_
     refine RW_succ ?_
     refine cR ?_
     refine oQ (Q_bin rfl rfl rfl) rfl rfl ?_
     refine oN ?_
     refine CW_seq ?_
     first | refine cT rfl ?_ | refine cF rfl ?_ | refine CW_cond rfl (fun hc => ?_) (fun hc => ?_)
     all_goals try simp only [s1, s2, s3, s4, s5, s6, s7, s8, s9, s10, s11, s12] at hc
     all_goals try (exfalso; first | omega | (simp at hc; done); done)
     all_goals first
       | (
        refine CW_skip ?_)
       | (
        refine CW_exit ?_)
     all_goals first
       | with_reducible refine tR ?_
       | with_reducible refine tE ?_
       | (
        with_reducible refine tN ?_
        refine CW_seq ?_
        refine CW_block ?_
        refine cR ?_
        first | refine oQ (Is0 rfl rfl rfl rfl rfl rfl) rfl rfl ?_ | refine oQ (Is1 rfl rfl rfl rfl rfl rfl) rfl rfl ?_
        refine oQ (Q_ldv rfl rfl rfl rfl rfl rfl) rfl rfl ?_
        refine oA rfl rfl ?_
        refine oN ?_
        refine CW_region ?_
        iterate 2 refine oM rfl rfl ?_
        first
          | (refine oCall (cl 0 c0 (by omega)) [(0, 1)] 2 rfl rfl (Fits.mk' (vHc rfl vHn) rfl rfl (by simp)) rfl rfl ?_; rintro r H1 ⟨k0, u0, ha0, hb0, rfl, rfl⟩; refine ⟨.slice 4 0 3 k0, [(1, .ints t M), (4, .ints 2 ((M.drop 0).take 3 ++ u0))], rfl, rfl, rfl, ?_⟩)
          | (refine oCall (cl 3 c1 (by omega)) [(0, 1)] 2 rfl rfl (Fits.mk' (vHc rfl vHn) rfl rfl (by simp)) rfl rfl ?_; rintro r H1 ⟨k1, u1, ha1, hb1, rfl, rfl⟩; refine ⟨.slice 8 0 3 k1, [(1, .ints t M), (8, .ints 2 ((M.drop 3).take 3 ++ u1))], rfl, rfl, rfl, ?_⟩)
          | (refine oCall (cl 6 c2 (by omega)) [(0, 1)] 2 rfl rfl (Fits.mk' (vHc rfl vHn) rfl rfl (by simp)) rfl rfl ?_; rintro r H1 ⟨k2, u2, ha2, hb2, rfl, rfl⟩; refine ⟨.slice 12 0 3 k2, [(1, .ints t M), (12, .ints 2 ((M.drop 6).take 3 ++ u2))], rfl, rfl, rfl, ?_⟩)
        refine oBslv rfl rfl rfl rfl rfl rfl rfl rfl rfl rfl rfl rfl rfl ?_
        first | refine oAppV (by_ := 24) (A := []) (sp := []) rfl rfl rfl rfl rfl rfl rfl rfl rfl rfl rfl rfl rfl rfl rfl rfl rfl rfl (by first | rfl | omega | (simp; omega)) (by omega) (by omega) rfl rfl (fun kO hkO => ?_) | refine oAppV (by_ := 24) rfl rfl rfl rfl rfl rfl rfl rfl rfl rfl rfl rfl rfl rfl rfl rfl rfl rfl (by first | rfl | omega | (simp; omega)) (by omega) (by omega) rfl rfl (fun kO hkO => ?_)
        refine oA rfl rfl ?_
        refine OW_nil ?_
        all_goals first | with_reducible refine bN ?_ | with_reducible refine bE ?_ | with_reducible refine bR ?_ | refine bX rfl ?_
        all_goals with_reducible refine tN ?_
        all_goals (
         refine CW_region ?_
         first | refine oQ (Q_binu rfl rfl rfl (by omega)) rfl rfl ?_ | refine oQ (Q_bin rfl rfl rfl) rfl rfl ?_
         refine oM rfl rfl ?_
         refine OW_nil ?_))
     all_goals first
       | with_reducible refine tR ?_
       | with_reducible refine tE ?_
       | (
        with_reducible refine tN ?_
        refine RW_succ ?_
        refine cR ?_
        refine oQ (Q_bin rfl rfl rfl) rfl rfl ?_
        refine oN ?_
        refine CW_seq ?_
        first | refine cT rfl ?_ | refine cF rfl ?_ | refine CW_cond rfl (fun hc => ?_) (fun hc => ?_)
        all_goals try simp only [s1, s2, s3, s4, s5, s6, s7, s8, s9, s10, s11, s12] at hc
        all_goals try (exfalso; first | omega | (simp at hc; done); done)
        all_goals first
          | (
           refine CW_skip ?_)
          | (
           refine CW_exit ?_)
        all_goals first
          | with_reducible refine tR ?_
          | with_reducible refine tE ?_
          | (
           with_reducible refine tN ?_
           refine CW_seq ?_
           refine CW_block ?_
           refine cR ?_
           first | refine oQ (Is0 rfl rfl rfl rfl rfl rfl) rfl rfl ?_ | refine oQ (Is1 rfl rfl rfl rfl rfl rfl) rfl rfl ?_
           refine oQ (Q_ldv rfl rfl rfl rfl rfl rfl) rfl rfl ?_
           refine oA rfl rfl ?_
           refine oN ?_
           refine CW_region ?_
           iterate 2 refine oM rfl rfl ?_
           first
             | (refine oCall (cl 0 c0 (by omega)) [(0, 1)] 2 rfl rfl (Fits.mk' (vHc rfl vHn) rfl rfl (by simp)) rfl rfl ?_; rintro r H1 ⟨k0, u0, ha0, hb0, rfl, rfl⟩; refine ⟨.slice 4 0 3 k0, [(1, .ints t M), (4, .ints 2 ((M.drop 0).take 3 ++ u0))], rfl, rfl, rfl, ?_⟩)
             | (refine oCall (cl 3 c1 (by omega)) [(0, 1)] 2 rfl rfl (Fits.mk' (vHc rfl vHn) rfl rfl (by simp)) rfl rfl ?_; rintro r H1 ⟨k1, u1, ha1, hb1, rfl, rfl⟩; refine ⟨.slice 8 0 3 k1, [(1, .ints t M), (8, .ints 2 ((M.drop 3).take 3 ++ u1))], rfl, rfl, rfl, ?_⟩)
             | (refine oCall (cl 6 c2 (by omega)) [(0, 1)] 2 rfl rfl (Fits.mk' (vHc rfl vHn) rfl rfl (by simp)) rfl rfl ?_; rintro r H1 ⟨k2, u2, ha2, hb2, rfl, rfl⟩; refine ⟨.slice 12 0 3 k2, [(1, .ints t M), (12, .ints 2 ((M.drop 6).take 3 ++ u2))], rfl, rfl, rfl, ?_⟩)
           refine oBslv rfl rfl rfl rfl rfl rfl rfl rfl rfl rfl rfl rfl rfl ?_
           first | refine oAppV (by_ := 24) (A := []) (sp := []) rfl rfl rfl rfl rfl rfl rfl rfl rfl rfl rfl rfl rfl rfl rfl rfl rfl rfl (by first | rfl | omega | (simp; omega)) (by omega) (by omega) rfl rfl (fun kO hkO => ?_) | refine oAppV (by_ := 24) rfl rfl rfl rfl rfl rfl rfl rfl rfl rfl rfl rfl rfl rfl rfl rfl rfl rfl (by first | rfl | omega | (simp; omega)) (by omega) (by omega) rfl rfl (fun kO hkO => ?_)
           refine oA rfl rfl ?_
           refine OW_nil ?_
           all_goals first | with_reducible refine bN ?_ | with_reducible refine bE ?_ | with_reducible refine bR ?_ | refine bX rfl ?_
           all_goals with_reducible refine tN ?_
           all_goals (
            refine CW_region ?_
            first | refine oQ (Q_binu rfl rfl rfl (by omega)) rfl rfl ?_ | refine oQ (Q_bin rfl rfl rfl) rfl rfl ?_
            refine oM rfl rfl ?_
            refine OW_nil ?_))
        all_goals first
          | with_reducible refine tR ?_
          | with_reducible refine tE ?_
          | (
           with_reducible refine tN ?_
           refine RW_succ ?_
           refine cR ?_
           refine oQ (Q_bin rfl rfl rfl) rfl rfl ?_
           refine oN ?_
           refine CW_seq ?_
           first | refine cT rfl ?_ | refine cF rfl ?_ | refine CW_cond rfl (fun hc => ?_) (fun hc => ?_)
           all_goals try simp only [s1, s2, s3, s4, s5, s6, s7, s8, s9, s10, s11, s12] at hc
           all_goals try (exfalso; first | omega | (simp at hc; done); done)
           all_goals first
             | (
              refine CW_skip ?_)
             | (
              refine CW_exit ?_)
           all_goals first
             | with_reducible refine tR ?_
             | with_reducible refine tE ?_
             | (
              with_reducible refine tN ?_
              refine CW_seq ?_
              refine CW_block ?_
              refine cR ?_
              first | refine oQ (Is0 rfl rfl rfl rfl rfl rfl) rfl rfl ?_ | refine oQ (Is1 rfl rfl rfl rfl rfl rfl) rfl rfl ?_
              refine oQ (Q_ldv rfl rfl rfl rfl rfl rfl) rfl rfl ?_
              refine oA rfl rfl ?_
              refine oN ?_
              refine CW_region ?_
              iterate 2 refine oM rfl rfl ?_
              first
                | (refine oCall (cl 0 c0 (by omega)) [(0, 1)] 2 rfl rfl (Fits.mk' (vHc rfl vHn) rfl rfl (by simp)) rfl rfl ?_; rintro r H1 ⟨k0, u0, ha0, hb0, rfl, rfl⟩; refine ⟨.slice 4 0 3 k0, [(1, .ints t M), (4, .ints 2 ((M.drop 0).take 3 ++ u0))], rfl, rfl, rfl, ?_⟩)
                | (refine oCall (cl 3 c1 (by omega)) [(0, 1)] 2 rfl rfl (Fits.mk' (vHc rfl vHn) rfl rfl (by simp)) rfl rfl ?_; rintro r H1 ⟨k1, u1, ha1, hb1, rfl, rfl⟩; refine ⟨.slice 8 0 3 k1, [(1, .ints t M), (8, .ints 2 ((M.drop 3).take 3 ++ u1))], rfl, rfl, rfl, ?_⟩)
                | (refine oCall (cl 6 c2 (by omega)) [(0, 1)] 2 rfl rfl (Fits.mk' (vHc rfl vHn) rfl rfl (by simp)) rfl rfl ?_; rintro r H1 ⟨k2, u2, ha2, hb2, rfl, rfl⟩; refine ⟨.slice 12 0 3 k2, [(1, .ints t M), (12, .ints 2 ((M.drop 6).take 3 ++ u2))], rfl, rfl, rfl, ?_⟩)
              refine oBslv rfl rfl rfl rfl rfl rfl rfl rfl rfl rfl rfl rfl rfl ?_
              first | refine oAppV (by_ := 24) (A := []) (sp := []) rfl rfl rfl rfl rfl rfl rfl rfl rfl rfl rfl rfl rfl rfl rfl rfl rfl rfl (by first | rfl | omega | (simp; omega)) (by omega) (by omega) rfl rfl (fun kO hkO => ?_) | refine oAppV (by_ := 24) rfl rfl rfl rfl rfl rfl rfl rfl rfl rfl rfl rfl rfl rfl rfl rfl rfl rfl (by first | rfl | omega | (simp; omega)) (by omega) (by omega) rfl rfl (fun kO hkO => ?_)
              refine oA rfl rfl ?_
              refine OW_nil ?_
              all_goals first | with_reducible refine bN ?_ | with_reducible refine bE ?_ | with_reducible refine bR ?_ | refine bX rfl ?_
              all_goals with_reducible refine tN ?_
              all_goals (
               refine CW_region ?_
               first | refine oQ (Q_binu rfl rfl rfl (by omega)) rfl rfl ?_ | refine oQ (Q_bin rfl rfl rfl) rfl rfl ?_
               refine oM rfl rfl ?_
               refine OW_nil ?_))
           all_goals first
             | with_reducible refine tR ?_
             | with_reducible refine tE ?_
             | (
              with_reducible refine tN ?_
              exfalso; first | omega | (simp at hc; done) | (simp_all; done)))))
  all_goals first | with_reducible refine bN ?_ | with_reducible refine bE ?_ | with_reducible refine bR ?_ | refine bX rfl ?_
  all_goals with_reducible refine tN ?_
  all_goals (
   refine cR ?_
   refine oA rfl rfl ?_
   refine oN ?_
   refine CW_seq ?_
   refine cR ?_
   refine oA rfl rfl ?_
   refine oN ?_
   refine CW_block ?_
   refine CW_loop (ι := RS) (fun x => x.cnt ≤ 3 ∧ x.c ≤ 3 ∧ x.cnt ≤ x.c ∧ rdB p x.A 3 3 ∧ RedI p (fun i => (M.drop (i * 3)).take 3) 3 3 x.A x.cnt x.c) (fun x => ⟨[(0, .int p), (5, .slice 5 0 3 kO), (8, .int x.cnt), (9, .int x.c)], [(0, .vals 103 [.slice 1 0 3 c0, .slice 1 3 3 c1, .slice 1 6 3 c2]), (1, .ints t M), (2, .ints 2 ((x.A 0) ++ (x.S 0))), (3, .ints 2 ((x.A 1) ++ (x.S 1))), (4, .ints 2 ((x.A 2) ++ (x.S 2))), (5, .vals 103 ([.slice 2 0 3 (x.K 0), .slice 3 0 3 (x.K 1), .slice 4 0 3 (x.K 2)] ++ List.replicate (kO - 3) .bot))], 6⟩) (fun x => 3 - x.c) ⟨0, 0, fun i => (M.drop (i * 3)).take 3, fun i => match i with | 0 => k0 | 1 => k1 | _ => k2, fun i => match i with | 0 => u0 | 1 => u1 | _ => u2⟩ ?_ ?_ ?_
   · exact ⟨Nat.zero_le _, Nat.zero_le _, Nat.le_refl _, hM0, RedI_start p _ _ _⟩
   · refine View.mk' [(2, 4), (3, 8), (4, 12), (5, 14)] rfl (by simp only [wfB, List.all_cons, List.all_nil, ids_bots]; rfl) rfl ?_ ?_
     repeat' first | exact vFn | refine vFc rfl ?_ | exact vHn | refine vHc rfl ?_ | refine vFc (congrArg (fun z => some (V.int z)) ?_) ?_ | refine vHc (congrArg (fun z => some (Blk.ints _ z)) ?_) ?_ | refine vFc (congrArg (fun z => some (V.bool z)) ?_) ?_ | refine vFs rfl rfl ?_ ?_ | refine vHc (by rw [ren_bots]; rfl) ?_
   rintro ⟨cnt, c, A, K, S⟩ ⟨h1, h2, h3, hA, hR⟩
   dsimp only at h1 h2 h3 hA hR ⊢
   have l0 := (hA 0 (by omega)).1
   have l1 := (hA 1 (by omega)).1
   have l2 := (hA 2 (by omega)).1
   have hcc : cnt = 0 ∨ cnt = 1 ∨ cnt = 2 ∨ cnt = 3 := by omega
   obtain ⟨N, hN⟩ : ∃ z, z = cnt := ⟨cnt, rfl⟩
   obtain ⟨N2, hN2⟩ : ∃ z, z = cnt := ⟨cnt, rfl⟩
   rcases hcc with rfl | rfl | rfl | rfl
   all_goals (
    refine CW_seq ?_
    refine cR ?_
    iterate 2 refine oM rfl rfl ?_
    first | refine oQ (Q_len rfl rfl rfl rfl) rfl rfl ?_ | refine oQ (Q_len0 rfl rfl rfl rfl) rfl rfl ?_
    refine oQ (Q_bin rfl rfl rfl) rfl rfl ?_
    refine oM rfl rfl ?_
    all_goals first | refine oT rfl rfl ?_ | refine o1 rfl rfl rfl ?_ | refine o0 rfl rfl rfl ?_ | refine ogP1 rfl rfl rfl (fun hg => ?_) (fun hg => ?_) | refine ogP0 rfl rfl rfl (fun hg => ?_) (fun hg => ?_)
    all_goals try simp only [s1, s2, s3, s4, s5, s6, s7, s8, s9, s10, s11, s12] at hg
    all_goals try (exfalso; first | omega | exact absurd trivial hg | (simp at hg; done); done)
    all_goals first | (refine oM rfl rfl ?_) | skip
    all_goals first | refine oT rfl rfl ?_ | refine o1 rfl rfl rfl ?_ | refine o0 rfl rfl rfl ?_ | refine ogP1 rfl rfl rfl (fun hg => ?_) (fun hg => ?_) | refine ogP0 rfl rfl rfl (fun hg => ?_) (fun hg => ?_)
    all_goals try simp only [s1, s2, s3, s4, s5, s6, s7, s8, s9, s10, s11, s12] at hg
    all_goals try (exfalso; first | omega | exact absurd trivial hg | (simp at hg; done); done)
    all_goals first | (refine oM rfl rfl ?_) | skip
    all_goals first | refine oT rfl rfl ?_ | refine o1 rfl rfl rfl ?_ | refine o0 rfl rfl rfl ?_ | refine ogP1 rfl rfl rfl (fun hg => ?_) (fun hg => ?_) | refine ogP0 rfl rfl rfl (fun hg => ?_) (fun hg => ?_)
    all_goals try simp only [s1, s2, s3, s4, s5, s6, s7, s8, s9, s10, s11, s12] at hg
    all_goals try (exfalso; first | omega | exact absurd trivial hg | (simp at hg; done); done)
    all_goals first | refine oQ (Is0 rfl rfl rfl rfl rfl rfl) rfl rfl ?_ | refine oQ (Is1 rfl rfl rfl rfl rfl rfl) rfl rfl ?_ | skip
    all_goals first | refine oT rfl rfl ?_ | refine o1 rfl rfl rfl ?_ | refine o0 rfl rfl rfl ?_ | refine ogP1 rfl rfl rfl (fun hg => ?_) (fun hg => ?_) | refine ogP0 rfl rfl rfl (fun hg => ?_) (fun hg => ?_)
    all_goals try simp only [s1, s2, s3, s4, s5, s6, s7, s8, s9, s10, s11, s12] at hg
    all_goals try (exfalso; first | omega | exact absurd trivial hg | (simp at hg; done); done)
    all_goals first | (refine oQ (Q_ldv rfl rfl rfl rfl rfl rfl) rfl rfl ?_) | skip
    all_goals first | refine oT rfl rfl ?_ | refine o1 rfl rfl rfl ?_ | refine o0 rfl rfl rfl ?_ | refine ogP1 rfl rfl rfl (fun hg => ?_) (fun hg => ?_) | refine ogP0 rfl rfl rfl (fun hg => ?_) (fun hg => ?_)
    all_goals try simp only [s1, s2, s3, s4, s5, s6, s7, s8, s9, s10, s11, s12] at hg
    all_goals try (exfalso; first | omega | exact absurd trivial hg | (simp at hg; done); done)
    all_goals first | refine oQ (Q_len rfl rfl rfl rfl) rfl rfl ?_ | refine oQ (Q_len0 rfl rfl rfl rfl) rfl rfl ?_ | skip
    all_goals first | refine oT rfl rfl ?_ | refine o1 rfl rfl rfl ?_ | refine o0 rfl rfl rfl ?_ | refine ogP1 rfl rfl rfl (fun hg => ?_) (fun hg => ?_) | refine ogP0 rfl rfl rfl (fun hg => ?_) (fun hg => ?_)
    all_goals try simp only [s1, s2, s3, s4, s5, s6, s7, s8, s9, s10, s11, s12] at hg
    all_goals try (exfalso; first | omega | exact absurd trivial hg | (simp at hg; done); done)
    all_goals first | (refine oQ (Q_bin rfl rfl rfl) rfl rfl ?_) | skip
    all_goals first | refine oQ (Q_pick_t rfl (by with_reducible rfl) rfl rfl) rfl rfl ?_ | refine oQ (Q_pick_f rfl (by with_reducible rfl) rfl rfl) rfl rfl ?_
    all_goals refine oN ?_
    all_goals (
     first | refine cT rfl ?_ | refine cF rfl ?_ | refine CW_cond rfl (fun hc => ?_) (fun hc => ?_)
     all_goals try simp only [s1, s2, s3, s4, s5, s6, s7, s8, s9, s10, s11, s12] at hc
     all_goals try (exfalso; first | omega | (simp at hc; done); done)
     all_goals first
       | (
        refine CW_skip ?_)
       | (
        refine CW_exit ?_))
    all_goals first
      | with_reducible refine tR ?_
      | with_reducible refine tE ?_
      | (
       with_reducible refine tN ?_
       refine CW_seq ?_
       refine CW_block ?_
       refine cR ?_
       refine oM rfl rfl ?_
       refine oA rfl rfl ?_
       refine oN ?_
       refine CW_cut (ι := Nat) (fun i => N ≤ i ∧ i ≤ 3 ∧ c < 3 ∧ (∀ k, N ≤ k → k < i → (A k).getD c 0 = 0) ∧ (i < 3 → (A i).getD c 0 ≠ 0)) (fun i => ⟨[(0, .int p), (5, .slice 5 0 3 kO), (8, .int (N : Int)), (9, .int c), (10, .int i)], [(0, .vals 103 [.slice 1 0 3 c0, .slice 1 3 3 c1, .slice 1 6 3 c2]), (1, .ints t M), (2, .ints 2 ((A 0) ++ (S 0))), (3, .ints 2 ((A 1) ++ (S 1))), (4, .ints 2 ((A 2) ++ (S 2))), (5, .vals 103 ([.slice 2 0 3 (K 0), .slice 3 0 3 (K 1), .slice 4 0 3 (K 2)] ++ List.replicate (kO - 3) .bot))], 6⟩) ?_ ?_
       · (
        have hcw : c < 3 := by omega
        have g0 : (A 0 ++ S 0).getD c 0 = (A 0).getD c 0 := getD_app (by rw [l0]; exact hcw)
        have g1 : (A 1 ++ S 1).getD c 0 = (A 1).getD c 0 := getD_app (by rw [l1]; exact hcw)
        have g2 : (A 2 ++ S 2).getD c 0 = (A 2).getD c 0 := getD_app (by rw [l2]; exact hcw)
        rw [hN]
        all_goals (
         refine CW_block ?_
         refine CW_rounds 5 ?_
         refine RW_succ ?_
         refine CW_seq ?_
         refine cR ?_
         iterate 2 refine oM rfl rfl ?_
         first | refine oQ (Q_len rfl rfl rfl rfl) rfl rfl ?_ | refine oQ (Q_len0 rfl rfl rfl rfl) rfl rfl ?_
         refine oQ (Q_bin rfl rfl rfl) rfl rfl ?_
         refine oM rfl rfl ?_
         all_goals first | refine oT rfl rfl ?_ | refine o1 rfl rfl rfl ?_ | refine o0 rfl rfl rfl ?_ | refine ogP1 rfl rfl rfl (fun hg => ?_) (fun hg => ?_) | refine ogP0 rfl rfl rfl (fun hg => ?_) (fun hg => ?_)
         all_goals try simp only [s1, s2, s3, s4, s5, s6, s7, s8, s9, s10, s11, s12] at hg
         all_goals try (exfalso; first | omega | exact absurd trivial hg | (simp at hg; done); done)
         all_goals first | (refine oM rfl rfl ?_) | skip
         all_goals first | refine oT rfl rfl ?_ | refine o1 rfl rfl rfl ?_ | refine o0 rfl rfl rfl ?_ | refine ogP1 rfl rfl rfl (fun hg => ?_) (fun hg => ?_) | refine ogP0 rfl rfl rfl (fun hg => ?_) (fun hg => ?_)
         all_goals try simp only [s1, s2, s3, s4, s5, s6, s7, s8, s9, s10, s11, s12] at hg
         all_goals try (exfalso; first | omega | exact absurd trivial hg | (simp at hg; done); done)
         all_goals first | (refine oM rfl rfl ?_) | skip
         all_goals first | refine oT rfl rfl ?_ | refine o1 rfl rfl rfl ?_ | refine o0 rfl rfl rfl ?_ | refine ogP1 rfl rfl rfl (fun hg => ?_) (fun hg => ?_) | refine ogP0 rfl rfl rfl (fun hg => ?_) (fun hg => ?_)
         all_goals try simp only [s1, s2, s3, s4, s5, s6, s7, s8, s9, s10, s11, s12] at hg
         all_goals try (exfalso; first | omega | exact absurd trivial hg | (simp at hg; done); done)
         all_goals first | refine oQ (Is0 rfl rfl rfl rfl rfl rfl) rfl rfl ?_ | refine oQ (Is1 rfl rfl rfl rfl rfl rfl) rfl rfl ?_ | skip
         all_goals first | refine oT rfl rfl ?_ | refine o1 rfl rfl rfl ?_ | refine o0 rfl rfl rfl ?_ | refine ogP1 rfl rfl rfl (fun hg => ?_) (fun hg => ?_) | refine ogP0 rfl rfl rfl (fun hg => ?_) (fun hg => ?_)
         all_goals try simp only [s1, s2, s3, s4, s5, s6, s7, s8, s9, s10, s11, s12] at hg
         all_goals try (exfalso; first | omega | exact absurd trivial hg | (simp at hg; done); done)
         all_goals first | (refine oQ (Q_ldv rfl rfl rfl rfl rfl rfl) rfl rfl ?_) | skip
         all_goals first | refine oT rfl rfl ?_ | refine o1 rfl rfl rfl ?_ | refine o0 rfl rfl rfl ?_ | refine ogP1 rfl rfl rfl (fun hg => ?_) (fun hg => ?_) | refine ogP0 rfl rfl rfl (fun hg => ?_) (fun hg => ?_)
         all_goals try simp only [s1, s2, s3, s4, s5, s6, s7, s8, s9, s10, s11, s12] at hg
         all_goals try (exfalso; first | omega | exact absurd trivial hg | (simp at hg; done); done)
         all_goals first | (refine oM rfl rfl ?_) | skip
         all_goals first | refine oT rfl rfl ?_ | refine o1 rfl rfl rfl ?_ | refine o0 rfl rfl rfl ?_ | refine ogP1 rfl rfl rfl (fun hg => ?_) (fun hg => ?_) | refine ogP0 rfl rfl rfl (fun hg => ?_) (fun hg => ?_)
         all_goals try simp only [s1, s2, s3, s4, s5, s6, s7, s8, s9, s10, s11, s12] at hg
         all_goals try (exfalso; first | omega | exact absurd trivial hg | (simp at hg; done); done)
         all_goals first | refine oQ (Is0 rfl rfl rfl rfl rfl rfl) rfl rfl ?_ | refine oQ (Is1 rfl rfl rfl rfl rfl rfl) rfl rfl ?_ | skip
         all_goals first | refine oT rfl rfl ?_ | refine o1 rfl rfl rfl ?_ | refine o0 rfl rfl rfl ?_ | refine ogP1 rfl rfl rfl (fun hg => ?_) (fun hg => ?_) | refine ogP0 rfl rfl rfl (fun hg => ?_) (fun hg => ?_)
         all_goals try simp only [s1, s2, s3, s4, s5, s6, s7, s8, s9, s10, s11, s12] at hg
         all_goals try (exfalso; first | omega | exact absurd trivial hg | (simp at hg; done); done)
         all_goals first | refine oQ (Q_ldc rfl rfl rfl rfl rfl) rfl rfl ?_ | refine oQ (Ld rfl rfl rfl rfl) rfl rfl ?_ | skip
         all_goals first | refine oT rfl rfl ?_ | refine o1 rfl rfl rfl ?_ | refine o0 rfl rfl rfl ?_ | refine ogP1 rfl rfl rfl (fun hg => ?_) (fun hg => ?_) | refine ogP0 rfl rfl rfl (fun hg => ?_) (fun hg => ?_)
         all_goals try simp only [s1, s2, s3, s4, s5, s6, s7, s8, s9, s10, s11, s12] at hg
         all_goals try (exfalso; first | omega | exact absurd trivial hg | (simp at hg; done); done)
         all_goals first | (refine oQ (Q_bin rfl rfl rfl) rfl rfl ?_) | skip
         all_goals first | refine oQ (Q_pick_t rfl (by with_reducible rfl) rfl rfl) rfl rfl ?_ | refine oQ (Q_pick_f rfl (by with_reducible rfl) rfl rfl) rfl rfl ?_
         all_goals refine oN ?_
         all_goals (
          first | refine cT rfl ?_ | refine cF rfl ?_ | refine CW_cond rfl (fun hc => ?_) (fun hc => ?_)
          all_goals try simp only [s1, s2, s3, s4, s5, s6, s7, s8, s9, s10, s11, s12] at hc
          all_goals try (exfalso; first | omega | (simp at hc; done); done)
          all_goals first
            | (
             refine CW_skip ?_)
            | (
             refine CW_exit ?_))
         all_goals first
           | with_reducible refine tR ?_
           | with_reducible refine tE ?_
           | (
            with_reducible refine tN ?_
            refine CW_block ?_
            refine CW_region ?_
            refine oM rfl rfl ?_
            first | refine oQ (Q_binu rfl rfl rfl (by omega)) rfl rfl ?_ | refine oQ (Q_bin rfl rfl rfl) rfl rfl ?_
            refine oA rfl rfl ?_
            refine OW_nil ?_
            all_goals first | with_reducible refine bN ?_ | with_reducible refine bE ?_ | with_reducible refine bR ?_ | refine bX rfl ?_)
         all_goals first
           | with_reducible refine tR ?_
           | with_reducible refine tE ?_
           | (
            with_reducible refine tN ?_
            refine RW_succ ?_
            refine CW_seq ?_
            refine cR ?_
            iterate 2 refine oM rfl rfl ?_
            first | refine oQ (Q_len rfl rfl rfl rfl) rfl rfl ?_ | refine oQ (Q_len0 rfl rfl rfl rfl) rfl rfl ?_
            refine oQ (Q_bin rfl rfl rfl) rfl rfl ?_
            refine oM rfl rfl ?_
            all_goals first | refine oT rfl rfl ?_ | refine o1 rfl rfl rfl ?_ | refine o0 rfl rfl rfl ?_ | refine ogP1 rfl rfl rfl (fun hg => ?_) (fun hg => ?_) | refine ogP0 rfl rfl rfl (fun hg => ?_) (fun hg => ?_)
            all_goals try simp only [s1, s2, s3, s4, s5, s6, s7, s8, s9, s10, s11, s12] at hg
            all_goals try (exfalso; first | omega | exact absurd trivial hg | (simp at hg; done); done)
            all_goals first | (refine oM rfl rfl ?_) | skip
            all_goals first | refine oT rfl rfl ?_ | refine o1 rfl rfl rfl ?_ | refine o0 rfl rfl rfl ?_ | refine ogP1 rfl rfl rfl (fun hg => ?_) (fun hg => ?_) | refine ogP0 rfl rfl rfl (fun hg => ?_) (fun hg => ?_)
            all_goals try simp only [s1, s2, s3, s4, s5, s6, s7, s8, s9, s10, s11, s12] at hg
            all_goals try (exfalso; first | omega | exact absurd trivial hg | (simp at hg; done); done)
            all_goals first | (refine oM rfl rfl ?_) | skip
            all_goals first | refine oT rfl rfl ?_ | refine o1 rfl rfl rfl ?_ | refine o0 rfl rfl rfl ?_ | refine ogP1 rfl rfl rfl (fun hg => ?_) (fun hg => ?_) | refine ogP0 rfl rfl rfl (fun hg => ?_) (fun hg => ?_)
            all_goals try simp only [s1, s2, s3, s4, s5, s6, s7, s8, s9, s10, s11, s12] at hg
            all_goals try (exfalso; first | omega | exact absurd trivial hg | (simp at hg; done); done)
            all_goals first | refine oQ (Is0 rfl rfl rfl rfl rfl rfl) rfl rfl ?_ | refine oQ (Is1 rfl rfl rfl rfl rfl rfl) rfl rfl ?_ | skip
            all_goals first | refine oT rfl rfl ?_ | refine o1 rfl rfl rfl ?_ | refine o0 rfl rfl rfl ?_ | refine ogP1 rfl rfl rfl (fun hg => ?_) (fun hg => ?_) | refine ogP0 rfl rfl rfl (fun hg => ?_) (fun hg => ?_)
            all_goals try simp only [s1, s2, s3, s4, s5, s6, s7, s8, s9, s10, s11, s12] at hg
            all_goals try (exfalso; first | omega | exact absurd trivial hg | (simp at hg; done); done)
            all_goals first | (refine oQ (Q_ldv rfl rfl rfl rfl rfl rfl) rfl rfl ?_) | skip
            all_goals first | refine oT rfl rfl ?_ | refine o1 rfl rfl rfl ?_ | refine o0 rfl rfl rfl ?_ | refine ogP1 rfl rfl rfl (fun hg => ?_) (fun hg => ?_) | refine ogP0 rfl rfl rfl (fun hg => ?_) (fun hg => ?_)
            all_goals try simp only [s1, s2, s3, s4, s5, s6, s7, s8, s9, s10, s11, s12] at hg
            all_goals try (exfalso; first | omega | exact absurd trivial hg | (simp at hg; done); done)
            all_goals first | (refine oM rfl rfl ?_) | skip
            all_goals first | refine oT rfl rfl ?_ | refine o1 rfl rfl rfl ?_ | refine o0 rfl rfl rfl ?_ | refine ogP1 rfl rfl rfl (fun hg => ?_) (fun hg => ?_) | refine ogP0 rfl rfl rfl (fun hg => ?_) (fun hg => ?_)
            all_goals try simp only [s1, s2, s3, s4, s5, s6, s7, s8, s9, s10, s11, s12] at hg
            all_goals try (exfalso; first | omega | exact absurd trivial hg | (simp at hg; done); done)
            all_goals first | refine oQ (Is0 rfl rfl rfl rfl rfl rfl) rfl rfl ?_ | refine oQ (Is1 rfl rfl rfl rfl rfl rfl) rfl rfl ?_ | skip
            all_goals first | refine oT rfl rfl ?_ | refine o1 rfl rfl rfl ?_ | refine o0 rfl rfl rfl ?_ | refine ogP1 rfl rfl rfl (fun hg => ?_) (fun hg => ?_) | refine ogP0 rfl rfl rfl (fun hg => ?_) (fun hg => ?_)
            all_goals try simp only [s1, s2, s3, s4, s5, s6, s7, s8, s9, s10, s11, s12] at hg
            all_goals try (exfalso; first | omega | exact absurd trivial hg | (simp at hg; done); done)
            all_goals first | refine oQ (Q_ldc rfl rfl rfl rfl rfl) rfl rfl ?_ | refine oQ (Ld rfl rfl rfl rfl) rfl rfl ?_ | skip
            all_goals first | refine oT rfl rfl ?_ | refine o1 rfl rfl rfl ?_ | refine o0 rfl rfl rfl ?_ | refine ogP1 rfl rfl rfl (fun hg => ?_) (fun hg => ?_) | refine ogP0 rfl rfl rfl (fun hg => ?_) (fun hg => ?_)
            all_goals try simp only [s1, s2, s3, s4, s5, s6, s7, s8, s9, s10, s11, s12] at hg
            all_goals try (exfalso; first | omega | exact absurd trivial hg | (simp at hg; done); done)
            all_goals first | (refine oQ (Q_bin rfl rfl rfl) rfl rfl ?_) | skip
            all_goals first | refine oQ (Q_pick_t rfl (by with_reducible rfl) rfl rfl) rfl rfl ?_ | refine oQ (Q_pick_f rfl (by with_reducible rfl) rfl rfl) rfl rfl ?_
            all_goals refine oN ?_
            all_goals (
             first | refine cT rfl ?_ | refine cF rfl ?_ | refine CW_cond rfl (fun hc => ?_) (fun hc => ?_)
             all_goals try simp only [s1, s2, s3, s4, s5, s6, s7, s8, s9, s10, s11, s12] at hc
             all_goals try (exfalso; first | omega | (simp at hc; done); done)
             all_goals first
               | (
                refine CW_skip ?_)
               | (
                refine CW_exit ?_))
            all_goals first
              | with_reducible refine tR ?_
              | with_reducible refine tE ?_
              | (
               with_reducible refine tN ?_
               refine CW_block ?_
               refine CW_region ?_
               refine oM rfl rfl ?_
               first | refine oQ (Q_binu rfl rfl rfl (by omega)) rfl rfl ?_ | refine oQ (Q_bin rfl rfl rfl) rfl rfl ?_
               refine oA rfl rfl ?_
               refine OW_nil ?_
               all_goals first | with_reducible refine bN ?_ | with_reducible refine bE ?_ | with_reducible refine bR ?_ | refine bX rfl ?_)
            all_goals first
              | with_reducible refine tR ?_
              | with_reducible refine tE ?_
              | (
               with_reducible refine tN ?_
               refine RW_succ ?_
               refine CW_seq ?_
               refine cR ?_
               iterate 2 refine oM rfl rfl ?_
               first | refine oQ (Q_len rfl rfl rfl rfl) rfl rfl ?_ | refine oQ (Q_len0 rfl rfl rfl rfl) rfl rfl ?_
               refine oQ (Q_bin rfl rfl rfl) rfl rfl ?_
               refine oM rfl rfl ?_
               all_goals first | refine oT rfl rfl ?_ | refine o1 rfl rfl rfl ?_ | refine o0 rfl rfl rfl ?_ | refine ogP1 rfl rfl rfl (fun hg => ?_) (fun hg => ?_) | refine ogP0 rfl rfl rfl (fun hg => ?_) (fun hg => ?_)
               all_goals try simp only [s1, s2, s3, s4, s5, s6, s7, s8, s9, s10, s11, s12] at hg
               all_goals try (exfalso; first | omega | exact absurd trivial hg | (simp at hg; done); done)
               all_goals first | (refine oM rfl rfl ?_) | skip
               all_goals first | refine oT rfl rfl ?_ | refine o1 rfl rfl rfl ?_ | refine o0 rfl rfl rfl ?_ | refine ogP1 rfl rfl rfl (fun hg => ?_) (fun hg => ?_) | refine ogP0 rfl rfl rfl (fun hg => ?_) (fun hg => ?_)
               all_goals try simp only [s1, s2, s3, s4, s5, s6, s7, s8, s9, s10, s11, s12] at hg
               all_goals try (exfalso; first | omega | exact absurd trivial hg | (simp at hg; done); done)
               all_goals first | (refine oM rfl rfl ?_) | skip
               all_goals first | refine oT rfl rfl ?_ | refine o1 rfl rfl rfl ?_ | refine o0 rfl rfl rfl ?_ | refine ogP1 rfl rfl rfl (fun hg => ?_) (fun hg => ?_) | refine ogP0 rfl rfl rfl (fun hg => ?_) (fun hg => ?_)
               all_goals try simp only [s1, s2, s3, s4, s5, s6, s7, s8, s9, s10, s11, s12] at hg
               all_goals try (exfalso; first | omega | exact absurd trivial hg | (simp at hg; done); done)
               all_goals first | refine oQ (Is0 rfl rfl rfl rfl rfl rfl) rfl rfl ?_ | refine oQ (Is1 rfl rfl rfl rfl rfl rfl) rfl rfl ?_ | skip
               all_goals first | refine oT rfl rfl ?_ | refine o1 rfl rfl rfl ?_ | refine o0 rfl rfl rfl ?_ | refine ogP1 rfl rfl rfl (fun hg => ?_) (fun hg => ?_) | refine ogP0 rfl rfl rfl (fun hg => ?_) (fun hg => ?_)
               all_goals try simp only [s1, s2, s3, s4, s5, s6, s7, s8, s9, s10, s11, s12] at hg
               all_goals try (exfalso; first | omega | exact absurd trivial hg | (simp at hg; done); done)
               all_goals first | (refine oQ (Q_ldv rfl rfl rfl rfl rfl rfl) rfl rfl ?_) | skip
               all_goals first | refine oT rfl rfl ?_ | refine o1 rfl rfl rfl ?_ | refine o0 rfl rfl rfl ?_ | refine ogP1 rfl rfl rfl (fun hg => ?_) (fun hg => ?_) | refine ogP0 rfl rfl rfl (fun hg => ?_) (fun hg => ?_)
               all_goals try simp only [s1, s2, s3, s4, s5, s6, s7, s8, s9, s10, s11, s12] at hg
               all_goals try (exfalso; first | omega | exact absurd trivial hg | (simp at hg; done); done)
               all_goals first | (refine oM rfl rfl ?_) | skip
               all_goals first | refine oT rfl rfl ?_ | refine o1 rfl rfl rfl ?_ | refine o0 rfl rfl rfl ?_ | refine ogP1 rfl rfl rfl (fun hg => ?_) (fun hg => ?_) | refine ogP0 rfl rfl rfl (fun hg => ?_) (fun hg => ?_)
               all_goals try simp only [s1, s2, s3, s4, s5, s6, s7, s8, s9, s10, s11, s12] at hg
               all_goals try (exfalso; first | omega | exact absurd trivial hg | (simp at hg; done); done)
               all_goals first | refine oQ (Is0 rfl rfl rfl rfl rfl rfl) rfl rfl ?_ | refine oQ (Is1 rfl rfl rfl rfl rfl rfl) rfl rfl ?_ | skip
               all_goals first | refine oT rfl rfl ?_ | refine o1 rfl rfl rfl ?_ | refine o0 rfl rfl rfl ?_ | refine ogP1 rfl rfl rfl (fun hg => ?_) (fun hg => ?_) | refine ogP0 rfl rfl rfl (fun hg => ?_) (fun hg => ?_)
               all_goals try simp only [s1, s2, s3, s4, s5, s6, s7, s8, s9, s10, s11, s12] at hg
               all_goals try (exfalso; first | omega | exact absurd trivial hg | (simp at hg; done); done)
               all_goals first | refine oQ (Q_ldc rfl rfl rfl rfl rfl) rfl rfl ?_ | refine oQ (Ld rfl rfl rfl rfl) rfl rfl ?_ | skip
               all_goals first | refine oT rfl rfl ?_ | refine o1 rfl rfl rfl ?_ | refine o0 rfl rfl rfl ?_ | refine ogP1 rfl rfl rfl (fun hg => ?_) (fun hg => ?_) | refine ogP0 rfl rfl rfl (fun hg => ?_) (fun hg => ?_)
               all_goals try simp only [s1, s2, s3, s4, s5, s6, s7, s8, s9, s10, s11, s12] at hg
               all_goals try (exfalso; first | omega | exact absurd trivial hg | (simp at hg; done); done)
               all_goals first | (refine oQ (Q_bin rfl rfl rfl) rfl rfl ?_) | skip
               all_goals first | refine oQ (Q_pick_t rfl (by with_reducible rfl) rfl rfl) rfl rfl ?_ | refine oQ (Q_pick_f rfl (by with_reducible rfl) rfl rfl) rfl rfl ?_
               all_goals refine oN ?_
               all_goals (
                first | refine cT rfl ?_ | refine cF rfl ?_ | refine CW_cond rfl (fun hc => ?_) (fun hc => ?_)
                all_goals try simp only [s1, s2, s3, s4, s5, s6, s7, s8, s9, s10, s11, s12] at hc
                all_goals try (exfalso; first | omega | (simp at hc; done); done)
                all_goals first
                  | (
                   refine CW_skip ?_)
                  | (
                   refine CW_exit ?_))
               all_goals first
                 | with_reducible refine tR ?_
                 | with_reducible refine tE ?_
                 | (
                  with_reducible refine tN ?_
                  refine CW_block ?_
                  refine CW_region ?_
                  refine oM rfl rfl ?_
                  first | refine oQ (Q_binu rfl rfl rfl (by omega)) rfl rfl ?_ | refine oQ (Q_bin rfl rfl rfl) rfl rfl ?_
                  refine oA rfl rfl ?_
                  refine OW_nil ?_
                  all_goals first | with_reducible refine bN ?_ | with_reducible refine bE ?_ | with_reducible refine bR ?_ | refine bX rfl ?_)
               all_goals first
                 | with_reducible refine tR ?_
                 | with_reducible refine tE ?_
                 | (
                  with_reducible refine tN ?_
                  refine RW_succ ?_
                  refine CW_seq ?_
                  refine cR ?_
                  iterate 2 refine oM rfl rfl ?_
                  first | refine oQ (Q_len rfl rfl rfl rfl) rfl rfl ?_ | refine oQ (Q_len0 rfl rfl rfl rfl) rfl rfl ?_
                  refine oQ (Q_bin rfl rfl rfl) rfl rfl ?_
                  refine oM rfl rfl ?_
                  all_goals first | refine oT rfl rfl ?_ | refine o1 rfl rfl rfl ?_ | refine o0 rfl rfl rfl ?_ | refine ogP1 rfl rfl rfl (fun hg => ?_) (fun hg => ?_) | refine ogP0 rfl rfl rfl (fun hg => ?_) (fun hg => ?_)
                  all_goals try simp only [s1, s2, s3, s4, s5, s6, s7, s8, s9, s10, s11, s12] at hg
                  all_goals try (exfalso; first | omega | exact absurd trivial hg | (simp at hg; done); done)
                  all_goals first | (refine oM rfl rfl ?_) | skip
                  all_goals first | refine oT rfl rfl ?_ | refine o1 rfl rfl rfl ?_ | refine o0 rfl rfl rfl ?_ | refine ogP1 rfl rfl rfl (fun hg => ?_) (fun hg => ?_) | refine ogP0 rfl rfl rfl (fun hg => ?_) (fun hg => ?_)
                  all_goals try simp only [s1, s2, s3, s4, s5, s6, s7, s8, s9, s10, s11, s12] at hg
                  all_goals try (exfalso; first | omega | exact absurd trivial hg | (simp at hg; done); done)
                  all_goals first | (refine oM rfl rfl ?_) | skip
                  all_goals first | refine oT rfl rfl ?_ | refine o1 rfl rfl rfl ?_ | refine o0 rfl rfl rfl ?_ | refine ogP1 rfl rfl rfl (fun hg => ?_) (fun hg => ?_) | refine ogP0 rfl rfl rfl (fun hg => ?_) (fun hg => ?_)
                  all_goals try simp only [s1, s2, s3, s4, s5, s6, s7, s8, s9, s10, s11, s12] at hg
                  all_goals try (exfalso; first | omega | exact absurd trivial hg | (simp at hg; done); done)
                  all_goals first | refine oQ (Is0 rfl rfl rfl rfl rfl rfl) rfl rfl ?_ | refine oQ (Is1 rfl rfl rfl rfl rfl rfl) rfl rfl ?_ | skip
                  all_goals first | refine oT rfl rfl ?_ | refine o1 rfl rfl rfl ?_ | refine o0 rfl rfl rfl ?_ | refine ogP1 rfl rfl rfl (fun hg => ?_) (fun hg => ?_) | refine ogP0 rfl rfl rfl (fun hg => ?_) (fun hg => ?_)
                  all_goals try simp only [s1, s2, s3, s4, s5, s6, s7, s8, s9, s10, s11, s12] at hg
                  all_goals try (exfalso; first | omega | exact absurd trivial hg | (simp at hg; done); done)
                  all_goals first | (refine oQ (Q_ldv rfl rfl rfl rfl rfl rfl) rfl rfl ?_) | skip
                  all_goals first | refine oT rfl rfl ?_ | refine o1 rfl rfl rfl ?_ | refine o0 rfl rfl rfl ?_ | refine ogP1 rfl rfl rfl (fun hg => ?_) (fun hg => ?_) | refine ogP0 rfl rfl rfl (fun hg => ?_) (fun hg => ?_)
                  all_goals try simp only [s1, s2, s3, s4, s5, s6, s7, s8, s9, s10, s11, s12] at hg
                  all_goals try (exfalso; first | omega | exact absurd trivial hg | (simp at hg; done); done)
                  all_goals first | (refine oM rfl rfl ?_) | skip
                  all_goals first | refine oT rfl rfl ?_ | refine o1 rfl rfl rfl ?_ | refine o0 rfl rfl rfl ?_ | refine ogP1 rfl rfl rfl (fun hg => ?_) (fun hg => ?_) | refine ogP0 rfl rfl rfl (fun hg => ?_) (fun hg => ?_)
                  all_goals try simp only [s1, s2, s3, s4, s5, s6, s7, s8, s9, s10, s11, s12] at hg
                  all_goals try (exfalso; first | omega | exact absurd trivial hg | (simp at hg; done); done)
                  all_goals first | refine oQ (Is0 rfl rfl rfl rfl rfl rfl) rfl rfl ?_ | refine oQ (Is1 rfl rfl rfl rfl rfl rfl) rfl rfl ?_ | skip
                  all_goals first | refine oT rfl rfl ?_ | refine o1 rfl rfl rfl ?_ | refine o0 rfl rfl rfl ?_ | refine ogP1 rfl rfl rfl (fun hg => ?_) (fun hg => ?_) | refine ogP0 rfl rfl rfl (fun hg => ?_) (fun hg => ?_)
                  all_goals try simp only [s1, s2, s3, s4, s5, s6, s7, s8, s9, s10, s11, s12] at hg
                  all_goals try (exfalso; first | omega | exact absurd trivial hg | (simp at hg; done); done)
                  all_goals first | refine oQ (Q_ldc rfl rfl rfl rfl rfl) rfl rfl ?_ | refine oQ (Ld rfl rfl rfl rfl) rfl rfl ?_ | skip
                  all_goals first | refine oT rfl rfl ?_ | refine o1 rfl rfl rfl ?_ | refine o0 rfl rfl rfl ?_ | refine ogP1 rfl rfl rfl (fun hg => ?_) (fun hg => ?_) | refine ogP0 rfl rfl rfl (fun hg => ?_) (fun hg => ?_)
                  all_goals try simp only [s1, s2, s3, s4, s5, s6, s7, s8, s9, s10, s11, s12] at hg
                  all_goals try (exfalso; first | omega | exact absurd trivial hg | (simp at hg; done); done)
                  all_goals first | (refine oQ (Q_bin rfl rfl rfl) rfl rfl ?_) | skip
                  all_goals first | refine oQ (Q_pick_t rfl (by with_reducible rfl) rfl rfl) rfl rfl ?_ | refine oQ (Q_pick_f rfl (by with_reducible rfl) rfl rfl) rfl rfl ?_
                  all_goals refine oN ?_
                  all_goals (
                   first | refine cT rfl ?_ | refine cF rfl ?_ | refine CW_cond rfl (fun hc => ?_) (fun hc => ?_)
                   all_goals try simp only [s1, s2, s3, s4, s5, s6, s7, s8, s9, s10, s11, s12] at hc
                   all_goals try (exfalso; first | omega | (simp at hc; done); done)
                   all_goals first
                     | (
                      refine CW_skip ?_)
                     | (
                      refine CW_exit ?_))
                  all_goals first
                    | with_reducible refine tR ?_
                    | with_reducible refine tE ?_
                    | (
                     with_reducible refine tN ?_
                     refine CW_block ?_
                     refine CW_region ?_
                     refine oM rfl rfl ?_
                     first | refine oQ (Q_binu rfl rfl rfl (by omega)) rfl rfl ?_ | refine oQ (Q_bin rfl rfl rfl) rfl rfl ?_
                     refine oA rfl rfl ?_
                     refine OW_nil ?_
                     all_goals first | with_reducible refine bN ?_ | with_reducible refine bE ?_ | with_reducible refine bR ?_ | refine bX rfl ?_)
                  all_goals first
                    | with_reducible refine tR ?_
                    | with_reducible refine tE ?_
                    | (
                     with_reducible refine tN ?_
                     refine RW_succ ?_
                     refine CW_seq ?_
                     refine cR ?_
                     iterate 2 refine oM rfl rfl ?_
                     first | refine oQ (Q_len rfl rfl rfl rfl) rfl rfl ?_ | refine oQ (Q_len0 rfl rfl rfl rfl) rfl rfl ?_
                     refine oQ (Q_bin rfl rfl rfl) rfl rfl ?_
                     refine oM rfl rfl ?_
                     all_goals first | refine oT rfl rfl ?_ | refine o1 rfl rfl rfl ?_ | refine o0 rfl rfl rfl ?_ | refine ogP1 rfl rfl rfl (fun hg => ?_) (fun hg => ?_) | refine ogP0 rfl rfl rfl (fun hg => ?_) (fun hg => ?_)
                     all_goals try simp only [s1, s2, s3, s4, s5, s6, s7, s8, s9, s10, s11, s12] at hg
                     all_goals try (exfalso; first | omega | exact absurd trivial hg | (simp at hg; done); done)
                     all_goals first | (refine oM rfl rfl ?_) | skip
                     all_goals first | refine oT rfl rfl ?_ | refine o1 rfl rfl rfl ?_ | refine o0 rfl rfl rfl ?_ | refine ogP1 rfl rfl rfl (fun hg => ?_) (fun hg => ?_) | refine ogP0 rfl rfl rfl (fun hg => ?_) (fun hg => ?_)
                     all_goals try simp only [s1, s2, s3, s4, s5, s6, s7, s8, s9, s10, s11, s12] at hg
                     all_goals try (exfalso; first | omega | exact absurd trivial hg | (simp at hg; done); done)
                     all_goals first | (refine oM rfl rfl ?_) | skip
                     all_goals first | refine oT rfl rfl ?_ | refine o1 rfl rfl rfl ?_ | refine o0 rfl rfl rfl ?_ | refine ogP1 rfl rfl rfl (fun hg => ?_) (fun hg => ?_) | refine ogP0 rfl rfl rfl (fun hg => ?_) (fun hg => ?_)
                     all_goals try simp only [s1, s2, s3, s4, s5, s6, s7, s8, s9, s10, s11, s12] at hg
                     all_goals try (exfalso; first | omega | exact absurd trivial hg | (simp at hg; done); done)
                     all_goals first | refine oQ (Is0 rfl rfl rfl rfl rfl rfl) rfl rfl ?_ | refine oQ (Is1 rfl rfl rfl rfl rfl rfl) rfl rfl ?_ | skip
                     all_goals first | refine oT rfl rfl ?_ | refine o1 rfl rfl rfl ?_ | refine o0 rfl rfl rfl ?_ | refine ogP1 rfl rfl rfl (fun hg => ?_) (fun hg => ?_) | refine ogP0 rfl rfl rfl (fun hg => ?_) (fun hg => ?_)
                     all_goals try simp only [s1, s2, s3, s4, s5, s6, s7, s8, s9, s10, s11, s12] at hg
                     all_goals try (exfalso; first | omega | exact absurd trivial hg | (simp at hg; done); done)
                     all_goals first | (refine oQ (Q_ldv rfl rfl rfl rfl rfl rfl) rfl rfl ?_) | skip
                     all_goals first | refine oT rfl rfl ?_ | refine o1 rfl rfl rfl ?_ | refine o0 rfl rfl rfl ?_ | refine ogP1 rfl rfl rfl (fun hg => ?_) (fun hg => ?_) | refine ogP0 rfl rfl rfl (fun hg => ?_) (fun hg => ?_)
                     all_goals try simp only [s1, s2, s3, s4, s5, s6, s7, s8, s9, s10, s11, s12] at hg
                     all_goals try (exfalso; first | omega | exact absurd trivial hg | (simp at hg; done); done)
                     all_goals first | (refine oM rfl rfl ?_) | skip
                     all_goals first | refine oT rfl rfl ?_ | refine o1 rfl rfl rfl ?_ | refine o0 rfl rfl rfl ?_ | refine ogP1 rfl rfl rfl (fun hg => ?_) (fun hg => ?_) | refine ogP0 rfl rfl rfl (fun hg => ?_) (fun hg => ?_)
                     all_goals try simp only [s1, s2, s3, s4, s5, s6, s7, s8, s9, s10, s11, s12] at hg
                     all_goals try (exfalso; first | omega | exact absurd trivial hg | (simp at hg; done); done)
                     all_goals first | refine oQ (Is0 rfl rfl rfl rfl rfl rfl) rfl rfl ?_ | refine oQ (Is1 rfl rfl rfl rfl rfl rfl) rfl rfl ?_ | skip
                     all_goals first | refine oT rfl rfl ?_ | refine o1 rfl rfl rfl ?_ | refine o0 rfl rfl rfl ?_ | refine ogP1 rfl rfl rfl (fun hg => ?_) (fun hg => ?_) | refine ogP0 rfl rfl rfl (fun hg => ?_) (fun hg => ?_)
                     all_goals try simp only [s1, s2, s3, s4, s5, s6, s7, s8, s9, s10, s11, s12] at hg
                     all_goals try (exfalso; first | omega | exact absurd trivial hg | (simp at hg; done); done)
                     all_goals first | refine oQ (Q_ldc rfl rfl rfl rfl rfl) rfl rfl ?_ | refine oQ (Ld rfl rfl rfl rfl) rfl rfl ?_ | skip
                     all_goals first | refine oT rfl rfl ?_ | refine o1 rfl rfl rfl ?_ | refine o0 rfl rfl rfl ?_ | refine ogP1 rfl rfl rfl (fun hg => ?_) (fun hg => ?_) | refine ogP0 rfl rfl rfl (fun hg => ?_) (fun hg => ?_)
                     all_goals try simp only [s1, s2, s3, s4, s5, s6, s7, s8, s9, s10, s11, s12] at hg
                     all_goals try (exfalso; first | omega | exact absurd trivial hg | (simp at hg; done); done)
                     all_goals first | (refine oQ (Q_bin rfl rfl rfl) rfl rfl ?_) | skip
                     all_goals first | refine oQ (Q_pick_t rfl (by with_reducible rfl) rfl rfl) rfl rfl ?_ | refine oQ (Q_pick_f rfl (by with_reducible rfl) rfl rfl) rfl rfl ?_
                     all_goals refine oN ?_
                     all_goals (
                      first | refine cT rfl ?_ | refine cF rfl ?_ | refine CW_cond rfl (fun hc => ?_) (fun hc => ?_)
                      all_goals try simp only [s1, s2, s3, s4, s5, s6, s7, s8, s9, s10, s11, s12] at hc
                      all_goals try (exfalso; first | omega | (simp at hc; done); done)
                      all_goals first
                        | (
                         refine CW_skip ?_)
                        | (
                         refine CW_exit ?_))
                     all_goals first
                       | with_reducible refine tR ?_
                       | with_reducible refine tE ?_
                       | (
                        with_reducible refine tN ?_
                        refine CW_block ?_
                        refine CW_region ?_
                        refine oM rfl rfl ?_
                        first | refine oQ (Q_binu rfl rfl rfl (by omega)) rfl rfl ?_ | refine oQ (Q_bin rfl rfl rfl) rfl rfl ?_
                        refine oA rfl rfl ?_
                        refine OW_nil ?_
                        all_goals first | with_reducible refine bN ?_ | with_reducible refine bE ?_ | with_reducible refine bR ?_ | refine bX rfl ?_)
                     all_goals first
                       | with_reducible refine tR ?_
                       | with_reducible refine tE ?_
                       | (
                        with_reducible refine tN ?_
                        exfalso; first | omega | (simp at hc; done) | (simp_all; done))))))
         all_goals first | with_reducible refine bN ?_ | with_reducible refine bE ?_ | with_reducible refine bR ?_ | refine bX rfl ?_
         all_goals with_reducible refine tN ?_
         all_goals (
          first
            | (
             refine ⟨0, ?_, View.mk' [] rfl (by simp only [wfB, List.all_cons, List.all_nil, ids_bots]; rfl) rfl ?_ ?_⟩
             · refine ⟨by omega, by omega, hcw, fun z hz1 hz2 => ?_, fun hz => ?_⟩
               · (have e : z = 0 ∨ z = 1 ∨ z = 2 := by omega); rcases e with rfl | rfl | rfl <;> first | (exfalso; omega) | (first | (rw [← g0]; assumption) | (rw [← g1]; assumption) | (rw [← g2]; assumption))
               · first | (exfalso; omega) | (first | (rw [← g0]; assumption) | (rw [← g1]; assumption) | (rw [← g2]; assumption))
             all_goals (repeat' first | exact vFn | refine vFc rfl ?_ | exact vHn | refine vHc rfl ?_ | refine vFc (congrArg (fun z => some (V.int z)) ?_) ?_ | refine vHc (congrArg (fun z => some (Blk.ints _ z)) ?_) ?_ | refine vFc (congrArg (fun z => some (V.bool z)) ?_) ?_ | refine vFs rfl rfl ?_ ?_ | refine vHc (by rw [ren_bots]; rfl) ?_)
             all_goals omega
             done)
            | (
             refine ⟨1, ?_, View.mk' [] rfl (by simp only [wfB, List.all_cons, List.all_nil, ids_bots]; rfl) rfl ?_ ?_⟩
             · refine ⟨by omega, by omega, hcw, fun z hz1 hz2 => ?_, fun hz => ?_⟩
               · (have e : z = 0 ∨ z = 1 ∨ z = 2 := by omega); rcases e with rfl | rfl | rfl <;> first | (exfalso; omega) | (first | (rw [← g0]; assumption) | (rw [← g1]; assumption) | (rw [← g2]; assumption))
               · first | (exfalso; omega) | (first | (rw [← g0]; assumption) | (rw [← g1]; assumption) | (rw [← g2]; assumption))
             all_goals (repeat' first | exact vFn | refine vFc rfl ?_ | exact vHn | refine vHc rfl ?_ | refine vFc (congrArg (fun z => some (V.int z)) ?_) ?_ | refine vHc (congrArg (fun z => some (Blk.ints _ z)) ?_) ?_ | refine vFc (congrArg (fun z => some (V.bool z)) ?_) ?_ | refine vFs rfl rfl ?_ ?_ | refine vHc (by rw [ren_bots]; rfl) ?_)
             all_goals omega
             done)
            | (
             refine ⟨2, ?_, View.mk' [] rfl (by simp only [wfB, List.all_cons, List.all_nil, ids_bots]; rfl) rfl ?_ ?_⟩
             · refine ⟨by omega, by omega, hcw, fun z hz1 hz2 => ?_, fun hz => ?_⟩
               · (have e : z = 0 ∨ z = 1 ∨ z = 2 := by omega); rcases e with rfl | rfl | rfl <;> first | (exfalso; omega) | (first | (rw [← g0]; assumption) | (rw [← g1]; assumption) | (rw [← g2]; assumption))
               · first | (exfalso; omega) | (first | (rw [← g0]; assumption) | (rw [← g1]; assumption) | (rw [← g2]; assumption))
             all_goals (repeat' first | exact vFn | refine vFc rfl ?_ | exact vHn | refine vHc rfl ?_ | refine vFc (congrArg (fun z => some (V.int z)) ?_) ?_ | refine vHc (congrArg (fun z => some (Blk.ints _ z)) ?_) ?_ | refine vFc (congrArg (fun z => some (V.bool z)) ?_) ?_ | refine vFs rfl rfl ?_ ?_ | refine vHc (by rw [ren_bots]; rfl) ?_)
             all_goals omega
             done)
            | (
             refine ⟨3, ?_, View.mk' [] rfl (by simp only [wfB, List.all_cons, List.all_nil, ids_bots]; rfl) rfl ?_ ?_⟩
             · refine ⟨by omega, by omega, hcw, fun z hz1 hz2 => ?_, fun hz => ?_⟩
               · (have e : z = 0 ∨ z = 1 ∨ z = 2 := by omega); rcases e with rfl | rfl | rfl <;> first | (exfalso; omega) | (first | (rw [← g0]; assumption) | (rw [← g1]; assumption) | (rw [← g2]; assumption))
               · first | (exfalso; omega) | (first | (rw [← g0]; assumption) | (rw [← g1]; assumption) | (rw [← g2]; assumption))
             all_goals (repeat' first | exact vFn | refine vFc rfl ?_ | exact vHn | refine vHc rfl ?_ | refine vFc (congrArg (fun z => some (V.int z)) ?_) ?_ | refine vHc (congrArg (fun z => some (Blk.ints _ z)) ?_) ?_ | refine vFc (congrArg (fun z => some (V.bool z)) ?_) ?_ | refine vFs rfl rfl ?_ ?_ | refine vHc (by rw [ren_bots]; rfl) ?_)
             all_goals omega
             done))))
       rintro i ⟨hi1, hi2, hcw, hi3, hi4⟩
       try dsimp only
       rw [hN] at hi1 hi3 ⊢
       refine CW_seq ?_
       refine cR ?_
       iterate 2 refine oM rfl rfl ?_
       first | refine oQ (Q_len rfl rfl rfl rfl) rfl rfl ?_ | refine oQ (Q_len0 rfl rfl rfl rfl) rfl rfl ?_
       refine oQ (Q_bin rfl rfl rfl) rfl rfl ?_
       refine oN ?_
       first | refine cT rfl ?_ | refine cF rfl ?_ | refine CW_cond rfl (fun hc => ?_) (fun hc => ?_)
       all_goals try simp only [s1, s2, s3, s4, s5, s6, s7, s8, s9, s10, s11, s12] at hc
       all_goals try (exfalso; first | omega | (simp at hc; done); done)
       all_goals first
         | (
          refine CW_exit ?_)
         | (
          refine CW_skip ?_)
       all_goals first
         | with_reducible refine tR ?_
         | with_reducible refine tE ?_
         | (
          with_reducible refine tN ?_
          refine CW_cut (ι := RS) (fun x => rdB p x.A 3 3 ∧ RedI p (fun i => (M.drop (i * 3)).take 3) 3 3 (rw3 p x.A N2 c 3 3) (N2 + 1) (c + 1)) (fun x => ⟨[(0, .int p), (5, .slice 5 0 3 kO), (8, .int (N2 : Int)), (9, .int c)], [(0, .vals 103 [.slice 1 0 3 c0, .slice 1 3 3 c1, .slice 1 6 3 c2]), (1, .ints t M), (2, .ints 2 ((x.A 0) ++ (x.S 0))), (3, .ints 2 ((x.A 1) ++ (x.S 1))), (4, .ints 2 ((x.A 2) ++ (x.S 2))), (5, .vals 103 ([.slice 2 0 3 (x.K 0), .slice 3 0 3 (x.K 1), .slice 4 0 3 (x.K 2)] ++ List.replicate (kO - 3) .bot))], 6⟩) ?_ ?_
          · (
           have hii : i = 0 ∨ i = 1 ∨ i = 2 := by omega
           have hi0 : (A i).getD c 0 ≠ 0 := hi4 (by omega)
           rw [hN2]
           obtain ⟨i2, hi22⟩ : ∃ z, z = i := ⟨i, rfl⟩
           rcases hii with rfl | rfl | rfl
           all_goals try (exfalso; omega; done)
           all_goals (
            refine CW_any (fun i => List.elem i [13, 14, 15]) 16 rfl lateOk (by decide +kernel) (fun hst => ?_)
            refine aP 0 hst rfl rfl (by decide +kernel) (PX_move rfl rfl) rfl rfl ?_
            refine aP 1 hst rfl rfl (by decide +kernel) (PX_move rfl rfl) rfl rfl ?_
            refine aP 2 hst rfl rfl (by decide +kernel) (PX_move rfl rfl) rfl rfl ?_
            refine aP 3 hst rfl rfl (by decide +kernel) (PX_move rfl rfl) rfl rfl ?_
            refine aP 4 hst rfl rfl (by decide +kernel) (PX_move rfl rfl) rfl rfl ?_
            refine aP 5 hst rfl rfl (by decide +kernel) (PX_move rfl rfl) rfl rfl ?_
            first | refine aQ 6 hst rfl rfl (by decide +kernel) (QX_of (Is0 rfl rfl rfl rfl rfl rfl) NE_ix) rfl rfl ?_ | refine aQ 6 hst rfl rfl (by decide +kernel) (QX_of (Is1 rfl rfl rfl rfl rfl rfl) NE_ix) rfl rfl ?_
            refine aQ 7 hst rfl rfl (by decide +kernel) (QX_of (Q_ldv rfl rfl rfl rfl rfl rfl) NE_load) rfl rfl ?_
            refine aP 8 hst rfl rfl (by decide +kernel) (PX_move rfl rfl) rfl rfl ?_
            refine aP 9 hst rfl rfl (by decide +kernel) (PX_move rfl rfl) rfl rfl ?_
            first | refine aQ 10 hst rfl rfl (by decide +kernel) (QX_of (Is0 rfl rfl rfl rfl rfl rfl) NE_ix) rfl rfl ?_ | refine aQ 10 hst rfl rfl (by decide +kernel) (QX_of (Is1 rfl rfl rfl rfl rfl rfl) NE_ix) rfl rfl ?_
            refine aQ 11 hst rfl rfl (by decide +kernel) (QX_of (Q_ldv rfl rfl rfl rfl rfl rfl) NE_load) rfl rfl ?_
            first | refine aQ 12 hst rfl rfl (by decide +kernel) (QX_of (Is0 rfl rfl rfl rfl rfl rfl) NE_ix) rfl rfl ?_ | refine aQ 12 hst rfl rfl (by decide +kernel) (QX_of (Is1 rfl rfl rfl rfl rfl rfl) NE_ix) rfl rfl ?_
            refine AW_last [13, 14, 15] rfl (by decide +kernel) rfl ?_
            first | refine oStvB rfl rfl rfl rfl rfl rfl rfl (by first | omega | (dsimp only; omega) | (simp; omega) | (simp; done)) rfl rfl ?_ | refine oStv rfl rfl rfl rfl rfl rfl rfl (by first | omega | (dsimp only; omega) | (simp; omega) | (simp; done)) rfl rfl ?_
            first | refine oQ (Is0 rfl rfl rfl rfl rfl rfl) rfl rfl ?_ | refine oQ (Is1 rfl rfl rfl rfl rfl rfl) rfl rfl ?_
            first | refine oStvB rfl rfl rfl rfl rfl rfl rfl (by first | omega | (dsimp only; omega) | (simp; omega) | (simp; done)) rfl rfl ?_ | refine oStv rfl rfl rfl rfl rfl rfl rfl (by first | omega | (dsimp only; omega) | (simp; omega) | (simp; done)) rfl rfl ?_
            refine OW_nil (npN ?_)
            all_goals with_reducible refine tN ?_
            all_goals (
             first
               | (
                refine ⟨⟨0, c, fun j => match j with | 0 => A 0 | 1 => A 1 | _ => A 2, fun j => match j with | 0 => K 0 | 1 => K 1 | _ => K 2, fun j => match j with | 0 => S 0 | 1 => S 1 | _ => S 2⟩, ?_, View.mk' [] rfl (by simp only [wfB, List.all_cons, List.all_nil, ids_bots]; rfl) rfl ?_ ?_⟩
                · refine ⟨fun z hz => ?_, ?_⟩
                  · (have e : z = 0 ∨ z = 1 ∨ z = 2 := by omega); rcases e with rfl | rfl | rfl <;> first | exact hA 0 (by omega) | exact hA 1 (by omega) | exact hA 2 (by omega)
                  · refine rd_step hp hR hA hi1 (by omega) hcw hi0 rfl (fun z hz hne => ?_)
                    (have e : z = 0 ∨ z = 1 ∨ z = 2 := by omega); rcases e with rfl | rfl | rfl <;> first | rfl | (exact absurd rfl hne)
                all_goals (repeat' first | exact vFn | refine vFc rfl ?_ | exact vHn | refine vHc rfl ?_ | refine vFc (congrArg (fun z => some (V.int z)) ?_) ?_ | refine vHc (congrArg (fun z => some (Blk.ints _ z)) ?_) ?_ | refine vFc (congrArg (fun z => some (V.bool z)) ?_) ?_ | refine vFs rfl rfl ?_ ?_ | refine vHc (by rw [ren_bots]; rfl) ?_)
                all_goals omega
                done)
               | (
                refine ⟨⟨0, c, fun j => match j with | 0 => A 1 | 1 => A 0 | _ => A 2, fun j => match j with | 0 => K 1 | 1 => K 0 | _ => K 2, fun j => match j with | 0 => S 1 | 1 => S 0 | _ => S 2⟩, ?_, View.mk' [] rfl (by simp only [wfB, List.all_cons, List.all_nil, ids_bots]; rfl) rfl ?_ ?_⟩
                · refine ⟨fun z hz => ?_, ?_⟩
                  · (have e : z = 0 ∨ z = 1 ∨ z = 2 := by omega); rcases e with rfl | rfl | rfl <;> first | exact hA 0 (by omega) | exact hA 1 (by omega) | exact hA 2 (by omega)
                  · refine rd_step hp hR hA hi1 (by omega) hcw hi0 rfl (fun z hz hne => ?_)
                    (have e : z = 0 ∨ z = 1 ∨ z = 2 := by omega); rcases e with rfl | rfl | rfl <;> first | rfl | (exact absurd rfl hne)
                all_goals (repeat' first | exact vFn | refine vFc rfl ?_ | exact vHn | refine vHc rfl ?_ | refine vFc (congrArg (fun z => some (V.int z)) ?_) ?_ | refine vHc (congrArg (fun z => some (Blk.ints _ z)) ?_) ?_ | refine vFc (congrArg (fun z => some (V.bool z)) ?_) ?_ | refine vFs rfl rfl ?_ ?_ | refine vHc (by rw [ren_bots]; rfl) ?_)
                all_goals omega
                done)
               | (
                refine ⟨⟨0, c, fun j => match j with | 0 => A 2 | 1 => A 1 | _ => A 0, fun j => match j with | 0 => K 2 | 1 => K 1 | _ => K 0, fun j => match j with | 0 => S 2 | 1 => S 1 | _ => S 0⟩, ?_, View.mk' [] rfl (by simp only [wfB, List.all_cons, List.all_nil, ids_bots]; rfl) rfl ?_ ?_⟩
                · refine ⟨fun z hz => ?_, ?_⟩
                  · (have e : z = 0 ∨ z = 1 ∨ z = 2 := by omega); rcases e with rfl | rfl | rfl <;> first | exact hA 0 (by omega) | exact hA 1 (by omega) | exact hA 2 (by omega)
                  · refine rd_step hp hR hA hi1 (by omega) hcw hi0 rfl (fun z hz hne => ?_)
                    (have e : z = 0 ∨ z = 1 ∨ z = 2 := by omega); rcases e with rfl | rfl | rfl <;> first | rfl | (exact absurd rfl hne)
                all_goals (repeat' first | exact vFn | refine vFc rfl ?_ | exact vHn | refine vHc rfl ?_ | refine vFc (congrArg (fun z => some (V.int z)) ?_) ?_ | refine vHc (congrArg (fun z => some (Blk.ints _ z)) ?_) ?_ | refine vFc (congrArg (fun z => some (V.bool z)) ?_) ?_ | refine vFs rfl rfl ?_ ?_ | refine vHc (by rw [ren_bots]; rfl) ?_)
                all_goals omega
                done)
               | (
                refine ⟨⟨0, c, fun j => match j with | 0 => A 0 | 1 => A 2 | _ => A 1, fun j => match j with | 0 => K 0 | 1 => K 2 | _ => K 1, fun j => match j with | 0 => S 0 | 1 => S 2 | _ => S 1⟩, ?_, View.mk' [] rfl (by simp only [wfB, List.all_cons, List.all_nil, ids_bots]; rfl) rfl ?_ ?_⟩
                · refine ⟨fun z hz => ?_, ?_⟩
                  · (have e : z = 0 ∨ z = 1 ∨ z = 2 := by omega); rcases e with rfl | rfl | rfl <;> first | exact hA 0 (by omega) | exact hA 1 (by omega) | exact hA 2 (by omega)
                  · refine rd_step hp hR hA hi1 (by omega) hcw hi0 rfl (fun z hz hne => ?_)
                    (have e : z = 0 ∨ z = 1 ∨ z = 2 := by omega); rcases e with rfl | rfl | rfl <;> first | rfl | (exact absurd rfl hne)
                all_goals (repeat' first | exact vFn | refine vFc rfl ?_ | exact vHn | refine vHc rfl ?_ | refine vFc (congrArg (fun z => some (V.int z)) ?_) ?_ | refine vHc (congrArg (fun z => some (Blk.ints _ z)) ?_) ?_ | refine vFc (congrArg (fun z => some (V.bool z)) ?_) ?_ | refine vFs rfl rfl ?_ ?_ | refine vHc (by rw [ren_bots]; rfl) ?_)
                all_goals omega
                done)
               | (
                refine ⟨⟨0, c, fun j => match j with | 0 => A 0 | 1 => A 1 | _ => A 2, fun j => match j with | 0 => K 0 | 1 => K 1 | _ => K 2, fun j => match j with | 0 => S 0 | 1 => S 1 | _ => S 2⟩, ?_, View.mk' [(2, 3), (3, 2)] rfl (by simp only [wfB, List.all_cons, List.all_nil, ids_bots]; rfl) rfl ?_ ?_⟩
                · refine ⟨fun z hz => ?_, ?_⟩
                  · (have e : z = 0 ∨ z = 1 ∨ z = 2 := by omega); rcases e with rfl | rfl | rfl <;> first | exact hA 0 (by omega) | exact hA 1 (by omega) | exact hA 2 (by omega)
                  · refine rd_step hp hR hA hi1 (by omega) hcw hi0 rfl (fun z hz hne => ?_)
                    (have e : z = 0 ∨ z = 1 ∨ z = 2 := by omega); rcases e with rfl | rfl | rfl <;> first | rfl | (exact absurd rfl hne)
                all_goals (repeat' first | exact vFn | refine vFc rfl ?_ | exact vHn | refine vHc rfl ?_ | refine vFc (congrArg (fun z => some (V.int z)) ?_) ?_ | refine vHc (congrArg (fun z => some (Blk.ints _ z)) ?_) ?_ | refine vFc (congrArg (fun z => some (V.bool z)) ?_) ?_ | refine vFs rfl rfl ?_ ?_ | refine vHc (by rw [ren_bots]; rfl) ?_)
                all_goals omega
                done)
               | (
                refine ⟨⟨0, c, fun j => match j with | 0 => A 1 | 1 => A 0 | _ => A 2, fun j => match j with | 0 => K 1 | 1 => K 0 | _ => K 2, fun j => match j with | 0 => S 1 | 1 => S 0 | _ => S 2⟩, ?_, View.mk' [(2, 3), (3, 2)] rfl (by simp only [wfB, List.all_cons, List.all_nil, ids_bots]; rfl) rfl ?_ ?_⟩
                · refine ⟨fun z hz => ?_, ?_⟩
                  · (have e : z = 0 ∨ z = 1 ∨ z = 2 := by omega); rcases e with rfl | rfl | rfl <;> first | exact hA 0 (by omega) | exact hA 1 (by omega) | exact hA 2 (by omega)
                  · refine rd_step hp hR hA hi1 (by omega) hcw hi0 rfl (fun z hz hne => ?_)
                    (have e : z = 0 ∨ z = 1 ∨ z = 2 := by omega); rcases e with rfl | rfl | rfl <;> first | rfl | (exact absurd rfl hne)
                all_goals (repeat' first | exact vFn | refine vFc rfl ?_ | exact vHn | refine vHc rfl ?_ | refine vFc (congrArg (fun z => some (V.int z)) ?_) ?_ | refine vHc (congrArg (fun z => some (Blk.ints _ z)) ?_) ?_ | refine vFc (congrArg (fun z => some (V.bool z)) ?_) ?_ | refine vFs rfl rfl ?_ ?_ | refine vHc (by rw [ren_bots]; rfl) ?_)
                all_goals omega
                done)
               | (
                refine ⟨⟨0, c, fun j => match j with | 0 => A 2 | 1 => A 1 | _ => A 0, fun j => match j with | 0 => K 2 | 1 => K 1 | _ => K 0, fun j => match j with | 0 => S 2 | 1 => S 1 | _ => S 0⟩, ?_, View.mk' [(2, 3), (3, 2)] rfl (by simp only [wfB, List.all_cons, List.all_nil, ids_bots]; rfl) rfl ?_ ?_⟩
                · refine ⟨fun z hz => ?_, ?_⟩
                  · (have e : z = 0 ∨ z = 1 ∨ z = 2 := by omega); rcases e with rfl | rfl | rfl <;> first | exact hA 0 (by omega) | exact hA 1 (by omega) | exact hA 2 (by omega)
                  · refine rd_step hp hR hA hi1 (by omega) hcw hi0 rfl (fun z hz hne => ?_)
                    (have e : z = 0 ∨ z = 1 ∨ z = 2 := by omega); rcases e with rfl | rfl | rfl <;> first | rfl | (exact absurd rfl hne)
                all_goals (repeat' first | exact vFn | refine vFc rfl ?_ | exact vHn | refine vHc rfl ?_ | refine vFc (congrArg (fun z => some (V.int z)) ?_) ?_ | refine vHc (congrArg (fun z => some (Blk.ints _ z)) ?_) ?_ | refine vFc (congrArg (fun z => some (V.bool z)) ?_) ?_ | refine vFs rfl rfl ?_ ?_ | refine vHc (by rw [ren_bots]; rfl) ?_)
                all_goals omega
                done)
               | (
                refine ⟨⟨0, c, fun j => match j with | 0 => A 0 | 1 => A 2 | _ => A 1, fun j => match j with | 0 => K 0 | 1 => K 2 | _ => K 1, fun j => match j with | 0 => S 0 | 1 => S 2 | _ => S 1⟩, ?_, View.mk' [(2, 3), (3, 2)] rfl (by simp only [wfB, List.all_cons, List.all_nil, ids_bots]; rfl) rfl ?_ ?_⟩
                · refine ⟨fun z hz => ?_, ?_⟩
                  · (have e : z = 0 ∨ z = 1 ∨ z = 2 := by omega); rcases e with rfl | rfl | rfl <;> first | exact hA 0 (by omega) | exact hA 1 (by omega) | exact hA 2 (by omega)
                  · refine rd_step hp hR hA hi1 (by omega) hcw hi0 rfl (fun z hz hne => ?_)
                    (have e : z = 0 ∨ z = 1 ∨ z = 2 := by omega); rcases e with rfl | rfl | rfl <;> first | rfl | (exact absurd rfl hne)
                all_goals (repeat' first | exact vFn | refine vFc rfl ?_ | exact vHn | refine vHc rfl ?_ | refine vFc (congrArg (fun z => some (V.int z)) ?_) ?_ | refine vHc (congrArg (fun z => some (Blk.ints _ z)) ?_) ?_ | refine vFc (congrArg (fun z => some (V.bool z)) ?_) ?_ | refine vFs rfl rfl ?_ ?_ | refine vHc (by rw [ren_bots]; rfl) ?_)
                all_goals omega
                done)
               | (
                refine ⟨⟨0, c, fun j => match j with | 0 => A 0 | 1 => A 1 | _ => A 2, fun j => match j with | 0 => K 0 | 1 => K 1 | _ => K 2, fun j => match j with | 0 => S 0 | 1 => S 1 | _ => S 2⟩, ?_, View.mk' [(2, 4), (4, 2)] rfl (by simp only [wfB, List.all_cons, List.all_nil, ids_bots]; rfl) rfl ?_ ?_⟩
                · refine ⟨fun z hz => ?_, ?_⟩
                  · (have e : z = 0 ∨ z = 1 ∨ z = 2 := by omega); rcases e with rfl | rfl | rfl <;> first | exact hA 0 (by omega) | exact hA 1 (by omega) | exact hA 2 (by omega)
                  · refine rd_step hp hR hA hi1 (by omega) hcw hi0 rfl (fun z hz hne => ?_)
                    (have e : z = 0 ∨ z = 1 ∨ z = 2 := by omega); rcases e with rfl | rfl | rfl <;> first | rfl | (exact absurd rfl hne)
                all_goals (repeat' first | exact vFn | refine vFc rfl ?_ | exact vHn | refine vHc rfl ?_ | refine vFc (congrArg (fun z => some (V.int z)) ?_) ?_ | refine vHc (congrArg (fun z => some (Blk.ints _ z)) ?_) ?_ | refine vFc (congrArg (fun z => some (V.bool z)) ?_) ?_ | refine vFs rfl rfl ?_ ?_ | refine vHc (by rw [ren_bots]; rfl) ?_)
                all_goals omega
                done)
               | (
                refine ⟨⟨0, c, fun j => match j with | 0 => A 1 | 1 => A 0 | _ => A 2, fun j => match j with | 0 => K 1 | 1 => K 0 | _ => K 2, fun j => match j with | 0 => S 1 | 1 => S 0 | _ => S 2⟩, ?_, View.mk' [(2, 4), (4, 2)] rfl (by simp only [wfB, List.all_cons, List.all_nil, ids_bots]; rfl) rfl ?_ ?_⟩
                · refine ⟨fun z hz => ?_, ?_⟩
                  · (have e : z = 0 ∨ z = 1 ∨ z = 2 := by omega); rcases e with rfl | rfl | rfl <;> first | exact hA 0 (by omega) | exact hA 1 (by omega) | exact hA 2 (by omega)
                  · refine rd_step hp hR hA hi1 (by omega) hcw hi0 rfl (fun z hz hne => ?_)
                    (have e : z = 0 ∨ z = 1 ∨ z = 2 := by omega); rcases e with rfl | rfl | rfl <;> first | rfl | (exact absurd rfl hne)
                all_goals (repeat' first | exact vFn | refine vFc rfl ?_ | exact vHn | refine vHc rfl ?_ | refine vFc (congrArg (fun z => some (V.int z)) ?_) ?_ | refine vHc (congrArg (fun z => some (Blk.ints _ z)) ?_) ?_ | refine vFc (congrArg (fun z => some (V.bool z)) ?_) ?_ | refine vFs rfl rfl ?_ ?_ | refine vHc (by rw [ren_bots]; rfl) ?_)
                all_goals omega
                done)
               | (
                refine ⟨⟨0, c, fun j => match j with | 0 => A 2 | 1 => A 1 | _ => A 0, fun j => match j with | 0 => K 2 | 1 => K 1 | _ => K 0, fun j => match j with | 0 => S 2 | 1 => S 1 | _ => S 0⟩, ?_, View.mk' [(2, 4), (4, 2)] rfl (by simp only [wfB, List.all_cons, List.all_nil, ids_bots]; rfl) rfl ?_ ?_⟩
                · refine ⟨fun z hz => ?_, ?_⟩
                  · (have e : z = 0 ∨ z = 1 ∨ z = 2 := by omega); rcases e with rfl | rfl | rfl <;> first | exact hA 0 (by omega) | exact hA 1 (by omega) | exact hA 2 (by omega)
                  · refine rd_step hp hR hA hi1 (by omega) hcw hi0 rfl (fun z hz hne => ?_)
                    (have e : z = 0 ∨ z = 1 ∨ z = 2 := by omega); rcases e with rfl | rfl | rfl <;> first | rfl | (exact absurd rfl hne)
                all_goals (repeat' first | exact vFn | refine vFc rfl ?_ | exact vHn | refine vHc rfl ?_ | refine vFc (congrArg (fun z => some (V.int z)) ?_) ?_ | refine vHc (congrArg (fun z => some (Blk.ints _ z)) ?_) ?_ | refine vFc (congrArg (fun z => some (V.bool z)) ?_) ?_ | refine vFs rfl rfl ?_ ?_ | refine vHc (by rw [ren_bots]; rfl) ?_)
                all_goals omega
                done)
               | (
                refine ⟨⟨0, c, fun j => match j with | 0 => A 0 | 1 => A 2 | _ => A 1, fun j => match j with | 0 => K 0 | 1 => K 2 | _ => K 1, fun j => match j with | 0 => S 0 | 1 => S 2 | _ => S 1⟩, ?_, View.mk' [(2, 4), (4, 2)] rfl (by simp only [wfB, List.all_cons, List.all_nil, ids_bots]; rfl) rfl ?_ ?_⟩
                · refine ⟨fun z hz => ?_, ?_⟩
                  · (have e : z = 0 ∨ z = 1 ∨ z = 2 := by omega); rcases e with rfl | rfl | rfl <;> first | exact hA 0 (by omega) | exact hA 1 (by omega) | exact hA 2 (by omega)
                  · refine rd_step hp hR hA hi1 (by omega) hcw hi0 rfl (fun z hz hne => ?_)
                    (have e : z = 0 ∨ z = 1 ∨ z = 2 := by omega); rcases e with rfl | rfl | rfl <;> first | rfl | (exact absurd rfl hne)
                all_goals (repeat' first | exact vFn | refine vFc rfl ?_ | exact vHn | refine vHc rfl ?_ | refine vFc (congrArg (fun z => some (V.int z)) ?_) ?_ | refine vHc (congrArg (fun z => some (Blk.ints _ z)) ?_) ?_ | refine vFc (congrArg (fun z => some (V.bool z)) ?_) ?_ | refine vFs rfl rfl ?_ ?_ | refine vHc (by rw [ren_bots]; rfl) ?_)
                all_goals omega
                done)
               | (
                refine ⟨⟨0, c, fun j => match j with | 0 => A 0 | 1 => A 1 | _ => A 2, fun j => match j with | 0 => K 0 | 1 => K 1 | _ => K 2, fun j => match j with | 0 => S 0 | 1 => S 1 | _ => S 2⟩, ?_, View.mk' [(3, 4), (4, 3)] rfl (by simp only [wfB, List.all_cons, List.all_nil, ids_bots]; rfl) rfl ?_ ?_⟩
                · refine ⟨fun z hz => ?_, ?_⟩
                  · (have e : z = 0 ∨ z = 1 ∨ z = 2 := by omega); rcases e with rfl | rfl | rfl <;> first | exact hA 0 (by omega) | exact hA 1 (by omega) | exact hA 2 (by omega)
                  · refine rd_step hp hR hA hi1 (by omega) hcw hi0 rfl (fun z hz hne => ?_)
                    (have e : z = 0 ∨ z = 1 ∨ z = 2 := by omega); rcases e with rfl | rfl | rfl <;> first | rfl | (exact absurd rfl hne)
                all_goals (repeat' first | exact vFn | refine vFc rfl ?_ | exact vHn | refine vHc rfl ?_ | refine vFc (congrArg (fun z => some (V.int z)) ?_) ?_ | refine vHc (congrArg (fun z => some (Blk.ints _ z)) ?_) ?_ | refine vFc (congrArg (fun z => some (V.bool z)) ?_) ?_ | refine vFs rfl rfl ?_ ?_ | refine vHc (by rw [ren_bots]; rfl) ?_)
                all_goals omega
                done)
               | (
                refine ⟨⟨0, c, fun j => match j with | 0 => A 1 | 1 => A 0 | _ => A 2, fun j => match j with | 0 => K 1 | 1 => K 0 | _ => K 2, fun j => match j with | 0 => S 1 | 1 => S 0 | _ => S 2⟩, ?_, View.mk' [(3, 4), (4, 3)] rfl (by simp only [wfB, List.all_cons, List.all_nil, ids_bots]; rfl) rfl ?_ ?_⟩
                · refine ⟨fun z hz => ?_, ?_⟩
                  · (have e : z = 0 ∨ z = 1 ∨ z = 2 := by omega); rcases e with rfl | rfl | rfl <;> first | exact hA 0 (by omega) | exact hA 1 (by omega) | exact hA 2 (by omega)
                  · refine rd_step hp hR hA hi1 (by omega) hcw hi0 rfl (fun z hz hne => ?_)
                    (have e : z = 0 ∨ z = 1 ∨ z = 2 := by omega); rcases e with rfl | rfl | rfl <;> first | rfl | (exact absurd rfl hne)
                all_goals (repeat' first | exact vFn | refine vFc rfl ?_ | exact vHn | refine vHc rfl ?_ | refine vFc (congrArg (fun z => some (V.int z)) ?_) ?_ | refine vHc (congrArg (fun z => some (Blk.ints _ z)) ?_) ?_ | refine vFc (congrArg (fun z => some (V.bool z)) ?_) ?_ | refine vFs rfl rfl ?_ ?_ | refine vHc (by rw [ren_bots]; rfl) ?_)
                all_goals omega
                done)
               | (
                refine ⟨⟨0, c, fun j => match j with | 0 => A 2 | 1 => A 1 | _ => A 0, fun j => match j with | 0 => K 2 | 1 => K 1 | _ => K 0, fun j => match j with | 0 => S 2 | 1 => S 1 | _ => S 0⟩, ?_, View.mk' [(3, 4), (4, 3)] rfl (by simp only [wfB, List.all_cons, List.all_nil, ids_bots]; rfl) rfl ?_ ?_⟩
                · refine ⟨fun z hz => ?_, ?_⟩
                  · (have e : z = 0 ∨ z = 1 ∨ z = 2 := by omega); rcases e with rfl | rfl | rfl <;> first | exact hA 0 (by omega) | exact hA 1 (by omega) | exact hA 2 (by omega)
                  · refine rd_step hp hR hA hi1 (by omega) hcw hi0 rfl (fun z hz hne => ?_)
                    (have e : z = 0 ∨ z = 1 ∨ z = 2 := by omega); rcases e with rfl | rfl | rfl <;> first | rfl | (exact absurd rfl hne)
                all_goals (repeat' first | exact vFn | refine vFc rfl ?_ | exact vHn | refine vHc rfl ?_ | refine vFc (congrArg (fun z => some (V.int z)) ?_) ?_ | refine vHc (congrArg (fun z => some (Blk.ints _ z)) ?_) ?_ | refine vFc (congrArg (fun z => some (V.bool z)) ?_) ?_ | refine vFs rfl rfl ?_ ?_ | refine vHc (by rw [ren_bots]; rfl) ?_)
                all_goals omega
                done)
               | (
                refine ⟨⟨0, c, fun j => match j with | 0 => A 0 | 1 => A 2 | _ => A 1, fun j => match j with | 0 => K 0 | 1 => K 2 | _ => K 1, fun j => match j with | 0 => S 0 | 1 => S 2 | _ => S 1⟩, ?_, View.mk' [(3, 4), (4, 3)] rfl (by simp only [wfB, List.all_cons, List.all_nil, ids_bots]; rfl) rfl ?_ ?_⟩
                · refine ⟨fun z hz => ?_, ?_⟩
                  · (have e : z = 0 ∨ z = 1 ∨ z = 2 := by omega); rcases e with rfl | rfl | rfl <;> first | exact hA 0 (by omega) | exact hA 1 (by omega) | exact hA 2 (by omega)
                  · refine rd_step hp hR hA hi1 (by omega) hcw hi0 rfl (fun z hz hne => ?_)
                    (have e : z = 0 ∨ z = 1 ∨ z = 2 := by omega); rcases e with rfl | rfl | rfl <;> first | rfl | (exact absurd rfl hne)
                all_goals (repeat' first | exact vFn | refine vFc rfl ?_ | exact vHn | refine vHc rfl ?_ | refine vFc (congrArg (fun z => some (V.int z)) ?_) ?_ | refine vHc (congrArg (fun z => some (Blk.ints _ z)) ?_) ?_ | refine vFc (congrArg (fun z => some (V.bool z)) ?_) ?_ | refine vFs rfl rfl ?_ ?_ | refine vHc (by rw [ren_bots]; rfl) ?_)
                all_goals omega
                done))))
          rintro ⟨cn', c', A', K', S'⟩ ⟨hA', hR'⟩
          dsimp only at hA' hR' ⊢
          have m0 := (hA' 0 (by omega)).1
          have m1 := (hA' 1 (by omega)).1
          have m2 := (hA' 2 (by omega)).1
          have hN2m : N2 < 3 := by omega
          obtain ⟨N3, hN3⟩ : ∃ z, z = N2 := ⟨N2, rfl⟩
          obtain ⟨N4, hN4⟩ : ∃ z, z = N2 := ⟨N2, rfl⟩
          have hn0 := fun (i : Nat) (hi : (A' i).length = 3) => normal_con p 2 (A' i ++ S' i) 3 (K' i) (by simp; omega) hp (by decide)
          have hno : ∀ i, (A' i).length = 3 → Con Try.prog [] 89 [.int p, .slice 0 0 3 (K' i)] [(0, .ints 2 (A' i ++ S' i))] (fun r H' => r = .bool (facP p (A' i) != 0) ∧ H' = [(0, .ints 2 (normL p (A' i) ++ S' i))]) := fun i hi => by
            have := hn0 i hi
            rwa [show (A' i ++ S' i).take 3 = A' i by rw [← hi, List.take_left], show (A' i ++ S' i).drop 3 = S' i by rw [← hi, List.drop_left]] at this
          clear hn0
          rw [hN2] at hN3 hN4 hR' hN2m
          subst hN2
          refine cR ?_
          iterate 3 refine oM rfl rfl ?_
          first | refine oQ (Is0 rfl rfl rfl rfl rfl rfl) rfl rfl ?_ | refine oQ (Is1 rfl rfl rfl rfl rfl rfl) rfl rfl ?_
          refine oQ (Q_ldv rfl rfl rfl rfl rfl rfl) rfl rfl ?_
          first | (refine oCall (hno 0 m0) [(0, 2)] 0 rfl rfl (Fits.mk' (vHc rfl vHn) rfl rfl (by simp)) rfl rfl ?_; rintro r H1 ⟨rfl, rfl⟩; refine ⟨.bool (facP p (A' 0) != 0), [(2, .ints 2 (normL p (A' 0) ++ S' 0))], rfl, rfl, rfl, ?_⟩) | (refine oCall (hno 1 m1) [(0, 3)] 0 rfl rfl (Fits.mk' (vHc rfl vHn) rfl rfl (by simp)) rfl rfl ?_; rintro r H1 ⟨rfl, rfl⟩; refine ⟨.bool (facP p (A' 1) != 0), [(3, .ints 2 (normL p (A' 1) ++ S' 1))], rfl, rfl, rfl, ?_⟩) | (refine oCall (hno 2 m2) [(0, 4)] 0 rfl rfl (Fits.mk' (vHc rfl vHn) rfl rfl (by simp)) rfl rfl ?_; rintro r H1 ⟨rfl, rfl⟩; refine ⟨.bool (facP p (A' 2) != 0), [(4, .ints 2 (normL p (A' 2) ++ S' 2))], rfl, rfl, rfl, ?_⟩)
          refine oN ?_
          refine CW_seq ?_
          refine cR ?_
          refine oM rfl rfl ?_
          first | refine oQ (Q_len rfl rfl rfl rfl) rfl rfl ?_ | refine oQ (Q_len0 rfl rfl rfl rfl) rfl rfl ?_
          refine oM rfl rfl ?_
          refine oN ?_
          refine CW_block ?_
          refine CW_loop (ι := Nat) (fun z => z ≤ 3) (fun z => ⟨[(0, .int p), (5, .slice 5 0 3 kO), (8, .int (N3 : Int)), (9, .int c), (83, .slice 5 0 3 kO), (84, .int 3), (85, .int z)], [(0, .vals 103 [.slice 1 0 3 c0, .slice 1 3 3 c1, .slice 1 6 3 c2]), (1, .ints t M), (2, .ints 2 ((rw3 p A' N3 c 3 z 0) ++ (S' 0))), (3, .ints 2 ((rw3 p A' N3 c 3 z 1) ++ (S' 1))), (4, .ints 2 ((rw3 p A' N3 c 3 z 2) ++ (S' 2))), (5, .vals 103 ([.slice 2 0 3 (K' 0), .slice 3 0 3 (K' 1), .slice 4 0 3 (K' 2)] ++ List.replicate (kO - 3) .bot))], 6⟩) (fun z => 3 - z) 0 ?_ ?_ ?_
          all_goals subst hN3
          · first | trivial | omega | (simp; done) | (simp; omega)
          · refine View.mk' [] rfl (by simp only [wfB, List.all_cons, List.all_nil, ids_bots]; rfl) rfl ?_ ?_
            repeat' first | exact vFn | refine vFc rfl ?_ | exact vHn | refine vHc rfl ?_ | refine vFc (congrArg (fun z => some (V.int z)) ?_) ?_ | refine vHc (congrArg (fun z => some (Blk.ints _ z)) ?_) ?_ | refine vFc (congrArg (fun z => some (V.bool z)) ?_) ?_ | refine vFs rfl rfl ?_ ?_ | refine vHc (by rw [ren_bots]; rfl) ?_
          intro z hz
          have hzz : z = 0 ∨ z = 1 ∨ z = 2 ∨ z = 3 := by omega
          have hN4m : N4 < 3 := by omega
          have w0 := (rw3_bd (c := c) (k := z) (show 0 < p by omega) hN4m hA' 0 (by omega)).1
          have w1 := (rw3_bd (c := c) (k := z) (show 0 < p by omega) hN4m hA' 1 (by omega)).1
          have w2 := (rw3_bd (c := c) (k := z) (show 0 < p by omega) hN4m hA' 2 (by omega)).1
          have t2 : z < 3 → (rw3 p A' N4 c 3 z z ++ S' z).getD c 0 = 0 → z ≠ N4 → ∀ j, rw3 p A' N4 c 3 (z + 1) j = rw3 p A' N4 c 3 z j := fun a b d j => rw3_zero a hA' (by rw [rw3_at d, getD_app (by rw [(hA' z a).1]; exact hcw)] at b; exact b)
          rw [hN4] at t2 w0 w1 w2
          obtain ⟨k4, hk4⟩ : ∃ y, y = z := ⟨z, rfl⟩
          rcases hzz with rfl | rfl | rfl | rfl
          all_goals (
           refine cR ?_
           refine oQ (Q_bin rfl rfl rfl) rfl rfl ?_
           refine oN ?_
           refine CW_seq ?_
           first | refine cT rfl ?_ | refine cF rfl ?_ | refine CW_cond rfl (fun hc => ?_) (fun hc => ?_)
           all_goals try simp only [s1, s2, s3, s4, s5, s6, s7, s8, s9, s10, s11, s12] at hc
           all_goals try (exfalso; first | omega | (simp at hc; done); done)
           all_goals first
             | (
              refine CW_skip ?_)
             | (
              refine CW_exit ?_)
           all_goals first
             | with_reducible refine tR ?_
             | with_reducible refine tE ?_
             | (
              with_reducible refine tN ?_
              refine CW_seq ?_
              refine CW_block ?_
              refine cR ?_
              refine oM rfl rfl ?_
              first | refine oQ (Is0 rfl rfl rfl rfl rfl rfl) rfl rfl ?_ | refine oQ (Is1 rfl rfl rfl rfl rfl rfl) rfl rfl ?_
              refine oQ (Q_ldv rfl rfl rfl rfl rfl rfl) rfl rfl ?_
              iterate 2 refine oA rfl rfl ?_
              refine oN ?_
              refine cR ?_
              iterate 2 refine oM rfl rfl ?_
              first | refine oQ (Is0 rfl rfl rfl rfl rfl rfl) rfl rfl ?_ | refine oQ (Is1 rfl rfl rfl rfl rfl rfl) rfl rfl ?_
              first | refine oQ (Q_ldc rfl rfl rfl rfl rfl) rfl rfl ?_ | refine oQ (Ld rfl rfl rfl rfl) rfl rfl ?_
              refine oA rfl rfl ?_
              refine oN ?_
              refine cR ?_
              iterate 2 refine oM rfl rfl ?_
              refine oQ (Q_bin rfl rfl rfl) rfl rfl ?_
              refine oM rfl rfl ?_
              all_goals first | refine oT rfl rfl ?_ | refine o1 rfl rfl rfl ?_ | refine o0 rfl rfl rfl ?_ | refine ogP1 rfl rfl rfl (fun hg => ?_) (fun hg => ?_) | refine ogP0 rfl rfl rfl (fun hg => ?_) (fun hg => ?_)
              all_goals try simp only [s1, s2, s3, s4, s5, s6, s7, s8, s9, s10, s11, s12] at hg
              all_goals try (exfalso; first | omega | exact absurd trivial hg | (simp at hg; done); done)
              all_goals first | (refine oM rfl rfl ?_) | skip
              all_goals first | refine oT rfl rfl ?_ | refine o1 rfl rfl rfl ?_ | refine o0 rfl rfl rfl ?_ | refine ogP1 rfl rfl rfl (fun hg => ?_) (fun hg => ?_) | refine ogP0 rfl rfl rfl (fun hg => ?_) (fun hg => ?_)
              all_goals try simp only [s1, s2, s3, s4, s5, s6, s7, s8, s9, s10, s11, s12] at hg
              all_goals try (exfalso; first | omega | exact absurd trivial hg | (simp at hg; done); done)
              all_goals first | (refine oQ (Q_bin rfl rfl rfl) rfl rfl ?_) | skip
              all_goals first | refine oQ (Q_pick_t rfl (by with_reducible rfl) rfl rfl) rfl rfl ?_ | refine oQ (Q_pick_f rfl (by with_reducible rfl) rfl rfl) rfl rfl ?_
              all_goals refine oN ?_
              all_goals (
               first | refine cT rfl ?_ | refine cF rfl ?_ | refine CW_cond rfl (fun hc => ?_) (fun hc => ?_)
               all_goals try simp only [s1, s2, s3, s4, s5, s6, s7, s8, s9, s10, s11, s12] at hc
               all_goals try (exfalso; first | omega | (simp at hc; done); done)
               all_goals first
                 | (
                  refine CW_skip ?_)
                 | (
                  refine cR ?_
                  refine oM rfl rfl ?_
                  first | refine oQ (Q_len rfl rfl rfl rfl) rfl rfl ?_ | refine oQ (Q_len0 rfl rfl rfl rfl) rfl rfl ?_
                  refine oM rfl rfl ?_
                  refine oN ?_
                  refine CW_block ?_
                  have hk4m : k4 < 3 := by omega
                  have hN4m : N4 < 3 := by omega
                  have hne : k4 ≠ N4 := by omega
                  have q0 := (hA' k4 hk4m).2
                  have q1 := fun y (hy : y < 3) => rw4_get (N := N4) (c := c) (s := S' k4) hk4m hA' hy
                  have q2 := fun y (hy : y < 3) => rw4_getN (c := c) (k := k4) (s := S' N4) hN4m hne.symm hA' hy
                  have q3 := fun y (hy : y < 3) => rw4_set (N := N4) (c := c) (s := S' k4) hk4m hA' hy
                  have q4 := fun y (hy : y = 3) (i : Nat) => rw4_end (N := N4) (c := c) (i := i) hne hk4m hA' hy
                  have q5 := fun (i : Nat) => rw4_zero (p := p) (A := A') (c := c) (w := 3) (i := i) hne
                  have q7 := fun y => normL_bd (show 0 < p by omega) (A' N4) y
                  have q8 := fun y (hy : y ≤ 3) => rw4_len (N := N4) (c := c) (i := k4) hN4m hk4m hk4m hA' hy
                  have q9 := fun y (hy : y ≤ 3) => rw4_len (N := N4) (c := c) (i := N4) hN4m hk4m hN4m hA' hy
                  have q6 : rw3 p A' N4 c 3 k4 k4 = A' k4 := rw3_at hne
                  refine CW_loop (ι := Nat) (fun y => y ≤ 3) (fun y => ⟨[(0, .int p), (5, .slice 5 0 3 kO), (8, .int (N4 : Int)), (9, .int c), (12, .slice (k4 + 2) 0 3 (K' k4)), (13, .int ((A' k4).getD c 0)), (83, .slice 5 0 3 kO), (84, .int 3), (85, .int (k4 : Int)), (102, .int 3), (103, .int y)], [(0, .vals 103 [.slice 1 0 3 c0, .slice 1 3 3 c1, .slice 1 6 3 c2]), (1, .ints t M), (2, .ints 2 ((rw4 p A' N4 c 3 k4 y 0) ++ (S' 0))), (3, .ints 2 ((rw4 p A' N4 c 3 k4 y 1) ++ (S' 1))), (4, .ints 2 ((rw4 p A' N4 c 3 k4 y 2) ++ (S' 2))), (5, .vals 103 ([.slice 2 0 3 (K' 0), .slice 3 0 3 (K' 1), .slice 4 0 3 (K' 2)] ++ List.replicate (kO - 3) .bot))], 6⟩) (fun y => 3 - y) 0 ?_ ?_ ?_
                  all_goals (subst hN4; subst hk4)
                  · first | trivial | omega | (simp; done) | (simp; omega)
                  · refine View.mk' [] rfl (by simp only [wfB, List.all_cons, List.all_nil, ids_bots]; rfl) rfl ?_ ?_
                    repeat' first | exact vFn | refine vFc rfl ?_ | exact vHn | refine vHc rfl ?_ | refine vFc (congrArg (fun z => some (V.int z)) ?_) ?_ | refine vHc (congrArg (fun z => some (Blk.ints _ z)) ?_) ?_ | refine vFc (congrArg (fun z => some (V.bool z)) ?_) ?_ | refine vFs rfl rfl ?_ ?_ | refine vHc (by rw [ren_bots]; rfl) ?_
                    all_goals first | rfl | exact (congrArg (· ++ _) (q5 _)) | exact (congrArg (· ++ _) (q5 _)).symm | (rw [getD_app (by omega), q6]) | (rw [getD_app (by omega)]; exact congrArg (fun z => List.getD z c 0) q6)
                  intro y hy
                  have e8 := q8 y hy
                  have e9 := q9 y hy
                  have b1 := q0 y
                  have b2 := q0 c
                  have b3 := q7 y
                  refine cR ?_
                  refine oQ (Q_bin rfl rfl rfl) rfl rfl ?_
                  refine oN ?_
                  refine CW_seq ?_
                  first | refine cT rfl ?_ | refine cF rfl ?_ | refine CW_cond rfl (fun hc => ?_) (fun hc => ?_)
                  all_goals try simp only [s1, s2, s3, s4, s5, s6, s7, s8, s9, s10, s11, s12] at hc
                  all_goals try (exfalso; first | omega | (simp at hc; done); done)
                  all_goals first
                    | (
                     refine CW_skip ?_)
                    | (
                     refine CW_exit ?_)
                  all_goals first
                    | with_reducible refine tR ?_
                    | with_reducible refine tE ?_
                    | (
                     with_reducible refine tN ?_
                     refine CW_seq ?_
                     refine CW_block ?_
                     refine cR ?_
                     refine oM rfl rfl ?_
                     refine oA rfl rfl ?_
                     refine oN ?_
                     refine CW_any (fun i => List.elem i [19]) 20 rfl lateOk (by decide +kernel) (fun hst => ?_)
                     refine aP 0 hst rfl rfl (by decide +kernel) (PX_move rfl rfl) rfl rfl ?_
                     refine aP 1 hst rfl rfl (by decide +kernel) (PX_move rfl rfl) rfl rfl ?_
                     refine aP 2 hst rfl rfl (by decide +kernel) (PX_move rfl rfl) rfl rfl ?_
                     refine aP 3 hst rfl rfl (by decide +kernel) (PX_move rfl rfl) rfl rfl ?_
                     first | refine aQ 4 hst rfl rfl (by decide +kernel) (QX_of (Is0 rfl rfl rfl rfl rfl rfl) NE_ix) rfl rfl ?_ | refine aQ 4 hst rfl rfl (by decide +kernel) (QX_of (Is1 rfl rfl rfl rfl rfl rfl) NE_ix) rfl rfl ?_
                     have hy3 : y < 3 := by omega
                     refine aQ 5 hst rfl rfl (by decide +kernel) (QX_of (Ld rfl rfl rfl rfl) NE_load) rfl rfl ?_
                     rw [q1 y hy3]
                     refine aP 6 hst rfl rfl (by decide +kernel) (PX_move rfl rfl) rfl rfl ?_
                     refine aP 7 hst rfl rfl (by decide +kernel) (PX_move rfl rfl) rfl rfl ?_
                     refine aP 8 hst rfl rfl (by decide +kernel) (PX_move rfl rfl) rfl rfl ?_
                     first | refine aQ 9 hst rfl rfl (by decide +kernel) (QX_of (Is0 rfl rfl rfl rfl rfl rfl) NE_ix) rfl rfl ?_ | refine aQ 9 hst rfl rfl (by decide +kernel) (QX_of (Is1 rfl rfl rfl rfl rfl rfl) NE_ix) rfl rfl ?_
                     refine aQ 10 hst rfl rfl (by decide +kernel) (QX_of (Q_ldv rfl rfl rfl rfl rfl rfl) NE_load) rfl rfl ?_
                     refine aP 11 hst rfl rfl (by decide +kernel) (PX_move rfl rfl) rfl rfl ?_
                     first | refine aQ 12 hst rfl rfl (by decide +kernel) (QX_of (Is0 rfl rfl rfl rfl rfl rfl) NE_ix) rfl rfl ?_ | refine aQ 12 hst rfl rfl (by decide +kernel) (QX_of (Is1 rfl rfl rfl rfl rfl rfl) NE_ix) rfl rfl ?_
                     refine aQ 13 hst rfl rfl (by decide +kernel) (QX_of (Ld rfl rfl rfl rfl) NE_load) rfl rfl ?_
                     rw [q2 y hy3]
                     refine aMul 14 hst rfl rfl (by decide +kernel) 12 12 rfl rfl (by omega) (by omega) (by decide) rfl (fun z120 hz120 hl120 hu120 => ?_)
                     first | refine aQ 15 hst rfl rfl (by decide +kernel) (QX_of (Q_binu rfl rfl rfl (by omega)) NE_bin) rfl rfl ?_ | refine aQ 15 hst rfl rfl (by decide +kernel) (QX_of (Q_bin rfl rfl rfl) NE_bin) rfl rfl ?_
                     refine aP 16 hst rfl rfl (by decide +kernel) (PX_move rfl rfl) rfl rfl ?_
                     refine aQ 17 hst rfl rfl (by decide +kernel) (QX_call0 (mod_con _ _ (by omega) (by omega)) rfl rfl rfl) rfl rfl ?_
                     first | refine aQ 18 hst rfl rfl (by decide +kernel) (QX_of (Is0 rfl rfl rfl rfl rfl rfl) NE_ix) rfl rfl ?_ | refine aQ 18 hst rfl rfl (by decide +kernel) (QX_of (Is1 rfl rfl rfl rfl rfl rfl) NE_ix) rfl rfl ?_
                     refine AW_last [19] rfl (by decide +kernel) rfl ?_
                     refine oS rfl rfl rfl rfl rfl ?_
                     refine OW_nil (npN ?_)
                     all_goals first | with_reducible refine bN ?_ | with_reducible refine bE ?_ | with_reducible refine bR ?_ | refine bX rfl ?_
                     all_goals with_reducible refine tN ?_
                     all_goals (
                      refine CW_region ?_
                      first | refine oQ (Q_binu rfl rfl rfl (by omega)) rfl rfl ?_ | refine oQ (Q_bin rfl rfl rfl) rfl rfl ?_
                      refine oM rfl rfl ?_
                      refine OW_nil ?_))
                  all_goals first
                    | with_reducible refine tR ?_
                    | with_reducible refine tE ?_
                    | (
                     with_reducible refine tN ?_
                     refine ⟨y + 1, ?_, ?_, View.mk' [] rfl (by simp only [wfB, List.all_cons, List.all_nil, ids_bots]; rfl) rfl ?_ ?_⟩
                     · omega
                     · omega
                     all_goals (repeat' first | exact vFn | refine vFc rfl ?_ | exact vHn | refine vHc rfl ?_ | refine vFc (congrArg (fun z => some (V.int z)) ?_) ?_ | refine vHc (congrArg (fun z => some (Blk.ints _ z)) ?_) ?_ | refine vFc (congrArg (fun z => some (V.bool z)) ?_) ?_ | refine vFs rfl rfl ?_ ?_ | refine vHc (by rw [ren_bots]; rfl) ?_)
                     all_goals first | rfl | omega | (subst hz120; exact q3 y hy3) | (subst hz120; exact (q3 y hy3).symm))
                  all_goals first | with_reducible refine bN ?_ | with_reducible refine bE ?_ | with_reducible refine bR ?_ | refine bX rfl ?_))
              all_goals first | with_reducible refine bN ?_ | with_reducible refine bE ?_ | with_reducible refine bR ?_ | refine bX rfl ?_
              all_goals with_reducible refine tN ?_
              all_goals (
               refine CW_region ?_
               first | refine oQ (Q_binu rfl rfl rfl (by omega)) rfl rfl ?_ | refine oQ (Q_bin rfl rfl rfl) rfl rfl ?_
               refine oM rfl rfl ?_
               refine OW_nil ?_))
           all_goals first
             | with_reducible refine tR ?_
             | with_reducible refine tE ?_
             | (
              with_reducible refine tN ?_
              first
                | (
                 refine ⟨0 + 1, ?_, ?_, View.mk' [] rfl (by simp only [wfB, List.all_cons, List.all_nil, ids_bots]; rfl) rfl ?_ ?_⟩
                 · omega
                 · omega
                 all_goals (repeat' first | exact vFn | refine vFc rfl ?_ | exact vHn | refine vHc rfl ?_ | refine vFc (congrArg (fun z => some (V.int z)) ?_) ?_ | refine vHc (congrArg (fun z => some (Blk.ints _ z)) ?_) ?_ | refine vFc (congrArg (fun z => some (V.bool z)) ?_) ?_ | refine vFs rfl rfl ?_ ?_ | refine vHc (by rw [ren_bots]; rfl) ?_)
                 all_goals first | rfl | omega | exact congrArg (· ++ _) (q4 y (by omega) _) | exact (congrArg (· ++ _) (q4 y (by omega) _)).symm | exact congrArg (· ++ _) (t2 (by decide) (by assumption) (by decide) _) | exact (congrArg (· ++ _) (t2 (by decide) (by assumption) (by decide) _)).symm
                 done)
                | (
                 refine ⟨1 + 1, ?_, ?_, View.mk' [] rfl (by simp only [wfB, List.all_cons, List.all_nil, ids_bots]; rfl) rfl ?_ ?_⟩
                 · omega
                 · omega
                 all_goals (repeat' first | exact vFn | refine vFc rfl ?_ | exact vHn | refine vHc rfl ?_ | refine vFc (congrArg (fun z => some (V.int z)) ?_) ?_ | refine vHc (congrArg (fun z => some (Blk.ints _ z)) ?_) ?_ | refine vFc (congrArg (fun z => some (V.bool z)) ?_) ?_ | refine vFs rfl rfl ?_ ?_ | refine vHc (by rw [ren_bots]; rfl) ?_)
                 all_goals first | rfl | omega | exact congrArg (· ++ _) (q4 y (by omega) _) | exact (congrArg (· ++ _) (q4 y (by omega) _)).symm | exact congrArg (· ++ _) (t2 (by decide) (by assumption) (by decide) _) | exact (congrArg (· ++ _) (t2 (by decide) (by assumption) (by decide) _)).symm
                 done)
                | (
                 refine ⟨2 + 1, ?_, ?_, View.mk' [] rfl (by simp only [wfB, List.all_cons, List.all_nil, ids_bots]; rfl) rfl ?_ ?_⟩
                 · omega
                 · omega
                 all_goals (repeat' first | exact vFn | refine vFc rfl ?_ | exact vHn | refine vHc rfl ?_ | refine vFc (congrArg (fun z => some (V.int z)) ?_) ?_ | refine vHc (congrArg (fun z => some (Blk.ints _ z)) ?_) ?_ | refine vFc (congrArg (fun z => some (V.bool z)) ?_) ?_ | refine vFs rfl rfl ?_ ?_ | refine vHc (by rw [ren_bots]; rfl) ?_)
                 all_goals first | rfl | omega | exact congrArg (· ++ _) (q4 y (by omega) _) | exact (congrArg (· ++ _) (q4 y (by omega) _)).symm | exact congrArg (· ++ _) (t2 (by decide) (by assumption) (by decide) _) | exact (congrArg (· ++ _) (t2 (by decide) (by assumption) (by decide) _)).symm
                 done)))
          all_goals first | with_reducible refine bN ?_ | with_reducible refine bE ?_ | with_reducible refine bR ?_ | refine bX rfl ?_
          all_goals with_reducible refine tN ?_
          all_goals (
           refine CW_region ?_
           refine oM rfl rfl ?_
           first | refine oQ (Q_binu rfl rfl rfl (by omega)) rfl rfl ?_ | refine oQ (Q_bin rfl rfl rfl) rfl rfl ?_
           refine oA rfl rfl ?_
           refine OW_nil ?_))
       all_goals first | with_reducible refine bN ?_ | with_reducible refine bE ?_ | with_reducible refine bR ?_ | refine bX rfl ?_
       all_goals with_reducible refine tN ?_
       all_goals (
        refine CW_region ?_
        refine oM rfl rfl ?_
        first | refine oQ (Q_binu rfl rfl rfl (by omega)) rfl rfl ?_ | refine oQ (Q_bin rfl rfl rfl) rfl rfl ?_
        refine oA rfl rfl ?_
        refine OW_nil ?_))
    all_goals first
      | with_reducible refine tR ?_
      | with_reducible refine tE ?_
      | (
       with_reducible refine tN ?_
       first
         | (
          refine ⟨⟨0, c + 1, A, K, S⟩, ?_, ?_, View.mk' [] rfl (by simp only [wfB, List.all_cons, List.all_nil, ids_bots]; rfl) rfl ?_ ?_⟩
          · try dsimp only
            refine ⟨by omega, by omega, by omega, ?_, ?_⟩
            · first | exact hA | exact rw3_bd (by omega) (by omega) hA'
            · first | exact RedI_skip hR (fun k a b => hi3 k a (by omega)) | exact hR'
          · (try dsimp only); omega
          all_goals (repeat' first | exact vFn | refine vFc rfl ?_ | exact vHn | refine vHc rfl ?_ | refine vFc (congrArg (fun z => some (V.int z)) ?_) ?_ | refine vHc (congrArg (fun z => some (Blk.ints _ z)) ?_) ?_ | refine vFc (congrArg (fun z => some (V.bool z)) ?_) ?_ | refine vFs rfl rfl ?_ ?_ | refine vHc (by rw [ren_bots]; rfl) ?_)
          all_goals first | rfl | omega
          done)
         | (
          refine ⟨⟨1, c + 1, A, K, S⟩, ?_, ?_, View.mk' [] rfl (by simp only [wfB, List.all_cons, List.all_nil, ids_bots]; rfl) rfl ?_ ?_⟩
          · try dsimp only
            refine ⟨by omega, by omega, by omega, ?_, ?_⟩
            · first | exact hA | exact rw3_bd (by omega) (by omega) hA'
            · first | exact RedI_skip hR (fun k a b => hi3 k a (by omega)) | exact hR'
          · (try dsimp only); omega
          all_goals (repeat' first | exact vFn | refine vFc rfl ?_ | exact vHn | refine vHc rfl ?_ | refine vFc (congrArg (fun z => some (V.int z)) ?_) ?_ | refine vHc (congrArg (fun z => some (Blk.ints _ z)) ?_) ?_ | refine vFc (congrArg (fun z => some (V.bool z)) ?_) ?_ | refine vFs rfl rfl ?_ ?_ | refine vHc (by rw [ren_bots]; rfl) ?_)
          all_goals first | rfl | omega
          done)
         | (
          refine ⟨⟨2, c + 1, A, K, S⟩, ?_, ?_, View.mk' [] rfl (by simp only [wfB, List.all_cons, List.all_nil, ids_bots]; rfl) rfl ?_ ?_⟩
          · try dsimp only
            refine ⟨by omega, by omega, by omega, ?_, ?_⟩
            · first | exact hA | exact rw3_bd (by omega) (by omega) hA'
            · first | exact RedI_skip hR (fun k a b => hi3 k a (by omega)) | exact hR'
          · (try dsimp only); omega
          all_goals (repeat' first | exact vFn | refine vFc rfl ?_ | exact vHn | refine vHc rfl ?_ | refine vFc (congrArg (fun z => some (V.int z)) ?_) ?_ | refine vHc (congrArg (fun z => some (Blk.ints _ z)) ?_) ?_ | refine vFc (congrArg (fun z => some (V.bool z)) ?_) ?_ | refine vFs rfl rfl ?_ ?_ | refine vHc (by rw [ren_bots]; rfl) ?_)
          all_goals first | rfl | omega
          done)
         | (
          refine ⟨⟨0 + 1, c + 1, rw3 p A' 0 c 3 3, K', S'⟩, ?_, ?_, View.mk' [] rfl (by simp only [wfB, List.all_cons, List.all_nil, ids_bots]; rfl) rfl ?_ ?_⟩
          · try dsimp only
            refine ⟨by omega, by omega, by omega, ?_, ?_⟩
            · first | exact hA | exact rw3_bd (by omega) (by omega) hA'
            · first | exact RedI_skip hR (fun k a b => hi3 k a (by omega)) | exact hR'
          · (try dsimp only); omega
          all_goals (repeat' first | exact vFn | refine vFc rfl ?_ | exact vHn | refine vHc rfl ?_ | refine vFc (congrArg (fun z => some (V.int z)) ?_) ?_ | refine vHc (congrArg (fun z => some (Blk.ints _ z)) ?_) ?_ | refine vFc (congrArg (fun z => some (V.bool z)) ?_) ?_ | refine vFs rfl rfl ?_ ?_ | refine vHc (by rw [ren_bots]; rfl) ?_)
          all_goals first | rfl | omega
          done)
         | (
          refine ⟨⟨1 + 1, c + 1, rw3 p A' 1 c 3 3, K', S'⟩, ?_, ?_, View.mk' [] rfl (by simp only [wfB, List.all_cons, List.all_nil, ids_bots]; rfl) rfl ?_ ?_⟩
          · try dsimp only
            refine ⟨by omega, by omega, by omega, ?_, ?_⟩
            · first | exact hA | exact rw3_bd (by omega) (by omega) hA'
            · first | exact RedI_skip hR (fun k a b => hi3 k a (by omega)) | exact hR'
          · (try dsimp only); omega
          all_goals (repeat' first | exact vFn | refine vFc rfl ?_ | exact vHn | refine vHc rfl ?_ | refine vFc (congrArg (fun z => some (V.int z)) ?_) ?_ | refine vHc (congrArg (fun z => some (Blk.ints _ z)) ?_) ?_ | refine vFc (congrArg (fun z => some (V.bool z)) ?_) ?_ | refine vFs rfl rfl ?_ ?_ | refine vHc (by rw [ren_bots]; rfl) ?_)
          all_goals first | rfl | omega
          done)
         | (
          refine ⟨⟨2 + 1, c + 1, rw3 p A' 2 c 3 3, K', S'⟩, ?_, ?_, View.mk' [] rfl (by simp only [wfB, List.all_cons, List.all_nil, ids_bots]; rfl) rfl ?_ ?_⟩
          · try dsimp only
            refine ⟨by omega, by omega, by omega, ?_, ?_⟩
            · first | exact hA | exact rw3_bd (by omega) (by omega) hA'
            · first | exact RedI_skip hR (fun k a b => hi3 k a (by omega)) | exact hR'
          · (try dsimp only); omega
          all_goals (repeat' first | exact vFn | refine vFc rfl ?_ | exact vHn | refine vHc rfl ?_ | refine vFc (congrArg (fun z => some (V.int z)) ?_) ?_ | refine vHc (congrArg (fun z => some (Blk.ints _ z)) ?_) ?_ | refine vFc (congrArg (fun z => some (V.bool z)) ?_) ?_ | refine vFs rfl rfl ?_ ?_ | refine vHc (by rw [ren_bots]; rfl) ?_)
          all_goals first | rfl | omega
          done)))
   all_goals first | with_reducible refine bN ?_ | with_reducible refine bE ?_ | with_reducible refine bR ?_ | refine bX rfl ?_
   all_goals with_reducible refine tN ?_
   all_goals (
    refine cR ?_
    iterate 2 refine oM rfl rfl ?_
    refine oQ (Q_slsH rfl rfl rfl rfl rfl (by first | omega | (dsimp only; omega) | (simp; omega) | (simp; done))) rfl rfl ?_
    refine oA rfl rfl ?_
    refine oN ?_
    refine CW_ret ?_))
  all_goals (
   have e := RedI_end hp hR (by omega) (by omega)
   first | exact exitH (r0 := .slice 5 0 0 kO) (H0 := [(0, .vals 103 [.slice 1 0 3 c0, .slice 1 3 3 c1, .slice 1 6 3 c2]), (1, .ints t M), (2, .ints 2 ((A 0) ++ (S 0))), (3, .ints 2 ((A 1) ++ (S 1))), (4, .ints 2 ((A 2) ++ (S 2))), (5, .vals 103 ([.slice 2 0 3 (K 0), .slice 3 0 3 (K 1), .slice 4 0 3 (K 2)] ++ List.replicate (kO - 3) .bot))]) (.inr rfl) [] 6 (.cons (.tmp rfl rfl) .nil) rfl rfl rfl (vHc rfl (vHc rfl (vHc rfl (vHc rfl (vHc rfl (vHc (by rw [ren_bots]; rfl) vHn)))))) (by simp only [wfB, List.all_cons, List.all_nil, ids_bots]; rfl) rfl ⟨kO, A, K, S, by rw [e], hA, ⟨c, h2, by omega, by rw [e]; exact hR⟩, rfl⟩ | exact exitH (r0 := .slice 5 0 1 kO) (H0 := [(0, .vals 103 [.slice 1 0 3 c0, .slice 1 3 3 c1, .slice 1 6 3 c2]), (1, .ints t M), (2, .ints 2 ((A 0) ++ (S 0))), (3, .ints 2 ((A 1) ++ (S 1))), (4, .ints 2 ((A 2) ++ (S 2))), (5, .vals 103 ([.slice 2 0 3 (K 0), .slice 3 0 3 (K 1), .slice 4 0 3 (K 2)] ++ List.replicate (kO - 3) .bot))]) (.inr rfl) [] 6 (.cons (.tmp rfl rfl) .nil) rfl rfl rfl (vHc rfl (vHc rfl (vHc rfl (vHc rfl (vHc rfl (vHc (by rw [ren_bots]; rfl) vHn)))))) (by simp only [wfB, List.all_cons, List.all_nil, ids_bots]; rfl) rfl ⟨kO, A, K, S, by rw [e], hA, ⟨c, h2, by omega, by rw [e]; exact hR⟩, rfl⟩ | exact exitH (r0 := .slice 5 0 2 kO) (H0 := [(0, .vals 103 [.slice 1 0 3 c0, .slice 1 3 3 c1, .slice 1 6 3 c2]), (1, .ints t M), (2, .ints 2 ((A 0) ++ (S 0))), (3, .ints 2 ((A 1) ++ (S 1))), (4, .ints 2 ((A 2) ++ (S 2))), (5, .vals 103 ([.slice 2 0 3 (K 0), .slice 3 0 3 (K 1), .slice 4 0 3 (K 2)] ++ List.replicate (kO - 3) .bot))]) (.inr rfl) [] 6 (.cons (.tmp rfl rfl) .nil) rfl rfl rfl (vHc rfl (vHc rfl (vHc rfl (vHc rfl (vHc rfl (vHc (by rw [ren_bots]; rfl) vHn)))))) (by simp only [wfB, List.all_cons, List.all_nil, ids_bots]; rfl) rfl ⟨kO, A, K, S, by rw [e], hA, ⟨c, h2, by omega, by rw [e]; exact hR⟩, rfl⟩ | exact exitH (r0 := .slice 5 0 3 kO) (H0 := [(0, .vals 103 [.slice 1 0 3 c0, .slice 1 3 3 c1, .slice 1 6 3 c2]), (1, .ints t M), (2, .ints 2 ((A 0) ++ (S 0))), (3, .ints 2 ((A 1) ++ (S 1))), (4, .ints 2 ((A 2) ++ (S 2))), (5, .vals 103 ([.slice 2 0 3 (K 0), .slice 3 0 3 (K 1), .slice 4 0 3 (K 2)] ++ List.replicate (kO - 3) .bot))]) (.inr rfl) [] 6 (.cons (.tmp rfl rfl) .nil) rfl rfl rfl (vHc rfl (vHc rfl (vHc rfl (vHc rfl (vHc rfl (vHc (by rw [ren_bots]; rfl) vHn)))))) (by simp only [wfB, List.all_cons, List.all_nil, ids_bots]; rfl) rfl ⟨kO, A, K, S, by rw [e], hA, ⟨c, h2, by omega, by rw [e]; exact hR⟩, rfl⟩)
end Go.Proofs.Ytoiolpgmilobnaa
namespace Go.Proofs.Ytoiolpgmilobnaa
set_option maxRecDepth 10000
set_option linter.unusedSimpArgs false
set_option linter.unusedVariables false
set_option linter.unusedSectionVars false
open Lean.Grind
/-- the row R, less its multiples of k rows that lead at P -/
def rdc (p : Int) (E : Nat → List Int) (P : Nat → Nat) (w : Nat) (R : List Int) : Nat → List Int
  | 0 => R
  | k + 1 => lsL p (rdc p E P w R k) (E k) ((rdc p E P w R k).getD (P k) 0) w
def rwB (p : Int) (w : Nat) (R : List Int) : Prop := R.length = w ∧ ∀ j, 0 ≤ R.getD j 0 ∧ R.getD j 0 < p
theorem rwB_ls {p : Int} (hp : 0 < p) (r s : List Int) (k : Int) (w : Nat) : rwB p w (lsL p r s k w) := ⟨lsL_len .., lsL_bd hp _ _ _ _⟩
theorem rwB_no {p : Int} (hp : 0 < p) {w : Nat} {r : List Int} (h : rwB p w r) : rwB p w (normL p r) := ⟨by rw [normL_length]; exact h.1, normL_bd hp _⟩
theorem rdc_B {p : Int} (hp : 0 < p) {E : Nat → List Int} {P : Nat → Nat} {w : Nat} {R : List Int} (h : rwB p w R) : ∀ k, rwB p w (rdc p E P w R k)
  | 0 => h
  | k + 1 => rwB_ls hp _ _ _ _
def EcI (p : Int) (M : Nat → List Int) (i w : Nat) (E : Nat → List Int) (r : Nat) (P : Nat → Nat) : Prop :=
  ∀ (n : Nat) [NeZero n], p = (n : Int) → Fld (Fin n) → Ech (cM n E) r w P ∧ ∀ x, NullV (cM n M) i w x ↔ NullV (cM n E) r w x
theorem EcI_start (p : Int) (M : Nat → List Int) (w : Nat) (E : Nat → List Int) (P : Nat → Nat) : EcI p M 0 w E 0 P := fun n _ _ _ =>
  ⟨⟨fun i h => absurd h (Nat.not_lt_zero _), fun i h => absurd h (Nat.not_lt_zero _), fun i h => absurd h (Nat.not_lt_zero _), fun i h => absurd h (Nat.not_lt_zero _)⟩, fun x => ⟨fun _ i h => absurd h (Nat.not_lt_zero _), fun _ i h => absurd h (Nat.not_lt_zero _)⟩⟩
theorem EcI_lt {p : Int} (hp : primeB p = true) {M : Nat → List Int} {i w : Nat} {E : Nat → List Int} {r : Nat} {P : Nat → Nat} (h : EcI p M i w E r P) {k : Nat} (hk : k < r) : P k < w := by
  obtain ⟨n, _, e, hF, _⟩ := fld_of hp
  exact (h n e hF).1.lt k hk
theorem EcI_ld {p : Int} (hp : primeB p = true) {M : Nat → List Int} {i w : Nat} {E : Nat → List Int} {r : Nat} {P : Nat → Nat} (h : EcI p M i w E r P) {k : Nat} (hk : k < r) (hb : rwB p w (E k)) : ldI (E k) = (P k : Int) := by
  obtain ⟨n, _, e, hF, _⟩ := fld_of hp
  obtain ⟨g, _⟩ := h n e hF
  refine ldI_found (by rw [hb.1]; exact g.lt k hk) (fun j hj => ?_) (fun e0 => ?_)
  · have b := hb.2 j
    exact ic_small b.1 (by omega) (g.low k hk j hj)
  · have := g.one k hk
    change (ic ((E k).getD (P k) 0) : Fin n) = 1 at this
    rw [e0, ic_zero] at this
    exact hF.1 this.symm
theorem ldI_all {l : List Int} (h : ldI l < 0) : ∀ j, l.getD j 0 = 0 := by
  intro j
  by_cases hj : j < l.length
  · apply Classical.byContradiction
    intro hn
    unfold ldI at h
    cases hf : (List.range l.length).find? (fun i => decide (l.getD i 0 ≠ 0)) with
    | some q => rw [hf] at h; simp at h; omega
    | none =>
      rw [List.find?_eq_none] at hf
      have := hf j (by simpa using hj)
      simp only [ne_eq, decide_not, Bool.not_eq_true', decide_eq_false_iff_not] at this
      exact this hn
  · simp [List.getD, show l.length ≤ j by omega]
theorem ldI_at {l : List Int} (h : ¬ ldI l < 0) : (ldI l).toNat < l.length ∧ (∀ j, j < (ldI l).toNat → l.getD j 0 = 0) ∧ l.getD (ldI l).toNat 0 ≠ 0 := by
  unfold ldI at h ⊢
  cases hf : (List.range l.length).find? (fun i => decide (l.getD i 0 ≠ 0)) with
  | none => rw [hf] at h; simp at h
  | some q =>
    rw [List.find?_eq_some_iff_getElem] at hf
    obtain ⟨h1, j, hj, e, h2⟩ := hf
    simp only [List.length_range] at hj
    simp only [List.getElem_range] at e
    subst e
    refine ⟨by simpa using hj, fun z hz => ?_, by simpa using h1⟩
    have := h2 z (by simpa using hz)
    simpa using this
theorem cM_ls {n : Nat} [NeZero n] {p : Int} (hn : p = (n : Int)) {w : Nat} {r s : List Int} (hr : r.length = w) (hs : s.length = w) (k : Int) (j : Nat) : (ic ((lsL p r s k w).getD j 0) : Fin n) = ic (r.getD j 0) - ic k * ic (s.getD j 0) := by
  by_cases hj : j < w
  · rw [lsL_get _ _ _ _ _ _ hj, hn, ic_mod n, ic_sub, ic_mul]
  · rw [lsL_get2 _ _ _ _ _ _ (by omega)]
    have z1 : r.getD j 0 = 0 := by simp [List.getD, show r.length ≤ j by omega]
    have z2 : s.getD j 0 = 0 := by simp [List.getD, show s.length ≤ j by omega]
    rw [z1, z2, ic_zero]; grind
theorem rdc_dt {n : Nat} [NeZero n] {p : Int} (hp : 0 < p) (hn : p = (n : Int)) {E : Nat → List Int} {P : Nat → Nat} {w r : Nat} {R : List Int} (hR : rwB p w R) (hE : ∀ k, k < r → rwB p w (E k)) (x : Nat → Fin n) (hx : NullV (cM n E) r w x) : ∀ k, k ≤ r → dt (fun j => (ic ((rdc p E P w R k).getD j 0) : Fin n)) x w = dt (fun j => (ic (R.getD j 0) : Fin n)) x w
  | 0, _ => rfl
  | k + 1, hk => by
    have hB := rdc_B (E := E) (P := P) hp hR k
    have e : (fun j => (ic ((rdc p E P w R (k + 1)).getD j 0) : Fin n)) = fun j => ic ((rdc p E P w R k).getD j 0) - ic ((rdc p E P w R k).getD (P k) 0) * cM n E k j := by
      funext j
      exact cM_ls hn hB.1 (hE k (by omega)).1 _ j
    rw [e, dt_row (fun j => (ic ((rdc p E P w R k).getD j 0) : Fin n)) (cM n E k) x, hx k (by omega), rdc_dt hp hn hR hE x hx k (by omega)]
    grind
theorem rdc_zero {n : Nat} [NeZero n] {p : Int} (hp : 0 < p) (hn : p = (n : Int)) {E : Nat → List Int} {P : Nat → Nat} {w r : Nat} {R : List Int} (hR : rwB p w R) (hE : ∀ k, k < r → rwB p w (E k)) (h : Ech (cM n E) r w P) : ∀ k, k ≤ r → ∀ z, z < k → (ic ((rdc p E P w R k).getD (P z) 0) : Fin n) = 0
  | 0, _ => fun z hz => absurd hz (Nat.not_lt_zero _)
  | k + 1, hk => fun z hz => by
    have hB := rdc_B (E := E) (P := P) hp hR k
    show (ic ((lsL p (rdc p E P w R k) (E k) _ w).getD (P z) 0) : Fin n) = 0
    rw [cM_ls hn hB.1 (hE k (by omega)).1]
    by_cases e : z = k
    · subst e
      have := h.one z (by omega)
      change (ic ((E z).getD (P z) 0) : Fin n) = 1 at this
      rw [this]; grind
    · have := h.oth z (by omega) k (by omega) (fun x => e x.symm)
      change (ic ((E k).getD (P z) 0) : Fin n) = 0 at this
      rw [this, rdc_zero hp hn hR hE h k (by omega) z (by omega)]; grind
theorem nullv_succ {F : Type} [CommRing F] (A : Nat → Nat → F) (i w : Nat) (x : Nat → F) : NullV A (i + 1) w x ↔ NullV A i w x ∧ dt (A i) x w = 0 :=
  ⟨fun h => ⟨fun k hk => h k (by omega), h i (by omega)⟩, fun h k hk => by
    by_cases e : k = i
    · subst e; exact h.2
    · exact h.1 k (by omega)⟩
/-- a row that comes to 0 changes nothing -/
theorem EcI_skip {p : Int} (hp : primeB p = true) {M : Nat → List Int} {i w : Nat} {E : Nat → List Int} {r : Nat} {P : Nat → Nat} (h : EcI p M i w E r P) (hR : rwB p w (M i)) (hE : ∀ k, k < r → rwB p w (E k)) (h0 : ldI (rdc p E P w (M i) r) < 0) : EcI p M (i + 1) w E r P := fun n _ hn hF => by
  obtain ⟨g1, g2⟩ := h n hn hF
  have hb := prime_bd hp
  refine ⟨g1, fun x => ?_⟩
  rw [nullv_succ, g2 x]
  refine ⟨fun g => g.1, fun g => ⟨g, ?_⟩⟩
  have := rdc_dt (P := P) (show 0 < p by omega) hn hR hE x g r (Nat.le_refl r)
  show dt (fun j => (ic ((M i).getD j 0) : Fin n)) x w = 0
  rw [← this]
  have hz := ldI_all h0
  rw [dt_congr (s := fun _ => 0) (fun j _ => by rw [hz j, ic_zero])]
  generalize w = w
  induction w with
  | zero => rfl
  | succ q ih => rw [dt, ih]; grind
/-- a row that leads at a is set in at place q -/
theorem EcI_put {p : Int} (hp : primeB p = true) {M : Nat → List Int} {i w : Nat} {E E' : Nat → List Int} {r q a : Nat} {P : Nat → Nat} (h : EcI p M i w E r P) (hR : rwB p w (M i)) (hE : ∀ k, k < r → rwB p w (E k)) (hq : q ≤ r)
    (ha : a < w) (h0 : ∀ j, j < a → (rdc p E P w (M i) r).getD j 0 = 0) (h1 : (rdc p E P w (M i) r).getD a 0 ≠ 0)
    (e1 : ∀ k, k < q → E' k = lsL p (E k) (normL p (rdc p E P w (M i) r)) ((E k).getD a 0) w) (e2 : E' q = normL p (rdc p E P w (M i) r)) (e3 : ∀ k, q < k → k ≤ r → E' k = lsL p (E (k - 1)) (normL p (rdc p E P w (M i) r)) ((E (k - 1)).getD a 0) w) : EcI p M (i + 1) w E' (r + 1) (inP P q a) := fun n _ hn hF => by
  obtain ⟨g1, g2⟩ := h n hn hF
  have hb := prime_bd hp
  have hp0 : 0 < p := by omega
  have hB := rdc_B (E := E) (P := P) hp0 hR r
  have hdt := fun x hx => rdc_dt (P := P) hp0 hn hR hE x hx r (Nat.le_refl r)
  have hzz := rdc_zero hp0 hn hR hE g1 r (Nat.le_refl r)
  generalize hR' : rdc p E P w (M i) r = R' at *
  have hf : facP p R' = invP p (R'.getD a 0) := by unfold facP; rw [map_small hB.2, fnz_lead h0 h1]
  have b := hB.2 a
  obtain ⟨i1, i2, i3⟩ := inv_spec hp (n := R'.getD a 0) (by omega) b.2
  have hs : (ic (facP p R') : Fin n) * ic (R'.getD a 0) = 1 := by
    rw [hf, ← ic_mul, Int.mul_comm, ← ic_one, ic_eq n, ← hn, i3, Int.emod_eq_of_lt (by omega) (by omega)]
  have hno : ∀ j, (ic ((normL p R').getD j 0) : Fin n) = ic (facP p R') * ic (R'.getD j 0) := fun j => by
    rw [normL_get, hn, ic_mod n, ic_mul, ic_mod n]; grind
  have hN := rwB_no hp0 hB
  have key : ∀ k, k < r + 1 → inA (cM n E) (fun j => ic ((normL p R').getD j 0)) q a k = cM n E' k := fun k hk => by
    funext j
    unfold inA
    split
    · rename_i hl
      show cM n E k j - cM n E k a * _ = ic ((E' k).getD j 0)
      rw [e1 k hl, cM_ls hn (hE k (by omega)).1 hN.1]; rfl
    · split
      · rename_i hl; subst hl
        show _ = ic ((E' k).getD j 0)
        rw [e2]
      · show cM n E (k - 1) j - cM n E (k - 1) a * _ = ic ((E' k).getD j 0)
        rw [e3 k (by omega) (by omega), cM_ls hn (hE (k - 1) (by omega)).1 hN.1]; rfl
  have hin := in_ech (q := q) (r := fun j => (ic ((normL p R').getD j 0) : Fin n)) g1 hq ha (fun j hj => by rw [hno, h0 j hj, ic_zero]; grind) (by rw [hno]; exact hs) (fun k hk => by rw [hno, hzz k hk]; grind) hF.1
  refine ⟨⟨hin.lt, fun z hz => by rw [← key z hz]; exact hin.one z hz, fun z hz => by rw [← key z hz]; exact hin.low z hz, fun z hz k hk hne => by rw [← key k hk]; exact hin.oth z hz k hk hne⟩, fun x => ?_⟩
  rw [nullv_succ, g2 x, ← nullv_congr key x, in_null hq x]
  refine and_congr_right fun g => ?_
  show dt (fun j => (ic ((M i).getD j 0) : Fin n)) x w = 0 ↔ _
  rw [← hdt x g]
  have e : (fun j => (ic ((normL p R').getD j 0) : Fin n)) = fun j => ic (facP p R') * ic (R'.getD j 0) := funext hno
  rw [e, dt_scal (fun j => (ic (R'.getD j 0) : Fin n))]
  constructor
  · intro g; rw [g]; grind
  · intro g
    have : dt (fun j => (ic (R'.getD j 0) : Fin n)) x w = ic (R'.getD a 0) * (ic (facP p R') * dt (fun j => (ic (R'.getD j 0) : Fin n)) x w) := by grind
    rw [this, g]; grind
theorem EcI_end {p : Int} (hp : primeB p = true) {M : Nat → List Int} {m w : Nat} {E : Nat → List Int} {r : Nat} {P : Nat → Nat} (h : EcI p M m w E r P) : rkI p M m w = r :=
  rk_eq hp fun n _ hn hF => ⟨_, P, (h n hn hF).1, (h n hn hF).2⟩
end Go.Proofs.Ytoiolpgmilobnaa
namespace Go.Proofs.Ytoiolpgmilobnaa
set_option maxRecDepth 10000
set_option linter.unusedSimpArgs false
set_option linter.unusedVariables false
attribute [local irreducible] CW OW QW QOp Con thenP inBlockP AW QX RW AX
theorem l01LessB_con (p : Int) (t t' : TypeId) (R S : List Int) (n k k' : Nat) (m : Int) (hp : primeB p = true) (hR : n ≤ R.length) (hS : n ≤ S.length) (h9 : n ≤ 1000) (bR : ∀ j, j < n → 0 ≤ R.getD j 0 ∧ R.getD j 0 ≤ 12) (bS : ∀ j, j < n → 0 ≤ S.getD j 0 ∧ S.getD j 0 ≤ 12) (bm : 0 ≤ m ∧ m ≤ 12) : Con Try.prog [] 120 [.int p, .slice 0 0 n k, .slice 1 0 n k', .int m] [(0, .ints t R), (1, .ints t' S)] (fun v H' => ∃ k2 sp, n ≤ k2 ∧ k2 ≤ n + sp.length ∧ v = .slice 2 0 n k2 ∧ H' = [(0, .ints t R), (1, .ints t' S), (2, .ints 2 (lsL p R S m n ++ sp))]) := by
  have hb := prime_bd hp
  refine conW tab_ok [(0, .int p), (1, .slice 0 0 n k), (2, .slice 1 0 n k'), (3, .int m)] 2 [0, 1] [0, 1] Try.func120 rfl rfl rfl rfl rfl rfl rfl rfl rfl ?_
  refine cR ?_
  refine oA rfl rfl ?_
  refine oN ?_
  refine cR ?_
  refine oBsl (zl := []) (r := []) rfl rfl rfl rfl (.inl ⟨rfl, rfl⟩) rfl rfl rfl rfl rfl rfl ?_
  refine oA rfl rfl ?_
  refine oN ?_
  refine CW_seq ?_
  refine cR ?_
  refine oA rfl rfl ?_
  refine oN ?_
  refine CW_block ?_
  refine CW_loop (ι := Nat × Nat × List Int) (fun x => x.1 ≤ n ∧ x.1 ≤ x.2.1 ∧ x.2.1 ≤ x.1 + x.2.2.length) (fun x => ⟨[(0, .int p), (1, .slice 0 0 n k), (2, .slice 1 0 n k'), (3, .int m), (9, .slice 2 0 x.1 x.2.1), (10, .int x.1)], [(0, .ints t R), (1, .ints t' S), (2, .ints 2 (lsL p R S m x.1 ++ x.2.2))], 3⟩) (fun x => n - x.1) (0, 0, []) ?_ ?_ ?_
  · exact ⟨Nat.zero_le _, Nat.le_refl _, Nat.le_refl _⟩
  · refine View.mk' [] rfl rfl rfl ?_ ?_
    repeat' first | exact vFn | refine vFc rfl ?_ | exact vHn | refine vHc rfl ?_ | refine vFc (congrArg (fun z => some (V.int z)) ?_) ?_ | refine vHc (congrArg (fun z => some (Blk.ints _ z)) ?_) ?_ | refine vFc (congrArg (fun z => some (V.bool z)) ?_) ?_ | refine vFs rfl rfl ?_ ?_
  rintro ⟨i, kk, sp⟩ ⟨hi, hi2, hi3⟩
  dsimp only at hi hi2 hi3 ⊢
  have b1 := bR i
  have b2 := bS i
  have hlen : (lsL p R S m i).length = i * 1 := by rw [lsL_len]; omega
  refine CW_seq ?_
  refine cR ?_
  iterate 2 refine oM rfl rfl ?_
  first | refine oQ (Q_len rfl rfl rfl rfl) rfl rfl ?_ | refine oQ (Q_len0 rfl rfl rfl rfl) rfl rfl ?_
  refine oQ (Q_bin rfl rfl rfl) rfl rfl ?_
  refine oN ?_
  first | refine cT rfl ?_ | refine cF rfl ?_ | refine CW_cond rfl (fun hc => ?_) (fun hc => ?_)
  all_goals try simp only [s1, s2, s3, s4, s5, s6, s7, s8, s9, s10, s11, s12] at hc
  all_goals first
    | (
     refine CW_skip ?_)
    | (
     refine CW_exit ?_)
  all_goals first
    | with_reducible refine tR ?_
    | with_reducible refine tE ?_
    | (
     with_reducible refine tN ?_
     refine CW_seq ?_
     refine CW_block ?_
     refine CW_any (fun i => List.elem i [15, 16]) 17 rfl lateOk (by decide +kernel) (fun hst => ?_)
     refine aP 0 hst rfl rfl (by decide +kernel) (PX_move rfl rfl) rfl rfl ?_
     refine aP 1 hst rfl rfl (by decide +kernel) (PX_move rfl rfl) rfl rfl ?_
     refine aP 2 hst rfl rfl (by decide +kernel) (PX_move rfl rfl) rfl rfl ?_
     refine aP 3 hst rfl rfl (by decide +kernel) (PX_move rfl rfl) rfl rfl ?_
     first | refine aQ 4 hst rfl rfl (by decide +kernel) (QX_of (Is0 rfl rfl rfl rfl rfl rfl) NE_ix) rfl rfl ?_ | refine aQ 4 hst rfl rfl (by decide +kernel) (QX_of (Is1 rfl rfl rfl rfl rfl rfl) NE_ix) rfl rfl ?_
     refine aQ 5 hst rfl rfl (by decide +kernel) (QX_of (Ld rfl rfl rfl rfl) NE_load) rfl rfl ?_
     refine aP 6 hst rfl rfl (by decide +kernel) (PX_move rfl rfl) rfl rfl ?_
     refine aP 7 hst rfl rfl (by decide +kernel) (PX_move rfl rfl) rfl rfl ?_
     refine aP 8 hst rfl rfl (by decide +kernel) (PX_move rfl rfl) rfl rfl ?_
     first | refine aQ 9 hst rfl rfl (by decide +kernel) (QX_of (Is0 rfl rfl rfl rfl rfl rfl) NE_ix) rfl rfl ?_ | refine aQ 9 hst rfl rfl (by decide +kernel) (QX_of (Is1 rfl rfl rfl rfl rfl rfl) NE_ix) rfl rfl ?_
     refine aQ 10 hst rfl rfl (by decide +kernel) (QX_of (Ld rfl rfl rfl rfl) NE_load) rfl rfl ?_
     refine aMul 11 hst rfl rfl (by decide +kernel) 12 12 rfl rfl (by omega) (by omega) (by decide) rfl (fun z29 hz29 hl29 hu29 => ?_)
     first | refine aQ 12 hst rfl rfl (by decide +kernel) (QX_of (Q_binu rfl rfl rfl (by omega)) NE_bin) rfl rfl ?_ | refine aQ 12 hst rfl rfl (by decide +kernel) (QX_of (Q_bin rfl rfl rfl) NE_bin) rfl rfl ?_
     subst hz29
     refine aQ 13 hst rfl rfl (by decide +kernel) (QX_call0 (l01Mod_con (R.getD i 0 - m * S.getD i 0) p (by omega) (by omega)) rfl rfl rfl) rfl rfl ?_
     refine AW_one (i := 14) (by decide +kernel) ?_
     refine gBsl (zl := []) rfl rfl rfl rfl rfl rfl (.inl ⟨rfl, rfl⟩) rfl rfl rfl rfl rfl rfl ?_
     refine AW_last [15, 16] rfl (by decide +kernel) rfl ?_
     refine oApp (sz := 1) (by_ := 8) rfl rfl rfl rfl rfl rfl ⟨by decide, rfl, .inl ⟨rfl, rfl⟩⟩ rfl rfl rfl rfl rfl rfl hlen rfl (by omega) hi2 (by omega) (by omega) rfl rfl (fun k2 sp2 h1 h2 => ?_)
     refine oA rfl rfl ?_
     refine OW_nil (npN ?_)
     all_goals first | with_reducible refine bN ?_ | with_reducible refine bE ?_ | with_reducible refine bR ?_ | refine bX rfl ?_
     all_goals with_reducible refine tN ?_
     all_goals (
      refine CW_region ?_
      refine oM rfl rfl ?_
      first | refine oQ (Q_binu rfl rfl rfl (by omega)) rfl rfl ?_ | refine oQ (Q_bin rfl rfl rfl) rfl rfl ?_
      refine oA rfl rfl ?_
      refine OW_nil ?_))
  all_goals first
    | with_reducible refine tR ?_
    | with_reducible refine tE ?_
    | (
     with_reducible refine tN ?_
     refine ⟨(i + 1, k2, sp2), ?_, ?_, View.mk' [(2, 4)] rfl rfl rfl ?_ ?_⟩
     · exact ⟨by omega, by simpa using h1, by simpa using h2⟩
     · omega
     all_goals (repeat' first | exact vFn | refine vFc rfl ?_ | exact vHn | refine vHc rfl ?_ | refine vFc (congrArg (fun z => some (V.int z)) ?_) ?_ | refine vHc (congrArg (fun z => some (Blk.ints _ z)) ?_) ?_ | refine vFc (congrArg (fun z => some (V.bool z)) ?_) ?_ | refine vFs rfl rfl ?_ ?_)
     all_goals dsimp only
     all_goals (rw [lsL_snoc]; rfl))
  all_goals first | with_reducible refine bN ?_ | with_reducible refine bE ?_ | with_reducible refine bR ?_ | refine bX rfl ?_
  all_goals with_reducible refine tN ?_
  all_goals (
   refine cR ?_
   refine oM rfl rfl ?_
   refine oA rfl rfl ?_
   refine oN ?_
   refine CW_ret ?_)
  all_goals (
   have e : i = n := by omega
   subst e
   exact exitH (r0 := .slice 2 0 i kk) (H0 := [(0, .ints t R), (1, .ints t' S), (2, .ints 2 (lsL p R S m i ++ sp))]) (.inr rfl) [] 3 (.cons (.tmp rfl rfl) .nil) rfl rfl rfl (vHc rfl (vHc rfl (vHc rfl vHn))) rfl rfl ⟨kk, sp, hi2, hi3, rfl, rfl⟩)
theorem lsL_app (p : Int) {r s : List Int} (a b : List Int) (k : Int) {w : Nat} (hr : r.length = w) (hs : s.length = w) : lsL p (r ++ a) (s ++ b) k w = lsL p r s k w := by
  unfold lsL
  refine List.map_congr_left fun j hj => ?_
  have hj : j < w := by simpa using hj
  rw [getD_app (by omega), getD_app (by omega)]
theorem lessw_con {p : Int} (hp : primeB p = true) (t t' : TypeId) (w : Nat) (r s a b : List Int) (k k' : Nat) (m : Int) (h9 : w ≤ 1000) (hr : rwB p w r) (hs : rwB p w s) (hm : 0 ≤ m ∧ m < p) : Con Try.prog [] 120 [.int p, .slice 0 0 w k, .slice 1 0 w k', .int m] [(0, .ints t (r ++ a)), (1, .ints t' (s ++ b))] (fun v H' => ∃ k2 sp, w ≤ k2 ∧ k2 ≤ w + sp.length ∧ v = .slice 2 0 w k2 ∧ H' = [(0, .ints t (r ++ a)), (1, .ints t' (s ++ b)), (2, .ints 2 (lsL p r s m w ++ sp))]) := by
  have hb := prime_bd hp
  have := l01LessB_con p t t' (r ++ a) (s ++ b) w k k' m hp (by rw [List.length_append, hr.1]; omega) (by rw [List.length_append, hs.1]; omega) h9 (fun j hj => by rw [getD_app (by rw [hr.1]; exact hj)]; have := hr.2 j; omega) (fun j hj => by rw [getD_app (by rw [hs.1]; exact hj)]; have := hs.2 j; omega) (by omega)
  rwa [lsL_app p a b m hr.1 hs.1] at this
theorem leadw_con (t : TypeId) (w : Nat) (r a : List Int) (k : Nat) (h9 : w ≤ 1000) (hr : r.length = w) (v : Int) (hv : ldI r = v) : ConQ Try.prog [] 121 [.slice 0 0 w k] [(0, .ints t (r ++ a))] (.int v) := by
  have := l01Lead_con t (r ++ a) w k (by rw [List.length_append]; omega) (by omega)
  rwa [show (r ++ a).take w = r by rw [← hr, List.take_left], hv] at this
theorem normw_con {p : Int} (hp : primeB p = true) (t : TypeId) (w : Nat) (r a : List Int) (k : Nat) (h9 : w ≤ 1000) (hr : r.length = w) : Con Try.prog [] 122 [.int p, .slice 0 0 w k] [(0, .ints t (r ++ a))]
    (fun v H' => ∃ k' sp, w ≤ k' ∧ k' ≤ w + sp.length ∧ v = .tuple [.slice 1 0 w k', .bool (facP p r != 0)] ∧ H' = [(0, .ints t (r ++ a)), (1, .ints 2 (normL p r ++ sp))]) := by
  have := l01Norm_con p t (r ++ a) w k (by rw [List.length_append]; omega) hp (by omega)
  rwa [show (r ++ a).take w = r by rw [← hr, List.take_left]] at this
end Go.Proofs.Ytoiolpgmilobnaa
