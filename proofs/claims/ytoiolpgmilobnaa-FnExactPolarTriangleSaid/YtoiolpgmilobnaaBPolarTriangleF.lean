/- What the last text of PolarTriangle needs, part 6: contracts of functions and plain mathematics. No conditions beyond those each theorem states. -/
import Derived.LoopN
import Derived.Test.YtoiolpgmilobnaaBPolarTriangleE
namespace Go.Proofs.Ytoiolpgmilobnaa
set_option linter.unusedVariables false
section
variable {c : Cx} {s : S} {Q : Post}
def okPV (len : Nat) (ps : List (Nat × V)) : Bool := ps.all fun p => noAgg p.2 && Nat.blt p.1 len
/-- a slice of values of one cell, written out -/
theorem nr_bslv {dst : Option Tmp} {ty t : TypeId} {pos : String} {af : Array Edge} {ps : List (Nat × Operand)} {vs : List (Nat × V)} {z0 : V} {r : List V} {i ie : TI} {e len : Nat} (ht : lkT c.T t = some i) (hd : i.d = .slice e) (he : lkT c.T e = some ie) (hs : ie.size = 1) (hz : ie.z = some z0) (hz1 : (one z0 && noAgg z0) = true)
    (hp : evp c s.F ps = some vs) (hr : fillV (List.replicate len z0) vs = some r) (hok : okPV len vs = true) (hlim : len ≤ 16777216) : NewRun c s ⟨dst, .buildSlice t len ps.toArray, ty, pos, af, none⟩ (.vals e r) (.slice s.n 0 len len) := by
  intro ρ0 ρ a w0 w hg hfix hf hw hwf
  refine ⟨.cells (rvs ρ r).toArray e, w.alloc (.cells (rvs ρ r).toArray e), BR_vals_self, rfl, ⟨rfl, rfl, rfl, Nat.le_refl _⟩, ?_⟩
  have hu := (c.tok t i ht).1
  rw [hd] at hu
  obtain ⟨_, ⟨j, hj, _, _, hz'⟩, _⟩ := c.tok e ie he
  obtain ⟨hzz, hzi⟩ := hz' z0 hz
  have hzr : rv (fun b => b) z0 = rv ρ z0 := rv_congr z0 (fun b hb => by rw [hzi] at hb; simp at hb)
  rw [hzr] at hzz
  simp only [Bool.and_eq_true] at hz1
  have hcz : (rv ρ z0).cells = #[rv ρ z0] := cells_one' hz1.1 hz1.2
  have hlim' : ¬ 2 ^ 24 < len * 1 := by omega
  have hok' : ∀ p ∈ vs, noAgg p.2 = true ∧ p.1 < len := fun p hp => by
    have := List.all_eq_true.1 hok p hp
    simpa [Nat.blt_eq] using this
  have hfill := fill_vals (ρ := ρ) vs _ r hr (fun p hp => (hok' p hp).1) (fun p hp => by rw [List.length_replicate]; exact (hok' p hp).2)
  rw [← evp_rv hg hfix hf hp] at hfill
  have hcells : (Array.range (len * 1)).map (fun k => (#[rv ρ z0] : Array Value)[k % (#[rv ρ z0] : Array Value).size]!) = (rvs ρ (List.replicate len z0)).toArray := by
    apply Array.ext'
    simp [rvs_eq_map, List.map_const', Nat.mod_one]
  have hr1 : (Instr.buildSlice t len (ps.toArray.map fun p => (p.1, a.eval p.2))).run c.P w = .ok (.slice (some ⟨w.heap.size, 0, none⟩) len len) (w.alloc (.cells (rvs ρ r).toArray e)) := by
    unfold Instr.buildSlice
    simp only [Sem.run_bind, run_underlying hu, Result.andThen_ok, run_sizeOf' c.tok he, hs, if_neg hlim']
    by_cases hl : len * 1 = 0
    · have hl0 : len = 0 := by omega
      subst hl0
      simp only [Nat.zero_mul, if_true, Sem.run_bind, Sem.run_pure, Result.andThen_ok]
      simp only [List.replicate_zero, rvs, Nat.mul_one] at hfill
      have hz0 : ∀ f : Nat → Value, (Array.range (0 * 1)).map f = #[] := fun f => by simp
      simp only [Nat.zero_mul] at hz0
      simp [hz0, hfill, newRow]
    · simp only [if_neg hl, zeroValue, typeInfo, Sem.run_bind, run_program, Result.andThen_ok, hj, Sem.run_pure, hzz, hcz]
      rw [hcells]
      simp only [Nat.mul_one] at hfill
      simp [hfill, newRow]
  simp only [execOp, Sem.run_bind]
  rw [hr1]
  simp [rv, up]
end
/-- a loop of at most n rounds -/
def RW (c : Cx) (x : Code) (Q : Post) (n : Nat) (s : S) : Prop := ∀ ρ0 w0, GR c.gl c.D ρ0 → ∀ ρ a w, St c ρ0 w0 ρ s a w → Code.rounds c.P x (Lift c ρ0 w0 Q) n a w
theorem RW_succ {c : Cx} {x : Code} {Q : Post} {n : Nat} {s : S} (h : CW c x (thenP (RW c x Q n) Q) s) : RW c x Q (n + 1) s := by
  intro ρ0 w0 hg ρ a w hs
  refine Code.wp_mono ?_ (h ρ0 w0 hg ρ a w hs)
  rintro e a' w' ⟨s', ρ', hq, hs'⟩
  cases e <;> first | exact hq ρ0 w0 hg ρ' a' w' hs' | exact ⟨s', ρ', hq, hs'⟩
theorem CW_rounds {c : Cx} {x : Code} {Q : Post} {s : S} (n : Nat) (h : RW c x Q n s) : CW c (.loop x) Q s := fun ρ0 w0 hg ρ a w hs => wp_loop_rounds n (h ρ0 w0 hg ρ a w hs)
section
variable {c : Cx} {Q : Post} {F : Fr} {H : Hp} {n : Nat} {ops : Array Oper} {rest : List Oper} {tl : Nat → Bool} {m : Nat} {listed : Array Bool} {d : Nat} {ty : TypeId} {pos : String} {af : Array Edge}
theorem oBslv {t : TypeId} {ps : List (Nat × Operand)} {vs : List (Nat × V)} {z0 : V} {r : List V} {i ie : TI} {e len : Nat} (ht : lkT c.T t = some i) (hd : i.d = .slice e) (he : lkT c.T e = some ie) (hs : ie.size = 1) (hz : ie.z = some z0) (hz1 : (one z0 && noAgg z0) = true)
    (hp : evp c F ps = some vs) (hr : fillV (List.replicate len z0) vs = some r) (hok : okPV len vs = true) (hlim : Nat.ble len 16777216 = true) (hN : Nat.blt d c.N = true) (hn : Nat.blt n 1000 = true) (hk : sc n (idss r) = true)
    (h : OW c ops Q rest ⟨(d, .slice n 0 len len) :: F, (n, .vals e r) :: H, n + 1⟩) : OW c ops Q (⟨some d, .buildSlice t len ps.toArray, ty, pos, af, none⟩ :: rest) ⟨F, H, n⟩ :=
  OW_new (k := .vals e r) (v := .slice n 0 len len) rfl hN hn hk (by simp [sc, V.ids, Nat.blt_eq]) (nr_bslv ht hd he hs hz hz1 hp hr hok (Nat.le_of_ble_eq_true hlim)) h
theorem gBslv {i0 : Nat} {t : TypeId} {ps : List (Nat × Operand)} {vs : List (Nat × V)} {z0 : V} {r : List V} {i ie : TI} {e len : Nat} (hi : ops[i0]? = some ⟨some d, .buildSlice t len ps.toArray, ty, pos, af, none⟩) (htl : tl i0 = false) (ht : lkT c.T t = some i) (hd : i.d = .slice e) (he : lkT c.T e = some ie) (hs : ie.size = 1) (hz : ie.z = some z0) (hz1 : (one z0 && noAgg z0) = true)
    (hp : evp c F ps = some vs) (hr : fillV (List.replicate len z0) vs = some r) (hok : okPV len vs = true) (hlim : Nat.ble len 16777216 = true) (hN : Nat.blt d c.N = true) (hn : Nat.blt n 1000 = true) (hk : sc n (idss r) = true)
    (h : AW c ops tl Q m (listed.setIfInBounds i0 true) ⟨(d, .slice n 0 len len) :: F, (n, .vals e r) :: H, n + 1⟩) : GStep c ops tl Q m listed ⟨F, H, n⟩ i0 :=
  ⟨_, _, hi, rfl, htl, GOp_new (k := .vals e r) (v := .slice n 0 len len) hN hn hk (by simp [sc, V.ids, Nat.blt_eq]) (nr_bslv ht hd he hs hz hz1 hp hr hok (Nat.le_of_ble_eq_true hlim)), fun s' e => by subst e; exact h⟩
end
end Go.Proofs.Ytoiolpgmilobnaa
namespace Go.Proofs.Ytoiolpgmilobnaa
set_option linter.unusedVariables false
theorem mem_idss' : ∀ {l : List V} {b : Nat}, b ∈ idss l → ∃ v, v ∈ l ∧ b ∈ v.ids
  | [], b, h => by simp [idss] at h
  | v :: r, b, h => by
    rcases List.mem_append.1 (show b ∈ V.ids v ++ idss r by simpa [idss] using h) with h | h
    · exact ⟨v, by simp, h⟩
    · obtain ⟨u, hu, hb⟩ := mem_idss' h
      exact ⟨u, by simp [hu], hb⟩
theorem idss_mem : ∀ {l : List V} {v : V} {b : Nat}, v ∈ l → b ∈ v.ids → b ∈ idss l
  | u :: r, v, b, h, hb => by
    simp only [idss]
    rcases List.mem_cons.1 h with rfl | h
    · exact List.mem_append_left _ hb
    · exact List.mem_append_right _ (idss_mem h hb)
theorem idss_app : ∀ l m : List V, idss (l ++ m) = idss l ++ idss m
  | [], m => rfl
  | v :: r, m => by simp [idss, idss_app r m]
theorem idss_bots : ∀ n : Nat, idss (List.replicate n V.bot) = []
  | 0 => rfl
  | n + 1 => by rw [List.replicate_succ, idss, idss_bots n]; rfl
theorem ids_bots (t : TypeId) (l : List V) (n : Nat) : (Blk.vals t (l ++ List.replicate n V.bot)).ids = idss l := by
  show idss _ = _
  rw [idss_app, idss_bots, List.append_nil]
theorem rens_app (σ : Nat → Nat) (l m : List V) : rens σ (l ++ m) = rens σ l ++ rens σ m := by simp [rens_eq_map]
theorem rens_bots (σ : Nat → Nat) (n : Nat) : rens σ (List.replicate n V.bot) = List.replicate n V.bot := by simp [rens_eq_map, ren]
theorem ren_bots (σ : Nat → Nat) (t : TypeId) (l : List V) (n : Nat) : (Blk.vals t (l ++ List.replicate n V.bot)).ren σ = .vals t (rens σ l ++ List.replicate n V.bot) := by
  show Blk.vals t (rens σ _) = _
  rw [rens_app, rens_bots]
theorem putA_mid : ∀ (xs mid pre post : List Value), mid.length = xs.length → putA (pre ++ (mid ++ post)).toArray pre.length xs = (pre ++ (xs ++ post)).toArray
  | [], mid, pre, post, h => by have : mid = [] := List.eq_nil_of_length_eq_zero h; simp [putA, this]
  | x :: r, [], pre, post, h => by simp at h
  | x :: r, y :: mid, pre, post, h => by
    have ih := putA_mid r mid (pre ++ [x]) post (by simpa using h)
    simp only [List.length_append, List.length_cons, List.length_nil, Nat.zero_add, List.append_assoc, List.cons_append, List.nil_append] at ih
    simp only [putA, List.cons_append]
    rw [← ih]
    congr 1
    simp
theorem run_loadRow {P : Program} {w : World} {r : Nat} {t : TypeId} {xs : List Value} (h : w.heap[r]? = some (.cells xs.toArray t (0, 0))) {n : Nat} (hn : n ≤ xs.length) : (loadCells ⟨r, 0, none⟩ n).run P w = .ok (xs.take n).toArray w := by
  have hl := run_loadCells_list (P := P) w ⟨r, 0, none⟩ (xs.take n) (fun j v hv => by
    rw [add_none, cell_of_row w r (0 + j) _ _ _ h]
    rw [List.getElem?_take] at hv
    split at hv
    · simpa using hv
    · cases hv)
  rwa [List.length_take, Nat.min_eq_left hn] at hl
/-- values and what they are in a world -/
def RelL (ρ : Nat → Nat) (l : List V) (xs : List Value) : Prop := xs.length = l.length ∧ ∀ (i : Nat) (v : V), l[i]? = some v → ∃ x, xs[i]? = some x ∧ VR ρ v x
theorem RelL.app {ρ : Nat → Nat} {l m : List V} {xs ys : List Value} (h1 : RelL ρ l xs) (h2 : RelL ρ m ys) : RelL ρ (l ++ m) (xs ++ ys) := by
  refine ⟨by simp [h1.1, h2.1], fun i v hv => ?_⟩
  rcases Nat.lt_or_ge i l.length with h | h
  · rw [List.getElem?_append_left h] at hv
    obtain ⟨x, hx, hr⟩ := h1.2 i v hv
    exact ⟨x, by rw [List.getElem?_append_left (by rw [h1.1]; exact h)]; exact hx, hr⟩
  · rw [List.getElem?_append_right h] at hv
    obtain ⟨x, hx, hr⟩ := h2.2 _ v hv
    exact ⟨x, by rw [List.getElem?_append_right (by rw [h1.1]; exact h), h1.1]; exact hx, hr⟩
theorem RelL.pre {ρ : Nat → Nat} {l m : List V} {xs : List Value} (h : RelL ρ (l ++ m) xs) : RelL ρ l (xs.take l.length) := by
  refine ⟨by rw [List.length_take, h.1, List.length_append]; omega, fun i v hv => ?_⟩
  have hi : i < l.length := (List.getElem?_eq_some_iff.1 hv).1
  obtain ⟨x, hx, hr⟩ := h.2 i v (by rw [List.getElem?_append_left hi]; exact hv)
  exact ⟨x, by rw [List.getElem?_take, if_pos hi]; exact hx, hr⟩
theorem RelL.bots {ρ : Nat → Nat} {n : Nat} {xs : List Value} (h : xs.length = n) : RelL ρ (List.replicate n .bot) xs := by
  refine ⟨by simp [h], fun i v hv => ?_⟩
  have hi := (List.getElem?_eq_some_iff.1 hv)
  obtain ⟨hi, e⟩ := hi
  simp at hi e
  exact ⟨xs[i]'(by omega), by simp [h, hi], .inl e.symm⟩
theorem RelL.ones {ρ : Nat → Nat} {l : List V} {xs : List Value} (h : RelL ρ l xs) (h1 : (l.all fun v => one v && noAgg v) = true) : ∀ x ∈ xs, x.oneCell' = true := by
  intro x hx
  obtain ⟨i, hi, rfl⟩ := List.getElem_of_mem hx
  have hl : i < l.length := by rw [← h.1]; exact hi
  obtain ⟨y, hy, hr⟩ := h.2 i l[i] (by simp [hl])
  simp only [List.all_eq_true, Bool.and_eq_true] at h1
  obtain ⟨o1, o2⟩ := h1 _ (List.getElem_mem hl)
  rw [List.getElem?_eq_getElem hi] at hy
  injection hy with hy
  rw [hy]
  rcases hr with e | e
  · rw [e] at o1; simp [one] at o1
  · rw [e]; exact rv_one o1 o2
section
variable {c : Cx} {Q : Post} {F : Fr} {H : Hp} {n : Nat} {ops : Array Oper} {rest : List Oper} {d : Nat} {ty : TypeId} {pos : String} {af : Array Edge}
/-- append to an own list of lists: the told part A, what is put behind it -/
theorem oAppV {t t2 : TypeId} {ats : Array TypeId} {x y : Operand} {i i2 ie : TI} {e e2 b b' m k q q' by_ t' : Nat} {z0 : V} {A sp xl : List V}
    (hat : ats = #[t, t2]) (ht : lkT c.T t = some i) (hd : i.d = .slice e) (ht2 : lkT c.T t2 = some i2) (hd2 : i2.d = .slice e2) (he : lkT c.T e = some ie) (hsz : ie.size = 1) (hz : ie.z = some z0) (hz1 : (one z0 && noAgg z0) = true) (hby : ie.bytes = by_) (hb0 : Nat.blt 0 by_ = true)
    (hx : ev c F x = some (.slice b 0 m k)) (hy : ev c F y = some (.slice b' 0 q q')) (hb : lkB H b = some (.vals e (A ++ sp))) (hb' : lkB H b' = some (.vals t' xl)) (hA : A.length = m) (hxl : xl.length = q) (hone : (xl.all fun v => one v && noAgg v) = true) (hroom : m + sp.length = k)
    (hlim : (2 * (m + q) + 192) * by_ ≤ 281474976710656) (h63 : m + q ≤ 1000000000000) (hN : Nat.blt d c.N = true) (hn : Nat.blt n 1000 = true)
    (h : ∀ k' : Nat, m + q ≤ k' → OW c ops Q rest ⟨(d, .slice n 0 (m + q) k') :: F, (n, .vals e ((A ++ xl) ++ List.replicate (k' - (m + q)) .bot)) :: (b, .dead) :: H, n + 1⟩) :
    OW c ops Q (⟨some d, .call ⟨.builtin .append, #[x, y], ats⟩, ty, pos, af, none⟩ :: rest) ⟨F, H, n⟩ := by
  have h1000 : n < 1000 := by simpa [Nat.blt_eq] using hn
  have hb0 : 0 < by_ := by simpa [Nat.blt_eq] using hb0
  refine OW_any (ι := { k' : Nat // m + q ≤ k' }) (fun p => { F := F, H := (n, .vals e ((A ++ xl) ++ List.replicate (p.1 - (m + q)) .bot)) :: (b, .dead) :: H, n := n + 1 }) (fun p => .slice n 0 (m + q) p.1) rfl hN (fun _ => by simp [sc, V.ids, Nat.blt_eq]) (fun ρ0 w0 ρ a w hg hs => ?_)
    (fun p => h p.1 p.2)
  subst hat
  have hu := (c.tok t i ht).1
  rw [hd] at hu
  have hu2 := (c.tok t2 i2 ht2).1
  rw [hd2] at hu2
  obtain ⟨obb, hob1, hob2⟩ := hs.cc.hr.1 b _ hb (by simp)
  simp only [BR] at hob2
  obtain ⟨xb, hbl, hbx, rfl⟩ := hob2
  have hRb : RelL ρ (A ++ sp) xb := ⟨hbl, hbx⟩
  obtain ⟨oby, hoy1, hoy2⟩ := hs.cc.hr.1 b' _ hb' (by simp)
  simp only [BR] at hoy2
  obtain ⟨xy, hyl, hyx, rfl⟩ := hoy2
  have hRy : RelL ρ xl xy := ⟨hyl, hyx⟩
  have hyq : xy.length = q := by rw [hyl, hxl]
  have hbk : xb.length = k := by rw [hbl, List.length_append, hA, hroom]
  have hne : ∀ b', (b' < n ∨ 1000 ≤ b') → b' ≠ n := fun b' h => by omega
  have hids : ∀ r, ∀ b1 ∈ idss ((A ++ xl) ++ List.replicate r V.bot), b1 < n ∨ 1000 ≤ b1 := fun r b1 h1 => by
    obtain ⟨v, hv, hbv⟩ := mem_idss' h1
    rcases List.mem_append.1 hv with hv | hv
    · rcases List.mem_append.1 hv with hv | hv
      · exact hs.wf.hs b _ hb b1 (idss_mem (List.mem_append_left _ hv) hbv)
      · exact hs.wf.hs b' _ hb' b1 (idss_mem hv hbv)
    · rw [List.eq_of_mem_replicate hv] at hbv; simp [V.ids] at hbv
  have hones := hRy.ones hone
  have r1 : (Builtin.lenOf (rv ρ (.slice b' 0 q q'))).run c.P w = .ok q w := rfl
  have r2 : (Builtin.firstCells 1 q (rv ρ (.slice b' 0 q q'))).run c.P w = .ok xy.toArray w := by
    have := run_loadRow (P := c.P) (w := w) hoy1 (n := q * 1) (by omega)
    simp only [rv, Builtin.firstCells]
    rw [this, Nat.mul_one, ← hyq, List.take_length]
  by_cases hfit : m + q ≤ k
  · obtain ⟨w', hr, hwr⟩ := run_storeCells (P := c.P) xy w (ρ b) (0 + m * 1) 0 xb.toArray e hob1 hones (by simp; omega)
    have hrun : (Builtin.append_ #[t, t2] ty #[rv ρ (.slice b 0 m k), rv ρ (.slice b' 0 q q')]).run c.P w = .ok (rv ρ (.slice b 0 (m + q) k)) w' := by
      simp only [Builtin.append_, rv] at r1 r2 ⊢
      simp [run_underlying hu, run_underlying hu2, run_sizeOf' c.tok he, hsz, r1, r2, hfit, add_none]
      simp at hr
      simp [hr]
    have hsplit : xb = xb.take m ++ (((xb.drop m).take q) ++ xb.drop (m + q)) := by
      rw [show xb.drop (m + q) = (xb.drop m).drop q by rw [List.drop_drop], List.take_append_drop, List.take_append_drop]
    have hput : putA xb.toArray (0 + m * 1 + 0) xy = (xb.take m ++ (xy ++ xb.drop (m + q))).toArray := by
      have hl : (xb.take m).length = m := by simp; omega
      have := putA_mid xy ((xb.drop m).take q) (xb.take m) (xb.drop (m + q)) (by simp; omega)
      rw [hl, ← hsplit] at this
      rw [show 0 + m * 1 + 0 = m by omega]
      exact this
    rw [hput] at hwr
    have hbr : BR ρ (.vals e ((A ++ xl) ++ List.replicate (k - (m + q)) V.bot)) (.cells (xb.take m ++ (xy ++ xb.drop (m + q))).toArray e (0, 0)) := by
      have hRA := hRb.pre
      rw [hA] at hRA
      have := (hRA.app hRy).app (RelL.bots (ρ := ρ) (n := k - (m + q)) (xs := xb.drop (m + q)) (by simp [hbk]))
      rw [List.append_assoc (List.take m xb)] at this
      exact ⟨_, this.1, this.2, rfl⟩
    refine ⟨⟨k, hfit⟩, up ρ n (ρ b), w', ⟨hs.cc.adopt hb (by simp) rfl rfl (hs.wf.fresh n (Nat.le_refl _) h1000).2 (hs.wf.fresh n (Nat.le_refl _) h1000).1
      (fun b k' hl b' hb' => hne b' (hs.wf.hs b k' hl b' hb')) (fun b1 h1 => hne b1 (hids _ b1 (by simpa [Blk.ids] using h1))) hwr hbr, hs.fr.up hs.wf h1000 _, (hs.wf.kill hb).push (.vals e _) (sc_iff.2 fun b1 h1 => hids _ b1 (by simpa [Blk.ids] using h1))⟩, .inl (exec_app rfl hg hs hx hy rfl rfl ?_)⟩
    rw [hrun]
    have hbn : b ≠ n := by rintro rfl; have := (hs.wf.fresh b (Nat.le_refl _) h1000).1; rw [hb] at this; cases this
    simp [rv, up]
  · obtain ⟨_, ⟨j, hj, hjs, hjb, hz'⟩, _⟩ := c.tok e ie he
    obtain ⟨hzz, hzi⟩ := hz' z0 hz
    simp only [Bool.and_eq_true] at hz1
    have hcz : (rv (fun b => b) z0).cells = #[rv (fun b => b) z0] := cells_one' hz1.1 hz1.2
    have hcap : Builtin.nextslicecap (m + q) k ≤ 2 * (m + q) + 192 := nextslicecap_le (by omega)
    have hbytes : ¬ 2 ^ 48 < Builtin.nextslicecap (m + q) k * j.bytes := by
      rw [hjb, hby]
      have := Nat.mul_le_mul_right by_ hcap
      omega
    have hnb : j.bytes ≠ 0 := by rw [hjb, hby]; omega
    have q2 : (Builtin.firstCells 1 m (rv ρ (.slice b 0 m k))).run c.P w.drew = .ok (xb.take m).toArray w.drew := by
      have := run_loadRow (P := c.P) (w := w.drew) hob1 (n := m * 1) (by omega)
      simp only [rv, Builtin.firstCells]
      rw [this, Nat.mul_one]
    have r2d : (Builtin.firstCells 1 q (rv ρ (.slice b' 0 q q'))).run c.P w.drew = .ok xy.toArray w.drew := by
      have := run_loadRow (P := c.P) (w := w.drew) hoy1 (n := q * 1) (by omega)
      simp only [rv, Builtin.firstCells]
      rw [this, Nat.mul_one, ← hyq, List.take_length]
    have hzv : (zeroValue e).run c.P w.drew = .ok (rv (fun b => b) z0) w.drew := by
      simp [zeroValue, typeInfo, hj, hzz]
    let k' := (m + q) + w.tape w.drawn (.appendCap (m + q) k e) % (2 ^ 63 - (m + q))
    let zs := Builtin.zeroCells #[rv (fun b => b) z0] (k' - (m + q))
    have hzl : zs.toList.length = k' - (m + q) := by simp [zs, Builtin.zeroCells]
    have hrun : (Builtin.append_ #[t, t2] ty #[rv ρ (.slice b 0 m k), rv ρ (.slice b' 0 q q')]).run c.P w = .ok (.slice (some ⟨w.heap.size, 0, none⟩) (m + q) k') (w.drew.alloc (.cells ((xb.take m).toArray ++ xy.toArray ++ zs) e (0, 0))) := by
      simp only [Builtin.append_, rv] at r1 r2 r2d q2 ⊢
      simp [run_underlying hu, run_underlying hu2, run_sizeOf' c.tok he, hsz, r1, hfit, typeInfo, hj, hnb, hbytes, Question.forced, Question.cut, q2, r2d, hzv, hcz, newRow, k', zs]
      congr 2
      rw [← List.append_toArray, Array.append_assoc]
    have hbr : BR ρ (.vals e ((A ++ xl) ++ List.replicate (k' - (m + q)) V.bot)) (.cells ((xb.take m).toArray ++ xy.toArray ++ zs) e (0, 0)) := by
      have hRA := hRb.pre
      rw [hA] at hRA
      have := (hRA.app hRy).app (RelL.bots (ρ := ρ) (n := k' - (m + q)) (xs := zs.toList) hzl)
      exact ⟨_, this.1, this.2, by simp⟩
    have := (hs.kill hb).push h1000 (k := .vals e ((A ++ xl) ++ List.replicate (k' - (m + q)) V.bot)) (w' := w.drew.alloc (.cells ((xb.take m).toArray ++ xy.toArray ++ zs) e (0, 0))) (sc_iff.2 fun b1 h1 => hids _ b1 (by simpa [Blk.ids] using h1)) hbr rfl ⟨rfl, rfl, rfl, Nat.le_succ _⟩
    refine ⟨⟨k', by simp only [k']; omega⟩, _, _, this, .inl ?_⟩
    refine exec_app rfl hg hs hx hy rfl rfl ?_
    rw [hrun]
    simp [rv, up]
end
end Go.Proofs.Ytoiolpgmilobnaa
namespace Go.Proofs.Ytoiolpgmilobnaa
set_option linter.unusedVariables false
/-- a heap in which some blocks may not be looked at -/
def msk (D : List Nat) (H : Hp) : Hp := (D.map fun b => (b, Blk.dead)) ++ H
theorem msk_in {H : Hp} {b : Nat} : ∀ {D : List Nat}, b ∈ D → lkB (msk D H) b = some .dead
  | d :: D, h => by
    show lkB ((d, Blk.dead) :: msk D H) b = _
    rw [lkB_cons]
    split
    · rfl
    · rename_i e
      exact msk_in ((List.mem_cons.1 h).resolve_left fun x => e x.symm)
theorem msk_out {H : Hp} {b : Nat} : ∀ {D : List Nat}, b ∉ D → lkB (msk D H) b = lkB H b
  | [], _ => rfl
  | d :: D, h => by
    show lkB ((d, Blk.dead) :: msk D H) b = _
    rw [lkB_cons, if_neg (fun e => h (by subst e; exact List.mem_cons_self)), msk_out (fun x => h (List.mem_cons_of_mem _ x))]
theorem msk_live {D : List Nat} {H : Hp} {b : Nat} {k : Blk} (h : lkB (msk D H) b = some k) (hd : k ≠ .dead) : b ∉ D ∧ lkB H b = some k := by
  by_cases hb : b ∈ D
  · rw [msk_in hb] at h; injection h with h; exact absurd h.symm hd
  · exact ⟨hb, by rw [← msk_out hb]; exact h⟩
section
variable {c : Cx} {ρ0 ρ ρ' ρ2 : Nat → Nat} {H H' H2 : Hp} {w0 w : World} {D : List Nat}
theorem Ext_msk (D : List Nat) : Ext c ρ (msk D H) ρ H := ⟨fun _ _ h hd => ⟨(msk_live h hd).2, rfl, fun _ _ => rfl⟩, fun _ _ => rfl⟩
theorem Ext.msk (h : Ext c ρ (msk D H) ρ' H') : Ext c ρ (msk D H) ρ' (msk D H') := ⟨fun b k hb hd => by
  obtain ⟨h1, h2, h3⟩ := h.lk b k hb hd
  exact ⟨by rw [msk_out (msk_live hb hd).1]; exact h1, h2, h3⟩, h.d⟩
end
section
variable {c : Cx} {ρ0 : Nat → Nat} {w0 : World} {ops : Array Oper} {Q : Exit → Act → World → Prop} {D : List Nat}
/-- whichever order comes; the blocks of D are looked at by none but stores -/
def anyX (c : Cx) (ρ0 : Nat → Nat) (w0 : World) (ops : Array Oper) (Q : Exit → Act → World → Prop) (D : List Nat) : Nat → Array Bool → Act → (Nat → Nat) → Hp → Prop
  | 0, listed, a, ρ, H => Region.ready .any ops listed = [] ∧ ∀ w, CC c ρ0 w0 ρ H w → Q .normal a w
  | m + 1, listed, a, ρ, H => (Region.ready .any ops listed = [] → ∀ w, CC c ρ0 w0 ρ H w → Q .normal a w) ∧
    ∀ i ∈ Region.ready .any ops listed, ∀ w, CC c ρ0 w0 ρ H w → wpOp c.P ops Q i (fun a' w' => ∃ ρ' H', Ext c ρ (msk D H) ρ' H' ∧ CC c ρ0 w0 ρ' H' w' ∧ anyX c ρ0 w0 ops Q D m (listed.setIfInBounds i true) a' ρ' H') a w
theorem anyX_sound : ∀ (m : Nat) (listed : Array Bool) (a : Act) (ρ : Nat → Nat) (H : Hp) (w : World), CC c ρ0 w0 ρ H w → anyX c ρ0 w0 ops Q D m listed a ρ H → wpAny c.P .any ops Q m listed a w
  | 0, _, _, _, _, w, hw, h => ⟨h.1, h.2 w hw⟩
  | m + 1, _, _, _, _, w, hw, h => ⟨fun h0 => h.1 h0 w hw, fun i hi => wpOp_mono (fun a' w' h' => by
    obtain ⟨ρ', H', _, hw', h'⟩ := h'
    exact anyX_sound m _ a' ρ' H' w' hw' h') (h.2 i hi w hw)⟩
theorem YX.yieldsD {o : Oper} {v : Value} {ρ : Nat → Nat} {H : Hp} {a : Act} (h : YX c ρ0 w0 ops o v ρ (msk D H) a) : YieldsIn c.P ops (CC c ρ0 w0 ρ H) o v a :=
  h.imp (fun ⟨h1, h2⟩ => ⟨h1, h2 ρ H (Ext_msk D)⟩) id
theorem anyX_take {i : Nat} {oi : Oper} {v : Value} (hi : ops[i]? = some oi) (hs : Region.noSelect ops = true) (hQ : ∀ ch a w, ¬ Q (.panic ch) a w) : ∀ (m : Nat) (listed : Array Bool) (a : Act) (ρ : Nat → Nat) (H : Hp),
    (∀ j oj, ops[j]? = some oj → j ≠ i → listed.getD j true = false → (∀ e ∈ oj.after, Region.binds .any e = true → e.on ≠ i) → oi.apart ops oj = true) → i ∈ Region.ready .any ops listed → YX c ρ0 w0 ops oi v ρ (msk D H) a →
    anyX c ρ0 w0 ops Q D m (listed.setIfInBounds i true) (a.put oi.dst v) ρ H → anyX c ρ0 w0 ops Q D (m + 1) listed a ρ H := by
  have his : i < ops.size := (Array.getElem?_eq_some_iff.1 hi).1
  have nsel := Region.noSelect_spec hs
  intro m
  induction m with
  | zero =>
    intro listed a ρ H _ hr hy h
    refine ⟨fun h => by rw [h] at hr; (cases hr), fun j hj w hw => ?_⟩
    by_cases hji : j = i
    · subst hji; exact wpOp_quiet hi hy.yieldsD hw fun w' hw' => ⟨ρ, H, Ext_msk D, hw', h⟩
    · have := ready_mono hj hji
      rw [h.1] at this
      cases this
  | succ m ih =>
    intro listed a ρ H hfree hr hy h
    refine ⟨fun h => by rw [h] at hr; (cases hr), fun j hj w hw => ?_⟩
    by_cases hji : j = i
    · subst hji; exact wpOp_quiet hi hy.yieldsD hw fun w' hw' => ⟨ρ, H, Ext_msk D, hw', h⟩
    · obtain ⟨hjun, oj, hoj, hall⟩ := mem_ready.1 hj
      have hnot : ∀ e ∈ oj.after, Region.binds .any e = true → e.on ≠ i := fun e he hb heq => by
        have h1 := hall e he hb
        rw [heq] at h1
        exact unl (mem_ready.1 hr).1 h1
      have hfree' : ∀ k ok, ops[k]? = some ok → k ≠ i → (listed.setIfInBounds j true).getD k true = false → (∀ e ∈ ok.after, Region.binds .any e = true → e.on ≠ i) → oi.apart ops ok = true := fun k ok hk hki hun hno => by
        refine hfree k ok hk hki ?_ hno
        by_cases hjk : j = k
        · subst hjk; exact hjun
        · rw [getD_set_ne true hjk] at hun; exact hun
      have h1 := h.2 j (ready_mono hj hji) w hw
      have h2 := wpOp_swap (Y := YX c ρ0 w0 ops oi v ρ (msk D H)) hoj (hfree j oj hoj hji hjun hnot) (fun cs b => nsel i oi cs b hi) (fun cs b => nsel j oj cs b hoj) hQ YX.same hy h1
      refine wpOp_mono (fun a' w' ⟨hy', hk⟩ => ?_) h2
      obtain ⟨ρ', H', hx, hw', hk⟩ := hk
      refine ⟨ρ', H', hx, hw', ih (listed.setIfInBounds j true) a' ρ' H' hfree' (ready_mono hr (Ne.symm hji)) (hy'.ext hx.msk) ?_⟩
      rw [Array.setIfInBounds_comm _ _ hji]
      exact hk
end
def AX (c : Cx) (ops : Array Oper) (D : List Nat) (Q : Post) (m : Nat) (listed : Array Bool) (s : S) : Prop :=
  ∀ ρ0 w0, GR c.gl c.D ρ0 → ∀ ρ a, FR c ρ s.F a → WF c s → (∀ b ∈ c.D, ρ b = ρ0 b) → anyX c ρ0 w0 ops (np (Lift c ρ0 w0 Q)) D m listed a ρ s.H
def GOpX (c : Cx) (D : List Nat) (o : Oper) (s : S) (K : S → Prop) : Prop :=
  ∀ ρ0 w0, GR c.gl c.D ρ0 → ∀ ρ a, FR c ρ s.F a → WF c s → (∀ b ∈ c.D, ρ b = ρ0 b) → ∀ w, CC c ρ0 w0 ρ s.H w → ∀ Q, o.wp c.P a w (fun a' w' => ∃ s' ρ', K s' ∧ FR c ρ' s'.F a' ∧ WF c s' ∧ CC c ρ0 w0 ρ' s'.H w' ∧ Ext c ρ (msk D s.H) ρ' s'.H) Q
theorem GOpX_of {c : Cx} {D : List Nat} {o : Oper} {s : S} {K : S → Prop} (h : GOp c o s K) : GOpX c D o s K := fun ρ0 w0 hg ρ a hf hwf hfix w hw Q =>
  Oper.wp_mono (fun a' w' ⟨s', ρ', h1, h2, h3, h4, h5⟩ => ⟨s', ρ', h1, h2, h3, h4, (Ext_msk D).trans h5⟩) (h ρ0 w0 hg ρ a hf hwf hfix w hw Q)
def GStepX (c : Cx) (ops : Array Oper) (D : List Nat) (Q : Post) (m : Nat) (listed : Array Bool) (s : S) (i : Nat) : Prop :=
  ∃ o K, ops[i]? = some o ∧ o.guard = none ∧ GOpX c D o s K ∧ ∀ s', K s' → AX c ops D Q m (listed.setIfInBounds i true) s'
section
variable {c : Cx} {s : S} {Q : Post} {ops : Array Oper} {D : List Nat} {m : Nat} {listed : Array Bool}
theorem CW_anyX {id : Nat} {l : List Oper} (D : List Nat) (m : Nat) (hsz : l.toArray.size = m) (hm : c.P.follows .mixedOrders = true) (hst : Region.noSelect l.toArray = true)
    (h : Region.noSelect l.toArray = true → AX c l.toArray D Q m (Array.replicate m false) s) : CW c (.region id l.toArray true) Q s := by
  subst hsz
  have h := h hst
  intro ρ0 w0 hg ρ a w hs
  refine Code.wp_mono (fun e a w h => h.2) (wp_region_any (Q := np (Lift c ρ0 w0 Q)) hm ?_)
  exact anyX_sound (c := c) (D := D) _ _ _ _ _ _ hs.cc.drew (h ρ0 w0 hg ρ a hs.fr hs.wf hs.cc.inv.fix)
theorem AX_done (hr : Region.ready .any ops listed = []) (h : Q .normal s) : AX c ops D Q m listed s := by
  intro ρ0 w0 hg ρ a hf hwf hfix
  have : ∀ w, CC c ρ0 w0 ρ s.H w → np (Lift c ρ0 w0 Q) .normal a w := fun w hw => ⟨fun _ h => by (cases h), s, ρ, h, hw, hf, hwf⟩
  cases m with
  | zero => exact ⟨hr, this⟩
  | succ m => exact ⟨fun _ => this, by rw [hr]; simp⟩
theorem AX_any {rs : List Nat} (hr : Region.ready .any ops listed = rs) (hne : rs ≠ []) (h : ∀ i ∈ rs, GStepX c ops D Q m listed s i) : AX c ops D Q (m + 1) listed s := by
  intro ρ0 w0 hgr ρ a hf hwf hfix
  refine ⟨fun h0 => absurd (hr ▸ h0) hne, fun i hi w hw => ?_⟩
  obtain ⟨o, K, ho, hg, hG, hk⟩ := h i (hr ▸ hi)
  unfold wpOp
  simp only [ho]
  rw [if_pos (by simp [Region.wanted, hg])]
  refine .inl (Oper.wp_mono (fun a' w' h' => ?_) (hG ρ0 w0 hgr ρ a hf hwf hfix w hw _))
  obtain ⟨s', ρ', hK, hf', hwf', hw', hx⟩ := h'
  exact ⟨ρ', s'.H, hx, hw', hk s' hK ρ0 w0 hgr ρ' a' hf' hwf' hw'.inv.fix⟩
theorem AX_one {i : Nat} (hr : Region.ready .any ops listed = [i]) (h : GStepX c ops D Q m listed s i) : AX c ops D Q (m + 1) listed s := AX_any hr (by simp) (by simpa using h)
theorem AX_two {i j : Nat} (hr : Region.ready .any ops listed = [i, j]) (h : GStepX c ops D Q m listed s i) (h' : GStepX c ops D Q m listed s j) : AX c ops D Q (m + 1) listed s := AX_any hr (by simp) (by simpa using ⟨h, h'⟩)
theorem AX_take {i : Nat} {dst : Option Tmp} {op : Op} {ty : TypeId} {pos : String} {af : Array Edge} {g : Option (Nat × Bool)} {v : V} (hi : ops[i]? = some ⟨dst, op, ty, pos, af, g⟩) (hs : Region.noSelect ops = true) (hf : (Region.free .any ops listed i && (Region.ready .any ops listed).contains i) = true)
    (hg : ∀ ρ a, FR c ρ s.F a → Region.wanted ⟨dst, op, ty, pos, af, g⟩ (yielded ops a.tmps) = true) (hq : QX c ⟨dst, op, ty, pos, af, g⟩ ⟨s.F, msk D s.H, s.n⟩ v) (hN : okDst c.N dst = true)
    (hsc : sc s.n v.ids = true) (h : AX c ops D Q m (listed.setIfInBounds i true) (s.put dst v)) : AX c ops D Q (m + 1) listed s := by
  intro ρ0 w0 hgr ρ a hfr hwf hfix
  simp only [Bool.and_eq_true] at hf
  refine anyX_take hi hs (fun ch a w h => h.1 ch rfl) m listed a ρ s.H (Region.free_spec hi hf.1) (by simpa using hf.2) (.inl ⟨hg ρ a hfr, fun ρ' H' hx w hw => hq ρ0 w0 hgr ρ a hfr hfix ρ' H' hx w hw⟩) ?_
  have := h ρ0 w0 hgr ρ _ (hfr.put' dst v _ (okDst_lt hN) (.inr rfl)) (hwf.put dst v hsc) hfix
  rwa [put_H] at this
end
section
variable {c : Cx} {Q : Post} {F : Fr} {H : Hp} {n : Nat} {ops : Array Oper} {D : List Nat} {m : Nat} {listed : Array Bool} {d : Nat} {op : Op} {ty : TypeId} {pos : String} {af : Array Edge} {v : V}
theorem xQ (i : Nat) (hst : Region.noSelect ops = true) (hi : ops[i]? = some ⟨some d, op, ty, pos, af, none⟩) (hf : (Region.free .any ops listed i && (Region.ready .any ops listed).contains i) = true) (hq : QX c ⟨some d, op, ty, pos, af, none⟩ ⟨F, msk D H, n⟩ v) (hN : Nat.blt d c.N = true)
    (hsc : sc n v.ids = true) (h : AX c ops D Q m (listed.setIfInBounds i true) ⟨(d, v) :: F, H, n⟩) : AX c ops D Q (m + 1) listed ⟨F, H, n⟩ :=
  AX_take hi hst hf (fun _ _ _ => by simp [Region.wanted]) hq hN hsc h
theorem xAlloc {i0 : Nat} {t : TypeId} {i : TI} {k0 : Blk} (hi : ops[i0]? = some ⟨some d, .alloc t, ty, pos, af, none⟩) (ht : lkT c.T t = some i) (hz : i.z = some v) (ho : one v = true) (hk : mkBlk t v = k0) (hN : Nat.blt d c.N = true) (hn : Nat.blt n 1000 = true) (hsc : sc n k0.ids = true)
    (h : AX c ops D Q m (listed.setIfInBounds i0 true) ⟨(d, .ptr n 0) :: F, (n, k0) :: H, n + 1⟩) : GStepX c ops D Q m listed ⟨F, H, n⟩ i0 := by
  subst hk
  exact ⟨_, _, hi, rfl, GOpX_of (GOp_new (k := mkBlk t v) (v := .ptr n 0) hN hn hsc (by simp [sc, V.ids, Nat.blt_eq]) (nr_alloc ht hz ho)), fun s' e => by subst e; exact h⟩
theorem CW_cut {s : S} {ι : Type} (ok : ι → Prop) (I : ι → S) {x y : Code} (h : CW c x (thenP (fun s' => ∃ j, ok j ∧ View c (I j) s') Q) s) (k : ∀ i, ok i → CW c y Q (I i)) : CW c (.seq x y) Q s :=
  CW_seq (CW_mono (fun e s' hq => by
    cases e with
    | normal => obtain ⟨j, hj, hv⟩ := hq; exact CW_view hv (k j hj)
    | _ => exact hq) h)
theorem Ext_put {ρ : Nat → Nat} {b : Nat} {k : Blk} (hb : D.elem b = true) : Ext c ρ (msk D H) ρ ((b, k) :: H) := ⟨fun b1 k1 h hd => by
  obtain ⟨h1, h2⟩ := msk_live h hd
  refine ⟨?_, rfl, fun _ _ => rfl⟩
  rw [lkB_cons, if_neg]
  · exact h2
  · rintro rfl; exact h1 (by simpa using hb), fun _ _ => rfl⟩
theorem xSta {i0 : Nat} {t t' : TypeId} {x y : Operand} {i : TI} {b o : Nat} {u l : List Int} (hi : ops[i0]? = some ⟨none, .store t x y, ty, pos, af, none⟩) (hbD : D.elem b = true) (ht : lkT c.T t = some i) (hx : ev c F x = some (.ptr b o))
    (hy : ev c F y = some (.arr u)) (hb : lkB H b = some (.ints t' l)) (hsz : u.length = i.size) (ho : o + i.size ≤ l.length) (h : AX c ops D Q m (listed.setIfInBounds i0 true) ⟨F, (b, .ints t' (putI l o u)) :: H, n⟩) : GStepX c ops D Q m listed ⟨F, H, n⟩ i0 := by
  refine ⟨_, fun s' => s' = ⟨F, (b, .ints t' (putI l o u)) :: H, n⟩, hi, rfl, ?_, fun s' e => by subst e; exact h⟩
  intro ρ0 w0 hg ρ a hf hwf hfix w hw Q
  obtain ⟨ob, ho1, ho2⟩ := hw.hr.1 b _ hb (by simp)
  simp only [BR] at ho2; subst ho2
  obtain ⟨w', hr, hwr⟩ := run_storeVar (v := .agg (icells u)) (o := o) c.tok ht ho1 (oneInts u) (by simp [Value.cells, size_icells, hsz]) (by rw [size_icells]; omega)
  have hex : (execOp a.eval ⟨none, .store t x y, ty, pos, af, none⟩).run c.P w = .ok .skip w' := by
    simp only [icells] at hr
    simp [execOp, Instr.storeAt, Instr.sureAddr, ev_rv (s := ⟨F, H, n⟩) hg hfix hf hx (by simp), ev_rv (s := ⟨F, H, n⟩) hg hfix hf hy (by simp), rv, hr]
  unfold Oper.wp
  rw [hex]
  simp only [Oper.upon]
  refine ⟨_, ρ, rfl, hf, hwf.upd hb rfl, hw.wrote hb (by simp) rfl rfl hwr ?_, Ext_put hbD⟩
  have := putA_icells u l o
  simp only [BR]
  rw [← this]
  rfl
theorem xStw {i0 : Nat} {t t' : TypeId} {x y : Operand} {i : TI} {b : Nat} {u l : List Int} (hi : ops[i0]? = some ⟨none, .store t x y, ty, pos, af, none⟩) (hbD : D.elem b = true) (ht : lkT c.T t = some i) (hx : ev c F x = some (.ptr b 0))
    (hy : ev c F y = some (.arr u)) (hb : lkB H b = some (.ints t' l)) (h : AX c ops D Q m (listed.setIfInBounds i0 true) ⟨F, (b, .ints t' u) :: H, n⟩) (hsz : u.length = i.size := by first | omega | (dsimp only; omega) | (simp; omega) | (simp; done)) (ho : l.length = i.size := by first | omega | (dsimp only; omega) | (simp; omega) | (simp; done)) : GStepX c ops D Q m listed ⟨F, H, n⟩ i0 := by
  refine xSta hi hbD ht hx hy hb hsz (by omega) ?_
  have := putI_full u l [] (by omega)
  simp only [List.nil_append, List.length_nil] at this
  rw [this]; exact h
end
end Go.Proofs.Ytoiolpgmilobnaa
namespace Go.Proofs.Ytoiolpgmilobnaa
set_option maxRecDepth 10000
set_option linter.unusedSimpArgs false
set_option linter.unusedVariables false
/-- the place of the first number that is not 0, or -1 -/
def ldI (l : List Int) : Int := match (List.range l.length).find? (fun i => decide (l.getD i 0 ≠ 0)) with
  | some i => (i : Int)
  | none => -1
theorem ldI_found {l : List Int} {i : Nat} (hi : i < l.length) (h0 : ∀ j, j < i → l.getD j 0 = 0) (h : l.getD i 0 ≠ 0) : ldI l = (i : Int) := by
  have e : (List.range l.length).find? (fun i => decide (l.getD i 0 ≠ 0)) = some i := by
    rw [List.find?_eq_some_iff_getElem]
    refine ⟨by simpa using h, i, by simpa using hi, by simp, fun j hj => ?_⟩
    have := h0 j hj
    simpa using this
  unfold ldI; rw [e]
theorem ldI_none {l : List Int} (h0 : ∀ j, j < l.length → l.getD j 0 = 0) : ldI l = -1 := by
  have e : (List.range l.length).find? (fun i => decide (l.getD i 0 ≠ 0)) = none := by
    rw [List.find?_eq_none]
    intro j hj
    have := h0 j (by simpa using hj)
    simpa using this
  unfold ldI; rw [e]
attribute [local irreducible] CW OW QW QOp Con thenP inBlockP AW QX RW AX
theorem clone64_con (t : TypeId) (M : List Int) (o n k : Nat) (hn : o + n ≤ M.length) (h9 : n ≤ 1000000) : Con Try.prog [] 126 [.slice 0 o n k] [(0, .ints t M)] (fun v H' => ∃ k2 sp, n ≤ k2 ∧ k2 ≤ n + sp.length ∧ v = .slice 1 0 n k2 ∧ H' = [(0, .ints t M), (1, .ints 2 ((M.drop o).take n ++ sp))]) := by
  have hsl : ∀ H : Hp, lkB H 0 = some (.ints t M) → IsSl H 1 (.slice 0 o n k) n ((M.drop o).take n) := fun H h => by
    have := IsSl.mk (sz := 1) (o := o) (n := n) (k := k) h (by omega)
    simpa using this
  have hlen : ((M.drop o).take n).length = n := by simp; omega
  refine conW tab_ok [(0, .slice 0 o n k)] 1 [0] [0] Try.func126 rfl rfl rfl rfl rfl rfl rfl rfl rfl ?_
  refine cR ?_
  refine oA rfl rfl ?_
  refine oN ?_
  refine CW_seq ?_
  refine cR ?_
  refine oM rfl rfl ?_
  refine oQ (Q_eqnil rfl rfl rfl rfl) rfl rfl ?_
  refine oN ?_
  first | refine cT rfl ?_ | refine cF rfl ?_ | refine CW_cond rfl (fun hc => ?_) (fun hc => ?_)
  all_goals try simp only [s1, s2, s3, s4, s5, s6, s7, s8, s9, s10, s11, s12] at hc
  all_goals first
    | (
     refine CW_skip ?_)
    | (
     refine cR ?_
     refine oA rfl rfl ?_
     refine oN ?_
     refine CW_ret ?_)
  all_goals first
    | with_reducible refine tR ?_
    | with_reducible refine tE ?_
    | (
     with_reducible refine tN ?_
     refine cR ?_
     refine oBsl (zl := []) (r := []) rfl rfl rfl rfl (.inl ⟨rfl, rfl⟩) rfl rfl rfl rfl rfl rfl ?_
     refine oM rfl rfl ?_
     refine oAppOwn (sz := 1) (by_ := 8) (l := []) (m := 0) (k := 0) rfl rfl rfl rfl rfl rfl ⟨by decide, rfl, .inl ⟨rfl, rfl⟩⟩ rfl rfl rfl rfl rfl (hsl _ rfl) (by simp) (by omega) (by omega) (by omega) rfl rfl (fun k2 sp2 h1 h2 => ?_)
     (rw [Nat.zero_add] at h1 h2 ⊢)
     refine oA rfl rfl ?_
     refine oN ?_
     refine CW_ret ?_)
  all_goals (
   exact exitH (r0 := .slice 1 0 n k2) (H0 := [(0, .ints t M), (1, .ints 2 ((M.drop o).take n ++ sp2))]) (.inr rfl) [(1, 2)] 2 (.cons (.tmp rfl rfl) .nil) rfl rfl rfl (vHc rfl (vHc rfl vHn)) rfl rfl ⟨k2, sp2, h1, by omega, rfl, rfl⟩)
theorem l01Lead_con (t : TypeId) (L : List Int) (n k : Nat) (hn : n ≤ L.length) (h9 : n ≤ 1000000) : ConQ Try.prog [] 121 [.slice 0 0 n k] [(0, .ints t L)] (.int (ldI (L.take n))) := by
  have hl : (L.take n).length = n := by simp; omega
  have hg : ∀ j, j < n → (L.take n).getD j 0 = L.getD j 0 := fun j hj => by simp [List.getD, List.getElem?_take, hj]
  refine conW tab_ok [(0, .slice 0 0 n k)] 1 [0] [0] Try.func121 rfl rfl rfl rfl rfl rfl rfl rfl rfl ?_
  refine cR ?_
  refine oA rfl rfl ?_
  refine oN ?_
  refine CW_seq ?_
  refine cR ?_
  refine oA rfl rfl ?_
  refine oN ?_
  refine CW_block ?_
  refine CW_loop (ι := Nat) (fun i => i ≤ n ∧ ∀ j, j < i → L.getD j 0 = 0) (fun i => ⟨[(0, .slice 0 0 n k), (3, .int i)], [(0, .ints t L)], 1⟩) (fun i => n - i) 0 ?_ ?_ ?_
  · exact ⟨Nat.zero_le _, fun j h => absurd h (Nat.not_lt_zero _)⟩
  · refine View.mk' [] rfl rfl rfl ?_ ?_
    repeat' first | exact vFn | refine vFc rfl ?_ | exact vHn | refine vHc rfl ?_ | refine vFc (congrArg (fun z => some (V.int z)) ?_) ?_ | refine vHc (congrArg (fun z => some (Blk.ints _ z)) ?_) ?_ | refine vFc (congrArg (fun z => some (V.bool z)) ?_) ?_ | refine vFs rfl rfl ?_ ?_
  rintro i ⟨hi, hi2⟩
  refine CW_seq ?_
  refine cR ?_
  iterate 2 refine oM rfl rfl ?_
  first | refine oQ (Q_len rfl rfl rfl rfl) rfl rfl ?_ | refine oQ (Q_len0 rfl rfl rfl rfl) rfl rfl ?_
  refine oQ (Q_bin rfl rfl rfl) rfl rfl ?_
  refine oN ?_
  first | refine cT rfl ?_ | refine cF rfl ?_ | refine CW_cond rfl (fun hc => ?_) (fun hc => ?_)
  all_goals try simp only [s1, s2, s3, s4, s5, s6, s7, s8, s9, s10, s11, s12] at hc
  all_goals first
    | (
     refine CW_skip ?_)
    | (
     refine CW_exit ?_)
  all_goals first
    | with_reducible refine tR ?_
    | with_reducible refine tE ?_
    | (
     with_reducible refine tN ?_
     refine CW_seq ?_
     refine CW_block ?_
     refine cR ?_
     iterate 2 refine oM rfl rfl ?_
     first | refine oQ (Is0 rfl rfl rfl rfl rfl rfl) rfl rfl ?_ | refine oQ (Is1 rfl rfl rfl rfl rfl rfl) rfl rfl ?_
     refine oQ (Ld rfl rfl rfl rfl) rfl rfl ?_
     refine oQ (Q_bin rfl rfl rfl) rfl rfl ?_
     refine oN ?_
     first | refine cT rfl ?_ | refine cF rfl ?_ | refine CW_cond rfl (fun hc => ?_) (fun hc => ?_)
     all_goals try simp only [s1, s2, s3, s4, s5, s6, s7, s8, s9, s10, s11, s12] at hc
     all_goals first
       | (
        refine CW_skip ?_)
       | (
        refine cR ?_
        refine oM rfl rfl ?_
        refine oA rfl rfl ?_
        refine oN ?_
        refine CW_ret ?_)
     all_goals first | with_reducible refine bN ?_ | with_reducible refine bE ?_ | with_reducible refine bR ?_ | refine bX rfl ?_
     all_goals first
       | with_reducible refine tR ?_
       | with_reducible refine tE ?_
       | (
        with_reducible refine tN ?_
        refine CW_region ?_
        refine oM rfl rfl ?_
        first | refine oQ (Q_binu rfl rfl rfl (by omega)) rfl rfl ?_ | refine oQ (Q_bin rfl rfl rfl) rfl rfl ?_
        refine oA rfl rfl ?_
        refine OW_nil ?_))
  all_goals first
    | with_reducible refine tR ?_
    | with_reducible refine tE ?_
    | (
     with_reducible refine tN ?_
     refine ⟨i + 1, ?_, ?_, View.mk' [] rfl rfl rfl ?_ ?_⟩
     · refine ⟨by omega, fun j hj => ?_⟩
       by_cases e : j = i
       · subst e; first | exact hc | exact Decidable.not_not.1 hc
       · exact hi2 j (by omega)
     · omega
     all_goals (repeat' first | exact vFn | refine vFc rfl ?_ | exact vHn | refine vHc rfl ?_ | refine vFc (congrArg (fun z => some (V.int z)) ?_) ?_ | refine vHc (congrArg (fun z => some (Blk.ints _ z)) ?_) ?_ | refine vFc (congrArg (fun z => some (V.bool z)) ?_) ?_ | refine vFs rfl rfl ?_ ?_))
  all_goals first | with_reducible refine bN ?_ | with_reducible refine bE ?_ | with_reducible refine bR ?_ | refine bX rfl ?_
  all_goals first
    | with_reducible refine tR ?_
    | with_reducible refine tE ?_
    | (
     with_reducible refine tN ?_
     refine cR ?_
     refine oA rfl rfl ?_
     refine oN ?_
     refine CW_ret ?_)
  all_goals (
   refine exitQ (.inr rfl) 1 (.cons (.tmp rfl rfl) .nil) ?_ rfl (vHc rfl vHn) rfl rfl
   first
     | exact congrArg V.int (ldI_found (by omega) (fun j hj => by rw [hg j (by omega)]; exact hi2 j hj) (by rw [hg i (by omega)]; exact hc)).symm
     | exact congrArg V.int (ldI_none (fun j hj => by rw [hg j (by omega)]; exact hi2 j (by omega))).symm)
end Go.Proofs.Ytoiolpgmilobnaa
namespace Go.Proofs.Ytoiolpgmilobnaa
set_option maxRecDepth 10000
set_option linter.unusedSimpArgs false
set_option linter.unusedVariables false
attribute [local irreducible] CW OW QW QOp Con thenP inBlockP AW QX RW AX
theorem own64_con (t : TypeId) (M : List Int) (o n k : Nat) (hn : o + n ≤ M.length) (h9 : n ≤ 1000000) : Con Try.prog [] 119 [.slice 0 o n k] [(0, .ints t M)] (fun v H' => ∃ k2 sp, n ≤ k2 ∧ k2 ≤ n + sp.length ∧ v = .slice 1 0 n k2 ∧ H' = [(0, .ints t M), (1, .ints 2 ((M.drop o).take n ++ sp))]) := by
  have hsl : ∀ H : Hp, lkB H 0 = some (.ints t M) → IsSl H 1 (.slice 0 o n k) n ((M.drop o).take n) := fun H h => by
    have := IsSl.mk (sz := 1) (o := o) (n := n) (k := k) h (by omega)
    simpa using this
  refine conW tab_ok [(0, .slice 0 o n k)] 1 [0] [0] Try.func119 rfl rfl rfl rfl rfl rfl rfl rfl rfl ?_
  refine cR ?_
  refine oA rfl rfl ?_
  refine oN ?_
  refine cR ?_
  refine oBsl (zl := []) (r := []) rfl rfl rfl rfl (.inl ⟨rfl, rfl⟩) rfl rfl rfl rfl rfl rfl ?_
  refine oM rfl rfl ?_
  refine oAppOwn (sz := 1) (by_ := 8) (l := []) (m := 0) (k := 0) rfl rfl rfl rfl rfl rfl ⟨by decide, rfl, .inl ⟨rfl, rfl⟩⟩ rfl rfl rfl rfl rfl (hsl _ rfl) (by simp) (by omega) (by omega) (by omega) rfl rfl (fun k2 sp2 h1 h2 => ?_)
  (rw [Nat.zero_add] at h1 h2 ⊢)
  refine oA rfl rfl ?_
  refine oN ?_
  refine CW_ret ?_
  all_goals (
   exact exitH (r0 := .slice 1 0 n k2) (H0 := [(0, .ints t M), (1, .ints 2 ((M.drop o).take n ++ sp2))]) (.inr rfl) [(1, 2)] 2 (.cons (.tmp rfl rfl) .nil) rfl rfl rfl (vHc rfl (vHc rfl vHn)) rfl rfl ⟨k2, sp2, h1, by omega, rfl, rfl⟩)
end Go.Proofs.Ytoiolpgmilobnaa
namespace Go.Proofs.Ytoiolpgmilobnaa
set_option linter.unusedVariables false
section
variable {c : Cx} {ops : Array Oper} {Q : Post} {rest : List Oper} {F : Fr} {H : Hp} {n : Nat} {v : V} {ty : TypeId} {pos : String} {af : Array Edge}
theorem oStvB {t t' : TypeId} {x y : Operand} {i : TI} {b o m : Nat} {A A' : List V} (ht : lkT c.T t = some i) (hsz : i.size = 1) (hx : ev c F x = some (.ptr b o)) (hy : ev c F y = some v) (hb : lkB H b = some (.vals t' (A ++ List.replicate m .bot))) (h1 : one v = true) (h2 : noAgg v = true) (ho : o < A.length)
    (hl : A.set o v = A') (hsc : sc n (idss A') = true) (h : OW c ops Q rest ⟨F, (b, .vals t' (A' ++ List.replicate m .bot)) :: H, n⟩) : OW c ops Q (⟨none, .store t x y, ty, pos, af, none⟩ :: rest) ⟨F, H, n⟩ := by
  refine oStv ht hsz hx hy hb h1 h2 (by rw [List.length_append]; omega) ?_ (by rw [idss_app, idss_bots, List.append_nil]; exact hsc) h
  rw [List.set_append_left _ _ ho, hl]
end
end Go.Proofs.Ytoiolpgmilobnaa
namespace Go.Proofs.Ytoiolpgmilobnaa
set_option maxRecDepth 10000
set_option linter.unusedSimpArgs false
set_option linter.unusedVariables false
/-- rows, room and spare cells of the list that is being reduced -/
structure RS where
  cnt : Nat
  c : Nat
  A : Nat → List Int
  K : Nat → Nat
  S : Nat → List Int
/-- the rows after the row N is normal and k rows are done -/
def rw3 (p : Int) (A : Nat → List Int) (N c w k j : Nat) : List Int := if j = N then normL p (A N) else if j < k then lsL p (A j) (normL p (A N)) ((A j).getD c 0) w else A j
/-- and within the row k, j numbers are done -/
def rw4 (p : Int) (A : Nat → List Int) (N c w k j i : Nat) : List Int := if i = k then lsL p (A k) (normL p (A N)) ((A k).getD c 0) j ++ (A k).drop j else rw3 p A N c w k i
def rdB (p : Int) (A : Nat → List Int) (m w : Nat) : Prop := ∀ i, i < m → (A i).length = w ∧ ∀ j, 0 ≤ (A i).getD j 0 ∧ (A i).getD j 0 < p
theorem normL_bd {p : Int} (hp : 0 < p) (l : List Int) (j : Nat) : 0 ≤ (normL p l).getD j 0 ∧ (normL p l).getD j 0 < p := by
  rw [normL_get]
  exact ⟨Int.emod_nonneg _ (by omega), Int.emod_lt_of_pos _ hp⟩
theorem lsL_bd {p : Int} (hp : 0 < p) (r s : List Int) (k : Int) (w j : Nat) : 0 ≤ (lsL p r s k w).getD j 0 ∧ (lsL p r s k w).getD j 0 < p := by
  by_cases h : j < w
  · rw [lsL_get _ _ _ _ _ _ h]
    exact ⟨Int.emod_nonneg _ (by omega), Int.emod_lt_of_pos _ hp⟩
  · rw [lsL_get2 _ _ _ _ _ _ (by omega)]; omega
theorem rw3_bd {p : Int} (hp : 0 < p) {A : Nat → List Int} {m w N c k : Nat} (hN : N < m) (h : rdB p A m w) : rdB p (rw3 p A N c w k) m w := fun i hi => by
  unfold rw3
  split
  · exact ⟨by rw [normL_length]; exact (h N hN).1, normL_bd hp _⟩
  · split
    · exact ⟨lsL_len .., lsL_bd hp _ _ _ _⟩
    · exact h i hi
theorem getD_app {l s : List Int} {j : Nat} (h : j < l.length) : (l ++ s).getD j 0 = l.getD j 0 := by
  simp only [List.getD]; rw [List.getElem?_append_left h]
theorem rw3_at {p : Int} {A : Nat → List Int} {N c w k : Nat} (h : k ≠ N) : rw3 p A N c w k k = A k := by
  unfold rw3; rw [if_neg h, if_neg (by omega)]
theorem rw3_up {p : Int} {A : Nat → List Int} {N c w k j : Nat} (h : j ≠ k) : rw3 p A N c w (k + 1) j = rw3 p A N c w k j := by
  unfold rw3
  by_cases e : j = N
  · rw [if_pos e, if_pos e]
  · rw [if_neg e, if_neg e]
    by_cases l : j < k
    · rw [if_pos l, if_pos (by omega)]
    · rw [if_neg l, if_neg (by omega)]
theorem rw3_upN {p : Int} {A : Nat → List Int} {N c w k j : Nat} (h : k = N) : rw3 p A N c w (k + 1) j = rw3 p A N c w k j := by
  by_cases e : j = k
  · subst e; unfold rw3; rw [if_pos h, if_pos h]
  · exact rw3_up e
theorem lsL_zero {p : Int} {r s : List Int} {k : Int} {w : Nat} (hk : k = 0) (hl : r.length = w) (hb : ∀ j, 0 ≤ r.getD j 0 ∧ r.getD j 0 < p) : lsL p r s k w = r := by
  apply List.ext_getElem
  · rw [lsL_len, hl]
  · intro i h1 h2
    have := lsL_get p r s k w i (by rw [← hl]; exact h2)
    have b := hb i
    simp only [List.getD, List.getElem?_eq_getElem h1, List.getElem?_eq_getElem h2, Option.getD_some] at this b
    rw [this, hk, Int.zero_mul, Int.sub_zero, Int.emod_eq_of_lt b.1 b.2]
/-- a row with a 0 in the column stays -/
theorem rw3_zero {p : Int} {A : Nat → List Int} {m N c w k j : Nat} (hk : k < m) (h : rdB p A m w) (h0 : (A k).getD c 0 = 0) : rw3 p A N c w (k + 1) j = rw3 p A N c w k j := by
  by_cases e : j = k
  · subst e
    by_cases eN : j = N
    · exact rw3_upN eN
    · rw [rw3_at eN]
      unfold rw3; rw [if_neg eN, if_pos (by omega)]
      exact lsL_zero h0 (h j hk).1 (h j hk).2
  · exact rw3_up e
theorem rw4_zero {p : Int} {A : Nat → List Int} {N c w k i : Nat} (hN : k ≠ N) : rw4 p A N c w k 0 i = rw3 p A N c w k i := by
  unfold rw4
  split
  · rename_i e; subst e; rw [rw3_at hN]; simp [lsL]
  · rfl
theorem rw4_end {p : Int} {A : Nat → List Int} {m N c w k j i : Nat} (hN : k ≠ N) (hk : k < m) (h : rdB p A m w) (hj : j = w) : rw4 p A N c w k j i = rw3 p A N c w (k + 1) i := by
  subst hj
  unfold rw4
  split
  · rename_i e; subst e
    unfold rw3; rw [if_neg hN, if_pos (by omega), List.drop_of_length_le (by rw [(h i hk).1]; omega), List.append_nil]
  · rename_i e; exact (rw3_up e).symm
theorem rw4_get {p : Int} {A : Nat → List Int} {m N c w k j : Nat} {s : List Int} (hk : k < m) (h : rdB p A m w) (hj : j < w) : (rw4 p A N c w k j k ++ s).getD j 0 = (A k).getD j 0 := by
  have hl := (h k hk).1
  unfold rw4; rw [if_pos rfl]
  simp only [List.getD]
  rw [List.append_assoc, List.getElem?_append_right (by rw [lsL_len]; omega), lsL_len, Nat.sub_self, List.getElem?_append_left (by simp; omega), List.getElem?_drop, Nat.add_zero]
theorem rw4_len {p : Int} {A : Nat → List Int} {m N c w k j i : Nat} (hN : N < m) (hk : k < m) (hi : i < m) (h : rdB p A m w) (hj : j ≤ w) : (rw4 p A N c w k j i).length = w := by
  have hl := (h k hk).1
  unfold rw4
  split
  · rw [List.length_append, lsL_len, List.length_drop]; omega
  · unfold rw3
    split
    · rw [normL_length]; exact (h N hN).1
    · split
      · exact lsL_len ..
      · exact (h i hi).1
theorem rw4_getN {p : Int} {A : Nat → List Int} {m N c w k j : Nat} {s : List Int} (hN : N < m) (hne : N ≠ k) (h : rdB p A m w) (hj : j < w) : (rw4 p A N c w k j N ++ s).getD j 0 = (normL p (A N)).getD j 0 := by
  unfold rw4 rw3; rw [if_neg hne, if_pos rfl]
  exact getD_app (by rw [normL_length, (h N hN).1]; exact hj)
theorem set_at {α : Type} (a b : List α) (x y : α) (j : Nat) (h : a.length = j) : (a ++ (x :: b)).set j y = a ++ y :: b := by
  subst h; simp
theorem rw4_set {p : Int} {A : Nat → List Int} {m N c w k j : Nat} {s : List Int} (hk : k < m) (h : rdB p A m w) (hj : j < w) : (rw4 p A N c w k j k ++ s).set j (((A k).getD j 0 - (A k).getD c 0 * (normL p (A N)).getD j 0) % p) = rw4 p A N c w k (j + 1) k ++ s := by
  have hl := (h k hk).1
  unfold rw4; rw [if_pos rfl, if_pos rfl, lsL_snoc, List.append_assoc, List.drop_eq_getElem_cons (by omega), List.cons_append, set_at _ _ _ _ _ (lsL_len ..)]
  simp
/-- a round of the program is a round of the plain law -/
theorem rd_step {p : Int} (hp : primeB p = true) {M : Nat → List Int} {m w : Nat} {A A' : Nat → List Int} {N c i : Nat} (h : RedI p M m w A N c) (hA : rdB p A m w) (h1 : N ≤ i) (h2 : i < m) (hcw : c < w) (h0 : (A i).getD c 0 ≠ 0) (e1 : A' N = A i) (e2 : ∀ k, k < m → k ≠ N → A' k = if k = i then A N else A k) : RedI p M m w (rw3 p A' N c w m) (N + 1) (c + 1) := by
  refine RedI_piv hp h h1 h2 hcw (fun k hk => (hA k hk).1) (fun k hk => (hA k hk).2) h0 ?_ ?_
  · unfold rw3; rw [if_pos rfl, e1]
  · intro k hk hne
    unfold rw3; rw [if_neg hne, if_pos hk, e1, e2 k hk hne]
end Go.Proofs.Ytoiolpgmilobnaa
namespace Go.Proofs.Ytoiolpgmilobnaa
set_option maxRecDepth 10000
set_option linter.unusedSimpArgs false
set_option linter.unusedVariables false
set_option linter.unusedSectionVars false
open Lean.Grind
/-- the row R, less its multiples of k rows that lead at P -/
def rdc (p : Int) (E : Nat → List Int) (P : Nat → Nat) (w : Nat) (R : List Int) : Nat → List Int
  | 0 => R
  | k + 1 => lsL p (rdc p E P w R k) (E k) ((rdc p E P w R k).getD (P k) 0) w
def rwB (p : Int) (w : Nat) (R : List Int) : Prop := R.length = w ∧ ∀ j, 0 ≤ R.getD j 0 ∧ R.getD j 0 < p
theorem rwB_ls {p : Int} (hp : 0 < p) (r s : List Int) (k : Int) (w : Nat) : rwB p w (lsL p r s k w) := ⟨lsL_len .., lsL_bd hp _ _ _ _⟩
theorem rwB_no {p : Int} (hp : 0 < p) {w : Nat} {r : List Int} (h : rwB p w r) : rwB p w (normL p r) := ⟨by rw [normL_length]; exact h.1, normL_bd hp _⟩
theorem rdc_B {p : Int} (hp : 0 < p) {E : Nat → List Int} {P : Nat → Nat} {w : Nat} {R : List Int} (h : rwB p w R) : ∀ k, rwB p w (rdc p E P w R k)
  | 0 => h
  | k + 1 => rwB_ls hp _ _ _ _
def EcI (p : Int) (M : Nat → List Int) (i w : Nat) (E : Nat → List Int) (r : Nat) (P : Nat → Nat) : Prop :=
  ∀ (n : Nat) [NeZero n], p = (n : Int) → Fld (Fin n) → Ech (cM n E) r w P ∧ ∀ x, NullV (cM n M) i w x ↔ NullV (cM n E) r w x
theorem EcI_start (p : Int) (M : Nat → List Int) (w : Nat) (E : Nat → List Int) (P : Nat → Nat) : EcI p M 0 w E 0 P := fun n _ _ _ =>
  ⟨⟨fun i h => absurd h (Nat.not_lt_zero _), fun i h => absurd h (Nat.not_lt_zero _), fun i h => absurd h (Nat.not_lt_zero _), fun i h => absurd h (Nat.not_lt_zero _)⟩, fun x => ⟨fun _ i h => absurd h (Nat.not_lt_zero _), fun _ i h => absurd h (Nat.not_lt_zero _)⟩⟩
theorem EcI_lt {p : Int} (hp : primeB p = true) {M : Nat → List Int} {i w : Nat} {E : Nat → List Int} {r : Nat} {P : Nat → Nat} (h : EcI p M i w E r P) {k : Nat} (hk : k < r) : P k < w := by
  obtain ⟨n, _, e, hF, _⟩ := fld_of hp
  exact (h n e hF).1.lt k hk
theorem EcI_ld {p : Int} (hp : primeB p = true) {M : Nat → List Int} {i w : Nat} {E : Nat → List Int} {r : Nat} {P : Nat → Nat} (h : EcI p M i w E r P) {k : Nat} (hk : k < r) (hb : rwB p w (E k)) : ldI (E k) = (P k : Int) := by
  obtain ⟨n, _, e, hF, _⟩ := fld_of hp
  obtain ⟨g, _⟩ := h n e hF
  refine ldI_found (by rw [hb.1]; exact g.lt k hk) (fun j hj => ?_) (fun e0 => ?_)
  · have b := hb.2 j
    exact ic_small b.1 (by omega) (g.low k hk j hj)
  · have := g.one k hk
    change (ic ((E k).getD (P k) 0) : Fin n) = 1 at this
    rw [e0, ic_zero] at this
    exact hF.1 this.symm
theorem ldI_all {l : List Int} (h : ldI l < 0) : ∀ j, l.getD j 0 = 0 := by
  intro j
  by_cases hj : j < l.length
  · apply Classical.byContradiction
    intro hn
    unfold ldI at h
    cases hf : (List.range l.length).find? (fun i => decide (l.getD i 0 ≠ 0)) with
    | some q => rw [hf] at h; simp at h; omega
    | none =>
      rw [List.find?_eq_none] at hf
      have := hf j (by simpa using hj)
      simp only [ne_eq, decide_not, Bool.not_eq_true', decide_eq_false_iff_not] at this
      exact this hn
  · simp [List.getD, show l.length ≤ j by omega]
theorem ldI_at {l : List Int} (h : ¬ ldI l < 0) : (ldI l).toNat < l.length ∧ (∀ j, j < (ldI l).toNat → l.getD j 0 = 0) ∧ l.getD (ldI l).toNat 0 ≠ 0 := by
  unfold ldI at h ⊢
  cases hf : (List.range l.length).find? (fun i => decide (l.getD i 0 ≠ 0)) with
  | none => rw [hf] at h; simp at h
  | some q =>
    rw [List.find?_eq_some_iff_getElem] at hf
    obtain ⟨h1, j, hj, e, h2⟩ := hf
    simp only [List.length_range] at hj
    simp only [List.getElem_range] at e
    subst e
    refine ⟨by simpa using hj, fun z hz => ?_, by simpa using h1⟩
    have := h2 z (by simpa using hz)
    simpa using this
theorem cM_ls {n : Nat} [NeZero n] {p : Int} (hn : p = (n : Int)) {w : Nat} {r s : List Int} (hr : r.length = w) (hs : s.length = w) (k : Int) (j : Nat) : (ic ((lsL p r s k w).getD j 0) : Fin n) = ic (r.getD j 0) - ic k * ic (s.getD j 0) := by
  by_cases hj : j < w
  · rw [lsL_get _ _ _ _ _ _ hj, hn, ic_mod n, ic_sub, ic_mul]
  · rw [lsL_get2 _ _ _ _ _ _ (by omega)]
    have z1 : r.getD j 0 = 0 := by simp [List.getD, show r.length ≤ j by omega]
    have z2 : s.getD j 0 = 0 := by simp [List.getD, show s.length ≤ j by omega]
    rw [z1, z2, ic_zero]; grind
theorem rdc_dt {n : Nat} [NeZero n] {p : Int} (hp : 0 < p) (hn : p = (n : Int)) {E : Nat → List Int} {P : Nat → Nat} {w r : Nat} {R : List Int} (hR : rwB p w R) (hE : ∀ k, k < r → rwB p w (E k)) (x : Nat → Fin n) (hx : NullV (cM n E) r w x) : ∀ k, k ≤ r → dt (fun j => (ic ((rdc p E P w R k).getD j 0) : Fin n)) x w = dt (fun j => (ic (R.getD j 0) : Fin n)) x w
  | 0, _ => rfl
  | k + 1, hk => by
    have hB := rdc_B (E := E) (P := P) hp hR k
    have e : (fun j => (ic ((rdc p E P w R (k + 1)).getD j 0) : Fin n)) = fun j => ic ((rdc p E P w R k).getD j 0) - ic ((rdc p E P w R k).getD (P k) 0) * cM n E k j := by
      funext j
      exact cM_ls hn hB.1 (hE k (by omega)).1 _ j
    rw [e, dt_row (fun j => (ic ((rdc p E P w R k).getD j 0) : Fin n)) (cM n E k) x, hx k (by omega), rdc_dt hp hn hR hE x hx k (by omega)]
    grind
theorem rdc_zero {n : Nat} [NeZero n] {p : Int} (hp : 0 < p) (hn : p = (n : Int)) {E : Nat → List Int} {P : Nat → Nat} {w r : Nat} {R : List Int} (hR : rwB p w R) (hE : ∀ k, k < r → rwB p w (E k)) (h : Ech (cM n E) r w P) : ∀ k, k ≤ r → ∀ z, z < k → (ic ((rdc p E P w R k).getD (P z) 0) : Fin n) = 0
  | 0, _ => fun z hz => absurd hz (Nat.not_lt_zero _)
  | k + 1, hk => fun z hz => by
    have hB := rdc_B (E := E) (P := P) hp hR k
    show (ic ((lsL p (rdc p E P w R k) (E k) _ w).getD (P z) 0) : Fin n) = 0
    rw [cM_ls hn hB.1 (hE k (by omega)).1]
    by_cases e : z = k
    · subst e
      have := h.one z (by omega)
      change (ic ((E z).getD (P z) 0) : Fin n) = 1 at this
      rw [this]; grind
    · have := h.oth z (by omega) k (by omega) (fun x => e x.symm)
      change (ic ((E k).getD (P z) 0) : Fin n) = 0 at this
      rw [this, rdc_zero hp hn hR hE h k (by omega) z (by omega)]; grind
theorem nullv_succ {F : Type} [CommRing F] (A : Nat → Nat → F) (i w : Nat) (x : Nat → F) : NullV A (i + 1) w x ↔ NullV A i w x ∧ dt (A i) x w = 0 :=
  ⟨fun h => ⟨fun k hk => h k (by omega), h i (by omega)⟩, fun h k hk => by
    by_cases e : k = i
    · subst e; exact h.2
    · exact h.1 k (by omega)⟩
/-- a row that comes to 0 changes nothing -/
theorem EcI_skip {p : Int} (hp : primeB p = true) {M : Nat → List Int} {i w : Nat} {E : Nat → List Int} {r : Nat} {P : Nat → Nat} (h : EcI p M i w E r P) (hR : rwB p w (M i)) (hE : ∀ k, k < r → rwB p w (E k)) (h0 : ldI (rdc p E P w (M i) r) < 0) : EcI p M (i + 1) w E r P := fun n _ hn hF => by
  obtain ⟨g1, g2⟩ := h n hn hF
  have hb := prime_bd hp
  refine ⟨g1, fun x => ?_⟩
  rw [nullv_succ, g2 x]
  refine ⟨fun g => g.1, fun g => ⟨g, ?_⟩⟩
  have := rdc_dt (P := P) (show 0 < p by omega) hn hR hE x g r (Nat.le_refl r)
  show dt (fun j => (ic ((M i).getD j 0) : Fin n)) x w = 0
  rw [← this]
  have hz := ldI_all h0
  rw [dt_congr (s := fun _ => 0) (fun j _ => by rw [hz j, ic_zero])]
  generalize w = w
  induction w with
  | zero => rfl
  | succ q ih => rw [dt, ih]; grind
/-- a row that leads at a is set in at place q -/
theorem EcI_put {p : Int} (hp : primeB p = true) {M : Nat → List Int} {i w : Nat} {E E' : Nat → List Int} {r q a : Nat} {P : Nat → Nat} (h : EcI p M i w E r P) (hR : rwB p w (M i)) (hE : ∀ k, k < r → rwB p w (E k)) (hq : q ≤ r)
    (ha : a < w) (h0 : ∀ j, j < a → (rdc p E P w (M i) r).getD j 0 = 0) (h1 : (rdc p E P w (M i) r).getD a 0 ≠ 0)
    (e1 : ∀ k, k < q → E' k = lsL p (E k) (normL p (rdc p E P w (M i) r)) ((E k).getD a 0) w) (e2 : E' q = normL p (rdc p E P w (M i) r)) (e3 : ∀ k, q < k → k ≤ r → E' k = lsL p (E (k - 1)) (normL p (rdc p E P w (M i) r)) ((E (k - 1)).getD a 0) w) : EcI p M (i + 1) w E' (r + 1) (inP P q a) := fun n _ hn hF => by
  obtain ⟨g1, g2⟩ := h n hn hF
  have hb := prime_bd hp
  have hp0 : 0 < p := by omega
  have hB := rdc_B (E := E) (P := P) hp0 hR r
  have hdt := fun x hx => rdc_dt (P := P) hp0 hn hR hE x hx r (Nat.le_refl r)
  have hzz := rdc_zero hp0 hn hR hE g1 r (Nat.le_refl r)
  generalize hR' : rdc p E P w (M i) r = R' at *
  have hf : facP p R' = invP p (R'.getD a 0) := by unfold facP; rw [map_small hB.2, fnz_lead h0 h1]
  have b := hB.2 a
  obtain ⟨i1, i2, i3⟩ := inv_spec hp (n := R'.getD a 0) (by omega) b.2
  have hs : (ic (facP p R') : Fin n) * ic (R'.getD a 0) = 1 := by
    rw [hf, ← ic_mul, Int.mul_comm, ← ic_one, ic_eq n, ← hn, i3, Int.emod_eq_of_lt (by omega) (by omega)]
  have hno : ∀ j, (ic ((normL p R').getD j 0) : Fin n) = ic (facP p R') * ic (R'.getD j 0) := fun j => by
    rw [normL_get, hn, ic_mod n, ic_mul, ic_mod n]; grind
  have hN := rwB_no hp0 hB
  have key : ∀ k, k < r + 1 → inA (cM n E) (fun j => ic ((normL p R').getD j 0)) q a k = cM n E' k := fun k hk => by
    funext j
    unfold inA
    split
    · rename_i hl
      show cM n E k j - cM n E k a * _ = ic ((E' k).getD j 0)
      rw [e1 k hl, cM_ls hn (hE k (by omega)).1 hN.1]; rfl
    · split
      · rename_i hl; subst hl
        show _ = ic ((E' k).getD j 0)
        rw [e2]
      · show cM n E (k - 1) j - cM n E (k - 1) a * _ = ic ((E' k).getD j 0)
        rw [e3 k (by omega) (by omega), cM_ls hn (hE (k - 1) (by omega)).1 hN.1]; rfl
  have hin := in_ech (q := q) (r := fun j => (ic ((normL p R').getD j 0) : Fin n)) g1 hq ha (fun j hj => by rw [hno, h0 j hj, ic_zero]; grind) (by rw [hno]; exact hs) (fun k hk => by rw [hno, hzz k hk]; grind) hF.1
  refine ⟨⟨hin.lt, fun z hz => by rw [← key z hz]; exact hin.one z hz, fun z hz => by rw [← key z hz]; exact hin.low z hz, fun z hz k hk hne => by rw [← key k hk]; exact hin.oth z hz k hk hne⟩, fun x => ?_⟩
  rw [nullv_succ, g2 x, ← nullv_congr key x, in_null hq x]
  refine and_congr_right fun g => ?_
  show dt (fun j => (ic ((M i).getD j 0) : Fin n)) x w = 0 ↔ _
  rw [← hdt x g]
  have e : (fun j => (ic ((normL p R').getD j 0) : Fin n)) = fun j => ic (facP p R') * ic (R'.getD j 0) := funext hno
  rw [e, dt_scal (fun j => (ic (R'.getD j 0) : Fin n))]
  constructor
  · intro g; rw [g]; grind
  · intro g
    have : dt (fun j => (ic (R'.getD j 0) : Fin n)) x w = ic (R'.getD a 0) * (ic (facP p R') * dt (fun j => (ic (R'.getD j 0) : Fin n)) x w) := by grind
    rw [this, g]; grind
theorem EcI_end {p : Int} (hp : primeB p = true) {M : Nat → List Int} {m w : Nat} {E : Nat → List Int} {r : Nat} {P : Nat → Nat} (h : EcI p M m w E r P) : rkI p M m w = r :=
  rk_eq hp fun n _ hn hF => ⟨_, P, (h n hn hF).1, (h n hn hF).2⟩
end Go.Proofs.Ytoiolpgmilobnaa
namespace Go.Proofs.Ytoiolpgmilobnaa
theorem fac_mod (p : Int) (l : List Int) : facP p (l.map (· % p)) = facP p l := by
  unfold facP
  rw [List.map_map]
  congr 2
  apply List.map_congr_left
  intro x _
  exact mod_mod_self p x
theorem normL_mod (p : Int) (l : List Int) : normL p (l.map (· % p)) = normL p l := by
  unfold normL
  rw [fac_mod, List.map_map]
  apply List.map_congr_left
  intro x _
  simp only [Function.comp_apply, mod_mod_self]
theorem normL_zero {p : Int} {l : List Int} (h : facP p l = 0) : normL p l = List.replicate l.length 0 := by
  unfold normL
  rw [h]
  apply List.ext_getElem (by simp)
  intro i h1 h2
  simp
theorem bne_fac {p : Int} {l : List Int} {b : Bool} (h : (facP p l != 0) = b) : (b = true → facP p l ≠ 0) ∧ (b = false → facP p l = 0) := by
  subst h
  exact ⟨fun h => by simpa using h, fun h => by simpa using h⟩
end Go.Proofs.Ytoiolpgmilobnaa
namespace Go.Proofs.Ytoiolpgmilobnaa
attribute [local irreducible] CW OW QW QOp Con thenP inBlockP
set_option maxRecDepth 10000
set_option linter.unusedSimpArgs false
set_option linter.unusedVariables false
/-- three numbers are a point modulo a prime -/
def pointB (p : Int) (l : List Int) : Bool := primeB p && normB p l
theorem l01List_con (a b c : Int) : Con Try.prog [] 142 [.arr [a, b, c]] [] (fun r H' => r = .slice 0 0 3 3 ∧ H' = [(0, .ints 2 [a, b, c])]) := by
  refine conW tab_ok [(0, .arr [a, b, c])] 0 [] [] Try.func142 rfl rfl rfl rfl rfl rfl rfl rfl rfl ?_
  refine cR ?_
  refine oBox rfl rfl rfl rfl rfl rfl ?_
  refine oA rfl rfl ?_
  refine oN ?_
  refine cR ?_
  first | refine oQ (Ia0 rfl rfl rfl rfl rfl rfl) rfl rfl ?_ | refine oQ (Ia1 rfl rfl rfl rfl rfl rfl) rfl rfl ?_
  first | refine oQ (Q_ldc rfl rfl rfl rfl rfl) rfl rfl ?_ | refine oQ (Ld rfl rfl rfl rfl) rfl rfl ?_
  first | refine oQ (Ia0 rfl rfl rfl rfl rfl rfl) rfl rfl ?_ | refine oQ (Ia1 rfl rfl rfl rfl rfl rfl) rfl rfl ?_
  first | refine oQ (Q_ldc rfl rfl rfl rfl rfl) rfl rfl ?_ | refine oQ (Ld rfl rfl rfl rfl) rfl rfl ?_
  first | refine oQ (Ia0 rfl rfl rfl rfl rfl rfl) rfl rfl ?_ | refine oQ (Ia1 rfl rfl rfl rfl rfl rfl) rfl rfl ?_
  first | refine oQ (Q_ldc rfl rfl rfl rfl rfl) rfl rfl ?_ | refine oQ (Ld rfl rfl rfl rfl) rfl rfl ?_
  refine oBsl (zl := []) rfl rfl rfl rfl (.inl ⟨rfl, rfl⟩) rfl rfl rfl rfl rfl rfl ?_
  refine oA rfl rfl ?_
  refine oN ?_
  refine CW_ret ?_
  all_goals (
   exact exitH (r0 := .slice 0 0 3 3) (H0 := [(0, .ints 2 [a, b, c])]) (.inr rfl) [(0, 1)] 1 (.cons (.tmp rfl rfl) .nil) rfl rfl rfl (vHc rfl vHn) rfl rfl ⟨rfl, rfl⟩)
theorem l01Point_con (p : Int) (l : List Int) (hl : l.length = 3) : ConQ Try.prog [] 117 [.int p, .arr l] [] (.bool (pointB p l)) := by
  match l, hl with
  | [a, b, c], _ =>
    refine conW tab_ok [(0, .int p), (1, .arr [a, b, c])] 0 [] [] Try.func117 rfl rfl rfl rfl rfl rfl rfl rfl rfl ?_
    refine cR ?_
    refine oBox rfl rfl rfl rfl rfl rfl ?_
    refine oA rfl rfl ?_
    refine oN ?_
    refine cR ?_
    refine oM rfl rfl ?_
    refine oQ (Q_call0 (l01Prime_con _) rfl rfl rfl) rfl rfl ?_
    refine oM rfl rfl ?_
    all_goals first | refine oT rfl rfl ?_ | refine o1 rfl rfl rfl ?_ | refine o0 rfl rfl rfl ?_ | refine ogP1 rfl rfl rfl (fun hg => ?_) (fun hg => ?_) | refine ogP0 rfl rfl rfl (fun hg => ?_) (fun hg => ?_)
    all_goals try simp only [s1, s2, s3, s4, s5, s6, s7, s8, s9, s10, s11, s12] at hg
    all_goals first | (refine oM rfl rfl ?_) | skip
    all_goals first | refine oT rfl rfl ?_ | refine o1 rfl rfl rfl ?_ | refine o0 rfl rfl rfl ?_ | refine ogP1 rfl rfl rfl (fun hg => ?_) (fun hg => ?_) | refine ogP0 rfl rfl rfl (fun hg => ?_) (fun hg => ?_)
    all_goals try simp only [s1, s2, s3, s4, s5, s6, s7, s8, s9, s10, s11, s12] at hg
    all_goals first | refine oQ (Lw rfl rfl rfl rfl) rfl rfl ?_ | refine oQ (La rfl rfl rfl rfl rfl) rfl rfl ?_ | skip
    all_goals first | refine oT rfl rfl ?_ | refine o1 rfl rfl rfl ?_ | refine o0 rfl rfl rfl ?_ | refine ogP1 rfl rfl rfl (fun hg => ?_) (fun hg => ?_) | refine ogP0 rfl rfl rfl (fun hg => ?_) (fun hg => ?_)
    all_goals try simp only [s1, s2, s3, s4, s5, s6, s7, s8, s9, s10, s11, s12] at hg
    all_goals first | (refine oCall (l01List_con a b c) [] 1 rfl rfl (Fits.mk' vHn rfl rfl (by simp)) rfl rfl ?_; rintro r H1 ⟨rfl, rfl⟩; refine ⟨.slice 1 0 3 3, [(1, .ints 2 [a, b, c])], rfl, rfl, rfl, ?_⟩) | skip
    all_goals first | refine oT rfl rfl ?_ | refine o1 rfl rfl rfl ?_ | refine o0 rfl rfl rfl ?_ | refine ogP1 rfl rfl rfl (fun hg => ?_) (fun hg => ?_) | refine ogP0 rfl rfl rfl (fun hg => ?_) (fun hg => ?_)
    all_goals try simp only [s1, s2, s3, s4, s5, s6, s7, s8, s9, s10, s11, s12] at hg
    all_goals first | ((have hb := prime_bd hg); refine oQ (Q_call (l01Normal_con p 2 [a, b, c] 3 3 (Nat.le_refl _) (by omega) (by decide)) [(0, 1)] rfl rfl (Fits.mk' (vHc rfl vHn) rfl rfl (by simp)) rfl rfl) rfl rfl ?_) | skip
    all_goals first | refine oQ (Q_pick_t rfl (by with_reducible rfl) rfl rfl) rfl rfl ?_ | refine oQ (Q_pick_f rfl (by with_reducible rfl) rfl rfl) rfl rfl ?_
    all_goals first | (refine oA rfl rfl ?_)
    all_goals refine oN ?_
    all_goals (
     refine CW_ret ?_)
    all_goals (
     refine exitQ (.inr rfl) 0 (.cons (.tmp rfl rfl) .nil) ?_ rfl vHn rfl rfl
     simp only [resV, ren, pointB, V.bool.injEq, hg, Bool.true_and, Bool.false_and]
     try rfl)
def allF (g : List Int → Bool) (sz : Nat) (M : List Int) (k : Nat) : Bool := (List.range k).all fun i => g (elemAt sz M i)
theorem allF_yes {g : List Int → Bool} {sz : Nat} {M : List Int} {k : Nat} (h : ∀ j, j < k → g (elemAt sz M j) = true) : allF g sz M k = true := by
  unfold allF
  rw [List.all_eq_true]
  intro j hj
  exact h j (by simpa using hj)
theorem allF_no {g : List Int → Bool} {sz : Nat} {M : List Int} {k i : Nat} (hi : i < k) (h : g (elemAt sz M i) = false) : allF g sz M k = false := by
  unfold allF
  rw [List.all_eq_false]
  exact ⟨i, by simpa using hi, by simp [h]⟩
theorem impl_IsPoint_con (p : Int) (l : List Int) (hl : l.length = 3) : ConQ Try.prog [] 97 [.int p, .arr l] [] (.bool (pointB p l)) := by
  refine conW tab_ok [(0, .int p), (1, .arr l)] 0 [] [] Try.func97 rfl rfl rfl rfl rfl rfl rfl rfl rfl ?_
  refine cR ?_
  refine oBox rfl rfl rfl rfl rfl rfl ?_
  refine oA rfl rfl ?_
  refine oN ?_
  refine cR ?_
  refine oM rfl rfl ?_
  refine oQ (Q_call0 (isPrime_con _) rfl rfl rfl) rfl rfl ?_
  refine oM rfl rfl ?_
  all_goals first | refine oT rfl rfl ?_ | refine o1 rfl rfl rfl ?_ | refine o0 rfl rfl rfl ?_ | refine ogP1 rfl rfl rfl (fun hg => ?_) (fun hg => ?_) | refine ogP0 rfl rfl rfl (fun hg => ?_) (fun hg => ?_)
  all_goals try simp only [s1, s2, s3, s4, s5, s6, s7, s8, s9, s10, s11, s12] at hg
  all_goals first | (refine oM rfl rfl ?_) | skip
  all_goals first | refine oT rfl rfl ?_ | refine o1 rfl rfl rfl ?_ | refine o0 rfl rfl rfl ?_ | refine ogP1 rfl rfl rfl (fun hg => ?_) (fun hg => ?_) | refine ogP0 rfl rfl rfl (fun hg => ?_) (fun hg => ?_)
  all_goals try simp only [s1, s2, s3, s4, s5, s6, s7, s8, s9, s10, s11, s12] at hg
  all_goals first | (refine oQ (Q_slaF rfl rfl rfl rfl) rfl rfl ?_) | skip
  all_goals first | refine oT rfl rfl ?_ | refine o1 rfl rfl rfl ?_ | refine o0 rfl rfl rfl ?_ | refine ogP1 rfl rfl rfl (fun hg => ?_) (fun hg => ?_) | refine ogP0 rfl rfl rfl (fun hg => ?_) (fun hg => ?_)
  all_goals try simp only [s1, s2, s3, s4, s5, s6, s7, s8, s9, s10, s11, s12] at hg
  all_goals first | ((have hb := prime_bd hg); refine oQ (Q_call (isNormal_con p 32 l 3 3 (by omega) (by omega) (by omega)) [] rfl rfl (Fits.mk' (vHc rfl vHn) rfl rfl (by simp)) rfl rfl) rfl rfl ?_) | skip
  all_goals first | refine oQ (Q_pick_t rfl (by with_reducible rfl) rfl rfl) rfl rfl ?_ | refine oQ (Q_pick_f rfl (by with_reducible rfl) rfl rfl) rfl rfl ?_
  all_goals first | (refine oA rfl rfl ?_)
  all_goals refine oN ?_
  all_goals (
   refine CW_ret ?_)
  all_goals (
   refine exitQ (.inr rfl) 0 (.cons (.tmp rfl rfl) .nil) ?_ rfl vHn rfl rfl
   simp only [resV, ren, pointB, V.bool.injEq, ← hl, List.take_length]
   simp [hg])
theorem impl_IsConic_con (p : Int) (l : List Int) (hl : l.length = 6) : ConQ Try.prog [] 84 [.int p, .arr l] [] (.bool (pointB p l)) := by
  refine conW tab_ok [(0, .int p), (1, .arr l)] 0 [] [] Try.func84 rfl rfl rfl rfl rfl rfl rfl rfl rfl ?_
  refine cR ?_
  refine oBox rfl rfl rfl rfl rfl rfl ?_
  refine oA rfl rfl ?_
  refine oN ?_
  refine cR ?_
  refine oM rfl rfl ?_
  refine oQ (Q_call0 (isPrime_con _) rfl rfl rfl) rfl rfl ?_
  refine oM rfl rfl ?_
  all_goals first | refine oT rfl rfl ?_ | refine o1 rfl rfl rfl ?_ | refine o0 rfl rfl rfl ?_ | refine ogP1 rfl rfl rfl (fun hg => ?_) (fun hg => ?_) | refine ogP0 rfl rfl rfl (fun hg => ?_) (fun hg => ?_)
  all_goals try simp only [s1, s2, s3, s4, s5, s6, s7, s8, s9, s10, s11, s12] at hg
  all_goals first | (refine oM rfl rfl ?_) | skip
  all_goals first | refine oT rfl rfl ?_ | refine o1 rfl rfl rfl ?_ | refine o0 rfl rfl rfl ?_ | refine ogP1 rfl rfl rfl (fun hg => ?_) (fun hg => ?_) | refine ogP0 rfl rfl rfl (fun hg => ?_) (fun hg => ?_)
  all_goals try simp only [s1, s2, s3, s4, s5, s6, s7, s8, s9, s10, s11, s12] at hg
  all_goals first | (refine oQ (Q_slaF rfl rfl rfl rfl) rfl rfl ?_) | skip
  all_goals first | refine oT rfl rfl ?_ | refine o1 rfl rfl rfl ?_ | refine o0 rfl rfl rfl ?_ | refine ogP1 rfl rfl rfl (fun hg => ?_) (fun hg => ?_) | refine ogP0 rfl rfl rfl (fun hg => ?_) (fun hg => ?_)
  all_goals try simp only [s1, s2, s3, s4, s5, s6, s7, s8, s9, s10, s11, s12] at hg
  all_goals first | ((have hb := prime_bd hg); refine oQ (Q_call (isNormal_con p 25 l 6 6 (by omega) (by omega) (by omega)) [] rfl rfl (Fits.mk' (vHc rfl vHn) rfl rfl (by simp)) rfl rfl) rfl rfl ?_) | skip
  all_goals first | refine oQ (Q_pick_t rfl (by with_reducible rfl) rfl rfl) rfl rfl ?_ | refine oQ (Q_pick_f rfl (by with_reducible rfl) rfl rfl) rfl rfl ?_
  all_goals first | (refine oA rfl rfl ?_)
  all_goals refine oN ?_
  all_goals (
   refine CW_ret ?_)
  all_goals (
   refine exitQ (.inr rfl) 0 (.cons (.tmp rfl rfl) .nil) ?_ rfl vHn rfl rfl
   simp only [resV, ren, pointB, V.bool.injEq, ← hl, List.take_length]
   simp [hg])
theorem arePoints_con (p : Int) (tM : TypeId) (M : List Int) (k ck : Nat) (hM : k * 3 ≤ M.length) (hk : k ≤ 1000000000) : ConQ Try.prog [] 55 [.int p, .slice 0 0 k ck] [(0, .ints tM M)] (.bool (allF (pointB p) 3 M k)) := by
  refine conW tab_ok [(0, .int p), (1, .slice 0 0 k ck)] 1 [0] [0] Try.func55 rfl rfl rfl rfl rfl rfl rfl rfl rfl ?_
  refine cR ?_
  refine oA rfl rfl ?_
  refine oN ?_
  refine CW_seq ?_
  refine cR ?_
  refine oM rfl rfl ?_
  first | refine oQ (Q_len rfl rfl rfl rfl) rfl rfl ?_ | refine oQ (Q_len0 rfl rfl rfl rfl) rfl rfl ?_
  refine oM rfl rfl ?_
  refine oN ?_
  refine CW_block ?_
  refine CW_loop (ι := Nat) (fun i => i ≤ k ∧ ∀ j, j < i → pointB p (elemAt 3 M j) = true) (fun i => ⟨[(0, .int p), (7, .slice 0 0 k ck), (8, .int k), (9, .int i)], [(0, .ints tM M)], 1⟩) (fun i => k - i) 0 ?_ ?_ ?_
  · exact ⟨Nat.zero_le _, fun j h => absurd h (Nat.not_lt_zero _)⟩
  · refine View.mk' [] rfl rfl rfl ?_ ?_
    repeat' first | exact vFn | refine vFc rfl ?_ | exact vHn | refine vHc rfl ?_ | refine vFc (congrArg (fun z => some (V.int z)) ?_) ?_ | refine vHc (congrArg (fun z => some (Blk.ints _ z)) ?_) ?_ | refine vFc (congrArg (fun z => some (V.bool z)) ?_) ?_ | refine vFs rfl rfl ?_ ?_
  rintro i ⟨hi, hi2⟩
  have hel : i < k → (elemAt 3 M i).length = 3 := fun h => elemAt_length hM h
  refine cR ?_
  refine oQ (Q_bin rfl rfl rfl) rfl rfl ?_
  refine oN ?_
  refine CW_seq ?_
  first | refine cT rfl ?_ | refine cF rfl ?_ | refine CW_cond rfl (fun hc => ?_) (fun hc => ?_)
  all_goals try simp only [s1, s2, s3, s4, s5, s6, s7, s8, s9, s10, s11, s12] at hc
  all_goals first
    | (
     refine CW_skip ?_)
    | (
     refine CW_exit ?_)
  all_goals first
    | with_reducible refine tR ?_
    | with_reducible refine tE ?_
    | (
     with_reducible refine tN ?_
     refine CW_seq ?_
     refine CW_block ?_
     refine cR ?_
     first | refine oQ (Q_ixs0z 3 rfl rfl rfl rfl rfl rfl (by first | omega | (dsimp only; omega) | (simp; omega) | (simp; done))) rfl rfl ?_ | refine oQ (Q_ixsz 3 rfl rfl rfl rfl rfl rfl (by first | omega | (dsimp only; omega) | (simp; omega) | (simp; done))) rfl rfl ?_
     first | refine oQ (Lw rfl rfl rfl rfl) rfl rfl ?_ | refine oQ (La rfl rfl rfl rfl rfl) rfl rfl ?_
     refine oAlloc rfl rfl rfl rfl rfl rfl rfl ?_
     first | refine oSw rfl rfl rfl rfl ?_ | refine oSa rfl rfl rfl rfl ?_
     refine oN ?_
     refine cR ?_
     refine oM rfl rfl ?_
     first | refine oQ (Lw rfl rfl rfl rfl) rfl rfl ?_ | refine oQ (La rfl rfl rfl rfl rfl) rfl rfl ?_
     refine oQ (Q_call0 (impl_IsPoint_con p _ (elemAt_length hM (by omega))) rfl rfl rfl) rfl rfl ?_
     refine oQ (Q_not rfl) rfl rfl ?_
     refine oN ?_
     first | refine cT rfl ?_ | refine cF rfl ?_ | refine CW_cond rfl (fun hc => ?_) (fun hc => ?_)
     all_goals try simp only [s1, s2, s3, s4, s5, s6, s7, s8, s9, s10, s11, s12] at hc
     all_goals first
       | (
        refine CW_skip ?_)
       | (
        refine cR ?_
        refine oA rfl rfl ?_
        refine oN ?_
        refine CW_ret ?_)
     all_goals first | with_reducible refine bN ?_ | with_reducible refine bE ?_ | with_reducible refine bR ?_ | refine bX rfl ?_
     all_goals first
       | with_reducible refine tR ?_
       | with_reducible refine tE ?_
       | (
        with_reducible refine tN ?_
        refine CW_region ?_
        first | refine oQ (Q_binu rfl rfl rfl (by omega)) rfl rfl ?_ | refine oQ (Q_bin rfl rfl rfl) rfl rfl ?_
        refine oM rfl rfl ?_
        refine OW_nil ?_))
  all_goals first
    | with_reducible refine tR ?_
    | with_reducible refine tE ?_
    | (
     with_reducible refine tN ?_
     refine ⟨i + 1, ?_, ?_, View.mk' [] rfl rfl rfl ?_ ?_⟩
     · refine ⟨by omega, fun j hj => ?_⟩
       by_cases e : j = i
       · subst e; exact hc
       · exact hi2 j (by omega)
     · omega
     all_goals (repeat' first | exact vFn | refine vFc rfl ?_ | exact vHn | refine vHc rfl ?_ | refine vFc (congrArg (fun z => some (V.int z)) ?_) ?_ | refine vHc (congrArg (fun z => some (Blk.ints _ z)) ?_) ?_ | refine vFc (congrArg (fun z => some (V.bool z)) ?_) ?_ | refine vFs rfl rfl ?_ ?_))
  all_goals first | with_reducible refine bN ?_ | with_reducible refine bE ?_ | with_reducible refine bR ?_ | refine bX rfl ?_
  all_goals first
    | with_reducible refine tR ?_
    | with_reducible refine tE ?_
    | (
     with_reducible refine tN ?_
     refine cR ?_
     refine oA rfl rfl ?_
     refine oN ?_
     refine CW_ret ?_)
  all_goals (
   refine exitQ (.inr rfl) 1 (.cons (.tmp rfl rfl) .nil) ?_ rfl (vHc rfl vHn) rfl rfl
   first
     | exact congrArg V.bool (allF_no (i := i) (by omega) hc).symm
     | exact congrArg V.bool (allF_yes (fun j hj => hi2 j (by omega))).symm)
theorem l01Code_con (p : Int) (tM : TypeId) (M : List Int) (k ck : Nat) (hM : k * 3 ≤ M.length) (hk : k ≤ 1000000000) : ConQ Try.prog [] 75 [.int p, .slice 0 0 k ck] [(0, .ints tM M)] (.int (if primeB p = true then (if (allF (pointB p) 3 M k) = true then 0 else 1) else 2)) := by
  refine conW tab_ok [(0, .int p), (1, .slice 0 0 k ck)] 1 [0] [0] Try.func75 rfl rfl rfl rfl rfl rfl rfl rfl rfl ?_
  refine cR ?_
  refine oA rfl rfl ?_
  refine oN ?_
  refine CW_seq ?_
  refine cR ?_
  refine oM rfl rfl ?_
  refine oQ (Q_call0 (l01Prime_con _) rfl rfl rfl) rfl rfl ?_
  refine oQ (Q_not rfl) rfl rfl ?_
  refine oN ?_
  first | refine cT rfl ?_ | refine cF rfl ?_ | refine CW_cond rfl (fun hc => ?_) (fun hc => ?_)
  all_goals try simp only [s1, s2, s3, s4, s5, s6, s7, s8, s9, s10, s11, s12] at hc
  all_goals first
    | (
     refine CW_skip ?_)
    | (
     refine cR ?_
     refine oA rfl rfl ?_
     refine oN ?_
     refine CW_ret ?_)
  all_goals first
    | with_reducible refine tR ?_
    | with_reducible refine tE ?_
    | (
     with_reducible refine tN ?_
     refine CW_seq ?_
     refine cR ?_
     refine oA rfl rfl ?_
     refine oN ?_
     refine CW_block ?_
     (have hp : primeB p = true := hc)
     refine CW_loop (ι := Nat) (fun i => i ≤ k ∧ ∀ j, j < i → pointB p (elemAt 3 M j) = true) (fun i => ⟨[(0, .int p), (1, .slice 0 0 k ck), (5, .int i)], [(0, .ints tM M)], 1⟩) (fun i => k - i) 0 ?_ ?_ ?_
     · exact ⟨Nat.zero_le _, fun j h => absurd h (Nat.not_lt_zero _)⟩
     · refine View.mk' [] rfl rfl rfl ?_ ?_
       repeat' first | exact vFn | refine vFc rfl ?_ | exact vHn | refine vHc rfl ?_ | refine vFc (congrArg (fun z => some (V.int z)) ?_) ?_ | refine vHc (congrArg (fun z => some (Blk.ints _ z)) ?_) ?_ | refine vFc (congrArg (fun z => some (V.bool z)) ?_) ?_ | refine vFs rfl rfl ?_ ?_
     rintro i ⟨hi, hi2⟩
     refine CW_seq ?_
     refine cR ?_
     iterate 2 refine oM rfl rfl ?_
     first | refine oQ (Q_len rfl rfl rfl rfl) rfl rfl ?_ | refine oQ (Q_len0 rfl rfl rfl rfl) rfl rfl ?_
     refine oQ (Q_bin rfl rfl rfl) rfl rfl ?_
     refine oN ?_
     first | refine cT rfl ?_ | refine cF rfl ?_ | refine CW_cond rfl (fun hc => ?_) (fun hc => ?_)
     all_goals try simp only [s1, s2, s3, s4, s5, s6, s7, s8, s9, s10, s11, s12] at hc
     all_goals first
       | (
        refine CW_skip ?_)
       | (
        refine CW_exit ?_)
     all_goals first
       | with_reducible refine tR ?_
       | with_reducible refine tE ?_
       | (
        with_reducible refine tN ?_
        refine CW_seq ?_
        refine CW_block ?_
        refine cR ?_
        iterate 3 refine oM rfl rfl ?_
        first | refine oQ (Q_ixs0z 3 rfl rfl rfl rfl rfl rfl (by first | omega | (dsimp only; omega) | (simp; omega) | (simp; done))) rfl rfl ?_ | refine oQ (Q_ixsz 3 rfl rfl rfl rfl rfl rfl (by first | omega | (dsimp only; omega) | (simp; omega) | (simp; done))) rfl rfl ?_
        first | refine oQ (Lw rfl rfl rfl rfl) rfl rfl ?_ | refine oQ (La rfl rfl rfl rfl rfl) rfl rfl ?_
        refine oQ (Q_call0 (l01Point_con p _ (elemAt_length hM (by omega))) rfl rfl rfl) rfl rfl ?_
        refine oQ (Q_not rfl) rfl rfl ?_
        refine oN ?_
        first | refine cT rfl ?_ | refine cF rfl ?_ | refine CW_cond rfl (fun hc => ?_) (fun hc => ?_)
        all_goals try simp only [s1, s2, s3, s4, s5, s6, s7, s8, s9, s10, s11, s12] at hc
        all_goals first
          | (
           refine CW_skip ?_)
          | (
           refine cR ?_
           refine oA rfl rfl ?_
           refine oN ?_
           refine CW_ret ?_)
        all_goals first | with_reducible refine bN ?_ | with_reducible refine bE ?_ | with_reducible refine bR ?_ | refine bX rfl ?_
        all_goals first
          | with_reducible refine tR ?_
          | with_reducible refine tE ?_
          | (
           with_reducible refine tN ?_
           refine CW_region ?_
           refine oM rfl rfl ?_
           first | refine oQ (Q_binu rfl rfl rfl (by omega)) rfl rfl ?_ | refine oQ (Q_bin rfl rfl rfl) rfl rfl ?_
           refine oA rfl rfl ?_
           refine OW_nil ?_))
     all_goals first
       | with_reducible refine tR ?_
       | with_reducible refine tE ?_
       | (
        with_reducible refine tN ?_
        refine ⟨i + 1, ?_, ?_, View.mk' [] rfl rfl rfl ?_ ?_⟩
        · refine ⟨by omega, fun j hj => ?_⟩
          by_cases e : j = i
          · subst e; exact hc
          · exact hi2 j (by omega)
        · omega
        all_goals (repeat' first | exact vFn | refine vFc rfl ?_ | exact vHn | refine vHc rfl ?_ | refine vFc (congrArg (fun z => some (V.int z)) ?_) ?_ | refine vHc (congrArg (fun z => some (Blk.ints _ z)) ?_) ?_ | refine vFc (congrArg (fun z => some (V.bool z)) ?_) ?_ | refine vFs rfl rfl ?_ ?_))
     all_goals first | with_reducible refine bN ?_ | with_reducible refine bE ?_ | with_reducible refine bR ?_ | refine bX rfl ?_
     all_goals first
       | with_reducible refine tR ?_
       | with_reducible refine tE ?_
       | (
        with_reducible refine tN ?_
        refine cR ?_
        refine oA rfl rfl ?_
        refine oN ?_
        refine CW_ret ?_))
  all_goals (
   refine exitQ (.inr rfl) 1 (.cons (.tmp rfl rfl) .nil) ?_ rfl (vHc rfl vHn) rfl rfl
   first
     | (simp [resV, hc]; done)
     | ((have h9 := allF_no (k := k) (i := i) (by omega) hc); simp [resV, hp, h9]; done)
     | ((have h9 : allF (pointB p) 3 M k = true := allF_yes (fun j hj => hi2 j (by omega))); simp [resV, hp, h9]))
end Go.Proofs.Ytoiolpgmilobnaa
namespace Go.Proofs.Ytoiolpgmilobnaa
attribute [local irreducible] CW OW QW QOp Con thenP inBlockP
set_option maxRecDepth 10000
set_option linter.unusedSimpArgs false
set_option linter.unusedVariables false
def row1 (n : Nat) : List (List Int) := (List.range n).map fun (z : Nat) => [0, 1, (z : Int)]
def row2 (y n : Nat) : List (List Int) := (List.range n).map fun (z : Nat) => [1, (y : Int), (z : Int)]
def rows2 (n m : Nat) : List (List Int) := (List.range m).flatMap fun y => row2 y n
def allPts (p : Int) : List (List Int) := [[0, 0, 1]] ++ row1 p.toNat ++ rows2 p.toNat p.toNat
theorem row1_snoc (n : Nat) : row1 (n + 1) = row1 n ++ [[0, 1, (n : Int)]] := by simp [row1, List.range_succ]
theorem row2_snoc (y n : Nat) : row2 y (n + 1) = row2 y n ++ [[1, (y : Int), (n : Int)]] := by simp [row2, List.range_succ]
theorem rows2_snoc (n m : Nat) : rows2 n (m + 1) = rows2 n m ++ row2 m n := by simp [rows2, List.range_succ]
theorem row1_length (n : Nat) : (row1 n).length = n := by simp [row1]
theorem row2_length (y n : Nat) : (row2 y n).length = n := by simp [row2]
theorem rows2_length (n m : Nat) : (rows2 n m).length = m * n := by
  induction m with
  | zero => simp [rows2]
  | succ m ih => rw [rows2_snoc, List.length_append, ih, row2_length, Nat.add_mul, Nat.one_mul]
theorem allPts_three {p : Int} {x : List Int} (h : x ∈ allPts p) : x.length = 3 := by
  simp only [allPts, row1, rows2, row2, List.mem_append, List.mem_map, List.mem_flatMap, List.mem_singleton] at h
  rcases h with (rfl | ⟨_, _, rfl⟩) | ⟨_, _, _, _, rfl⟩ <;> rfl
/-- an own row of arrays: the told ones, and room behind them -/
def ownR (sz : Nat) (T : TypeId) (H0 : Hp) (b : Nat) (L : List (List Int)) (r : V) (H' : Hp) : Prop :=
  ∃ (k : Nat) (sp : List Int), L.length ≤ k ∧ k * sz ≤ L.length * sz + sp.length ∧ r = .slice b 0 L.length k ∧ H' = H0 ++ [(b, .ints T (L.flatten ++ sp))]
def ptsTo (n y z : Nat) : List (List Int) := [[0, 0, 1]] ++ row1 n ++ rows2 n y ++ row2 y z
theorem ptsTo_next (n y z : Nat) : ptsTo n y (z + 1) = ptsTo n y z ++ [[1, (y : Int), (z : Int)]] := by simp [ptsTo, row2_snoc]
theorem ptsTo_row (n y : Nat) : ptsTo n y n = ptsTo n (y + 1) 0 := by simp [ptsTo, rows2_snoc]; simp [row2]
theorem ptsTo_start (n : Nat) : [[0, 0, 1]] ++ row1 n = ptsTo n 0 0 := by simp [ptsTo, rows2, row2]
theorem ptsTo_all {p : Int} {n : Nat} (h : p = (n : Int)) : ptsTo n n 0 = allPts p := by subst h; simp [ptsTo, allPts, row2]
theorem ptsTo_three {n y z : Nat} {x : List Int} (h : x ∈ ptsTo n y z) : x.length = 3 := by
  simp only [ptsTo, row1, rows2, row2, List.mem_append, List.mem_map, List.mem_flatMap, List.mem_singleton] at h
  rcases h with ((rfl | ⟨_, _, rfl⟩) | ⟨_, _, _, _, rfl⟩) | ⟨_, _, rfl⟩ <;> rfl
theorem row1_three {n : Nat} {x : List Int} (h : x ∈ [[0, 0, 1]] ++ row1 n) : x.length = 3 := by
  simp only [row1, List.mem_append, List.mem_map, List.mem_singleton] at h
  rcases h with rfl | ⟨_, _, rfl⟩ <;> rfl
theorem ptsTo_length (n y z : Nat) : (ptsTo n y z).length = 1 + n + y * n + z := by simp [ptsTo, row1_length, rows2_length, row2_length]; omega
theorem sq_bound {n y : Nat} (hn : n ≤ 13) (hy : y ≤ n) : y * n ≤ 169 := Nat.le_trans (Nat.mul_le_mul hy hn) (Nat.mul_le_mul hn (Nat.le_refl 13))
theorem allPoints_n (n : Nat) (hn : n ≤ 13) : Con Try.prog [] 132 [.int (n : Int)] [] (ownR 3 32 [] 0 (ptsTo n n 0)) := by
  refine conW tab_ok [(0, .int (n : Int))] 0 [] [] Try.func132 rfl rfl rfl rfl rfl rfl rfl rfl rfl ?_
  refine cR ?_
  refine oA rfl rfl ?_
  refine oN ?_
  refine cR ?_
  refine oQ (Q_build rfl rfl rfl rfl rfl rfl rfl rfl) rfl rfl ?_
  refine oBsl rfl rfl rfl rfl (.inr ⟨rfl, rfl, by decide⟩) rfl rfl rfl rfl rfl rfl ?_
  refine oA rfl rfl ?_
  refine oN ?_
  refine CW_seq ?_
  refine cR ?_
  iterate 2 refine oM rfl rfl ?_
  refine oN ?_
  refine CW_block ?_
  refine CW_loop (ι := Nat × Nat × List Int) (fun x => x.1 ≤ n ∧ 1 + x.1 ≤ x.2.1 ∧ x.2.1 * 3 ≤ (1 + x.1) * 3 + x.2.2.length) (fun x => ⟨[(0, .int (n : Int)), (3, .slice 0 0 (1 + x.1) x.2.1), (10, .int (x.1 : Int)), (9, .int (n : Int))], [(0, .ints 32 (([[0, 0, 1]] ++ row1 x.1).flatten ++ x.2.2))], 1⟩) (fun x => n - x.1) (0, 1, []) ?_ ?_ ?_
  · first | trivial | omega | (simp; done) | (simp; omega)
  · refine View.mk' [] rfl rfl rfl ?_ ?_
    repeat' first | exact vFn | refine vFc rfl ?_ | exact vHn | refine vHc rfl ?_ | refine vFc (congrArg (fun z => some (V.int z)) ?_) ?_ | refine vHc (congrArg (fun z => some (Blk.ints _ z)) ?_) ?_ | refine vFc (congrArg (fun z => some (V.bool z)) ?_) ?_ | refine vFs rfl rfl ?_ ?_
    skip
  rintro ⟨i, k, sp⟩ ⟨hi, hk, hsp⟩
  dsimp only at hi hk hsp ⊢
  have hlen : ([[0, 0, 1]] ++ row1 i).flatten.length = (1 + i) * 3 := by rw [flat3 (sz := 3) (fun x hx => row1_three hx)]; simp [row1_length]; omega
  refine cR ?_
  refine oQ (Q_bin rfl rfl rfl) rfl rfl ?_
  refine oN ?_
  refine CW_seq ?_
  first | refine cT rfl ?_ | refine cF rfl ?_ | refine CW_cond rfl (fun hc => ?_) (fun hc => ?_)
  all_goals try simp only [s1, s2, s3, s4, s5, s6, s7, s8, s9, s10, s11, s12] at hc
  all_goals first
    | (
     refine CW_skip ?_)
    | (
     refine CW_exit ?_)
  all_goals first
    | with_reducible refine tR ?_
    | with_reducible refine tE ?_
    | (
     with_reducible refine tN ?_
     refine CW_seq ?_
     refine CW_block ?_
     refine cR ?_
     refine oM rfl rfl ?_
     refine oA rfl rfl ?_
     refine oN ?_
     refine CW_region ?_
     iterate 2 refine oM rfl rfl ?_
     refine oQ (Q_build rfl rfl rfl rfl rfl rfl rfl rfl) rfl rfl ?_
     refine oBsl rfl rfl rfl rfl (.inr ⟨rfl, rfl, by decide⟩) rfl rfl rfl rfl rfl rfl ?_
     refine oApp (sz := 3) (by_ := 24) (xl := [0, 1, (i : Int)]) rfl rfl rfl rfl rfl rfl ⟨by decide, rfl, .inr rfl⟩ rfl rfl rfl rfl rfl rfl hlen rfl (by omega) (by omega) (by omega) (by omega) rfl rfl (fun k2 sp2 h1 h2 => ?_)
     refine oA rfl rfl ?_
     refine OW_nil ?_
     all_goals first | with_reducible refine bN ?_ | with_reducible refine bE ?_ | with_reducible refine bR ?_ | refine bX rfl ?_
     all_goals with_reducible refine tN ?_
     all_goals (
      refine CW_region ?_
      first | refine oQ (Q_binu rfl rfl rfl (by omega)) rfl rfl ?_ | refine oQ (Q_bin rfl rfl rfl) rfl rfl ?_
      refine oM rfl rfl ?_
      refine OW_nil ?_))
  all_goals first
    | with_reducible refine tR ?_
    | with_reducible refine tE ?_
    | (
     with_reducible refine tN ?_
     refine ⟨(i + 1, k2, sp2), ?_, ?_, View.mk' [(0, 2)] rfl rfl rfl ?_ ?_⟩
     · exact ⟨by omega, by omega, by omega⟩
     · omega
     all_goals (repeat' first | exact vFn | refine vFc rfl ?_ | exact vHn | refine vHc rfl ?_ | refine vFc (congrArg (fun z => some (V.int z)) ?_) ?_ | refine vHc (congrArg (fun z => some (Blk.ints _ z)) ?_) ?_ | refine vFc (congrArg (fun z => some (V.bool z)) ?_) ?_ | refine vFs rfl rfl ?_ ?_)
     all_goals first | (rw [row1_snoc]; simp; done) | fail
     all_goals simp)
  all_goals first | with_reducible refine bN ?_ | with_reducible refine bE ?_ | with_reducible refine bR ?_ | refine bX rfl ?_
  all_goals with_reducible refine tN ?_
  all_goals (
   refine CW_seq ?_
   refine cR ?_
   iterate 2 refine oM rfl rfl ?_
   refine oN ?_
   refine CW_block ?_
   refine CW_loop (ι := Nat × Nat × List Int) (fun x => x.1 ≤ n ∧ (ptsTo n x.1 0).length ≤ x.2.1 ∧ x.2.1 * 3 ≤ (ptsTo n x.1 0).length * 3 + x.2.2.length) (fun x => ⟨[(0, .int (n : Int)), (3, .slice 0 0 (ptsTo n x.1 0).length x.2.1), (20, .int (x.1 : Int)), (19, .int (n : Int))], [(0, .ints 32 ((ptsTo n x.1 0).flatten ++ x.2.2))], 1⟩) (fun x => n - x.1) (0, k, sp) ?_ ?_ ?_
   · (have e : i = n := by omega); subst e; simp only [ptsTo_length]; exact ⟨Nat.zero_le _, by omega, by omega⟩
   · refine View.mk' [] rfl rfl rfl ?_ ?_
     repeat' first | exact vFn | refine vFc rfl ?_ | exact vHn | refine vHc rfl ?_ | refine vFc (congrArg (fun z => some (V.int z)) ?_) ?_ | refine vHc (congrArg (fun z => some (Blk.ints _ z)) ?_) ?_ | refine vFc (congrArg (fun z => some (V.bool z)) ?_) ?_ | refine vFs rfl rfl ?_ ?_
     all_goals (have e : i = n := by omega)
     all_goals subst e
     all_goals first | (rw [ptsTo_length]; omega) | (rw [← ptsTo_start])
   rintro ⟨y, k, sp⟩ ⟨hy, hk, hsp⟩
   dsimp only at hy hk hsp ⊢
   have hq := sq_bound hn hy
   refine cR ?_
   refine oQ (Q_bin rfl rfl rfl) rfl rfl ?_
   refine oN ?_
   refine CW_seq ?_
   first | refine cT rfl ?_ | refine cF rfl ?_ | refine CW_cond rfl (fun hc => ?_) (fun hc => ?_)
   all_goals try simp only [s1, s2, s3, s4, s5, s6, s7, s8, s9, s10, s11, s12] at hc
   all_goals first
     | (
      refine CW_skip ?_)
     | (
      refine CW_exit ?_)
   all_goals first
     | with_reducible refine tR ?_
     | with_reducible refine tE ?_
     | (
      with_reducible refine tN ?_
      refine CW_seq ?_
      refine CW_block ?_
      refine cR ?_
      refine oM rfl rfl ?_
      refine oA rfl rfl ?_
      refine oN ?_
      refine cR ?_
      iterate 2 refine oM rfl rfl ?_
      refine oN ?_
      refine CW_block ?_
      refine CW_loop (ι := Nat × Nat × List Int) (fun x => x.1 ≤ n ∧ (ptsTo n y x.1).length ≤ x.2.1 ∧ x.2.1 * 3 ≤ (ptsTo n y x.1).length * 3 + x.2.2.length) (fun x => ⟨[(0, .int (n : Int)), (3, .slice 0 0 (ptsTo n y x.1).length x.2.1), (5, .int (y : Int)), (24, .int (x.1 : Int)), (19, .int (n : Int)), (20, .int (y : Int)), (23, .int (n : Int))], [(0, .ints 32 ((ptsTo n y x.1).flatten ++ x.2.2))], 1⟩) (fun x => n - x.1) (0, k, sp) ?_ ?_ ?_
      · exact ⟨Nat.zero_le _, hk, hsp⟩
      · refine View.mk' [] rfl rfl rfl ?_ ?_
        repeat' first | exact vFn | refine vFc rfl ?_ | exact vHn | refine vHc rfl ?_ | refine vFc (congrArg (fun z => some (V.int z)) ?_) ?_ | refine vHc (congrArg (fun z => some (Blk.ints _ z)) ?_) ?_ | refine vFc (congrArg (fun z => some (V.bool z)) ?_) ?_ | refine vFs rfl rfl ?_ ?_
      rintro ⟨z, k, sp⟩ ⟨hz, hk, hsp⟩
      dsimp only at hz hk hsp ⊢
      have hl2 := ptsTo_length n y z
      have hlen := flat3 (sz := 3) (L := ptsTo n y z) (fun x hx => ptsTo_three hx)
      refine cR ?_
      refine oQ (Q_bin rfl rfl rfl) rfl rfl ?_
      refine oN ?_
      refine CW_seq ?_
      first | refine cT rfl ?_ | refine cF rfl ?_ | refine CW_cond rfl (fun hc => ?_) (fun hc => ?_)
      all_goals try simp only [s1, s2, s3, s4, s5, s6, s7, s8, s9, s10, s11, s12] at hc
      all_goals first
        | (
         refine CW_skip ?_)
        | (
         refine CW_exit ?_)
      all_goals first
        | with_reducible refine tR ?_
        | with_reducible refine tE ?_
        | (
         with_reducible refine tN ?_
         refine CW_seq ?_
         refine CW_block ?_
         refine cR ?_
         refine oM rfl rfl ?_
         refine oA rfl rfl ?_
         refine oN ?_
         refine CW_region ?_
         iterate 3 refine oM rfl rfl ?_
         refine oQ (Q_build rfl rfl rfl rfl rfl rfl rfl rfl) rfl rfl ?_
         refine oBsl rfl rfl rfl rfl (.inr ⟨rfl, rfl, by decide⟩) rfl rfl rfl rfl rfl rfl ?_
         refine oApp (sz := 3) (by_ := 24) (xl := [1, (y : Int), (z : Int)]) rfl rfl rfl rfl rfl rfl ⟨by decide, rfl, .inr rfl⟩ rfl rfl rfl rfl rfl rfl hlen rfl (by omega) (by omega) (by omega) (by omega) rfl rfl (fun k2 sp2 h1 h2 => ?_)
         refine oA rfl rfl ?_
         refine OW_nil ?_
         all_goals first | with_reducible refine bN ?_ | with_reducible refine bE ?_ | with_reducible refine bR ?_ | refine bX rfl ?_
         all_goals with_reducible refine tN ?_
         all_goals (
          refine CW_region ?_
          first | refine oQ (Q_binu rfl rfl rfl (by omega)) rfl rfl ?_ | refine oQ (Q_bin rfl rfl rfl) rfl rfl ?_
          refine oM rfl rfl ?_
          refine OW_nil ?_))
      all_goals first
        | with_reducible refine tR ?_
        | with_reducible refine tE ?_
        | (
         with_reducible refine tN ?_
         refine ⟨(z + 1, k2, sp2), ?_, ?_, View.mk' [(0, 2)] rfl rfl rfl ?_ ?_⟩
         · rw [ptsTo_length] at h1 h2 ⊢; exact ⟨by omega, by dsimp only; omega, by dsimp only; omega⟩
         · omega
         all_goals (repeat' first | exact vFn | refine vFc rfl ?_ | exact vHn | refine vHc rfl ?_ | refine vFc (congrArg (fun z => some (V.int z)) ?_) ?_ | refine vHc (congrArg (fun z => some (Blk.ints _ z)) ?_) ?_ | refine vFc (congrArg (fun z => some (V.bool z)) ?_) ?_ | refine vFs rfl rfl ?_ ?_)
         all_goals rw [ptsTo_next]
         all_goals simp)
      all_goals first | with_reducible refine bN ?_ | with_reducible refine bE ?_ | with_reducible refine bR ?_ | refine bX rfl ?_
      all_goals first | with_reducible refine bN ?_ | with_reducible refine bE ?_ | with_reducible refine bR ?_ | refine bX rfl ?_
      all_goals with_reducible refine tN ?_
      all_goals (
       refine CW_region ?_
       first | refine oQ (Q_binu rfl rfl rfl (by omega)) rfl rfl ?_ | refine oQ (Q_bin rfl rfl rfl) rfl rfl ?_
       refine oM rfl rfl ?_
       refine OW_nil ?_))
   all_goals first
     | with_reducible refine tR ?_
     | with_reducible refine tE ?_
     | (
      with_reducible refine tN ?_
      refine ⟨(y + 1, k, sp), ?_, ?_, View.mk' [] rfl rfl rfl ?_ ?_⟩
      · (have e : z = n := by omega); subst e; dsimp only; rw [← ptsTo_row]; exact ⟨by omega, hk, hsp⟩
      · omega
      all_goals (repeat' first | exact vFn | refine vFc rfl ?_ | exact vHn | refine vHc rfl ?_ | refine vFc (congrArg (fun z => some (V.int z)) ?_) ?_ | refine vHc (congrArg (fun z => some (Blk.ints _ z)) ?_) ?_ | refine vFc (congrArg (fun z => some (V.bool z)) ?_) ?_ | refine vFs rfl rfl ?_ ?_)
      all_goals (have e : z = n := by omega)
      all_goals subst e
      all_goals rw [ptsTo_row])
   all_goals first | with_reducible refine bN ?_ | with_reducible refine bE ?_ | with_reducible refine bR ?_ | refine bX rfl ?_
   all_goals with_reducible refine tN ?_
   all_goals (
    refine cR ?_
    refine oM rfl rfl ?_
    refine oA rfl rfl ?_
    refine oN ?_
    refine CW_ret ?_))
  all_goals (
   have e : y = n := by omega
   subst e
   exact exitH (.inr rfl) [] 1 (.cons (.tmp rfl rfl) .nil) rfl rfl rfl (vHc rfl vHn) rfl rfl ⟨k, sp, hk, hsp, rfl, rfl⟩)
theorem l01Points_n (n : Nat) (hn : n ≤ 13) : Con Try.prog [] 91 [.int (n : Int)] [] (ownR 3 32 [] 0 (ptsTo n n 0)) := by
  refine conW tab_ok [(0, .int (n : Int))] 0 [] [] Try.func91 rfl rfl rfl rfl rfl rfl rfl rfl rfl ?_
  refine cR ?_
  refine oA rfl rfl ?_
  refine oN ?_
  refine cR ?_
  refine oQ (Q_build rfl rfl rfl rfl rfl rfl rfl rfl) rfl rfl ?_
  refine oBsl rfl rfl rfl rfl (.inr ⟨rfl, rfl, by decide⟩) rfl rfl rfl rfl rfl rfl ?_
  refine oA rfl rfl ?_
  refine oN ?_
  refine CW_seq ?_
  refine cR ?_
  refine oA rfl rfl ?_
  refine oN ?_
  refine CW_block ?_
  refine CW_loop (ι := Nat × Nat × List Int) (fun x => x.1 ≤ n ∧ 1 + x.1 ≤ x.2.1 ∧ x.2.1 * 3 ≤ (1 + x.1) * 3 + x.2.2.length) (fun x => ⟨[(0, .int (n : Int)), (3, .slice 0 0 (1 + x.1) x.2.1), (4, .int (x.1 : Int))], [(0, .ints 32 (([[0, 0, 1]] ++ row1 x.1).flatten ++ x.2.2))], 1⟩) (fun x => n - x.1) (0, 1, []) ?_ ?_ ?_
  · first | trivial | omega | (simp; done) | (simp; omega)
  · refine View.mk' [] rfl rfl rfl ?_ ?_
    repeat' first | exact vFn | refine vFc rfl ?_ | exact vHn | refine vHc rfl ?_ | refine vFc (congrArg (fun z => some (V.int z)) ?_) ?_ | refine vHc (congrArg (fun z => some (Blk.ints _ z)) ?_) ?_ | refine vFc (congrArg (fun z => some (V.bool z)) ?_) ?_ | refine vFs rfl rfl ?_ ?_
    skip
  rintro ⟨i, k, sp⟩ ⟨hi, hk, hsp⟩
  dsimp only at hi hk hsp ⊢
  have hlen : ([[0, 0, 1]] ++ row1 i).flatten.length = (1 + i) * 3 := by rw [flat3 (sz := 3) (fun x hx => row1_three hx)]; simp [row1_length]; omega
  refine CW_seq ?_
  refine cR ?_
  iterate 2 refine oM rfl rfl ?_
  refine oQ (Q_bin rfl rfl rfl) rfl rfl ?_
  refine oN ?_
  first | refine cT rfl ?_ | refine cF rfl ?_ | refine CW_cond rfl (fun hc => ?_) (fun hc => ?_)
  all_goals try simp only [s1, s2, s3, s4, s5, s6, s7, s8, s9, s10, s11, s12] at hc
  all_goals first
    | (
     refine CW_skip ?_)
    | (
     refine CW_exit ?_)
  all_goals first
    | with_reducible refine tR ?_
    | with_reducible refine tE ?_
    | (
     with_reducible refine tN ?_
     refine CW_seq ?_
     refine CW_block ?_
     refine CW_region ?_
     iterate 2 refine oM rfl rfl ?_
     refine oQ (Q_build rfl rfl rfl rfl rfl rfl rfl rfl) rfl rfl ?_
     refine oBsl rfl rfl rfl rfl (.inr ⟨rfl, rfl, by decide⟩) rfl rfl rfl rfl rfl rfl ?_
     refine oApp (sz := 3) (by_ := 24) (xl := [0, 1, (i : Int)]) rfl rfl rfl rfl rfl rfl ⟨by decide, rfl, .inr rfl⟩ rfl rfl rfl rfl rfl rfl hlen rfl (by omega) (by omega) (by omega) (by omega) rfl rfl (fun k2 sp2 h1 h2 => ?_)
     refine oA rfl rfl ?_
     refine OW_nil ?_
     all_goals first | with_reducible refine bN ?_ | with_reducible refine bE ?_ | with_reducible refine bR ?_ | refine bX rfl ?_
     all_goals with_reducible refine tN ?_
     all_goals (
      refine CW_region ?_
      refine oM rfl rfl ?_
      first | refine oQ (Q_binu rfl rfl rfl (by omega)) rfl rfl ?_ | refine oQ (Q_bin rfl rfl rfl) rfl rfl ?_
      refine oA rfl rfl ?_
      refine OW_nil ?_))
  all_goals first
    | with_reducible refine tR ?_
    | with_reducible refine tE ?_
    | (
     with_reducible refine tN ?_
     refine ⟨(i + 1, k2, sp2), ?_, ?_, View.mk' [(0, 2)] rfl rfl rfl ?_ ?_⟩
     · exact ⟨by omega, by omega, by omega⟩
     · omega
     all_goals (repeat' first | exact vFn | refine vFc rfl ?_ | exact vHn | refine vHc rfl ?_ | refine vFc (congrArg (fun z => some (V.int z)) ?_) ?_ | refine vHc (congrArg (fun z => some (Blk.ints _ z)) ?_) ?_ | refine vFc (congrArg (fun z => some (V.bool z)) ?_) ?_ | refine vFs rfl rfl ?_ ?_)
     all_goals first | (rw [row1_snoc]; simp; done) | fail
     all_goals simp)
  all_goals first | with_reducible refine bN ?_ | with_reducible refine bE ?_ | with_reducible refine bR ?_ | refine bX rfl ?_
  all_goals with_reducible refine tN ?_
  all_goals (
   refine CW_seq ?_
   refine cR ?_
   refine oA rfl rfl ?_
   refine oN ?_
   refine CW_block ?_
   refine CW_loop (ι := Nat × Nat × List Int) (fun x => x.1 ≤ n ∧ (ptsTo n x.1 0).length ≤ x.2.1 ∧ x.2.1 * 3 ≤ (ptsTo n x.1 0).length * 3 + x.2.2.length) (fun x => ⟨[(0, .int (n : Int)), (3, .slice 0 0 (ptsTo n x.1 0).length x.2.1), (5, .int (x.1 : Int))], [(0, .ints 32 ((ptsTo n x.1 0).flatten ++ x.2.2))], 1⟩) (fun x => n - x.1) (0, k, sp) ?_ ?_ ?_
   · (have e : i = n := by omega); subst e; simp only [ptsTo_length]; exact ⟨Nat.zero_le _, by omega, by omega⟩
   · refine View.mk' [] rfl rfl rfl ?_ ?_
     repeat' first | exact vFn | refine vFc rfl ?_ | exact vHn | refine vHc rfl ?_ | refine vFc (congrArg (fun z => some (V.int z)) ?_) ?_ | refine vHc (congrArg (fun z => some (Blk.ints _ z)) ?_) ?_ | refine vFc (congrArg (fun z => some (V.bool z)) ?_) ?_ | refine vFs rfl rfl ?_ ?_
     all_goals (have e : i = n := by omega)
     all_goals subst e
     all_goals first | (rw [ptsTo_length]; omega) | (rw [← ptsTo_start])
   rintro ⟨y, k, sp⟩ ⟨hy, hk, hsp⟩
   dsimp only at hy hk hsp ⊢
   have hq := sq_bound hn hy
   refine CW_seq ?_
   refine cR ?_
   iterate 2 refine oM rfl rfl ?_
   refine oQ (Q_bin rfl rfl rfl) rfl rfl ?_
   refine oN ?_
   first | refine cT rfl ?_ | refine cF rfl ?_ | refine CW_cond rfl (fun hc => ?_) (fun hc => ?_)
   all_goals try simp only [s1, s2, s3, s4, s5, s6, s7, s8, s9, s10, s11, s12] at hc
   all_goals first
     | (
      refine CW_skip ?_)
     | (
      refine CW_exit ?_)
   all_goals first
     | with_reducible refine tR ?_
     | with_reducible refine tE ?_
     | (
      with_reducible refine tN ?_
      refine CW_seq ?_
      refine CW_block ?_
      refine cR ?_
      refine oA rfl rfl ?_
      refine oN ?_
      refine CW_block ?_
      refine CW_loop (ι := Nat × Nat × List Int) (fun x => x.1 ≤ n ∧ (ptsTo n y x.1).length ≤ x.2.1 ∧ x.2.1 * 3 ≤ (ptsTo n y x.1).length * 3 + x.2.2.length) (fun x => ⟨[(0, .int (n : Int)), (3, .slice 0 0 (ptsTo n y x.1).length x.2.1), (5, .int (y : Int)), (6, .int (x.1 : Int))], [(0, .ints 32 ((ptsTo n y x.1).flatten ++ x.2.2))], 1⟩) (fun x => n - x.1) (0, k, sp) ?_ ?_ ?_
      · exact ⟨Nat.zero_le _, hk, hsp⟩
      · refine View.mk' [] rfl rfl rfl ?_ ?_
        repeat' first | exact vFn | refine vFc rfl ?_ | exact vHn | refine vHc rfl ?_ | refine vFc (congrArg (fun z => some (V.int z)) ?_) ?_ | refine vHc (congrArg (fun z => some (Blk.ints _ z)) ?_) ?_ | refine vFc (congrArg (fun z => some (V.bool z)) ?_) ?_ | refine vFs rfl rfl ?_ ?_
      rintro ⟨z, k, sp⟩ ⟨hz, hk, hsp⟩
      dsimp only at hz hk hsp ⊢
      have hl2 := ptsTo_length n y z
      have hlen := flat3 (sz := 3) (L := ptsTo n y z) (fun x hx => ptsTo_three hx)
      refine CW_seq ?_
      refine cR ?_
      iterate 2 refine oM rfl rfl ?_
      refine oQ (Q_bin rfl rfl rfl) rfl rfl ?_
      refine oN ?_
      first | refine cT rfl ?_ | refine cF rfl ?_ | refine CW_cond rfl (fun hc => ?_) (fun hc => ?_)
      all_goals try simp only [s1, s2, s3, s4, s5, s6, s7, s8, s9, s10, s11, s12] at hc
      all_goals first
        | (
         refine CW_skip ?_)
        | (
         refine CW_exit ?_)
      all_goals first
        | with_reducible refine tR ?_
        | with_reducible refine tE ?_
        | (
         with_reducible refine tN ?_
         refine CW_seq ?_
         refine CW_block ?_
         refine CW_region ?_
         iterate 3 refine oM rfl rfl ?_
         refine oQ (Q_build rfl rfl rfl rfl rfl rfl rfl rfl) rfl rfl ?_
         refine oBsl rfl rfl rfl rfl (.inr ⟨rfl, rfl, by decide⟩) rfl rfl rfl rfl rfl rfl ?_
         refine oApp (sz := 3) (by_ := 24) (xl := [1, (y : Int), (z : Int)]) rfl rfl rfl rfl rfl rfl ⟨by decide, rfl, .inr rfl⟩ rfl rfl rfl rfl rfl rfl hlen rfl (by omega) (by omega) (by omega) (by omega) rfl rfl (fun k2 sp2 h1 h2 => ?_)
         refine oA rfl rfl ?_
         refine OW_nil ?_
         all_goals first | with_reducible refine bN ?_ | with_reducible refine bE ?_ | with_reducible refine bR ?_ | refine bX rfl ?_
         all_goals with_reducible refine tN ?_
         all_goals (
          refine CW_region ?_
          refine oM rfl rfl ?_
          first | refine oQ (Q_binu rfl rfl rfl (by omega)) rfl rfl ?_ | refine oQ (Q_bin rfl rfl rfl) rfl rfl ?_
          refine oA rfl rfl ?_
          refine OW_nil ?_))
      all_goals first
        | with_reducible refine tR ?_
        | with_reducible refine tE ?_
        | (
         with_reducible refine tN ?_
         refine ⟨(z + 1, k2, sp2), ?_, ?_, View.mk' [(0, 2)] rfl rfl rfl ?_ ?_⟩
         · rw [ptsTo_length] at h1 h2 ⊢; exact ⟨by omega, by dsimp only; omega, by dsimp only; omega⟩
         · omega
         all_goals (repeat' first | exact vFn | refine vFc rfl ?_ | exact vHn | refine vHc rfl ?_ | refine vFc (congrArg (fun z => some (V.int z)) ?_) ?_ | refine vHc (congrArg (fun z => some (Blk.ints _ z)) ?_) ?_ | refine vFc (congrArg (fun z => some (V.bool z)) ?_) ?_ | refine vFs rfl rfl ?_ ?_)
         all_goals rw [ptsTo_next]
         all_goals simp)
      all_goals first | with_reducible refine bN ?_ | with_reducible refine bE ?_ | with_reducible refine bR ?_ | refine bX rfl ?_
      all_goals first | with_reducible refine bN ?_ | with_reducible refine bE ?_ | with_reducible refine bR ?_ | refine bX rfl ?_
      all_goals with_reducible refine tN ?_
      all_goals (
       refine CW_region ?_
       refine oM rfl rfl ?_
       first | refine oQ (Q_binu rfl rfl rfl (by omega)) rfl rfl ?_ | refine oQ (Q_bin rfl rfl rfl) rfl rfl ?_
       refine oA rfl rfl ?_
       refine OW_nil ?_))
   all_goals first
     | with_reducible refine tR ?_
     | with_reducible refine tE ?_
     | (
      with_reducible refine tN ?_
      refine ⟨(y + 1, k, sp), ?_, ?_, View.mk' [] rfl rfl rfl ?_ ?_⟩
      · (have e : z = n := by omega); subst e; dsimp only; rw [← ptsTo_row]; exact ⟨by omega, hk, hsp⟩
      · omega
      all_goals (repeat' first | exact vFn | refine vFc rfl ?_ | exact vHn | refine vHc rfl ?_ | refine vFc (congrArg (fun z => some (V.int z)) ?_) ?_ | refine vHc (congrArg (fun z => some (Blk.ints _ z)) ?_) ?_ | refine vFc (congrArg (fun z => some (V.bool z)) ?_) ?_ | refine vFs rfl rfl ?_ ?_)
      all_goals (have e : z = n := by omega)
      all_goals subst e
      all_goals rw [ptsTo_row])
   all_goals first | with_reducible refine bN ?_ | with_reducible refine bE ?_ | with_reducible refine bR ?_ | refine bX rfl ?_
   all_goals with_reducible refine tN ?_
   all_goals (
    refine cR ?_
    refine oM rfl rfl ?_
    refine oA rfl rfl ?_
    refine oN ?_
    refine CW_ret ?_))
  all_goals (
   have e : y = n := by omega
   subst e
   exact exitH (.inr rfl) [] 1 (.cons (.tmp rfl rfl) .nil) rfl rfl rfl (vHc rfl vHn) rfl rfl ⟨k, sp, hk, hsp, rfl, rfl⟩)
theorem of_prime {p : Int} (hp : primeB p = true) : ∃ n : Nat, p = (n : Int) ∧ n ≤ 13 := by
  have := prime_bd hp
  exact ⟨p.toNat, by omega, by omega⟩
theorem allPoints_con (p : Int) (hp : primeB p = true) : Con Try.prog [] 132 [.int p] [] (ownR 3 32 [] 0 (allPts p)) := by
  obtain ⟨n, e, hn⟩ := of_prime hp
  rw [← ptsTo_all e, e]
  exact allPoints_n n hn
theorem l01Points_con (p : Int) (hp : primeB p = true) : Con Try.prog [] 91 [.int p] [] (ownR 3 32 [] 0 (allPts p)) := by
  obtain ⟨n, e, hn⟩ := of_prime hp
  rw [← ptsTo_all e, e]
  exact l01Points_n n hn
end Go.Proofs.Ytoiolpgmilobnaa
namespace Go.Proofs.Ytoiolpgmilobnaa
attribute [local irreducible] CW OW QW QOp Con thenP inBlockP
set_option maxRecDepth 10000
set_option linter.unusedSimpArgs false
set_option linter.unusedVariables false
theorem notnot {L : List (List Int)} {g : List Int → Bool} : (L.filter fun x => !(fun x => !g x) x) = L.filter g := by congr 1; funext x; simp
theorem allPts_len {p : Int} (hp : primeB p = true) : (allPts p).length ≤ 183 ∧ 13 ≤ (allPts p).length := by
  obtain ⟨n, rfl, hn⟩ := of_prime hp
  have hb := prime_bd hp
  rw [← ptsTo_all rfl, ptsTo_length]
  have h1 : n * n ≤ 13 * 13 := Nat.mul_le_mul hn hn
  have h2 : 3 * 3 ≤ n * n := Nat.mul_le_mul (by omega) (by omega)
  omega
theorem idxPointD2 (f : Nat) (t0 : TypeId) (L0 : List Int) (t1 : TypeId) (L1 : List Int) (g : List Int → Bool) (tM : TypeId) (L : List (List Int)) (sp : List Int) (k ck : Nat) (hk : k = L.length) (h3 : ∀ x ∈ L, x.length = 3) (hk9 : L.length ≤ 1000000000) (hf : ∀ m, m ∈ L → ConQ Try.prog [] 133 [.arr m, .ptr 1002 0] [(1000, .ints t0 L0), (1001, .ints t1 L1), (1002, .vals 120 [.func f [] [.ptr 1000 0, .ptr 1001 0]])] (.bool (g m))) : ConQ Try.prog [] 146 [.slice 0 0 k ck, .func 133 [] [.ptr 1002 0]] [(0, .ints tM (L.flatten ++ sp)), (1000, .ints t0 L0), (1001, .ints t1 L1), (1002, .vals 120 [.func f [] [.ptr 1000 0, .ptr 1001 0]])] (.int (idxL g L)) := by
  have hfl := flat3 h3
  refine conW tab_ok [(0, .slice 0 0 k ck), (1, .func 133 [] [.ptr 1002 0])] 1 [0, 1000, 1001, 1002] [0, 1000, 1001, 1002] Try.func146 rfl rfl rfl rfl rfl rfl rfl rfl rfl ?_
  refine cR ?_
  refine oA rfl rfl ?_
  refine oN ?_
  refine CW_seq ?_
  refine cR ?_
  refine oM rfl rfl ?_
  first | refine oQ (Q_len rfl rfl rfl rfl) rfl rfl ?_ | refine oQ (Q_len0 rfl rfl rfl rfl) rfl rfl ?_
  refine oM rfl rfl ?_
  refine oN ?_
  refine CW_block ?_
  refine CW_loop (ι := Nat) (fun i => i ≤ L.length ∧ ∀ j, j < i → g (L.getD j []) = false) (fun i => ⟨[(0, .slice 0 0 k ck), (1, .func 133 [] [.ptr 1002 0]), (7, .int k), (8, .int i)], [(0, .ints tM (L.flatten ++ sp)), (1000, .ints t0 L0), (1001, .ints t1 L1), (1002, .vals 120 [.func f [] [.ptr 1000 0, .ptr 1001 0]])], 1⟩) (fun i => L.length - i) 0 ?_ ?_ ?_
  · exact ⟨Nat.zero_le _, fun j h => absurd h (Nat.not_lt_zero _)⟩
  · refine View.mk' [] rfl rfl rfl ?_ ?_
    repeat' first | exact vFn | refine vFc rfl ?_ | exact vHn | refine vHc rfl ?_ | refine vFc (congrArg (fun z => some (V.int z)) ?_) ?_ | refine vHc (congrArg (fun z => some (Blk.ints _ z)) ?_) ?_ | refine vFc (congrArg (fun z => some (V.bool z)) ?_) ?_ | refine vFs rfl rfl ?_ ?_
  rintro i ⟨hi, hi2⟩
  refine cR ?_
  refine oQ (Q_bin rfl rfl rfl) rfl rfl ?_
  refine oN ?_
  refine CW_seq ?_
  first | refine cT rfl ?_ | refine cF rfl ?_ | refine CW_cond rfl (fun hc => ?_) (fun hc => ?_)
  all_goals try simp only [s1, s2, s3, s4, s5, s6, s7, s8, s9, s10, s11, s12] at hc
  all_goals first
    | (
     refine CW_skip ?_)
    | (
     refine CW_exit ?_)
  all_goals first
    | with_reducible refine tR ?_
    | with_reducible refine tE ?_
    | (
     with_reducible refine tN ?_
     refine CW_seq ?_
     refine CW_block ?_
     refine cR ?_
     refine oM rfl rfl ?_
     refine oA rfl rfl ?_
     refine oN ?_
     refine cR ?_
     iterate 3 refine oM rfl rfl ?_
     first | refine oQ (Q_ixs0z 3 rfl rfl rfl rfl rfl rfl (by first | omega | (dsimp only; omega) | (simp; omega) | (simp; done))) rfl rfl ?_ | refine oQ (Q_ixsz 3 rfl rfl rfl rfl rfl rfl (by first | omega | (dsimp only; omega) | (simp; omega) | (simp; done))) rfl rfl ?_
     refine oQ (Q_lda (n := 3) rfl rfl rfl rfl rfl (by rw [List.length_append, hfl]; omega)) rfl rfl ?_; rw [flat_get h3 (show i < L.length by omega)]
     refine oQ (Q_callf (hf _ (getD_mem (by omega))) [] rfl rfl rfl (Fits.mk' (vHc rfl (vHc rfl (vHc rfl vHn))) rfl rfl (by first | (simp; done) | exact glOk rfl rfl rfl)) rfl rfl) rfl rfl ?_
     refine oN ?_
     first | refine cT rfl ?_ | refine cF rfl ?_ | refine CW_cond rfl (fun hc => ?_) (fun hc => ?_)
     all_goals try simp only [s1, s2, s3, s4, s5, s6, s7, s8, s9, s10, s11, s12] at hc
     all_goals first
       | (
        refine CW_skip ?_)
       | (
        refine cR ?_
        refine oM rfl rfl ?_
        refine oA rfl rfl ?_
        refine oN ?_
        refine CW_ret ?_)
     all_goals first | with_reducible refine bN ?_ | with_reducible refine bE ?_ | with_reducible refine bR ?_ | refine bX rfl ?_
     all_goals first
       | with_reducible refine tR ?_
       | with_reducible refine tE ?_
       | (
        with_reducible refine tN ?_
        refine CW_region ?_
        first | refine oQ (Q_binu rfl rfl rfl (by omega)) rfl rfl ?_ | refine oQ (Q_bin rfl rfl rfl) rfl rfl ?_
        refine oM rfl rfl ?_
        refine OW_nil ?_))
  all_goals first
    | with_reducible refine tR ?_
    | with_reducible refine tE ?_
    | (
     with_reducible refine tN ?_
     refine ⟨i + 1, ?_, ?_, View.mk' [] rfl rfl rfl ?_ ?_⟩
     · refine ⟨by omega, fun j hj => ?_⟩
       by_cases e : j = i
       · subst e; exact hc
       · exact hi2 j (by omega)
     · omega
     all_goals (repeat' first | exact vFn | refine vFc rfl ?_ | exact vHn | refine vHc rfl ?_ | refine vFc (congrArg (fun z => some (V.int z)) ?_) ?_ | refine vHc (congrArg (fun z => some (Blk.ints _ z)) ?_) ?_ | refine vFc (congrArg (fun z => some (V.bool z)) ?_) ?_ | refine vFs rfl rfl ?_ ?_))
  all_goals first | with_reducible refine bN ?_ | with_reducible refine bE ?_ | with_reducible refine bR ?_ | refine bX rfl ?_
  all_goals first
    | with_reducible refine tR ?_
    | with_reducible refine tE ?_
    | (
     with_reducible refine tN ?_
     refine cR ?_
     refine oA rfl rfl ?_
     refine oN ?_
     refine CW_ret ?_)
  all_goals (
   refine exitQ (.inr rfl) 1 (.cons (.tmp rfl rfl) .nil) ?_ rfl (vHc rfl (vHc rfl (vHc rfl (vHc rfl vHn)))) rfl rfl
   first
     | exact congrArg V.int (idxL_found (by omega) hi2 hc).symm
     | exact congrArg V.int (idxL_none (fun j hj => hi2 j (by omega))).symm)
theorem delPointD2 (f : Nat) (t0 : TypeId) (L0 : List Int) (t1 : TypeId) (L1 : List Int) (g : List Int → Bool) (tM : TypeId) (L : List (List Int)) (sp : List Int) (ck : Nat) (h3 : ∀ x ∈ L, x.length = 3) (hk9 : L.length ≤ 1000000000) (hck : L.length ≤ ck) (hf : ∀ m, m ∈ L → ConQ Try.prog [] 133 [.arr m, .ptr 1002 0] [(1000, .ints t0 L0), (1001, .ints t1 L1), (1002, .vals 120 [.func f [] [.ptr 1000 0, .ptr 1001 0]])] (.bool (g m))) : Con Try.prog [] 131 [.slice 0 0 L.length ck, .func 133 [] [.ptr 1002 0]] [(0, .ints tM (L.flatten ++ sp)), (1000, .ints t0 L0), (1001, .ints t1 L1), (1002, .vals 120 [.func f [] [.ptr 1000 0, .ptr 1001 0]])] (fun r H' => ∃ z, z.length = (L.length - (L.filter fun x => !g x).length) * 3 ∧ r = .slice 0 0 (L.filter fun x => !g x).length ck ∧ H' = [(0, .ints tM ((L.filter fun x => !g x).flatten ++ (z ++ sp))), (1000, .ints t0 L0), (1001, .ints t1 L1), (1002, .vals 120 [.func f [] [.ptr 1000 0, .ptr 1001 0]])]) := by
  have hfl := flat3 h3
  rcases idxL_cases g L with ⟨hix, hix1⟩ | ⟨a, hix, ha, ha1, ha2⟩
  · have hall : (L.filter fun x => !g x) = L := by rw [List.filter_eq_self]; intro x hx; simp [hix1 x hx]
    rw [hall]
    refine conW tab_ok [(0, .slice 0 0 L.length ck), (1, .func 133 [] [.ptr 1002 0])] 1 [0, 1000, 1001, 1002] [0, 1000, 1001, 1002] Try.func131 rfl rfl rfl rfl rfl rfl rfl rfl rfl ?_
    refine cR ?_
    refine oA rfl rfl ?_
    refine oN ?_
    refine cR ?_
    iterate 2 refine oM rfl rfl ?_
    refine oQ (Q_call (idxPointD2 f t0 L0 t1 L1 g tM L sp L.length ck rfl h3 hk9 hf) [] rfl rfl (Fits.mk' (vHc rfl (vHc rfl (vHc rfl (vHc rfl vHn)))) rfl rfl (by first | (simp; done) | exact glOk rfl rfl rfl)) rfl rfl) rfl rfl ?_
    refine oA rfl rfl ?_
    refine oN ?_
    refine CW_seq ?_
    refine cR ?_
    refine oM rfl rfl ?_
    refine oQ (Q_bin rfl rfl rfl) rfl rfl ?_; rw [hix]
    refine oN ?_
    first | refine cT rfl ?_ | refine cF rfl ?_ | refine CW_cond rfl (fun hc => ?_) (fun hc => ?_)
    all_goals try simp only [s1, s2, s3, s4, s5, s6, s7, s8, s9, s10, s11, s12] at hc
    all_goals try (exfalso; first | omega | (simp at hc); done)
    all_goals first
      | (
       refine CW_skip ?_)
      | (
       refine cR ?_
       refine oM rfl rfl ?_
       refine oA rfl rfl ?_
       refine oN ?_
       refine CW_ret ?_)
    all_goals first
      | with_reducible refine tR ?_
      | with_reducible refine tE ?_
      | (
       with_reducible refine tN ?_
       refine CW_seq ?_
       refine cR ?_
       refine oM rfl rfl ?_
       first | refine oQ (Q_binu rfl rfl rfl (by omega)) rfl rfl ?_ | refine oQ (Q_bin rfl rfl rfl) rfl rfl ?_
       refine oA rfl rfl ?_
       refine oN ?_
       refine CW_block ?_
       exfalso; simp at hc
       · first | trivial | omega | (simp; done) | (simp; omega)
       · refine View.mk' [] rfl rfl rfl ?_ ?_
         repeat' first | exact vFn | refine vFc rfl ?_ | exact vHn | refine vHc rfl ?_ | refine vFc (congrArg (fun z => some (V.int z)) ?_) ?_ | refine vHc (congrArg (fun z => some (Blk.ints _ z)) ?_) ?_ | refine vFc (congrArg (fun z => some (V.bool z)) ?_) ?_ | refine vFs rfl rfl ?_ ?_
       intro i hi
       refine CW_seq ?_
       refine cR ?_
       iterate 2 refine oM rfl rfl ?_
       first | refine oQ (Q_len rfl rfl rfl rfl) rfl rfl ?_ | refine oQ (Q_len0 rfl rfl rfl rfl) rfl rfl ?_
       refine oQ (Q_bin rfl rfl rfl) rfl rfl ?_
       refine oN ?_
       first | refine cT rfl ?_ | refine cF rfl ?_ | refine CW_cond rfl (fun hc => ?_) (fun hc => ?_)
       all_goals try simp only [s1, s2, s3, s4, s5, s6, s7, s8, s9, s10, s11, s12] at hc
       all_goals try (exfalso; first | omega | (simp at hc); done)
       all_goals first
         | (
          refine CW_skip ?_)
         | (
          refine CW_exit ?_)
       all_goals first
         | with_reducible refine tR ?_
         | with_reducible refine tE ?_
         | (
          with_reducible refine tN ?_
          refine CW_seq ?_
          refine CW_block ?_
          refine cR ?_
          iterate 2 refine oM rfl rfl ?_
          first | refine oQ (Q_ixs0z 3 rfl rfl rfl rfl rfl rfl (by first | omega | (dsimp only; omega) | (simp; omega) | (simp; done))) rfl rfl ?_ | refine oQ (Q_ixsz 3 rfl rfl rfl rfl rfl rfl (by first | omega | (dsimp only; omega) | (simp; omega) | (simp; done))) rfl rfl ?_
          first | refine oQ (Lw rfl rfl rfl rfl) rfl rfl ?_ | refine oQ (La rfl rfl rfl rfl rfl) rfl rfl ?_
          refine oAlloc rfl rfl rfl rfl rfl rfl rfl ?_
          first | refine oSw rfl rfl rfl rfl ?_ | refine oSa rfl rfl rfl rfl ?_
          refine oN ?_
          refine cR ?_
          refine oM rfl rfl ?_
          first | refine oQ (Lw rfl rfl rfl rfl) rfl rfl ?_ | refine oQ (La rfl rfl rfl rfl rfl) rfl rfl ?_
          fail "call of a value at slot 28"
          refine oQ (Q_not rfl) rfl rfl ?_
          refine oN ?_
          first | refine cT rfl ?_ | refine cF rfl ?_ | refine CW_cond rfl (fun hc => ?_) (fun hc => ?_)
          all_goals try simp only [s1, s2, s3, s4, s5, s6, s7, s8, s9, s10, s11, s12] at hc
          all_goals try (exfalso; first | omega | (simp at hc); done)
          all_goals first
            | (
             refine CW_skip ?_)
            | (
             refine cR ?_
             iterate 2 refine oM rfl rfl ?_
             first | refine oQ (Lw rfl rfl rfl rfl) rfl rfl ?_ | refine oQ (La rfl rfl rfl rfl rfl) rfl rfl ?_
             first | refine oQ (Q_ixs0z 3 rfl rfl rfl rfl rfl rfl (by first | omega | (dsimp only; omega) | (simp; omega) | (simp; done))) rfl rfl ?_ | refine oQ (Q_ixsz 3 rfl rfl rfl rfl rfl rfl (by first | omega | (dsimp only; omega) | (simp; omega) | (simp; done))) rfl rfl ?_
             first | refine oSw rfl rfl rfl rfl ?_ | refine oSa rfl rfl rfl rfl ?_
             refine oN ?_
             refine CW_region ?_
             refine oM rfl rfl ?_
             first | refine oQ (Q_binu rfl rfl rfl (by omega)) rfl rfl ?_ | refine oQ (Q_bin rfl rfl rfl) rfl rfl ?_
             refine oA rfl rfl ?_
             refine OW_nil ?_)
          all_goals first | with_reducible refine bN ?_ | with_reducible refine bE ?_ | with_reducible refine bR ?_ | refine bX rfl ?_
          all_goals with_reducible refine tN ?_
          all_goals (
           refine CW_region ?_
           refine oM rfl rfl ?_
           first | refine oQ (Q_binu rfl rfl rfl (by omega)) rfl rfl ?_ | refine oQ (Q_bin rfl rfl rfl) rfl rfl ?_
           refine oA rfl rfl ?_
           refine OW_nil ?_))
       all_goals first
         | with_reducible refine tR ?_
         | with_reducible refine tE ?_
         | (
          with_reducible refine tN ?_
          fail "again 0")
       all_goals first | with_reducible refine bN ?_ | with_reducible refine bE ?_ | with_reducible refine bR ?_ | refine bX rfl ?_
       all_goals with_reducible refine tN ?_
       all_goals (
        refine cR ?_
        iterate 2 refine oM rfl rfl ?_
        refine oQ (Q_slsL 3 rfl rfl rfl rfl rfl rfl (by first | omega | (dsimp only; omega) | (simp; omega) | (simp; done)) (by first | omega | (dsimp only; omega) | (simp; omega) | (simp; done))) rfl rfl ?_
        fail "builtin clear at slot None"
        refine oN ?_
        refine cR ?_
        iterate 2 refine oM rfl rfl ?_
        refine oQ (Q_slsH rfl rfl rfl rfl rfl (by first | omega | (dsimp only; omega) | (simp; omega) | (simp; done))) rfl rfl ?_
        refine oA rfl rfl ?_
        refine oN ?_
        refine CW_ret ?_))
    all_goals (
     exact exitH (r0 := .slice 0 0 L.length ck) (.inr rfl) [] 1 (.cons (.tmp rfl rfl) .nil) rfl rfl rfl (vHc rfl (vHc rfl (vHc rfl (vHc rfl vHn)))) rfl rfl ⟨[], by simp, rfl, rfl⟩)
  · have hall : ((L.take a).filter fun x => !g x) = L.take a := by rw [List.filter_eq_self]; intro x hx; simp [ha2 x hx]
    refine conW tab_ok [(0, .slice 0 0 L.length ck), (1, .func 133 [] [.ptr 1002 0])] 1 [0, 1000, 1001, 1002] [0, 1000, 1001, 1002] Try.func131 rfl rfl rfl rfl rfl rfl rfl rfl rfl ?_
    refine cR ?_
    refine oA rfl rfl ?_
    refine oN ?_
    refine cR ?_
    iterate 2 refine oM rfl rfl ?_
    refine oQ (Q_call (idxPointD2 f t0 L0 t1 L1 g tM L sp L.length ck rfl h3 hk9 hf) [] rfl rfl (Fits.mk' (vHc rfl (vHc rfl (vHc rfl (vHc rfl vHn)))) rfl rfl (by first | (simp; done) | exact glOk rfl rfl rfl)) rfl rfl) rfl rfl ?_
    refine oA rfl rfl ?_
    refine oN ?_
    refine CW_seq ?_
    refine cR ?_
    refine oM rfl rfl ?_
    refine oQ (Q_bin rfl rfl rfl) rfl rfl ?_
    refine oN ?_
    first | refine cT rfl ?_ | refine cF rfl ?_ | refine CW_cond rfl (fun hc => ?_) (fun hc => ?_)
    all_goals try simp only [s1, s2, s3, s4, s5, s6, s7, s8, s9, s10, s11, s12] at hc
    all_goals try (exfalso; first | omega | (simp at hc); done)
    all_goals first
      | (
       refine CW_skip ?_)
      | (
       refine cR ?_
       refine oM rfl rfl ?_
       refine oA rfl rfl ?_
       refine oN ?_
       refine CW_ret ?_)
    all_goals first
      | with_reducible refine tR ?_
      | with_reducible refine tE ?_
      | (
       with_reducible refine tN ?_
       refine CW_seq ?_
       refine cR ?_
       refine oM rfl rfl ?_
       first | refine oQ (Q_binu rfl rfl rfl (by omega)) rfl rfl ?_ | refine oQ (Q_bin rfl rfl rfl) rfl rfl ?_
       refine oA rfl rfl ?_
       refine oN ?_
       refine CW_block ?_
       refine CW_loop (ι := Nat × List Int) (fun x => x.1 ≤ L.length ∧ x.2.length + ((L.take x.1).filter fun x => !g x).length * 3 = x.1 * 3 ∧ ((L.take x.1).filter fun x => !g x).length < x.1) (fun x => ⟨[(0, .slice 0 0 L.length ck), (1, .func 133 [] [.ptr 1002 0]), (5, .int (((L.take x.1).filter fun x => !g x).length : Nat)), (6, .int (x.1 : Int))], [(0, .ints tM (delM 3 g L x.1 x.2 sp)), (1000, .ints t0 L0), (1001, .ints t1 L1), (1002, .vals 120 [.func f [] [.ptr 1000 0, .ptr 1001 0]])], 1⟩) (fun x => L.length - x.1) (a + 1, L.getD a []) ?_ ?_ ?_
       · refine ⟨ha, ?_⟩; rw [filter_skip ha (by rw [ha1]; rfl), hall, List.length_take, h3 _ (getD_mem ha)]; exact ⟨by omega, by dsimp only; omega⟩
       · refine View.mk' [] rfl rfl rfl ?_ ?_
         repeat' first | exact vFn | refine vFc rfl ?_ | exact vHn | refine vHc rfl ?_ | refine vFc (congrArg (fun z => some (V.int z)) ?_) ?_ | refine vHc (congrArg (fun z => some (Blk.ints _ z)) ?_) ?_ | refine vFc (congrArg (fun z => some (V.bool z)) ?_) ?_ | refine vFs rfl rfl ?_ ?_
         · rw [hix, filter_skip ha (by rw [ha1]; rfl), hall, List.length_take, Nat.min_eq_left (by omega)]
         · rw [hix]; rfl
         · have hd := delM_skip (sz := 3) (junk := []) (sp := sp) ha ha1; rw [List.nil_append] at hd; dsimp only; rw [← hd]; unfold delM; rw [hall, List.nil_append, ← List.append_assoc, ← List.flatten_append, List.take_append_drop]
       rintro ⟨j, junk⟩ ⟨hj, hju, hlt⟩
       dsimp only at hj hju hlt ⊢
       have hfn := filter_len (g := fun x => !g x) j hj
       have hdl := delM_len (sp := sp) h3 hj hju
       have hdl2 := fun h : j < L.length => h3 _ (getD_mem h)
       refine CW_seq ?_
       refine cR ?_
       iterate 2 refine oM rfl rfl ?_
       first | refine oQ (Q_len rfl rfl rfl rfl) rfl rfl ?_ | refine oQ (Q_len0 rfl rfl rfl rfl) rfl rfl ?_
       refine oQ (Q_bin rfl rfl rfl) rfl rfl ?_
       refine oN ?_
       first | refine cT rfl ?_ | refine cF rfl ?_ | refine CW_cond rfl (fun hc => ?_) (fun hc => ?_)
       all_goals try simp only [s1, s2, s3, s4, s5, s6, s7, s8, s9, s10, s11, s12] at hc
       all_goals try (exfalso; first | omega | (simp at hc); done)
       all_goals first
         | (
          refine CW_skip ?_)
         | (
          refine CW_exit ?_)
       all_goals first
         | with_reducible refine tR ?_
         | with_reducible refine tE ?_
         | (
          with_reducible refine tN ?_
          refine CW_seq ?_
          refine CW_block ?_
          refine cR ?_
          iterate 2 refine oM rfl rfl ?_
          first | refine oQ (Q_ixs0z 3 rfl rfl rfl rfl rfl rfl (by first | omega | (dsimp only; omega) | (simp; omega) | (simp; done))) rfl rfl ?_ | refine oQ (Q_ixsz 3 rfl rfl rfl rfl rfl rfl (by first | omega | (dsimp only; omega) | (simp; omega) | (simp; done))) rfl rfl ?_
          refine oQ (Q_lda (n := 3) rfl rfl rfl rfl rfl (by rw [hdl]; omega)) rfl rfl ?_; rw [delM_get h3 (show j < L.length by omega) hju]
          refine oAlloc rfl rfl rfl rfl rfl rfl rfl ?_
          first | refine oSw rfl rfl rfl rfl ?_ | refine oSa rfl rfl rfl rfl ?_
          refine oN ?_
          refine cR ?_
          refine oM rfl rfl ?_
          first | refine oQ (Lw rfl rfl rfl rfl) rfl rfl ?_ | refine oQ (La rfl rfl rfl rfl rfl) rfl rfl ?_
          refine oQ (Q_callf (hf _ (getD_mem (by omega))) [] rfl rfl rfl (Fits.mk' (vHc rfl (vHc rfl (vHc rfl vHn))) rfl rfl (by first | (simp; done) | exact glOk rfl rfl rfl)) rfl rfl) rfl rfl ?_
          refine oQ (Q_not rfl) rfl rfl ?_
          refine oN ?_
          first | refine cT rfl ?_ | refine cF rfl ?_ | refine CW_cond rfl (fun hc => ?_) (fun hc => ?_)
          all_goals try simp only [s1, s2, s3, s4, s5, s6, s7, s8, s9, s10, s11, s12] at hc
          all_goals try (exfalso; first | omega | (simp at hc); done)
          all_goals first
            | (
             refine CW_skip ?_)
            | (
             refine cR ?_
             iterate 2 refine oM rfl rfl ?_
             first | refine oQ (Lw rfl rfl rfl rfl) rfl rfl ?_ | refine oQ (La rfl rfl rfl rfl rfl) rfl rfl ?_
             refine oQ (Q_ixs0z 3 rfl rfl rfl rfl rfl rfl (by omega)) rfl rfl ?_
             first | refine oSw rfl rfl rfl rfl ?_ | refine oSa rfl rfl rfl rfl ?_
             refine oN ?_
             refine CW_region ?_
             refine oM rfl rfl ?_
             first | refine oQ (Q_binu rfl rfl rfl (by omega)) rfl rfl ?_ | refine oQ (Q_bin rfl rfl rfl) rfl rfl ?_
             refine oA rfl rfl ?_
             refine OW_nil ?_)
          all_goals first | with_reducible refine bN ?_ | with_reducible refine bE ?_ | with_reducible refine bR ?_ | refine bX rfl ?_
          all_goals with_reducible refine tN ?_
          all_goals (
           refine CW_region ?_
           refine oM rfl rfl ?_
           first | refine oQ (Q_binu rfl rfl rfl (by omega)) rfl rfl ?_ | refine oQ (Q_bin rfl rfl rfl) rfl rfl ?_
           refine oA rfl rfl ?_
           refine OW_nil ?_))
       all_goals first
         | with_reducible refine tR ?_
         | with_reducible refine tE ?_
         | (
          with_reducible refine tN ?_
          refine ⟨(j + 1, if g (L.getD j []) = true then junk ++ L.getD j [] else (junk ++ L.getD j []).drop 3), ?_, ?_, View.mk' [] rfl rfl rfl ?_ ?_⟩
          · have e3 := h3 _ (getD_mem (show j < L.length by omega))
            refine ⟨by dsimp only; omega, ?_⟩
            dsimp only
            cases hg : g (L.getD j [])
            · rw [filter_snoc (by omega) (by rw [hg]; rfl)]; simp only [Bool.false_eq_true, if_false, List.length_drop, List.length_append, List.length_cons, List.length_nil, e3]; exact ⟨by omega, by omega⟩
            · rw [filter_skip (by omega) (by rw [hg]; rfl)]; simp only [if_true, List.length_append, e3]; exact ⟨by omega, by omega⟩
          · omega
          all_goals (repeat' first | exact vFn | refine vFc rfl ?_ | exact vHn | refine vHc rfl ?_ | refine vFc (congrArg (fun z => some (V.int z)) ?_) ?_ | refine vHc (congrArg (fun z => some (Blk.ints _ z)) ?_) ?_ | refine vFc (congrArg (fun z => some (V.bool z)) ?_) ?_ | refine vFs rfl rfl ?_ ?_)
          all_goals dsimp only
          all_goals first
            | (rw [filter_snoc (by omega) (by rw [hc]; rfl)]; simp; done)
            | (rw [filter_skip (by omega) (by rw [hc]; rfl)]; done)
            | (rw [if_pos hc]; exact delM_skip (by omega) hc)
            | (rw [if_neg (by rw [hc]; exact Bool.false_ne_true)]; exact delM_keep h3 (by omega) hc hju))
       all_goals first | with_reducible refine bN ?_ | with_reducible refine bE ?_ | with_reducible refine bR ?_ | refine bX rfl ?_
       all_goals with_reducible refine tN ?_
       all_goals (
        refine cR ?_
        iterate 2 refine oM rfl rfl ?_
        refine oQ (Q_slsL 3 rfl rfl rfl rfl rfl rfl (by omega) (by omega)) rfl rfl ?_; rw [if_neg (show ¬ ck = ((L.take j).filter fun x => !g x).length by omega), Nat.zero_add]
        refine oClear (sz := 3) rfl rfl rfl rfl ⟨by decide, rfl, .inr rfl⟩ rfl rfl (by rw [hdl]; omega) ?_
        refine oN ?_
        refine cR ?_
        iterate 2 refine oM rfl rfl ?_
        refine oQ (Q_slsH rfl rfl rfl rfl rfl (by first | omega | (dsimp only; omega) | (simp; omega) | (simp; done))) rfl rfl ?_
        refine oA rfl rfl ?_
        refine oN ?_
        refine CW_ret ?_))
    all_goals (
     have e : j = L.length := by omega
     subst e
     refine exitH (r0 := .slice 0 0 (L.filter fun x => !g x).length ck) (H0 := [(0, .ints tM ((L.filter fun x => !g x).flatten ++ (List.replicate ((L.length - (L.filter fun x => !g x).length) * 3) 0 ++ sp))), (1000, .ints t0 L0), (1001, .ints t1 L1), (1002, .vals 120 [.func f [] [.ptr 1000 0, .ptr 1001 0]])]) (.inr rfl) [] 1 (.cons (.tmp rfl rfl) .nil) ?_ rfl rfl ?_ rfl rfl ⟨_, by simp, rfl, rfl⟩
     · simp [resV, ren, ap]
     · refine vHc (congrArg (fun z => some (Blk.ints _ z)) ?_) (vHc rfl (vHc rfl (vHc rfl vHn)))
       exact delM_end h3 hju)
theorem pointsThat1_2 (f : Nat) (t0 : TypeId) (L0 : List Int) (t1 : TypeId) (L1 : List Int) (g : List Int → Bool) (m0 : List Int) (hm : m0.length = 3) (hf : ∀ m, m = m0 → ConQ Try.prog [] f [.arr m, .ptr 1000 0, .ptr 1001 0] [(1000, .ints t0 L0), (1001, .ints t1 L1)] (.bool (g m))) : ConQ Try.prog [] 133 [.arr m0, .ptr 1002 0] [(1000, .ints t0 L0), (1001, .ints t1 L1), (1002, .vals 120 [.func f [] [.ptr 1000 0, .ptr 1001 0]])] (.bool (!(g m0))) := by
  refine conW tab_ok [(0, .arr m0), (1, .ptr 1002 0)] 0 [1000, 1001, 1002] [1000, 1001, 1002] Try.func133 rfl rfl rfl rfl rfl rfl rfl rfl rfl ?_
  refine cR ?_
  refine oBox rfl rfl rfl rfl rfl rfl ?_
  refine oA rfl rfl ?_
  refine oN ?_
  refine cR ?_
  refine oQ (Q_ldv rfl rfl rfl rfl rfl rfl) rfl rfl ?_
  refine oQ (Q_ldw rfl rfl rfl rfl hm) rfl rfl ?_
  refine oQ (Q_callf (hf m0 rfl) [] rfl rfl rfl (Fits.mk' (vHc rfl (vHc rfl vHn)) rfl rfl (by first | (simp; done) | exact glOk rfl rfl rfl)) rfl rfl) rfl rfl ?_
  refine oQ (Q_not rfl) rfl rfl ?_
  refine oA rfl rfl ?_
  refine oN ?_
  refine CW_ret ?_
  all_goals (
   ((refine exitQ (.inr rfl) 0 (.cons (.tmp rfl rfl) .nil) ?_ rfl (vHc rfl (vHc rfl (vHc rfl vHn))) rfl rfl); rfl))
theorem pointsThat_2 (f : Nat) (t0 : TypeId) (L0 : List Int) (t1 : TypeId) (L1 : List Int) (g : List Int → Bool) (p : Int) (hp : primeB p = true) (hf : ∀ m, m ∈ allPts p → ConQ Try.prog [] f [.arr m, .ptr 1000 0, .ptr 1001 0] [(1000, .ints t0 L0), (1001, .ints t1 L1)] (.bool (g m))) : Con Try.prog [] 100 [.int p, .func f [] [.ptr 1000 0, .ptr 1001 0]] [(1000, .ints t0 L0), (1001, .ints t1 L1)] (ownR 3 32 [(1000, .ints t0 L0), (1001, .ints t1 L1)] 0 ((allPts p).filter g)) := by
  have hb := prime_bd hp
  have hal := allPts_len hp
  refine conW tab_ok [(0, .int p), (1, .func f [] [.ptr 1000 0, .ptr 1001 0])] 0 [1000, 1001] [1000, 1001] Try.func100 rfl rfl rfl rfl rfl rfl rfl rfl rfl ?_
  refine cR ?_
  refine oBox rfl rfl rfl rfl rfl rfl ?_
  refine oA rfl rfl ?_
  refine oN ?_
  refine cR ?_
  refine oM rfl rfl ?_
  refine oCall (allPoints_con p hp) [] 1 rfl rfl (Fits.mk' vHn rfl rfl (by first | (simp; done) | exact glOk rfl rfl rfl)) rfl rfl ?_
  rintro r H1 ⟨k, sp, hk, hsp, rfl, rfl⟩
  refine ⟨.slice 1 0 (allPts p).length k, [(1, .ints 32 ((allPts p).flatten ++ sp))], rfl, rfl, rfl, ?_⟩
  refine oQ (Q_makeFunc rfl rfl) rfl rfl ?_
  refine oCall (delPointD2 f t0 L0 t1 L1 (fun x => !g x) 32 (allPts p) sp k (fun x hx => allPts_three hx) (by omega) hk (fun m hm => pointsThat1_2 f t0 L0 t1 L1 g m (allPts_three hm) (fun _ e => e ▸ hf m hm))) [(0, 1), (1002, 0)] 0 rfl rfl (Fits.mk' (vHc rfl (vHc rfl (vHc rfl (vHc rfl vHn)))) rfl rfl (by first | (simp; done) | exact glOk rfl rfl rfl)) rfl rfl ?_
  rintro r H1 ⟨z, hz, rfl, rfl⟩
  rw [notnot] at hz ⊢
  refine ⟨.slice 1 0 ((allPts p).filter g).length k, [(1, .ints 32 (((allPts p).filter g).flatten ++ (z ++ sp))), (1000, .ints t0 L0), (1001, .ints t1 L1), (0, .vals 120 [.func f [] [.ptr 1000 0, .ptr 1001 0]])], rfl, rfl, rfl, ?_⟩
  refine oA rfl rfl ?_
  refine oN ?_
  refine CW_ret ?_
  all_goals (
   have hfl := List.length_filter_le g (allPts p)
   exact exitH (r0 := .slice 0 0 ((allPts p).filter g).length k) (.inr rfl) [(0, 1)] 1 (.cons (.tmp rfl rfl) .nil) rfl rfl rfl (vHc rfl (vHc rfl (vHc rfl vHn))) rfl rfl ⟨k, z ++ sp, by omega, by rw [List.length_append, hz]; omega, rfl, rfl⟩)
end Go.Proofs.Ytoiolpgmilobnaa
namespace Go.Proofs.Ytoiolpgmilobnaa
attribute [local irreducible] CW OW QW QOp Con thenP inBlockP
set_option maxRecDepth 10000
set_option linter.unusedSimpArgs false
set_option linter.unusedVariables false
/-- small numbers -/
def sm (B : Int) (l : List Int) : Prop := ∀ x ∈ l, -B ≤ x ∧ x ≤ B
theorem sm_get {B : Int} {l : List Int} (h : sm B l) (hB : 0 ≤ B) (i : Nat) : -B ≤ l.getD i 0 ∧ l.getD i 0 ≤ B := by
  by_cases hi : i < l.length
  · have : l.getD i 0 = l[i] := by simp [List.getD, hi]
    rw [this]; exact h _ (List.getElem_mem hi)
  · have : l.getD i 0 = 0 := by simp [List.getD, hi]
    rw [this]; omega
theorem sm_mod {p : Int} {l : List Int} (hp : primeB p = true) (h : modB p l = true) : sm 13 l := fun x hx => by
  have := prime_bd hp
  have := mod_list h x hx; omega
theorem sm_point {p : Int} {l : List Int} (h : pointB p l = true) : sm 13 l := by
  simp only [pointB, normB, Bool.and_eq_true] at h
  exact sm_mod h.1 h.2.1
theorem allPts_mod {p : Int} (hp : primeB p = true) {x : List Int} (h : x ∈ allPts p) : ∀ z ∈ x, 0 ≤ z ∧ z < p := by
  have hb := prime_bd hp
  simp only [allPts, row1, rows2, row2, List.mem_append, List.mem_map, List.mem_flatMap, List.mem_singleton, List.mem_range] at h
  rcases h with (rfl | ⟨a, ha, rfl⟩) | ⟨a, ha, b, hb, rfl⟩ <;> intro z hz <;> simp only [List.mem_cons, List.not_mem_nil, or_false] at hz <;> omega
theorem allPts_sm {p : Int} (hp : primeB p = true) {x : List Int} (h : x ∈ allPts p) : sm 13 x := fun z hz => by
  have := allPts_mod hp h z hz
  have := prime_bd hp
  omega
/-- the sum of the products of the first i numbers -/
def dotT (c w : List Int) : Nat → Int
  | 0 => 0
  | i + 1 => dotT c w i + c.getD i 0 * w.getD i 0
theorem dotT_bd {A B : Int} {c w : List Int} (hc : sm A c) (hw : sm B w) (hA : 0 ≤ A) (hB : 0 ≤ B) (i : Nat) : -(i * (A * B)) ≤ dotT c w i ∧ dotT c w i ≤ i * (A * B) := by
  induction i with
  | zero => simp [dotT]
  | succ i ih =>
    have h1 := sm_get hc hA i
    have h2 := sm_get hw hB i
    have h3 := mul_bds h1.1 h1.2 h2.1 h2.2
    simp only [dotT, Int.natCast_add, Int.natCast_one, Int.add_mul, Int.one_mul]
    omega
def dotV (a b : List Int) : Int := dotT a b 3
def onB (p : Int) (a l : List Int) : Bool := dotV a l % p == 0
def pw : List Int → List Int
  | [x, y, z] => [x * x, y * y, z * z, x * y, x * z, y * z]
  | _ => []
def conV (p : Int) (c a : List Int) : Int := dotT c (pw a) 6 % p
theorem sm3 {B a b c : Int} : sm B [a, b, c] ↔ (-B ≤ a ∧ a ≤ B) ∧ (-B ≤ b ∧ b ≤ B) ∧ (-B ≤ c ∧ c ≤ B) := by simp [sm]
theorem pw_sm {a : List Int} (h : sm 13 a) (hl : a.length = 3) : sm 169 (pw a) := by
  match a, hl with
  | [x, y, z], _ =>
    obtain ⟨hx, hy, hz⟩ := sm3.1 h
    intro u hu
    simp only [pw, List.mem_cons, List.not_mem_nil, or_false] at hu
    rcases hu with rfl | rfl | rfl | rfl | rfl | rfl
    · exact mul_bds hx.1 hx.2 hx.1 hx.2
    · exact mul_bds hy.1 hy.2 hy.1 hy.2
    · exact mul_bds hz.1 hz.2 hz.1 hz.2
    · exact mul_bds hx.1 hx.2 hy.1 hy.2
    · exact mul_bds hx.1 hx.2 hz.1 hz.2
    · exact mul_bds hy.1 hy.2 hz.1 hz.2
theorem pw_length {a : List Int} (hl : a.length = 3) : (pw a).length = 6 := by
  match a, hl with
  | [x, y, z], _ => rfl
theorem tmod_zero (x p : Int) : (x.tmod p = 0) ↔ (x % p = 0) := by
  rw [← Int.dvd_iff_tmod_eq_zero, Int.dvd_iff_emod_eq_zero]
theorem powers_con (x y z : Int) (h : sm 13 [x, y, z]) : ConQ Try.prog [] 98 [.arr [x, y, z]] [] (.arr (pw [x, y, z])) := by
  obtain ⟨hx, hy, hz⟩ := sm3.1 h
  refine conW tab_ok [(0, .arr [x, y, z])] 0 [] [] Try.func98 rfl rfl rfl rfl rfl rfl rfl rfl rfl ?_
  refine cR ?_
  refine oBox rfl rfl rfl rfl rfl rfl ?_
  refine oAlloc rfl rfl rfl rfl rfl rfl rfl ?_
  refine oN ?_
  refine cR ?_
  first | refine oQ (Ia0 rfl rfl rfl rfl rfl rfl) rfl rfl ?_ | refine oQ (Ia1 rfl rfl rfl rfl rfl rfl) rfl rfl ?_
  first | refine oQ (Q_ldc rfl rfl rfl rfl rfl) rfl rfl ?_ | refine oQ (Ld rfl rfl rfl rfl) rfl rfl ?_
  first | refine oQ (Ia0 rfl rfl rfl rfl rfl rfl) rfl rfl ?_ | refine oQ (Ia1 rfl rfl rfl rfl rfl rfl) rfl rfl ?_
  first | refine oQ (Q_ldc rfl rfl rfl rfl rfl) rfl rfl ?_ | refine oQ (Ld rfl rfl rfl rfl) rfl rfl ?_
  refine oMul 13 13 rfl rfl (by omega) (by omega) (by decide) rfl (fun z7 hz7 hl7 hu7 => ?_)
  first | refine oQ (Ia0 rfl rfl rfl rfl rfl rfl) rfl rfl ?_ | refine oQ (Ia1 rfl rfl rfl rfl rfl rfl) rfl rfl ?_
  first | refine oQ (Q_ldc rfl rfl rfl rfl rfl) rfl rfl ?_ | refine oQ (Ld rfl rfl rfl rfl) rfl rfl ?_
  first | refine oQ (Ia0 rfl rfl rfl rfl rfl rfl) rfl rfl ?_ | refine oQ (Ia1 rfl rfl rfl rfl rfl rfl) rfl rfl ?_
  first | refine oQ (Q_ldc rfl rfl rfl rfl rfl) rfl rfl ?_ | refine oQ (Ld rfl rfl rfl rfl) rfl rfl ?_
  refine oMul 13 13 rfl rfl (by omega) (by omega) (by decide) rfl (fun z12 hz12 hl12 hu12 => ?_)
  first | refine oQ (Ia0 rfl rfl rfl rfl rfl rfl) rfl rfl ?_ | refine oQ (Ia1 rfl rfl rfl rfl rfl rfl) rfl rfl ?_
  first | refine oQ (Q_ldc rfl rfl rfl rfl rfl) rfl rfl ?_ | refine oQ (Ld rfl rfl rfl rfl) rfl rfl ?_
  first | refine oQ (Ia0 rfl rfl rfl rfl rfl rfl) rfl rfl ?_ | refine oQ (Ia1 rfl rfl rfl rfl rfl rfl) rfl rfl ?_
  first | refine oQ (Q_ldc rfl rfl rfl rfl rfl) rfl rfl ?_ | refine oQ (Ld rfl rfl rfl rfl) rfl rfl ?_
  refine oMul 13 13 rfl rfl (by omega) (by omega) (by decide) rfl (fun z17 hz17 hl17 hu17 => ?_)
  first | refine oQ (Ia0 rfl rfl rfl rfl rfl rfl) rfl rfl ?_ | refine oQ (Ia1 rfl rfl rfl rfl rfl rfl) rfl rfl ?_
  first | refine oQ (Q_ldc rfl rfl rfl rfl rfl) rfl rfl ?_ | refine oQ (Ld rfl rfl rfl rfl) rfl rfl ?_
  first | refine oQ (Ia0 rfl rfl rfl rfl rfl rfl) rfl rfl ?_ | refine oQ (Ia1 rfl rfl rfl rfl rfl rfl) rfl rfl ?_
  first | refine oQ (Q_ldc rfl rfl rfl rfl rfl) rfl rfl ?_ | refine oQ (Ld rfl rfl rfl rfl) rfl rfl ?_
  refine oMul 13 13 rfl rfl (by omega) (by omega) (by decide) rfl (fun z22 hz22 hl22 hu22 => ?_)
  first | refine oQ (Ia0 rfl rfl rfl rfl rfl rfl) rfl rfl ?_ | refine oQ (Ia1 rfl rfl rfl rfl rfl rfl) rfl rfl ?_
  first | refine oQ (Q_ldc rfl rfl rfl rfl rfl) rfl rfl ?_ | refine oQ (Ld rfl rfl rfl rfl) rfl rfl ?_
  first | refine oQ (Ia0 rfl rfl rfl rfl rfl rfl) rfl rfl ?_ | refine oQ (Ia1 rfl rfl rfl rfl rfl rfl) rfl rfl ?_
  first | refine oQ (Q_ldc rfl rfl rfl rfl rfl) rfl rfl ?_ | refine oQ (Ld rfl rfl rfl rfl) rfl rfl ?_
  refine oMul 13 13 rfl rfl (by omega) (by omega) (by decide) rfl (fun z27 hz27 hl27 hu27 => ?_)
  first | refine oQ (Ia0 rfl rfl rfl rfl rfl rfl) rfl rfl ?_ | refine oQ (Ia1 rfl rfl rfl rfl rfl rfl) rfl rfl ?_
  first | refine oQ (Q_ldc rfl rfl rfl rfl rfl) rfl rfl ?_ | refine oQ (Ld rfl rfl rfl rfl) rfl rfl ?_
  first | refine oQ (Ia0 rfl rfl rfl rfl rfl rfl) rfl rfl ?_ | refine oQ (Ia1 rfl rfl rfl rfl rfl rfl) rfl rfl ?_
  first | refine oQ (Q_ldc rfl rfl rfl rfl rfl) rfl rfl ?_ | refine oQ (Ld rfl rfl rfl rfl) rfl rfl ?_
  refine oMul 13 13 rfl rfl (by omega) (by omega) (by decide) rfl (fun z32 hz32 hl32 hu32 => ?_)
  refine oQ (Q_build rfl rfl rfl rfl rfl rfl rfl rfl) rfl rfl ?_
  first | refine oSw rfl rfl rfl rfl ?_ | refine oSa rfl rfl rfl rfl ?_
  refine oN ?_
  refine CW_ret ?_
  all_goals (
   subst hz7 hz12 hz17 hz22 hz27 hz32
   (refine exitQ (.inr rfl) 0 (.cons (.arr rfl rfl rfl rfl (by first | omega | (dsimp only; omega) | (simp; omega) | (simp; done))) .nil) ?_ rfl vHn rfl rfl); rfl)
theorem powers_con3 (a : List Int) (hl : a.length = 3) (h : sm 13 a) : ConQ Try.prog [] 98 [.arr a] [] (.arr (pw a)) := by
  match a, hl, h with
  | [x, y, z], _, h => exact powers_con x y z h
theorem dot_con3 (p a b c x y z : Int) (hp : primeB p = true) (h1 : sm 13 [a, b, c]) (h2 : sm 13 [x, y, z]) : ConQ Try.prog [] 99 [.int p, .arr [a, b, c], .arr [x, y, z]] [] (.int (dotV [a, b, c] [x, y, z] % p)) := by
  obtain ⟨ha, hb, hc⟩ := sm3.1 h1
  obtain ⟨hx, hy, hz⟩ := sm3.1 h2
  have hpb := prime_bd hp
  refine conW tab_ok [(0, .int p), (1, .arr [a, b, c]), (2, .arr [x, y, z])] 0 [] [] Try.func99 rfl rfl rfl rfl rfl rfl rfl rfl rfl ?_
  refine cR ?_
  iterate 2 refine oBox rfl rfl rfl rfl rfl rfl ?_
  refine oA rfl rfl ?_
  refine oN ?_
  refine cR ?_
  first | refine oQ (Ia0 rfl rfl rfl rfl rfl rfl) rfl rfl ?_ | refine oQ (Ia1 rfl rfl rfl rfl rfl rfl) rfl rfl ?_
  first | refine oQ (Q_ldc rfl rfl rfl rfl rfl) rfl rfl ?_ | refine oQ (Ld rfl rfl rfl rfl) rfl rfl ?_
  first | refine oQ (Ia0 rfl rfl rfl rfl rfl rfl) rfl rfl ?_ | refine oQ (Ia1 rfl rfl rfl rfl rfl rfl) rfl rfl ?_
  first | refine oQ (Q_ldc rfl rfl rfl rfl rfl) rfl rfl ?_ | refine oQ (Ld rfl rfl rfl rfl) rfl rfl ?_
  refine oMul 13 13 rfl rfl (by omega) (by omega) (by decide) rfl (fun z11 hz11 hl11 hu11 => ?_)
  first | refine oQ (Ia0 rfl rfl rfl rfl rfl rfl) rfl rfl ?_ | refine oQ (Ia1 rfl rfl rfl rfl rfl rfl) rfl rfl ?_
  first | refine oQ (Q_ldc rfl rfl rfl rfl rfl) rfl rfl ?_ | refine oQ (Ld rfl rfl rfl rfl) rfl rfl ?_
  first | refine oQ (Ia0 rfl rfl rfl rfl rfl rfl) rfl rfl ?_ | refine oQ (Ia1 rfl rfl rfl rfl rfl rfl) rfl rfl ?_
  first | refine oQ (Q_ldc rfl rfl rfl rfl rfl) rfl rfl ?_ | refine oQ (Ld rfl rfl rfl rfl) rfl rfl ?_
  refine oMul 13 13 rfl rfl (by omega) (by omega) (by decide) rfl (fun z16 hz16 hl16 hu16 => ?_)
  first | refine oQ (Q_binu rfl rfl rfl (by omega)) rfl rfl ?_ | refine oQ (Q_bin rfl rfl rfl) rfl rfl ?_
  first | refine oQ (Ia0 rfl rfl rfl rfl rfl rfl) rfl rfl ?_ | refine oQ (Ia1 rfl rfl rfl rfl rfl rfl) rfl rfl ?_
  first | refine oQ (Q_ldc rfl rfl rfl rfl rfl) rfl rfl ?_ | refine oQ (Ld rfl rfl rfl rfl) rfl rfl ?_
  first | refine oQ (Ia0 rfl rfl rfl rfl rfl rfl) rfl rfl ?_ | refine oQ (Ia1 rfl rfl rfl rfl rfl rfl) rfl rfl ?_
  first | refine oQ (Q_ldc rfl rfl rfl rfl rfl) rfl rfl ?_ | refine oQ (Ld rfl rfl rfl rfl) rfl rfl ?_
  refine oMul 13 13 rfl rfl (by omega) (by omega) (by decide) rfl (fun z22 hz22 hl22 hu22 => ?_)
  first | refine oQ (Q_binu rfl rfl rfl (by omega)) rfl rfl ?_ | refine oQ (Q_bin rfl rfl rfl) rfl rfl ?_
  refine oM rfl rfl ?_
  refine oQ (Q_call0 (mod_con _ _ (by omega) (by omega)) rfl rfl rfl) rfl rfl ?_
  refine oA rfl rfl ?_
  refine oN ?_
  refine CW_ret ?_
  all_goals (
   subst hz11 hz16 hz22
   refine exitQ (.inr rfl) 0 (.cons (.tmp rfl rfl) .nil) ?_ rfl vHn rfl rfl
   simp [resV, dotV, dotT])
theorem dot_con (p : Int) (a b : List Int) (hp : primeB p = true) (ha : a.length = 3) (hb : b.length = 3) (h1 : sm 13 a) (h2 : sm 13 b) : ConQ Try.prog [] 99 [.int p, .arr a, .arr b] [] (.int (dotV a b % p)) := by
  match a, ha, b, hb with
  | [a, b, c], _, [x, y, z], _ => exact dot_con3 p a b c x y z hp h1 h2
theorem isOn_con (p : Int) (a l : List Int) (hp : primeB p = true) (ha : a.length = 3) (hl : l.length = 3) (h1 : sm 13 a) (h2 : sm 13 l) : ConQ Try.prog [] 102 [.int p, .arr a, .arr l] [] (.bool (onB p a l)) := by
  refine conW tab_ok [(0, .int p), (1, .arr a), (2, .arr l)] 0 [] [] Try.func102 rfl rfl rfl rfl rfl rfl rfl rfl rfl ?_
  refine cR ?_
  iterate 2 refine oBox rfl rfl rfl rfl rfl rfl ?_
  refine oA rfl rfl ?_
  refine oN ?_
  refine cR ?_
  refine oM rfl rfl ?_
  refine oQ (Q_ldw rfl rfl rfl rfl ha) rfl rfl ?_
  refine oQ (Q_ldw rfl rfl rfl rfl hl) rfl rfl ?_
  refine oQ (Q_call0 (dot_con p a l hp ha hl h1 h2) rfl rfl rfl) rfl rfl ?_
  refine oQ (Q_bin rfl rfl rfl) rfl rfl ?_
  refine oA rfl rfl ?_
  refine oN ?_
  refine CW_ret ?_
  all_goals (
   ((refine exitQ (.inr rfl) 0 (.cons (.tmp rfl rfl) .nil) ?_ rfl vHn rfl rfl); rfl))
theorem l01On_con3 (p a b c x y z : Int) (hp : primeB p = true) (h1 : sm 13 [a, b, c]) (h2 : sm 13 [x, y, z]) : ConQ Try.prog [] 95 [.int p, .arr [a, b, c], .arr [x, y, z]] [] (.bool (onB p [a, b, c] [x, y, z])) := by
  obtain ⟨ha, hb, hc⟩ := sm3.1 h1
  obtain ⟨hx, hy, hz⟩ := sm3.1 h2
  have hpb := prime_bd hp
  refine conW tab_ok [(0, .int p), (1, .arr [a, b, c]), (2, .arr [x, y, z])] 0 [] [] Try.func95 rfl rfl rfl rfl rfl rfl rfl rfl rfl ?_
  refine cR ?_
  iterate 2 refine oBox rfl rfl rfl rfl rfl rfl ?_
  refine oA rfl rfl ?_
  refine oN ?_
  refine cR ?_
  first | refine oQ (Ia0 rfl rfl rfl rfl rfl rfl) rfl rfl ?_ | refine oQ (Ia1 rfl rfl rfl rfl rfl rfl) rfl rfl ?_
  first | refine oQ (Q_ldc rfl rfl rfl rfl rfl) rfl rfl ?_ | refine oQ (Ld rfl rfl rfl rfl) rfl rfl ?_
  first | refine oQ (Ia0 rfl rfl rfl rfl rfl rfl) rfl rfl ?_ | refine oQ (Ia1 rfl rfl rfl rfl rfl rfl) rfl rfl ?_
  first | refine oQ (Q_ldc rfl rfl rfl rfl rfl) rfl rfl ?_ | refine oQ (Ld rfl rfl rfl rfl) rfl rfl ?_
  refine oMul 13 13 rfl rfl (by omega) (by omega) (by decide) rfl (fun z11 hz11 hl11 hu11 => ?_)
  first | refine oQ (Ia0 rfl rfl rfl rfl rfl rfl) rfl rfl ?_ | refine oQ (Ia1 rfl rfl rfl rfl rfl rfl) rfl rfl ?_
  first | refine oQ (Q_ldc rfl rfl rfl rfl rfl) rfl rfl ?_ | refine oQ (Ld rfl rfl rfl rfl) rfl rfl ?_
  first | refine oQ (Ia0 rfl rfl rfl rfl rfl rfl) rfl rfl ?_ | refine oQ (Ia1 rfl rfl rfl rfl rfl rfl) rfl rfl ?_
  first | refine oQ (Q_ldc rfl rfl rfl rfl rfl) rfl rfl ?_ | refine oQ (Ld rfl rfl rfl rfl) rfl rfl ?_
  refine oMul 13 13 rfl rfl (by omega) (by omega) (by decide) rfl (fun z16 hz16 hl16 hu16 => ?_)
  first | refine oQ (Q_binu rfl rfl rfl (by omega)) rfl rfl ?_ | refine oQ (Q_bin rfl rfl rfl) rfl rfl ?_
  first | refine oQ (Ia0 rfl rfl rfl rfl rfl rfl) rfl rfl ?_ | refine oQ (Ia1 rfl rfl rfl rfl rfl rfl) rfl rfl ?_
  first | refine oQ (Q_ldc rfl rfl rfl rfl rfl) rfl rfl ?_ | refine oQ (Ld rfl rfl rfl rfl) rfl rfl ?_
  first | refine oQ (Ia0 rfl rfl rfl rfl rfl rfl) rfl rfl ?_ | refine oQ (Ia1 rfl rfl rfl rfl rfl rfl) rfl rfl ?_
  first | refine oQ (Q_ldc rfl rfl rfl rfl rfl) rfl rfl ?_ | refine oQ (Ld rfl rfl rfl rfl) rfl rfl ?_
  refine oMul 13 13 rfl rfl (by omega) (by omega) (by decide) rfl (fun z22 hz22 hl22 hu22 => ?_)
  first | refine oQ (Q_binu rfl rfl rfl (by omega)) rfl rfl ?_ | refine oQ (Q_bin rfl rfl rfl) rfl rfl ?_
  refine oM rfl rfl ?_
  refine oQ (Q_rem rfl rfl (by omega)) rfl rfl ?_
  refine oQ (Q_bin rfl rfl rfl) rfl rfl ?_
  refine oA rfl rfl ?_
  refine oN ?_
  refine CW_ret ?_
  all_goals (
   subst hz11 hz16 hz22
   refine exitQ (.inr rfl) 0 (.cons (.tmp rfl rfl) .nil) ?_ rfl vHn rfl rfl
   simp only [resV, onB, dotV, dotT, V.bool.injEq]
   rw [Bool.eq_iff_iff]
   simp only [beq_iff_eq, tmod_zero]
   simp)
theorem l01On_con (p : Int) (a l : List Int) (hp : primeB p = true) (ha : a.length = 3) (hl : l.length = 3) (h1 : sm 13 a) (h2 : sm 13 l) : ConQ Try.prog [] 95 [.int p, .arr a, .arr l] [] (.bool (onB p a l)) := by
  match a, ha, l, hl with
  | [a, b, c], _, [x, y, z], _ => exact l01On_con3 p a b c x y z hp h1 h2
theorem conAt_con (c : List Int) (p : Int) (a : List Int) (hp : primeB p = true) (hcl : c.length = 6) (hal : a.length = 3) (h1 : sm 13 c) (h2 : sm 13 a) : ConQ Try.prog [] 56 [.arr c, .int p, .arr a] [] (.int (conV p c a)) := by
  have hpb := prime_bd hp
  have hpl := pw_length hal
  have hps := pw_sm h2 hal
  have hd := dotT_bd h1 hps (by decide) (by decide)
  refine conW tab_ok [(0, .arr c), (1, .int p), (2, .arr a)] 0 [] [] Try.func56 rfl rfl rfl rfl rfl rfl rfl rfl rfl ?_
  refine cR ?_
  iterate 2 refine oBox rfl rfl rfl rfl rfl rfl ?_
  refine oA rfl rfl ?_
  refine oN ?_
  refine cR ?_
  refine oA rfl rfl ?_
  refine oN ?_
  refine CW_seq ?_
  refine cR ?_
  refine oQ (Q_ldw rfl rfl rfl rfl hal) rfl rfl ?_
  refine oQ (Q_call0 (powers_con3 a hal h2) rfl rfl rfl) rfl rfl ?_
  refine oM rfl rfl ?_
  refine oN ?_
  refine CW_block ?_
  refine CW_loop (ι := Nat) (fun i => i ≤ 6) (fun i => ⟨[(1, .int p), (3, .ptr 0 0), (7, .int (dotT c (pw a) i)), (11, .arr (pw a)), (12, .int i)], [(0, .ints 25 c)], 2⟩) (fun i => 6 - i) 0 ?_ ?_ ?_
  · first | trivial | omega | (simp; done) | (simp; omega)
  · refine View.mk' [] rfl rfl rfl ?_ ?_
    repeat' first | exact vFn | refine vFc rfl ?_ | exact vHn | refine vHc rfl ?_ | refine vFc (congrArg (fun z => some (V.int z)) ?_) ?_ | refine vHc (congrArg (fun z => some (Blk.ints _ z)) ?_) ?_ | refine vFc (congrArg (fun z => some (V.bool z)) ?_) ?_ | refine vFs rfl rfl ?_ ?_
  intro i hi
  have hdi := hd i
  have hg1 := sm_get h1 (by decide) i
  have hg2 := sm_get hps (by decide) i
  have hi6 : (i : Int) * (13 * 169) ≤ 6 * (13 * 169) := by omega
  refine cR ?_
  refine oQ (Q_bin rfl rfl rfl) rfl rfl ?_
  refine oN ?_
  refine CW_seq ?_
  first | refine cT rfl ?_ | refine cF rfl ?_ | refine CW_cond rfl (fun hc => ?_) (fun hc => ?_)
  all_goals try simp only [s1, s2, s3, s4, s5, s6, s7, s8, s9, s10, s11, s12] at hc
  all_goals first
    | (
     refine CW_skip ?_)
    | (
     refine CW_exit ?_)
  all_goals first
    | with_reducible refine tR ?_
    | with_reducible refine tE ?_
    | (
     with_reducible refine tN ?_
     refine CW_seq ?_
     refine CW_block ?_
     refine cR ?_
     refine oM rfl rfl ?_
     refine oQ (Q_index1 rfl rfl rfl rfl rfl rfl rfl (by first | omega | (dsimp only; omega) | (simp; omega) | (simp; done)) (by first | omega | (dsimp only; omega) | (simp; omega) | (simp; done))) rfl rfl ?_
     iterate 2 refine oA rfl rfl ?_
     refine oN ?_
     refine CW_region ?_
     iterate 2 refine oM rfl rfl ?_
     first | refine oQ (Ia0 rfl rfl rfl rfl rfl rfl) rfl rfl ?_ | refine oQ (Ia1 rfl rfl rfl rfl rfl rfl) rfl rfl ?_
     refine oQ (Ld rfl rfl rfl rfl) rfl rfl ?_
     refine oM rfl rfl ?_
     refine oMul 13 169 rfl rfl (by omega) (by omega) (by decide) rfl (fun z21 hz21 hl21 hu21 => ?_)
     first | refine oQ (Q_binu rfl rfl rfl (by omega)) rfl rfl ?_ | refine oQ (Q_bin rfl rfl rfl) rfl rfl ?_
     refine oA rfl rfl ?_
     refine OW_nil ?_
     all_goals first | with_reducible refine bN ?_ | with_reducible refine bE ?_ | with_reducible refine bR ?_ | refine bX rfl ?_
     all_goals with_reducible refine tN ?_
     all_goals (
      refine CW_region ?_
      first | refine oQ (Q_binu rfl rfl rfl (by omega)) rfl rfl ?_ | refine oQ (Q_bin rfl rfl rfl) rfl rfl ?_
      refine oM rfl rfl ?_
      refine OW_nil ?_))
  all_goals first
    | with_reducible refine tR ?_
    | with_reducible refine tE ?_
    | (
     with_reducible refine tN ?_
     refine ⟨i + 1, ?_, ?_, View.mk' [] rfl rfl rfl ?_ ?_⟩
     · omega
     · omega
     all_goals (repeat' first | exact vFn | refine vFc rfl ?_ | exact vHn | refine vHc rfl ?_ | refine vFc (congrArg (fun z => some (V.int z)) ?_) ?_ | refine vHc (congrArg (fun z => some (Blk.ints _ z)) ?_) ?_ | refine vFc (congrArg (fun z => some (V.bool z)) ?_) ?_ | refine vFs rfl rfl ?_ ?_)
     all_goals (simp only [dotT, ← hz21]))
  all_goals first | with_reducible refine bN ?_ | with_reducible refine bE ?_ | with_reducible refine bR ?_ | refine bX rfl ?_
  all_goals with_reducible refine tN ?_
  all_goals (
   refine cR ?_
   iterate 2 refine oM rfl rfl ?_
   refine oQ (Q_call0 (mod_con _ _ (by omega) (by omega)) rfl rfl rfl) rfl rfl ?_
   refine oA rfl rfl ?_
   refine oN ?_
   refine CW_ret ?_)
  all_goals (
   have e : i = 6 := by omega
   subst e
   (refine exitQ (.inr rfl) 0 (.cons (.tmp rfl rfl) .nil) ?_ rfl vHn rfl rfl); rfl)
theorem l03At_con3 (p a b c d e f x y z : Int) (hp : primeB p = true) (h1 : modB p [a, b, c, d, e, f] = true) (h2 : ∀ u ∈ [x, y, z], 0 ≤ u ∧ u < p) : ConQ Try.prog [] 51 [.int p, .arr [a, b, c, d, e, f], .arr [x, y, z]] [] (.int (conV p [a, b, c, d, e, f] [x, y, z])) := by
  have hpb := prime_bd hp
  simp only [modB, List.all_cons, List.all_nil, Bool.and_true, Bool.and_eq_true, decide_eq_true_eq] at h1
  obtain ⟨hA, hB, hC, hD, hE, hF⟩ := h1
  simp only [List.mem_cons, List.not_mem_nil, or_false, forall_eq_or_imp, forall_eq] at h2
  obtain ⟨hx, hy, hz⟩ := h2
  refine conW tab_ok [(0, .int p), (1, .arr [a, b, c, d, e, f]), (2, .arr [x, y, z])] 0 [] [] Try.func51 rfl rfl rfl rfl rfl rfl rfl rfl rfl ?_
  refine cR ?_
  iterate 2 refine oBox rfl rfl rfl rfl rfl rfl ?_
  refine oA rfl rfl ?_
  refine oN ?_
  refine CW_seq ?_
  refine CW_draw lateOk (by decide +kernel) ?_
  first | refine qQ (Ia0 rfl rfl rfl rfl rfl rfl) rfl rfl ?_ | refine qQ (Ia1 rfl rfl rfl rfl rfl rfl) rfl rfl ?_
  first | refine qQ (Q_ldc rfl rfl rfl rfl rfl) rfl rfl ?_ | refine qQ (Ld rfl rfl rfl rfl) rfl rfl ?_
  first | refine qQ (Ia0 rfl rfl rfl rfl rfl rfl) rfl rfl ?_ | refine qQ (Ia1 rfl rfl rfl rfl rfl rfl) rfl rfl ?_
  first | refine qQ (Q_ldc rfl rfl rfl rfl rfl) rfl rfl ?_ | refine qQ (Ld rfl rfl rfl rfl) rfl rfl ?_
  first | refine qQ (Ia0 rfl rfl rfl rfl rfl rfl) rfl rfl ?_ | refine qQ (Ia1 rfl rfl rfl rfl rfl rfl) rfl rfl ?_
  first | refine qQ (Q_ldc rfl rfl rfl rfl rfl) rfl rfl ?_ | refine qQ (Ld rfl rfl rfl rfl) rfl rfl ?_
  iterate 3 refine qA rfl rfl ?_
  refine QW_nil ?_
  all_goals with_reducible refine tN ?_
  all_goals (
   refine cR ?_
   first | refine oQ (Ia0 rfl rfl rfl rfl rfl rfl) rfl rfl ?_ | refine oQ (Ia1 rfl rfl rfl rfl rfl rfl) rfl rfl ?_
   first | refine oQ (Q_ldc rfl rfl rfl rfl rfl) rfl rfl ?_ | refine oQ (Ld rfl rfl rfl rfl) rfl rfl ?_
   refine oM rfl rfl ?_
   refine oMul 13 13 rfl rfl (by omega) (by omega) (by decide) rfl (fun z19 hz19 hl19 hu19 => ?_)
   refine oM rfl rfl ?_
   refine oMul 169 13 rfl rfl (by omega) (by omega) (by decide) rfl (fun z21 hz21 hl21 hu21 => ?_)
   first | refine oQ (Ia0 rfl rfl rfl rfl rfl rfl) rfl rfl ?_ | refine oQ (Ia1 rfl rfl rfl rfl rfl rfl) rfl rfl ?_
   first | refine oQ (Q_ldc rfl rfl rfl rfl rfl) rfl rfl ?_ | refine oQ (Ld rfl rfl rfl rfl) rfl rfl ?_
   refine oM rfl rfl ?_
   refine oMul 13 13 rfl rfl (by omega) (by omega) (by decide) rfl (fun z25 hz25 hl25 hu25 => ?_)
   refine oM rfl rfl ?_
   refine oMul 169 13 rfl rfl (by omega) (by omega) (by decide) rfl (fun z27 hz27 hl27 hu27 => ?_)
   first | refine oQ (Q_binu rfl rfl rfl (by omega)) rfl rfl ?_ | refine oQ (Q_bin rfl rfl rfl) rfl rfl ?_
   first | refine oQ (Ia0 rfl rfl rfl rfl rfl rfl) rfl rfl ?_ | refine oQ (Ia1 rfl rfl rfl rfl rfl rfl) rfl rfl ?_
   first | refine oQ (Q_ldc rfl rfl rfl rfl rfl) rfl rfl ?_ | refine oQ (Ld rfl rfl rfl rfl) rfl rfl ?_
   refine oM rfl rfl ?_
   refine oMul 13 13 rfl rfl (by omega) (by omega) (by decide) rfl (fun z32 hz32 hl32 hu32 => ?_)
   refine oM rfl rfl ?_
   refine oMul 169 13 rfl rfl (by omega) (by omega) (by decide) rfl (fun z34 hz34 hl34 hu34 => ?_)
   first | refine oQ (Q_binu rfl rfl rfl (by omega)) rfl rfl ?_ | refine oQ (Q_bin rfl rfl rfl) rfl rfl ?_
   first | refine oQ (Ia0 rfl rfl rfl rfl rfl rfl) rfl rfl ?_ | refine oQ (Ia1 rfl rfl rfl rfl rfl rfl) rfl rfl ?_
   first | refine oQ (Q_ldc rfl rfl rfl rfl rfl) rfl rfl ?_ | refine oQ (Ld rfl rfl rfl rfl) rfl rfl ?_
   refine oM rfl rfl ?_
   refine oMul 13 13 rfl rfl (by omega) (by omega) (by decide) rfl (fun z39 hz39 hl39 hu39 => ?_)
   refine oM rfl rfl ?_
   refine oMul 169 13 rfl rfl (by omega) (by omega) (by decide) rfl (fun z41 hz41 hl41 hu41 => ?_)
   first | refine oQ (Q_binu rfl rfl rfl (by omega)) rfl rfl ?_ | refine oQ (Q_bin rfl rfl rfl) rfl rfl ?_
   first | refine oQ (Ia0 rfl rfl rfl rfl rfl rfl) rfl rfl ?_ | refine oQ (Ia1 rfl rfl rfl rfl rfl rfl) rfl rfl ?_
   first | refine oQ (Q_ldc rfl rfl rfl rfl rfl) rfl rfl ?_ | refine oQ (Ld rfl rfl rfl rfl) rfl rfl ?_
   refine oM rfl rfl ?_
   refine oMul 13 13 rfl rfl (by omega) (by omega) (by decide) rfl (fun z46 hz46 hl46 hu46 => ?_)
   refine oM rfl rfl ?_
   refine oMul 169 13 rfl rfl (by omega) (by omega) (by decide) rfl (fun z48 hz48 hl48 hu48 => ?_)
   first | refine oQ (Q_binu rfl rfl rfl (by omega)) rfl rfl ?_ | refine oQ (Q_bin rfl rfl rfl) rfl rfl ?_
   first | refine oQ (Ia0 rfl rfl rfl rfl rfl rfl) rfl rfl ?_ | refine oQ (Ia1 rfl rfl rfl rfl rfl rfl) rfl rfl ?_
   first | refine oQ (Q_ldc rfl rfl rfl rfl rfl) rfl rfl ?_ | refine oQ (Ld rfl rfl rfl rfl) rfl rfl ?_
   refine oM rfl rfl ?_
   refine oMul 13 13 rfl rfl (by omega) (by omega) (by decide) rfl (fun z53 hz53 hl53 hu53 => ?_)
   refine oM rfl rfl ?_
   refine oMul 169 13 rfl rfl (by omega) (by omega) (by decide) rfl (fun z55 hz55 hl55 hu55 => ?_)
   first | refine oQ (Q_binu rfl rfl rfl (by omega)) rfl rfl ?_ | refine oQ (Q_bin rfl rfl rfl) rfl rfl ?_
   refine oM rfl rfl ?_
   refine oQ (Q_rem rfl rfl (by omega)) rfl rfl ?_
   refine oA rfl rfl ?_
   refine oN ?_
   refine CW_ret ?_)
  all_goals (
   have n21 : 0 ≤ z21 := by subst hz21 hz19; exact Int.mul_nonneg (Int.mul_nonneg (by omega) (by omega)) (by omega)
   have n27 : 0 ≤ z27 := by subst hz27 hz25; exact Int.mul_nonneg (Int.mul_nonneg (by omega) (by omega)) (by omega)
   have n34 : 0 ≤ z34 := by subst hz34 hz32; exact Int.mul_nonneg (Int.mul_nonneg (by omega) (by omega)) (by omega)
   have n41 : 0 ≤ z41 := by subst hz41 hz39; exact Int.mul_nonneg (Int.mul_nonneg (by omega) (by omega)) (by omega)
   have n48 : 0 ≤ z48 := by subst hz48 hz46; exact Int.mul_nonneg (Int.mul_nonneg (by omega) (by omega)) (by omega)
   have n55 : 0 ≤ z55 := by subst hz55 hz53; exact Int.mul_nonneg (Int.mul_nonneg (by omega) (by omega)) (by omega)
   refine exitQ (.inr rfl) 0 (.cons (.tmp rfl rfl) .nil) ?_ rfl vHn rfl rfl
   simp only [resV, conV, dotT, pw, V.int.injEq]
   rw [Int.tmod_eq_emod_of_nonneg (by omega)]
   subst hz21 hz19 hz27 hz25 hz34 hz32 hz41 hz39 hz48 hz46 hz55 hz53
   congr 1
   simp [Int.mul_assoc])
theorem l03At_con (p : Int) (c a : List Int) (hp : primeB p = true) (hcl : c.length = 6) (hal : a.length = 3) (h1 : modB p c = true) (h2 : ∀ u ∈ a, 0 ≤ u ∧ u < p) : ConQ Try.prog [] 51 [.int p, .arr c, .arr a] [] (.int (conV p c a)) := by
  match c, hcl, a, hal with
  | [a, b, c, d, e, f], _, [x, y, z], _ => exact l03At_con3 p a b c d e f x y z hp h1 h2
theorem cpoints1_con (c : List Int) (p : Int) (hp : primeB p = true) (hcl : c.length = 6) (h1 : sm 13 c) (m : List Int) (hm : m ∈ allPts p) : ConQ Try.prog [] 127 [.arr m, .ptr 1000 0, .ptr 1001 0] [(1000, .ints 25 c), (1001, .ints 2 [p])] (.bool (conV p c m == 0)) := by
  have h3 := allPts_three hm
  have hs := allPts_sm hp hm
  have hpb := prime_bd hp
  refine conW tab_ok [(0, .arr m), (1, .ptr 1000 0), (2, .ptr 1001 0)] 0 [1000, 1001] [1000, 1001] Try.func127 rfl rfl rfl rfl rfl rfl rfl rfl rfl ?_
  refine cR ?_
  refine oBox rfl rfl rfl rfl rfl rfl ?_
  refine oA rfl rfl ?_
  refine oN ?_
  refine cR ?_
  refine oQ (Q_ldw rfl rfl rfl rfl hcl) rfl rfl ?_
  first | refine oQ (Q_ldc rfl rfl rfl rfl rfl) rfl rfl ?_ | refine oQ (Ld rfl rfl rfl rfl) rfl rfl ?_
  refine oQ (Q_ldw rfl rfl rfl rfl h3) rfl rfl ?_
  refine oQ (Q_call0 (conAt_con c p m hp hcl h3 h1 hs) rfl rfl rfl) rfl rfl ?_
  refine oQ (Q_bin rfl rfl rfl) rfl rfl ?_
  refine oA rfl rfl ?_
  refine oN ?_
  refine CW_ret ?_
  all_goals (
   ((refine exitQ (.inr rfl) 0 (.cons (.tmp rfl rfl) .nil) ?_ rfl (vHc rfl (vHc rfl vHn)) rfl rfl); rfl))
theorem cpoints_con (c : List Int) (p : Int) (hp : primeB p = true) (hcl : c.length = 6) (h1 : sm 13 c) : Con Try.prog [] 86 [.arr c, .int p] [] (ownR 3 32 [] 0 ((allPts p).filter fun m => conV p c m == 0)) := by
  refine conW tab_ok [(0, .arr c), (1, .int p)] 0 [] [] Try.func86 rfl rfl rfl rfl rfl rfl rfl rfl rfl ?_
  refine cR ?_
  iterate 2 refine oBox rfl rfl rfl rfl rfl rfl ?_
  refine oA rfl rfl ?_
  refine oN ?_
  refine cR ?_
  first | refine oQ (Q_ldc rfl rfl rfl rfl rfl) rfl rfl ?_ | refine oQ (Ld rfl rfl rfl rfl) rfl rfl ?_
  refine oQ (Q_makeFunc rfl rfl) rfl rfl ?_
  refine oCall (pointsThat_2 127 25 c 2 [p] (fun m => conV p c m == 0) p hp (fun m hm => cpoints1_con c p hp hcl h1 m hm)) [(1000, 0), (1001, 1)] 1 rfl rfl (Fits.mk' (vHc rfl (vHc rfl vHn)) rfl rfl (by first | (simp; done) | exact glOk rfl rfl rfl)) rfl rfl ?_
  rintro r H1 ⟨k, sp, hk, hsp, rfl, rfl⟩
  refine ⟨.slice 2 0 ((allPts p).filter fun m => conV p c m == 0).length k, [(0, .ints 25 c), (1, .ints 2 [p]), (2, .ints 32 (((allPts p).filter fun m => conV p c m == 0).flatten ++ sp))], rfl, rfl, rfl, ?_⟩
  refine oA rfl rfl ?_
  refine oN ?_
  refine CW_ret ?_
  all_goals (
   exact exitH (.inr rfl) [(0, 2)] 1 (.cons (.tmp rfl rfl) .nil) rfl rfl rfl (vHc rfl vHn) rfl rfl ⟨k, sp, hk, hsp, rfl, rfl⟩)
theorem l03Points_con (p : Int) (c : List Int) (hp : primeB p = true) (hcl : c.length = 6) (h1 : modB p c = true) : Con Try.prog [] 79 [.int p, .arr c] [] (ownR 3 32 [] 0 ((allPts p).filter fun m => conV p c m == 0)) := by
  have hb := prime_bd hp
  have hal := allPts_len hp
  have h3 : ∀ x ∈ (allPts p), x.length = 3 := fun x hx => allPts_three hx
  have hf3 := flat3 h3

  refine conW tab_ok [(0, .int p), (1, .arr c)] 0 [] [] Try.func79 rfl rfl rfl rfl rfl rfl rfl rfl rfl ?_
  refine cR ?_
  refine oBox rfl rfl rfl rfl rfl rfl ?_
  refine oA rfl rfl ?_
  refine oN ?_
  refine cR ?_
  refine oM rfl rfl ?_
  refine oCall (l01Points_con p hp) [] 1 rfl rfl (Fits.mk' vHn rfl rfl (by first | (simp; done) | exact glOk rfl rfl rfl)) rfl rfl ?_
  rintro r H1 ⟨k0, sp0, hk0, hsp0, rfl, rfl⟩
  refine ⟨.slice 1 0 (allPts p).length k0, [(1, .ints 32 ((allPts p).flatten ++ sp0))], rfl, rfl, rfl, ?_⟩
  refine oBsl rfl rfl rfl rfl (.inr ⟨rfl, rfl, by decide⟩) rfl rfl rfl rfl rfl rfl ?_
  iterate 2 refine oA rfl rfl ?_
  refine oN ?_
  refine CW_seq ?_
  refine cR ?_
  refine oA rfl rfl ?_
  refine oN ?_
  refine CW_block ?_
  refine CW_loop (ι := Nat × Nat × List Int) (fun x => x.1 ≤ (allPts p).length ∧ (((allPts p).take x.1).filter fun m => conV p c m == 0).length ≤ x.2.1 ∧ x.2.1 * 3 ≤ (((allPts p).take x.1).filter fun m => conV p c m == 0).length * 3 + x.2.2.length) (fun x => ⟨[(0, .int p), (3, .ptr 0 0), (5, .slice 1 0 (allPts p).length k0), (6, .slice 2 0 (((allPts p).take x.1).filter fun m => conV p c m == 0).length x.2.1), (7, .int x.1)], [(0, .ints 25 c), (1, .ints 32 ((allPts p).flatten ++ sp0)), (2, .ints 32 ((((allPts p).take x.1).filter fun m => conV p c m == 0).flatten ++ x.2.2))], 3⟩) (fun x => (allPts p).length - x.1) (0, 0, []) ?_ ?_ ?_
  · exact ⟨Nat.zero_le _, Nat.le_refl _, Nat.le_refl _⟩
  · refine View.mk' [] rfl rfl rfl ?_ ?_
    repeat' first | exact vFn | refine vFc rfl ?_ | exact vHn | refine vHc rfl ?_ | refine vFc (congrArg (fun z => some (V.int z)) ?_) ?_ | refine vHc (congrArg (fun z => some (Blk.ints _ z)) ?_) ?_ | refine vFc (congrArg (fun z => some (V.bool z)) ?_) ?_ | refine vFs rfl rfl ?_ ?_
  rintro ⟨i, k, sp⟩ ⟨hi, hk, hsp⟩
  dsimp only at hi hk hsp ⊢
  have hfn := filter_len (g := fun m => conV p c m == 0) i hi
  have hlen := flat3 (filter_three (g := fun m => conV p c m == 0) h3 i)
  have hmem := fun h : i < (allPts p).length => getD_mem h
  have h3i := fun h : i < (allPts p).length => h3 _ (getD_mem h)
  refine CW_seq ?_
  refine cR ?_
  iterate 2 refine oM rfl rfl ?_
  first | refine oQ (Q_len rfl rfl rfl rfl) rfl rfl ?_ | refine oQ (Q_len0 rfl rfl rfl rfl) rfl rfl ?_
  refine oQ (Q_bin rfl rfl rfl) rfl rfl ?_
  refine oN ?_
  first | refine cT rfl ?_ | refine cF rfl ?_ | refine CW_cond rfl (fun hc => ?_) (fun hc => ?_)
  all_goals try simp only [s1, s2, s3, s4, s5, s6, s7, s8, s9, s10, s11, s12] at hc
  all_goals first
    | (
     refine CW_skip ?_)
    | (
     refine CW_exit ?_)
  all_goals first
    | with_reducible refine tR ?_
    | with_reducible refine tE ?_
    | (
     with_reducible refine tN ?_
     refine CW_seq ?_
     refine CW_block ?_
     refine CW_seq ?_
     refine CW_draw lateOk (by decide +kernel) ?_
     refine qM rfl rfl ?_
     refine qQ (Q_ldw rfl rfl rfl rfl hcl) rfl rfl ?_
     iterate 2 refine qM rfl rfl ?_
     (have h3i := h3i (by omega)); (have hmem := hmem (by omega)); refine qQ (Q_ixs0z 3 rfl rfl rfl rfl rfl rfl (by omega)) rfl rfl ?_
     refine qQ (Q_lda (n := 3) rfl rfl rfl rfl rfl (by rw [List.length_append, hf3]; omega)) rfl rfl ?_; rw [flat_get h3 (show i < (allPts p).length by omega)]
     refine qQ (Q_call0 (l03At_con p c _ hp hcl h3i h1 (allPts_mod hp hmem)) rfl rfl rfl) rfl rfl ?_
     refine qQ (Q_bin rfl rfl rfl) rfl rfl ?_
     refine QW_nil ?_
     all_goals with_reducible refine tN ?_
     all_goals (
      first | refine cT rfl ?_ | refine cF rfl ?_ | refine CW_cond rfl (fun hc => ?_) (fun hc => ?_)
      all_goals try simp only [s1, s2, s3, s4, s5, s6, s7, s8, s9, s10, s11, s12] at hc
      all_goals first
        | (
         refine CW_skip ?_)
        | (
         refine CW_region ?_
         iterate 3 refine oM rfl rfl ?_
         first | refine oQ (Q_ixs0z 3 rfl rfl rfl rfl rfl rfl (by first | omega | (dsimp only; omega) | (simp; omega) | (simp; done))) rfl rfl ?_ | refine oQ (Q_ixsz 3 rfl rfl rfl rfl rfl rfl (by first | omega | (dsimp only; omega) | (simp; omega) | (simp; done))) rfl rfl ?_
         refine oQ (Q_lda (n := 3) rfl rfl rfl rfl rfl (by rw [List.length_append, hf3]; omega)) rfl rfl ?_; rw [flat_get h3 (show i < (allPts p).length by omega)]
         refine oBsl1 h3i rfl rfl rfl rfl rfl rfl rfl rfl rfl rfl ?_
         refine oApp (sz := 3) (by_ := 24) (xl := (allPts p).getD i []) rfl rfl rfl rfl rfl rfl ⟨by decide, rfl, .inr rfl⟩ rfl rfl rfl rfl rfl rfl hlen (by rw [h3i]) (by omega) (by omega) (by omega) (by omega) rfl rfl (fun k2 sp2 h1 h2 => ?_)
         refine oA rfl rfl ?_
         refine OW_nil ?_))
     all_goals first | with_reducible refine bN ?_ | with_reducible refine bE ?_ | with_reducible refine bR ?_ | refine bX rfl ?_
     all_goals with_reducible refine tN ?_
     all_goals (
      refine CW_region ?_
      refine oM rfl rfl ?_
      first | refine oQ (Q_binu rfl rfl rfl (by omega)) rfl rfl ?_ | refine oQ (Q_bin rfl rfl rfl) rfl rfl ?_
      refine oA rfl rfl ?_
      refine OW_nil ?_))
  all_goals first
    | with_reducible refine tR ?_
    | with_reducible refine tE ?_
    | (
     with_reducible refine tN ?_
     first
       | (
        refine ⟨(i + 1, k2, sp2), ?_, ?_, View.mk' [(2, 4)] rfl rfl rfl ?_ ?_⟩
        · dsimp only
          first
            | (rw [filter_snoc (by omega) (by first | exact hc | exact beq_iff_eq.2 hc), List.length_append, List.length_singleton]; exact ⟨by omega, h1, h2⟩)
            | (rw [filter_skip (by omega) (by first | exact hc | exact beq_eq_false_iff_ne.2 hc)]; exact ⟨by omega, hk, hsp⟩)
        · omega
        all_goals (repeat' first | exact vFn | refine vFc rfl ?_ | exact vHn | refine vHc rfl ?_ | refine vFc (congrArg (fun z => some (V.int z)) ?_) ?_ | refine vHc (congrArg (fun z => some (Blk.ints _ z)) ?_) ?_ | refine vFc (congrArg (fun z => some (V.bool z)) ?_) ?_ | refine vFs rfl rfl ?_ ?_)
        all_goals dsimp only
        all_goals first
          | (rw [filter_snoc (by omega) (by first | exact hc | exact beq_iff_eq.2 hc)]; simp; done)
          | (rw [filter_skip (by omega) (by first | exact hc | exact beq_eq_false_iff_ne.2 hc)]; done))
       | (
        refine ⟨(i + 1, k, sp), ?_, ?_, View.mk' [] rfl rfl rfl ?_ ?_⟩
        · dsimp only
          first
            | (rw [filter_snoc (by omega) (by first | exact hc | exact beq_iff_eq.2 hc), List.length_append, List.length_singleton]; exact ⟨by omega, h1, h2⟩)
            | (rw [filter_skip (by omega) (by first | exact hc | exact beq_eq_false_iff_ne.2 hc)]; exact ⟨by omega, hk, hsp⟩)
        · omega
        all_goals (repeat' first | exact vFn | refine vFc rfl ?_ | exact vHn | refine vHc rfl ?_ | refine vFc (congrArg (fun z => some (V.int z)) ?_) ?_ | refine vHc (congrArg (fun z => some (Blk.ints _ z)) ?_) ?_ | refine vFc (congrArg (fun z => some (V.bool z)) ?_) ?_ | refine vFs rfl rfl ?_ ?_)
        all_goals dsimp only
        all_goals first
          | (rw [filter_snoc (by omega) (by first | exact hc | exact beq_iff_eq.2 hc)]; simp; done)
          | (rw [filter_skip (by omega) (by first | exact hc | exact beq_eq_false_iff_ne.2 hc)]; done)))
  all_goals first | with_reducible refine bN ?_ | with_reducible refine bE ?_ | with_reducible refine bR ?_ | refine bX rfl ?_
  all_goals with_reducible refine tN ?_
  all_goals (
   refine cR ?_
   refine oM rfl rfl ?_
   refine oA rfl rfl ?_
   refine oN ?_
   refine CW_ret ?_)
  all_goals (
   have e : i = (allPts p).length := by omega
   subst e
   rw [List.take_length] at hk hsp
   exact exitH (r0 := .slice 0 0 ((allPts p).filter fun m => conV p c m == 0).length k) (H0 := [(0, .ints 32 (((allPts p).filter fun m => conV p c m == 0).flatten ++ sp))]) (.inr rfl) [(0, 2)] 1 (.cons (.tmp rfl rfl) .nil) (by simp only [List.take_length]; rfl) rfl rfl (vHc (by simp only [List.take_length]; rfl) vHn) rfl rfl ⟨k, sp, hk, hsp, rfl, rfl⟩)
theorem l01PointsOn_con (p : Int) (l : List Int) (hp : primeB p = true) (hll : l.length = 3) (hls : sm 13 l) : Con Try.prog [] 53 [.int p, .arr l] [] (ownR 3 32 [] 0 ((allPts p).filter fun m => onB p m l)) := by
  have hb := prime_bd hp
  have hal := allPts_len hp
  have h3 : ∀ x ∈ (allPts p), x.length = 3 := fun x hx => allPts_three hx
  have hf3 := flat3 h3

  refine conW tab_ok [(0, .int p), (1, .arr l)] 0 [] [] Try.func53 rfl rfl rfl rfl rfl rfl rfl rfl rfl ?_
  refine cR ?_
  refine oBox rfl rfl rfl rfl rfl rfl ?_
  refine oA rfl rfl ?_
  refine oN ?_
  refine cR ?_
  refine oM rfl rfl ?_
  refine oCall (l01Points_con p hp) [] 1 rfl rfl (Fits.mk' vHn rfl rfl (by first | (simp; done) | exact glOk rfl rfl rfl)) rfl rfl ?_
  rintro r H1 ⟨k0, sp0, hk0, hsp0, rfl, rfl⟩
  refine ⟨.slice 1 0 (allPts p).length k0, [(1, .ints 32 ((allPts p).flatten ++ sp0))], rfl, rfl, rfl, ?_⟩
  refine oBsl rfl rfl rfl rfl (.inr ⟨rfl, rfl, by decide⟩) rfl rfl rfl rfl rfl rfl ?_
  iterate 2 refine oA rfl rfl ?_
  refine oN ?_
  refine CW_seq ?_
  refine cR ?_
  refine oA rfl rfl ?_
  refine oN ?_
  refine CW_block ?_
  refine CW_loop (ι := Nat × Nat × List Int) (fun x => x.1 ≤ (allPts p).length ∧ (((allPts p).take x.1).filter fun m => onB p m l).length ≤ x.2.1 ∧ x.2.1 * 3 ≤ (((allPts p).take x.1).filter fun m => onB p m l).length * 3 + x.2.2.length) (fun x => ⟨[(0, .int p), (3, .ptr 0 0), (5, .slice 1 0 (allPts p).length k0), (6, .slice 2 0 (((allPts p).take x.1).filter fun m => onB p m l).length x.2.1), (7, .int x.1)], [(0, .ints 35 l), (1, .ints 32 ((allPts p).flatten ++ sp0)), (2, .ints 32 ((((allPts p).take x.1).filter fun m => onB p m l).flatten ++ x.2.2))], 3⟩) (fun x => (allPts p).length - x.1) (0, 0, []) ?_ ?_ ?_
  · exact ⟨Nat.zero_le _, Nat.le_refl _, Nat.le_refl _⟩
  · refine View.mk' [] rfl rfl rfl ?_ ?_
    repeat' first | exact vFn | refine vFc rfl ?_ | exact vHn | refine vHc rfl ?_ | refine vFc (congrArg (fun z => some (V.int z)) ?_) ?_ | refine vHc (congrArg (fun z => some (Blk.ints _ z)) ?_) ?_ | refine vFc (congrArg (fun z => some (V.bool z)) ?_) ?_ | refine vFs rfl rfl ?_ ?_
  rintro ⟨i, k, sp⟩ ⟨hi, hk, hsp⟩
  dsimp only at hi hk hsp ⊢
  have hfn := filter_len (g := fun m => onB p m l) i hi
  have hlen := flat3 (filter_three (g := fun m => onB p m l) h3 i)
  have hmem := fun h : i < (allPts p).length => getD_mem h
  have h3i := fun h : i < (allPts p).length => h3 _ (getD_mem h)
  refine CW_seq ?_
  refine cR ?_
  iterate 2 refine oM rfl rfl ?_
  first | refine oQ (Q_len rfl rfl rfl rfl) rfl rfl ?_ | refine oQ (Q_len0 rfl rfl rfl rfl) rfl rfl ?_
  refine oQ (Q_bin rfl rfl rfl) rfl rfl ?_
  refine oN ?_
  first | refine cT rfl ?_ | refine cF rfl ?_ | refine CW_cond rfl (fun hc => ?_) (fun hc => ?_)
  all_goals try simp only [s1, s2, s3, s4, s5, s6, s7, s8, s9, s10, s11, s12] at hc
  all_goals first
    | (
     refine CW_skip ?_)
    | (
     refine CW_exit ?_)
  all_goals first
    | with_reducible refine tR ?_
    | with_reducible refine tE ?_
    | (
     with_reducible refine tN ?_
     refine CW_seq ?_
     refine CW_block ?_
     refine CW_seq ?_
     refine CW_draw lateOk (by decide +kernel) ?_
     iterate 3 refine qM rfl rfl ?_
     (have h3i := h3i (by omega)); (have hmem := hmem (by omega)); refine qQ (Q_ixs0z 3 rfl rfl rfl rfl rfl rfl (by omega)) rfl rfl ?_
     refine qQ (Q_lda (n := 3) rfl rfl rfl rfl rfl (by rw [List.length_append, hf3]; omega)) rfl rfl ?_; rw [flat_get h3 (show i < (allPts p).length by omega)]
     refine qQ (Q_ldw rfl rfl rfl rfl hll) rfl rfl ?_
     refine qQ (Q_call0 (l01On_con p _ l hp h3i hll (allPts_sm hp hmem) hls) rfl rfl rfl) rfl rfl ?_
     refine QW_nil ?_
     all_goals with_reducible refine tN ?_
     all_goals (
      first | refine cT rfl ?_ | refine cF rfl ?_ | refine CW_cond rfl (fun hc => ?_) (fun hc => ?_)
      all_goals try simp only [s1, s2, s3, s4, s5, s6, s7, s8, s9, s10, s11, s12] at hc
      all_goals first
        | (
         refine CW_skip ?_)
        | (
         refine CW_region ?_
         iterate 3 refine oM rfl rfl ?_
         first | refine oQ (Q_ixs0z 3 rfl rfl rfl rfl rfl rfl (by first | omega | (dsimp only; omega) | (simp; omega) | (simp; done))) rfl rfl ?_ | refine oQ (Q_ixsz 3 rfl rfl rfl rfl rfl rfl (by first | omega | (dsimp only; omega) | (simp; omega) | (simp; done))) rfl rfl ?_
         refine oQ (Q_lda (n := 3) rfl rfl rfl rfl rfl (by rw [List.length_append, hf3]; omega)) rfl rfl ?_; rw [flat_get h3 (show i < (allPts p).length by omega)]
         refine oBsl1 h3i rfl rfl rfl rfl rfl rfl rfl rfl rfl rfl ?_
         refine oApp (sz := 3) (by_ := 24) (xl := (allPts p).getD i []) rfl rfl rfl rfl rfl rfl ⟨by decide, rfl, .inr rfl⟩ rfl rfl rfl rfl rfl rfl hlen (by rw [h3i]) (by omega) (by omega) (by omega) (by omega) rfl rfl (fun k2 sp2 h1 h2 => ?_)
         refine oA rfl rfl ?_
         refine OW_nil ?_))
     all_goals first | with_reducible refine bN ?_ | with_reducible refine bE ?_ | with_reducible refine bR ?_ | refine bX rfl ?_
     all_goals with_reducible refine tN ?_
     all_goals (
      refine CW_region ?_
      refine oM rfl rfl ?_
      first | refine oQ (Q_binu rfl rfl rfl (by omega)) rfl rfl ?_ | refine oQ (Q_bin rfl rfl rfl) rfl rfl ?_
      refine oA rfl rfl ?_
      refine OW_nil ?_))
  all_goals first
    | with_reducible refine tR ?_
    | with_reducible refine tE ?_
    | (
     with_reducible refine tN ?_
     first
       | (
        refine ⟨(i + 1, k2, sp2), ?_, ?_, View.mk' [(2, 4)] rfl rfl rfl ?_ ?_⟩
        · dsimp only
          first
            | (rw [filter_snoc (by omega) (by first | exact hc | exact beq_iff_eq.2 hc), List.length_append, List.length_singleton]; exact ⟨by omega, h1, h2⟩)
            | (rw [filter_skip (by omega) (by first | exact hc | exact beq_eq_false_iff_ne.2 hc)]; exact ⟨by omega, hk, hsp⟩)
        · omega
        all_goals (repeat' first | exact vFn | refine vFc rfl ?_ | exact vHn | refine vHc rfl ?_ | refine vFc (congrArg (fun z => some (V.int z)) ?_) ?_ | refine vHc (congrArg (fun z => some (Blk.ints _ z)) ?_) ?_ | refine vFc (congrArg (fun z => some (V.bool z)) ?_) ?_ | refine vFs rfl rfl ?_ ?_)
        all_goals dsimp only
        all_goals first
          | (rw [filter_snoc (by omega) (by first | exact hc | exact beq_iff_eq.2 hc)]; simp; done)
          | (rw [filter_skip (by omega) (by first | exact hc | exact beq_eq_false_iff_ne.2 hc)]; done))
       | (
        refine ⟨(i + 1, k, sp), ?_, ?_, View.mk' [] rfl rfl rfl ?_ ?_⟩
        · dsimp only
          first
            | (rw [filter_snoc (by omega) (by first | exact hc | exact beq_iff_eq.2 hc), List.length_append, List.length_singleton]; exact ⟨by omega, h1, h2⟩)
            | (rw [filter_skip (by omega) (by first | exact hc | exact beq_eq_false_iff_ne.2 hc)]; exact ⟨by omega, hk, hsp⟩)
        · omega
        all_goals (repeat' first | exact vFn | refine vFc rfl ?_ | exact vHn | refine vHc rfl ?_ | refine vFc (congrArg (fun z => some (V.int z)) ?_) ?_ | refine vHc (congrArg (fun z => some (Blk.ints _ z)) ?_) ?_ | refine vFc (congrArg (fun z => some (V.bool z)) ?_) ?_ | refine vFs rfl rfl ?_ ?_)
        all_goals dsimp only
        all_goals first
          | (rw [filter_snoc (by omega) (by first | exact hc | exact beq_iff_eq.2 hc)]; simp; done)
          | (rw [filter_skip (by omega) (by first | exact hc | exact beq_eq_false_iff_ne.2 hc)]; done)))
  all_goals first | with_reducible refine bN ?_ | with_reducible refine bE ?_ | with_reducible refine bR ?_ | refine bX rfl ?_
  all_goals with_reducible refine tN ?_
  all_goals (
   refine cR ?_
   refine oM rfl rfl ?_
   refine oA rfl rfl ?_
   refine oN ?_
   refine CW_ret ?_)
  all_goals (
   have e : i = (allPts p).length := by omega
   subst e
   rw [List.take_length] at hk hsp
   exact exitH (r0 := .slice 0 0 ((allPts p).filter fun m => onB p m l).length k) (H0 := [(0, .ints 32 (((allPts p).filter fun m => onB p m l).flatten ++ sp))]) (.inr rfl) [(0, 2)] 1 (.cons (.tmp rfl rfl) .nil) (by simp only [List.take_length]; rfl) rfl rfl (vHc (by simp only [List.take_length]; rfl) vHn) rfl rfl ⟨k, sp, hk, hsp, rfl, rfl⟩)
end Go.Proofs.Ytoiolpgmilobnaa
namespace Go.Proofs.Ytoiolpgmilobnaa
attribute [local irreducible] CW OW QW QOp Con thenP inBlockP AW QX
set_option maxRecDepth 10000
set_option linter.unusedSimpArgs false
set_option linter.unusedVariables false
/-- the code of a prime, and of what has to be valid -/
def codeB (p : Int) (b : Bool) : Int := if primeB p = true then (if b = true then 0 else 1) else 2
theorem codeB_zero {p : Int} {b : Bool} : codeB p b = 0 ↔ primeB p = true ∧ b = true := by
  unfold codeB
  cases primeB p <;> cases b <;> simp
theorem not_any {g : List Int → Bool} {sz : Nat} {M : List Int} {k : Nat} : (!(anyF (fun m => !g m) sz M k)) = allF g sz M k := by
  unfold anyF allF
  rw [List.not_any_eq_all_not]
  congr 1
  funext i
  simp
theorem allF_one {g : List Int → Bool} {sz : Nat} {M : List Int} (h : M.length = sz) : allF g sz M 1 = g M := by
  subst h
  simp [allF, elemAt]
theorem pointB_prime {p : Int} {l : List Int} (h : pointB p l = true) : primeB p = true := by
  simp only [pointB, Bool.and_eq_true] at h; exact h.1
theorem pointB_mod {p : Int} {l : List Int} (h : pointB p l = true) : modB p l = true := by
  simp only [pointB, normB, Bool.and_eq_true] at h; exact h.2.1
theorem conicsCode11_con (p : Int) (m : List Int) (hm : m.length = 6) : ConQ Try.prog [] 83 [.arr m, .ptr 1 0] [(1, .ints 2 [p])] (.bool (!pointB p m)) := by
  refine conW tab_ok [(0, .arr m), (1, .ptr 1 0)] 2 [1] [1] Try.func83 rfl rfl rfl rfl rfl rfl rfl rfl rfl ?_
  refine cR ?_
  refine oBox rfl rfl rfl rfl rfl rfl ?_
  refine oA rfl rfl ?_
  refine oN ?_
  refine cR ?_
  first | refine oQ (Q_ldc rfl rfl rfl rfl rfl) rfl rfl ?_ | refine oQ (Ld rfl rfl rfl rfl) rfl rfl ?_
  refine oQ (Q_ldw rfl rfl rfl rfl hm) rfl rfl ?_
  refine oQ (Q_call0 (impl_IsConic_con p m hm) rfl rfl rfl) rfl rfl ?_
  refine oQ (Q_not rfl) rfl rfl ?_
  refine oA rfl rfl ?_
  refine oN ?_
  refine CW_ret ?_
  all_goals (
   ((refine exitQ (.inr rfl) 2 (.cons (.tmp rfl rfl) .nil) ?_ rfl (vHc rfl vHn) rfl rfl); rfl))
theorem conicsCode1_con (p : Int) (v : Bool) (M : List Int) (k ck : Nat) (hM : k * 6 ≤ M.length) (hk : k ≤ 1000000000) : ConQ Try.prog [] 81 [.ptr 0 0, .ptr 1 0, .ptr 2 0] [(0, .vals 4 [.bool v]), (1, .vals 98 [.slice 3 0 k ck]), (2, .ints 2 [p]), (3, .ints 25 M)] (.bool (v && allF (pointB p) 6 M k)) := by
  refine conW tab_ok [(0, .ptr 0 0), (1, .ptr 1 0), (2, .ptr 2 0)] 4 [0, 1, 2, 3] [0, 1, 2, 3] Try.func81 rfl rfl rfl rfl rfl rfl rfl rfl rfl ?_
  refine cR ?_
  refine oA rfl rfl ?_
  refine oN ?_
  refine cR ?_
  refine oQ (Q_ldv rfl rfl rfl rfl rfl rfl) rfl rfl ?_
  refine oM rfl rfl ?_
  all_goals first | refine oT rfl rfl ?_ | refine o1 rfl rfl rfl ?_ | refine o0 rfl rfl rfl ?_ | refine ogP1 rfl rfl rfl (fun hg => ?_) (fun hg => ?_) | refine ogP0 rfl rfl rfl (fun hg => ?_) (fun hg => ?_)
  all_goals try simp only [s1, s2, s3, s4, s5, s6, s7, s8, s9, s10, s11, s12] at hg
  all_goals first | (refine oQ (Q_ldv rfl rfl rfl rfl rfl rfl) rfl rfl ?_) | skip
  all_goals first | refine oT rfl rfl ?_ | refine o1 rfl rfl rfl ?_ | refine o0 rfl rfl rfl ?_ | refine ogP1 rfl rfl rfl (fun hg => ?_) (fun hg => ?_) | refine ogP0 rfl rfl rfl (fun hg => ?_) (fun hg => ?_)
  all_goals try simp only [s1, s2, s3, s4, s5, s6, s7, s8, s9, s10, s11, s12] at hg
  all_goals first | (refine oQ (Q_makeFunc rfl rfl) rfl rfl ?_) | skip
  all_goals first | refine oT rfl rfl ?_ | refine o1 rfl rfl rfl ?_ | refine o0 rfl rfl rfl ?_ | refine ogP1 rfl rfl rfl (fun hg => ?_) (fun hg => ?_) | refine ogP0 rfl rfl rfl (fun hg => ?_) (fun hg => ?_)
  all_goals try simp only [s1, s2, s3, s4, s5, s6, s7, s8, s9, s10, s11, s12] at hg
  all_goals first | (refine oQ (Q_call (containsConic_con 83 (fun m => !pointB p m) p 25 2 M k ck hM hk (fun m hm => conicsCode11_con p m hm)) [(0, 3), (1, 2)] rfl rfl (Fits.mk' (vHc rfl (vHc rfl vHn)) rfl rfl (by first | (simp; done) | exact glOk rfl rfl rfl)) rfl rfl) rfl rfl ?_) | skip
  all_goals first | refine oT rfl rfl ?_ | refine o1 rfl rfl rfl ?_ | refine o0 rfl rfl rfl ?_ | refine ogP1 rfl rfl rfl (fun hg => ?_) (fun hg => ?_) | refine ogP0 rfl rfl rfl (fun hg => ?_) (fun hg => ?_)
  all_goals try simp only [s1, s2, s3, s4, s5, s6, s7, s8, s9, s10, s11, s12] at hg
  all_goals first | (refine oQ (Q_not rfl) rfl rfl ?_) | skip
  all_goals first | refine oQ (Q_pick_t rfl (by with_reducible rfl) rfl rfl) rfl rfl ?_ | refine oQ (Q_pick_f rfl (by with_reducible rfl) rfl rfl) rfl rfl ?_
  all_goals first | (refine oA rfl rfl ?_)
  all_goals refine oN ?_
  all_goals (
   refine CW_ret ?_)
  all_goals (
   refine exitQ (.inr rfl) 4 (.cons (.tmp rfl rfl) .nil) ?_ rfl (vHc rfl (vHc rfl (vHc rfl (vHc rfl vHn)))) rfl rfl
   simp only [resV, V.bool.injEq]
   first
     | (rw [not_any, hg]; rfl)
     | (rw [hg]; rfl))
theorem conicsCode_con (p : Int) (v : Bool) (M : List Int) (k ck : Nat) (hM : k * 6 ≤ M.length) (hk : k ≤ 1000000000) : ConQ Try.prog [] 41 [.int p, .bool v, .slice 0 0 k ck] [(0, .ints 25 M)] (.int (codeB p (v && allF (pointB p) 6 M k))) := by
  refine conW tab_ok [(0, .int p), (1, .bool v), (2, .slice 0 0 k ck)] 1 [0] [0] Try.func41 rfl rfl rfl rfl rfl rfl rfl rfl rfl ?_
  refine cR ?_
  iterate 3 refine oBox rfl rfl rfl rfl rfl rfl ?_
  refine oA rfl rfl ?_
  refine oN ?_
  refine cR ?_
  first | refine oQ (Q_ldc rfl rfl rfl rfl rfl) rfl rfl ?_ | refine oQ (Ld rfl rfl rfl rfl) rfl rfl ?_
  refine oQ (Q_makeFunc rfl rfl) rfl rfl ?_
  refine oQ (Q_call (planeCode_gen p 81 (v && allF (pointB p) 6 M k) [.ptr 0 0, .ptr 1 0, .ptr 2 0] [(0, .vals 4 [.bool v]), (1, .vals 98 [.slice 3 0 k ck]), (2, .ints 2 [p]), (3, .ints 25 M)] 4 (vHc rfl (vHc rfl (vHc rfl (vHc rfl vHn)))) rfl rfl rfl rfl (fun _ => conicsCode1_con p v M k ck hM hk)) [(0, 2), (1, 3), (2, 1), (3, 0)] rfl rfl (Fits.mk' (vHc rfl (vHc rfl (vHc rfl (vHc rfl vHn)))) rfl rfl (by first | (simp; done) | exact glOk rfl rfl rfl)) rfl rfl) rfl rfl ?_
  refine oA rfl rfl ?_
  refine oN ?_
  refine CW_ret ?_
  all_goals (
   ((refine exitQ (.inr rfl) 1 (.cons (.tmp rfl rfl) .nil) ?_ rfl (vHc rfl vHn) rfl rfl); rfl))
theorem conicsCode_one (p : Int) (v : Bool) (c : List Int) (hc : c.length = 6) : ConQ Try.prog [] 41 [.int p, .bool v, .slice 0 0 1 1] [(0, .ints 25 c)] (.int (codeB p (v && pointB p c))) := by
  have := conicsCode_con p v c 1 1 (by omega) (by omega)
  rwa [allF_one hc] at this
theorem l03Is_con6 (p a b c d e f : Int) : ConQ Try.prog [] 76 [.int p, .arr [a, b, c, d, e, f]] [] (.bool (pointB p [a, b, c, d, e, f])) := by
  refine conW tab_ok [(0, .int p), (1, .arr [a, b, c, d, e, f])] 0 [] [] Try.func76 rfl rfl rfl rfl rfl rfl rfl rfl rfl ?_
  refine cR ?_
  refine oBox rfl rfl rfl rfl rfl rfl ?_
  refine oA rfl rfl ?_
  refine oN ?_
  refine cR ?_
  refine oM rfl rfl ?_
  refine oQ (Q_call0 (l01Prime_con _) rfl rfl rfl) rfl rfl ?_
  refine oM rfl rfl ?_
  all_goals first | refine oT rfl rfl ?_ | refine o1 rfl rfl rfl ?_ | refine o0 rfl rfl rfl ?_ | refine ogP1 rfl rfl rfl (fun hg => ?_) (fun hg => ?_) | refine ogP0 rfl rfl rfl (fun hg => ?_) (fun hg => ?_)
  all_goals try simp only [s1, s2, s3, s4, s5, s6, s7, s8, s9, s10, s11, s12] at hg
  all_goals first | (refine oM rfl rfl ?_) | skip
  all_goals first | refine oT rfl rfl ?_ | refine o1 rfl rfl rfl ?_ | refine o0 rfl rfl rfl ?_ | refine ogP1 rfl rfl rfl (fun hg => ?_) (fun hg => ?_) | refine ogP0 rfl rfl rfl (fun hg => ?_) (fun hg => ?_)
  all_goals try simp only [s1, s2, s3, s4, s5, s6, s7, s8, s9, s10, s11, s12] at hg
  all_goals first | refine oQ (Ia0 rfl rfl rfl rfl rfl rfl) rfl rfl ?_ | refine oQ (Ia1 rfl rfl rfl rfl rfl rfl) rfl rfl ?_ | skip
  all_goals first | refine oT rfl rfl ?_ | refine o1 rfl rfl rfl ?_ | refine o0 rfl rfl rfl ?_ | refine ogP1 rfl rfl rfl (fun hg => ?_) (fun hg => ?_) | refine ogP0 rfl rfl rfl (fun hg => ?_) (fun hg => ?_)
  all_goals try simp only [s1, s2, s3, s4, s5, s6, s7, s8, s9, s10, s11, s12] at hg
  all_goals first | refine oQ (Q_ldc rfl rfl rfl rfl rfl) rfl rfl ?_ | refine oQ (Ld rfl rfl rfl rfl) rfl rfl ?_ | skip
  all_goals first | refine oT rfl rfl ?_ | refine o1 rfl rfl rfl ?_ | refine o0 rfl rfl rfl ?_ | refine ogP1 rfl rfl rfl (fun hg => ?_) (fun hg => ?_) | refine ogP0 rfl rfl rfl (fun hg => ?_) (fun hg => ?_)
  all_goals try simp only [s1, s2, s3, s4, s5, s6, s7, s8, s9, s10, s11, s12] at hg
  all_goals first | refine oQ (Ia0 rfl rfl rfl rfl rfl rfl) rfl rfl ?_ | refine oQ (Ia1 rfl rfl rfl rfl rfl rfl) rfl rfl ?_ | skip
  all_goals first | refine oT rfl rfl ?_ | refine o1 rfl rfl rfl ?_ | refine o0 rfl rfl rfl ?_ | refine ogP1 rfl rfl rfl (fun hg => ?_) (fun hg => ?_) | refine ogP0 rfl rfl rfl (fun hg => ?_) (fun hg => ?_)
  all_goals try simp only [s1, s2, s3, s4, s5, s6, s7, s8, s9, s10, s11, s12] at hg
  all_goals first | refine oQ (Q_ldc rfl rfl rfl rfl rfl) rfl rfl ?_ | refine oQ (Ld rfl rfl rfl rfl) rfl rfl ?_ | skip
  all_goals first | refine oT rfl rfl ?_ | refine o1 rfl rfl rfl ?_ | refine o0 rfl rfl rfl ?_ | refine ogP1 rfl rfl rfl (fun hg => ?_) (fun hg => ?_) | refine ogP0 rfl rfl rfl (fun hg => ?_) (fun hg => ?_)
  all_goals try simp only [s1, s2, s3, s4, s5, s6, s7, s8, s9, s10, s11, s12] at hg
  all_goals first | refine oQ (Ia0 rfl rfl rfl rfl rfl rfl) rfl rfl ?_ | refine oQ (Ia1 rfl rfl rfl rfl rfl rfl) rfl rfl ?_ | skip
  all_goals first | refine oT rfl rfl ?_ | refine o1 rfl rfl rfl ?_ | refine o0 rfl rfl rfl ?_ | refine ogP1 rfl rfl rfl (fun hg => ?_) (fun hg => ?_) | refine ogP0 rfl rfl rfl (fun hg => ?_) (fun hg => ?_)
  all_goals try simp only [s1, s2, s3, s4, s5, s6, s7, s8, s9, s10, s11, s12] at hg
  all_goals first | refine oQ (Q_ldc rfl rfl rfl rfl rfl) rfl rfl ?_ | refine oQ (Ld rfl rfl rfl rfl) rfl rfl ?_ | skip
  all_goals first | refine oT rfl rfl ?_ | refine o1 rfl rfl rfl ?_ | refine o0 rfl rfl rfl ?_ | refine ogP1 rfl rfl rfl (fun hg => ?_) (fun hg => ?_) | refine ogP0 rfl rfl rfl (fun hg => ?_) (fun hg => ?_)
  all_goals try simp only [s1, s2, s3, s4, s5, s6, s7, s8, s9, s10, s11, s12] at hg
  all_goals first | refine oQ (Ia0 rfl rfl rfl rfl rfl rfl) rfl rfl ?_ | refine oQ (Ia1 rfl rfl rfl rfl rfl rfl) rfl rfl ?_ | skip
  all_goals first | refine oT rfl rfl ?_ | refine o1 rfl rfl rfl ?_ | refine o0 rfl rfl rfl ?_ | refine ogP1 rfl rfl rfl (fun hg => ?_) (fun hg => ?_) | refine ogP0 rfl rfl rfl (fun hg => ?_) (fun hg => ?_)
  all_goals try simp only [s1, s2, s3, s4, s5, s6, s7, s8, s9, s10, s11, s12] at hg
  all_goals first | refine oQ (Q_ldc rfl rfl rfl rfl rfl) rfl rfl ?_ | refine oQ (Ld rfl rfl rfl rfl) rfl rfl ?_ | skip
  all_goals first | refine oT rfl rfl ?_ | refine o1 rfl rfl rfl ?_ | refine o0 rfl rfl rfl ?_ | refine ogP1 rfl rfl rfl (fun hg => ?_) (fun hg => ?_) | refine ogP0 rfl rfl rfl (fun hg => ?_) (fun hg => ?_)
  all_goals try simp only [s1, s2, s3, s4, s5, s6, s7, s8, s9, s10, s11, s12] at hg
  all_goals first | refine oQ (Ia0 rfl rfl rfl rfl rfl rfl) rfl rfl ?_ | refine oQ (Ia1 rfl rfl rfl rfl rfl rfl) rfl rfl ?_ | skip
  all_goals first | refine oT rfl rfl ?_ | refine o1 rfl rfl rfl ?_ | refine o0 rfl rfl rfl ?_ | refine ogP1 rfl rfl rfl (fun hg => ?_) (fun hg => ?_) | refine ogP0 rfl rfl rfl (fun hg => ?_) (fun hg => ?_)
  all_goals try simp only [s1, s2, s3, s4, s5, s6, s7, s8, s9, s10, s11, s12] at hg
  all_goals first | refine oQ (Q_ldc rfl rfl rfl rfl rfl) rfl rfl ?_ | refine oQ (Ld rfl rfl rfl rfl) rfl rfl ?_ | skip
  all_goals first | refine oT rfl rfl ?_ | refine o1 rfl rfl rfl ?_ | refine o0 rfl rfl rfl ?_ | refine ogP1 rfl rfl rfl (fun hg => ?_) (fun hg => ?_) | refine ogP0 rfl rfl rfl (fun hg => ?_) (fun hg => ?_)
  all_goals try simp only [s1, s2, s3, s4, s5, s6, s7, s8, s9, s10, s11, s12] at hg
  all_goals first | refine oQ (Ia0 rfl rfl rfl rfl rfl rfl) rfl rfl ?_ | refine oQ (Ia1 rfl rfl rfl rfl rfl rfl) rfl rfl ?_ | skip
  all_goals first | refine oT rfl rfl ?_ | refine o1 rfl rfl rfl ?_ | refine o0 rfl rfl rfl ?_ | refine ogP1 rfl rfl rfl (fun hg => ?_) (fun hg => ?_) | refine ogP0 rfl rfl rfl (fun hg => ?_) (fun hg => ?_)
  all_goals try simp only [s1, s2, s3, s4, s5, s6, s7, s8, s9, s10, s11, s12] at hg
  all_goals first | refine oQ (Q_ldc rfl rfl rfl rfl rfl) rfl rfl ?_ | refine oQ (Ld rfl rfl rfl rfl) rfl rfl ?_ | skip
  all_goals first | refine oT rfl rfl ?_ | refine o1 rfl rfl rfl ?_ | refine o0 rfl rfl rfl ?_ | refine ogP1 rfl rfl rfl (fun hg => ?_) (fun hg => ?_) | refine ogP0 rfl rfl rfl (fun hg => ?_) (fun hg => ?_)
  all_goals try simp only [s1, s2, s3, s4, s5, s6, s7, s8, s9, s10, s11, s12] at hg
  all_goals first | (refine oBsl (zl := []) rfl rfl rfl rfl (.inl ⟨rfl, rfl⟩) rfl rfl rfl rfl rfl rfl ?_) | skip
  all_goals first | refine oT rfl rfl ?_ | refine o1 rfl rfl rfl ?_ | refine o0 rfl rfl rfl ?_ | refine ogP1 rfl rfl rfl (fun hg => ?_) (fun hg => ?_) | refine ogP0 rfl rfl rfl (fun hg => ?_) (fun hg => ?_)
  all_goals try simp only [s1, s2, s3, s4, s5, s6, s7, s8, s9, s10, s11, s12] at hg
  all_goals first | ((have hb := prime_bd hg); refine oQ (Q_call (l01Normal_con p 2 [a, b, c, d, e, f] 6 6 (Nat.le_refl _) (by omega) (by decide)) [(0, 1)] rfl rfl (Fits.mk' (vHc rfl vHn) rfl rfl (by first | (simp; done) | exact glOk rfl rfl rfl)) rfl rfl) rfl rfl ?_) | skip
  all_goals first | refine oQ (Q_pick_t rfl (by with_reducible rfl) rfl rfl) rfl rfl ?_ | refine oQ (Q_pick_f rfl (by with_reducible rfl) rfl rfl) rfl rfl ?_
  all_goals first | (refine oA rfl rfl ?_)
  all_goals refine oN ?_
  all_goals (
   refine CW_ret ?_)
  all_goals (
   refine exitQ (.inr rfl) 0 (.cons (.tmp rfl rfl) .nil) ?_ rfl vHn rfl rfl
   simp only [resV, ren, pointB, V.bool.injEq, hg, Bool.true_and, Bool.false_and]
   try rfl)
theorem l03Is_con (p : Int) (c : List Int) (hc : c.length = 6) : ConQ Try.prog [] 76 [.int p, .arr c] [] (.bool (pointB p c)) := by
  match c, hc with
  | [a, b, c, d, e, f], _ => exact l03Is_con6 p a b c d e f
theorem l03Code_row (p : Int) (c : List Int) (hc6 : c.length = 6) (tM : TypeId) (M : List Int) (k ck : Nat) (hM : k * 3 ≤ M.length) (hk : k ≤ 1000000000) : ConQ Try.prog [] 39 [.int p, .arr c, .slice 0 0 k ck] [(0, .ints tM M)] (.int (codeB p (allF (pointB p) 3 M k && pointB p c))) := by
  refine conW tab_ok [(0, .int p), (1, .arr c), (2, .slice 0 0 k ck)] 1 [0] [0] Try.func39 rfl rfl rfl rfl rfl rfl rfl rfl rfl ?_
  refine cR ?_
  refine oBox rfl rfl rfl rfl rfl rfl ?_
  refine oA rfl rfl ?_
  refine oN ?_
  refine cR ?_
  iterate 2 refine oM rfl rfl ?_
  refine oQ (Q_call (l01Code_con p tM M k ck hM hk) [] rfl rfl (Fits.mk' (vHc rfl vHn) rfl rfl (by first | (simp; done) | exact glOk rfl rfl rfl)) rfl rfl) rfl rfl ?_
  refine oA rfl rfl ?_
  refine oN ?_
  refine CW_seq ?_
  refine cR ?_
  refine oM rfl rfl ?_
  refine oQ (Q_bin rfl rfl rfl) rfl rfl ?_
  refine oM rfl rfl ?_
  all_goals first | refine oT rfl rfl ?_ | refine o1 rfl rfl rfl ?_ | refine o0 rfl rfl rfl ?_ | refine ogP1 rfl rfl rfl (fun hg => ?_) (fun hg => ?_) | refine ogP0 rfl rfl rfl (fun hg => ?_) (fun hg => ?_)
  all_goals try simp only [s1, s2, s3, s4, s5, s6, s7, s8, s9, s10, s11, s12] at hg
  all_goals first | (refine oM rfl rfl ?_) | skip
  all_goals first | refine oT rfl rfl ?_ | refine o1 rfl rfl rfl ?_ | refine o0 rfl rfl rfl ?_ | refine ogP1 rfl rfl rfl (fun hg => ?_) (fun hg => ?_) | refine ogP0 rfl rfl rfl (fun hg => ?_) (fun hg => ?_)
  all_goals try simp only [s1, s2, s3, s4, s5, s6, s7, s8, s9, s10, s11, s12] at hg
  all_goals first | (refine oQ (Q_ldw rfl rfl rfl rfl hc6) rfl rfl ?_) | skip
  all_goals first | refine oT rfl rfl ?_ | refine o1 rfl rfl rfl ?_ | refine o0 rfl rfl rfl ?_ | refine ogP1 rfl rfl rfl (fun hg => ?_) (fun hg => ?_) | refine ogP0 rfl rfl rfl (fun hg => ?_) (fun hg => ?_)
  all_goals try simp only [s1, s2, s3, s4, s5, s6, s7, s8, s9, s10, s11, s12] at hg
  all_goals first | (refine oQ (Q_call0 (l03Is_con p c hc6) rfl rfl rfl) rfl rfl ?_) | skip
  all_goals first | refine oT rfl rfl ?_ | refine o1 rfl rfl rfl ?_ | refine o0 rfl rfl rfl ?_ | refine ogP1 rfl rfl rfl (fun hg => ?_) (fun hg => ?_) | refine ogP0 rfl rfl rfl (fun hg => ?_) (fun hg => ?_)
  all_goals try simp only [s1, s2, s3, s4, s5, s6, s7, s8, s9, s10, s11, s12] at hg
  all_goals first | (refine oQ (Q_not rfl) rfl rfl ?_) | skip
  all_goals first | refine oQ (Q_pick_t rfl (by with_reducible rfl) rfl rfl) rfl rfl ?_ | refine oQ (Q_pick_f rfl (by with_reducible rfl) rfl rfl) rfl rfl ?_
  all_goals refine oN ?_
  all_goals (
   first | refine cT rfl ?_ | refine cF rfl ?_ | refine CW_cond rfl (fun hc => ?_) (fun hc => ?_)
   all_goals try simp only [s1, s2, s3, s4, s5, s6, s7, s8, s9, s10, s11, s12] at hc
   all_goals first
     | (
      refine CW_skip ?_)
     | (
      refine CW_region ?_
      refine oA rfl rfl ?_
      refine OW_nil ?_))
  all_goals with_reducible refine tN ?_
  all_goals (
   refine cR ?_
   refine oM rfl rfl ?_
   refine oA rfl rfl ?_
   refine oN ?_
   refine CW_ret ?_)
  all_goals (
   refine exitQ (.inr rfl) 1 (.cons (.tmp rfl rfl) .nil) ?_ rfl (vHc rfl vHn) rfl rfl
   have hpp := pointB_prime (p := p) (l := c)
   simp only [resV, codeB]
   cases hp : primeB p <;> cases ha : allF (pointB p) 3 M k <;> cases hb : pointB p c <;> simp_all [ren])
/-- a list and a code: the list where the code is 0, and nil else -/
def listR (sz : Nat) (T : TypeId) (H0 : Hp) (b : Nat) (code : Int) (L : List (List Int)) (r : V) (H' : Hp) : Prop :=
  if code = 0 then ∃ (k : Nat) (sp : List Int), L.length ≤ k ∧ k * sz ≤ L.length * sz + sp.length ∧ r = .tuple [.slice b 0 L.length k, .int 0] ∧ H' = H0 ++ [(b, .ints T (L.flatten ++ sp))]
  else r = .tuple [.nilsl, .int code] ∧ H' = H0
theorem listR_ok {sz : Nat} {T : TypeId} {H0 : Hp} {b : Nat} {code : Int} {L : List (List Int)} {r : V} {H' : Hp} (hc : code = 0) {k : Nat} {sp : List Int} (h1 : L.length ≤ k) (h2 : k * sz ≤ L.length * sz + sp.length) (h3 : r = .tuple [.slice b 0 L.length k, .int 0]) (h4 : H' = H0 ++ [(b, .ints T (L.flatten ++ sp))]) : listR sz T H0 b code L r H' := by
  unfold listR
  rw [if_pos hc]
  exact ⟨k, sp, h1, h2, h3, h4⟩
theorem listR_no {sz : Nat} {T : TypeId} {H0 : Hp} {b : Nat} {code : Int} {L : List (List Int)} {r : V} {H' : Hp} (hc : ¬ code = 0) (h3 : r = .tuple [.nilsl, .int code]) (h4 : H' = H0) : listR sz T H0 b code L r H' := by
  unfold listR
  rw [if_neg hc]
  exact ⟨h3, h4⟩
theorem arePoints_one (p : Int) (l : List Int) (hl : l.length = 3) : ConQ Try.prog [] 55 [.int p, .slice 0 0 1 1] [(0, .ints 32 l)] (.bool (pointB p l)) := by
  have := arePoints_con p 32 l 1 1 (by omega) (by omega)
  rwa [allF_one hl] at this
theorem l03Code_one (p : Int) (c l : List Int) (hc : c.length = 6) (hl : l.length = 3) : ConQ Try.prog [] 39 [.int p, .arr c, .slice 0 0 1 1] [(0, .ints 32 l)] (.int (codeB p (pointB p l && pointB p c))) := by
  have := l03Code_row p c hc 32 l 1 1 (by omega) (by omega)
  rwa [allF_one hl] at this
end Go.Proofs.Ytoiolpgmilobnaa
namespace Go.Proofs.Ytoiolpgmilobnaa
/-- the matrix of a conic, row by row -/
def matV (p : Int) : List Int → List Int
  | [a, b, c, d, e, f] => [2 * a % p, d % p, e % p, d % p, 2 * b % p, f % p, e % p, f % p, 2 * c % p]
  | _ => []
def matRaw : List Int → List Int
  | [a, b, c, d, e, f] => [2 * a, d, e, d, 2 * b, f, e, f, 2 * c]
  | _ => []
/-- what the matrix makes of a point -/
def polX (p : Int) (c a : List Int) : List Int := [dotV ((matV p c).take 3) a, dotV (((matV p c).drop 3).take 3) a, dotV (((matV p c).drop 6).take 3) a]
def zero3 : List Int := [0, 0, 0]
theorem conV_bd {p : Int} (hp : primeB p = true) (c a : List Int) : 0 ≤ conV p c a ∧ conV p c a < p := mod_bd hp _
end Go.Proofs.Ytoiolpgmilobnaa
