/- The engine, part O: append to a list of lists (blocks of values). -/
import Derived.Test.YtendffbpmpobnaaDoorEngL
namespace Go.Proofs.YtendffbpmpobnaaDoor
set_option linter.unusedVariables false
theorem mem_idss' : ∀ {l : List V} {b : Nat}, b ∈ idss l → ∃ v, v ∈ l ∧ b ∈ v.ids
  | [], b, h => by simp [idss] at h
  | v :: r, b, h => by
    rcases List.mem_append.1 (show b ∈ V.ids v ++ idss r by simpa [idss] using h) with h | h
    · exact ⟨v, by simp, h⟩
    · obtain ⟨u, hu, hb⟩ := mem_idss' h
      exact ⟨u, by simp [hu], hb⟩
theorem idss_mem : ∀ {l : List V} {v : V} {b : Nat}, v ∈ l → b ∈ v.ids → b ∈ idss l
  | u :: r, v, b, h, hb => by
    simp only [idss]
    rcases List.mem_cons.1 h with rfl | h
    · exact List.mem_append_left _ hb
    · exact List.mem_append_right _ (idss_mem h hb)
theorem idss_app : ∀ l m : List V, idss (l ++ m) = idss l ++ idss m
  | [], m => rfl
  | v :: r, m => by simp [idss, idss_app r m]
theorem idss_bots : ∀ n : Nat, idss (List.replicate n V.bot) = []
  | 0 => rfl
  | n + 1 => by rw [List.replicate_succ, idss, idss_bots n]; rfl
theorem ids_bots (t : TypeId) (l : List V) (n : Nat) : (Blk.vals t (l ++ List.replicate n V.bot)).ids = idss l := by
  show idss _ = _
  rw [idss_app, idss_bots, List.append_nil]
theorem rens_app (σ : Nat → Nat) (l m : List V) : rens σ (l ++ m) = rens σ l ++ rens σ m := by simp [rens_eq_map]
theorem rens_bots (σ : Nat → Nat) (n : Nat) : rens σ (List.replicate n V.bot) = List.replicate n V.bot := by simp [rens_eq_map, ren]
theorem ren_bots (σ : Nat → Nat) (t : TypeId) (l : List V) (n : Nat) : (Blk.vals t (l ++ List.replicate n V.bot)).ren σ = .vals t (rens σ l ++ List.replicate n V.bot) := by
  show Blk.vals t (rens σ _) = _
  rw [rens_app, rens_bots]
theorem putA_mid : ∀ (xs mid pre post : List Value), mid.length = xs.length → putA (pre ++ (mid ++ post)).toArray pre.length xs = (pre ++ (xs ++ post)).toArray
  | [], mid, pre, post, h => by have : mid = [] := List.eq_nil_of_length_eq_zero h; simp [putA, this]
  | x :: r, [], pre, post, h => by simp at h
  | x :: r, y :: mid, pre, post, h => by
    have ih := putA_mid r mid (pre ++ [x]) post (by simpa using h)
    simp only [List.length_append, List.length_cons, List.length_nil, Nat.zero_add, List.append_assoc, List.cons_append, List.nil_append] at ih
    simp only [putA, List.cons_append]
    rw [← ih]
    congr 1
    simp
theorem run_loadRow {P : Program} {w : World} {r : Nat} {t : TypeId} {xs : List Value} (h : w.heap[r]? = some (.cells xs.toArray t (0, 0))) {n : Nat} (hn : n ≤ xs.length) : (loadCells ⟨r, 0, none⟩ n).run P w = .ok (xs.take n).toArray w := by
  have hl := run_loadCells_list (P := P) w ⟨r, 0, none⟩ (xs.take n) (fun j v hv => by
    rw [add_none, cell_of_row w r (0 + j) _ _ _ h]
    rw [List.getElem?_take] at hv
    split at hv
    · simpa using hv
    · cases hv)
  rwa [List.length_take, Nat.min_eq_left hn] at hl
/-- values and what they are in a world -/
def RelL (ρ : Nat → Nat) (l : List V) (xs : List Value) : Prop := xs.length = l.length ∧ ∀ (i : Nat) (v : V), l[i]? = some v → ∃ x, xs[i]? = some x ∧ VR ρ v x
theorem RelL.app {ρ : Nat → Nat} {l m : List V} {xs ys : List Value} (h1 : RelL ρ l xs) (h2 : RelL ρ m ys) : RelL ρ (l ++ m) (xs ++ ys) := by
  refine ⟨by simp [h1.1, h2.1], fun i v hv => ?_⟩
  rcases Nat.lt_or_ge i l.length with h | h
  · rw [List.getElem?_append_left h] at hv
    obtain ⟨x, hx, hr⟩ := h1.2 i v hv
    exact ⟨x, by rw [List.getElem?_append_left (by rw [h1.1]; exact h)]; exact hx, hr⟩
  · rw [List.getElem?_append_right h] at hv
    obtain ⟨x, hx, hr⟩ := h2.2 _ v hv
    exact ⟨x, by rw [List.getElem?_append_right (by rw [h1.1]; exact h), h1.1]; exact hx, hr⟩
theorem RelL.pre {ρ : Nat → Nat} {l m : List V} {xs : List Value} (h : RelL ρ (l ++ m) xs) : RelL ρ l (xs.take l.length) := by
  refine ⟨by rw [List.length_take, h.1, List.length_append]; omega, fun i v hv => ?_⟩
  have hi : i < l.length := (List.getElem?_eq_some_iff.1 hv).1
  obtain ⟨x, hx, hr⟩ := h.2 i v (by rw [List.getElem?_append_left hi]; exact hv)
  exact ⟨x, by rw [List.getElem?_take, if_pos hi]; exact hx, hr⟩
theorem RelL.bots {ρ : Nat → Nat} {n : Nat} {xs : List Value} (h : xs.length = n) : RelL ρ (List.replicate n .bot) xs := by
  refine ⟨by simp [h], fun i v hv => ?_⟩
  have hi := (List.getElem?_eq_some_iff.1 hv)
  obtain ⟨hi, e⟩ := hi
  simp at hi e
  exact ⟨xs[i]'(by omega), by simp [h, hi], .inl e.symm⟩
theorem RelL.ones {ρ : Nat → Nat} {l : List V} {xs : List Value} (h : RelL ρ l xs) (h1 : (l.all fun v => one v && noAgg v) = true) : ∀ x ∈ xs, x.oneCell' = true := by
  intro x hx
  obtain ⟨i, hi, rfl⟩ := List.getElem_of_mem hx
  have hl : i < l.length := by rw [← h.1]; exact hi
  obtain ⟨y, hy, hr⟩ := h.2 i l[i] (by simp [hl])
  simp only [List.all_eq_true, Bool.and_eq_true] at h1
  obtain ⟨o1, o2⟩ := h1 _ (List.getElem_mem hl)
  rw [List.getElem?_eq_getElem hi] at hy
  injection hy with hy
  rw [hy]
  rcases hr with e | e
  · rw [e] at o1; simp [one] at o1
  · rw [e]; exact rv_one o1 o2
section
variable {c : Cx} {Q : Post} {F : Fr} {H : Hp} {n : Nat} {ops : Array Oper} {rest : List Oper} {d : Nat} {ty : TypeId} {pos : String} {af : Array Edge}
/-- append to an own list of lists: the told part A, what is put behind it -/
theorem oAppV {t t2 : TypeId} {ats : Array TypeId} {x y : Operand} {i i2 ie : TI} {e e2 b b' m k q q' by_ t' : Nat} {z0 : V} {A sp xl : List V}
    (hat : ats = #[t, t2]) (ht : lkT c.T t = some i) (hd : i.d = .slice e) (ht2 : lkT c.T t2 = some i2) (hd2 : i2.d = .slice e2) (he : lkT c.T e = some ie) (hsz : ie.size = 1) (hz : ie.z = some z0) (hz1 : (one z0 && noAgg z0) = true) (hby : ie.bytes = by_) (hb0 : Nat.blt 0 by_ = true)
    (hx : ev c F x = some (.slice b 0 m k)) (hy : ev c F y = some (.slice b' 0 q q')) (hb : lkB H b = some (.vals e (A ++ sp))) (hb' : lkB H b' = some (.vals t' xl)) (hA : A.length = m) (hxl : xl.length = q) (hone : (xl.all fun v => one v && noAgg v) = true) (hroom : m + sp.length = k)
    (hlim : (2 * (m + q) + 192) * by_ ≤ 281474976710656) (h63 : m + q ≤ 1000000000000) (hN : Nat.blt d c.N = true) (hn : Nat.blt n 1000 = true)
    (h : ∀ k' : Nat, m + q ≤ k' → OW c ops Q rest ⟨(d, .slice n 0 (m + q) k') :: F, (n, .vals e ((A ++ xl) ++ List.replicate (k' - (m + q)) .bot)) :: (b, .dead) :: H, n + 1⟩) :
    OW c ops Q (⟨some d, .call ⟨.builtin .append, #[x, y], ats⟩, ty, pos, af, none⟩ :: rest) ⟨F, H, n⟩ := by
  have h1000 : n < 1000 := by simpa [Nat.blt_eq] using hn
  have hb0 : 0 < by_ := by simpa [Nat.blt_eq] using hb0
  refine OW_any (ι := { k' : Nat // m + q ≤ k' }) (fun p => { F := F, H := (n, .vals e ((A ++ xl) ++ List.replicate (p.1 - (m + q)) .bot)) :: (b, .dead) :: H, n := n + 1 }) (fun p => .slice n 0 (m + q) p.1) rfl hN (fun _ => by simp [sc, V.ids, Nat.blt_eq]) (fun ρ0 w0 ρ a w hg hs => ?_)
    (fun p => h p.1 p.2)
  subst hat
  have hu := (c.tok t i ht).1
  rw [hd] at hu
  have hu2 := (c.tok t2 i2 ht2).1
  rw [hd2] at hu2
  obtain ⟨obb, hob1, hob2⟩ := hs.cc.hr.1 b _ hb (by simp)
  simp only [BR] at hob2
  obtain ⟨xb, hbl, hbx, rfl⟩ := hob2
  have hRb : RelL ρ (A ++ sp) xb := ⟨hbl, hbx⟩
  obtain ⟨oby, hoy1, hoy2⟩ := hs.cc.hr.1 b' _ hb' (by simp)
  simp only [BR] at hoy2
  obtain ⟨xy, hyl, hyx, rfl⟩ := hoy2
  have hRy : RelL ρ xl xy := ⟨hyl, hyx⟩
  have hyq : xy.length = q := by rw [hyl, hxl]
  have hbk : xb.length = k := by rw [hbl, List.length_append, hA, hroom]
  have hne : ∀ b', (b' < n ∨ 1000 ≤ b') → b' ≠ n := fun b' h => by omega
  have hids : ∀ r, ∀ b1 ∈ idss ((A ++ xl) ++ List.replicate r V.bot), b1 < n ∨ 1000 ≤ b1 := fun r b1 h1 => by
    obtain ⟨v, hv, hbv⟩ := mem_idss' h1
    rcases List.mem_append.1 hv with hv | hv
    · rcases List.mem_append.1 hv with hv | hv
      · exact hs.wf.hs b _ hb b1 (idss_mem (List.mem_append_left _ hv) hbv)
      · exact hs.wf.hs b' _ hb' b1 (idss_mem hv hbv)
    · rw [List.eq_of_mem_replicate hv] at hbv; simp [V.ids] at hbv
  have hones := hRy.ones hone
  have r1 : (Builtin.lenOf (rv ρ (.slice b' 0 q q'))).run c.P w = .ok q w := rfl
  have r2 : (Builtin.firstCells 1 q (rv ρ (.slice b' 0 q q'))).run c.P w = .ok xy.toArray w := by
    have := run_loadRow (P := c.P) (w := w) hoy1 (n := q * 1) (by omega)
    simp only [rv, Builtin.firstCells]
    rw [this, Nat.mul_one, ← hyq, List.take_length]
  by_cases hfit : m + q ≤ k
  · obtain ⟨w', hr, hwr⟩ := run_storeCells (P := c.P) xy w (ρ b) (0 + m * 1) 0 xb.toArray e hob1 hones (by simp; omega)
    have hrun : (Builtin.append_ #[t, t2] ty #[rv ρ (.slice b 0 m k), rv ρ (.slice b' 0 q q')]).run c.P w = .ok (rv ρ (.slice b 0 (m + q) k)) w' := by
      simp only [Builtin.append_, rv] at r1 r2 ⊢
      simp [run_underlying hu, run_underlying hu2, run_sizeOf' c.tok he, hsz, r1, r2, hfit, add_none]
      simp at hr
      simp [hr]
    have hsplit : xb = xb.take m ++ (((xb.drop m).take q) ++ xb.drop (m + q)) := by
      rw [show xb.drop (m + q) = (xb.drop m).drop q by rw [List.drop_drop], List.take_append_drop, List.take_append_drop]
    have hput : putA xb.toArray (0 + m * 1 + 0) xy = (xb.take m ++ (xy ++ xb.drop (m + q))).toArray := by
      have hl : (xb.take m).length = m := by simp; omega
      have := putA_mid xy ((xb.drop m).take q) (xb.take m) (xb.drop (m + q)) (by simp; omega)
      rw [hl, ← hsplit] at this
      rw [show 0 + m * 1 + 0 = m by omega]
      exact this
    rw [hput] at hwr
    have hbr : BR ρ (.vals e ((A ++ xl) ++ List.replicate (k - (m + q)) V.bot)) (.cells (xb.take m ++ (xy ++ xb.drop (m + q))).toArray e (0, 0)) := by
      have hRA := hRb.pre
      rw [hA] at hRA
      have := (hRA.app hRy).app (RelL.bots (ρ := ρ) (n := k - (m + q)) (xs := xb.drop (m + q)) (by simp [hbk]))
      rw [List.append_assoc (List.take m xb)] at this
      exact ⟨_, this.1, this.2, rfl⟩
    refine ⟨⟨k, hfit⟩, up ρ n (ρ b), w', ⟨hs.cc.adopt hb (by simp) rfl rfl (hs.wf.fresh n (Nat.le_refl _) h1000).2 (hs.wf.fresh n (Nat.le_refl _) h1000).1
      (fun b k' hl b' hb' => hne b' (hs.wf.hs b k' hl b' hb')) (fun b1 h1 => hne b1 (hids _ b1 (by simpa [Blk.ids] using h1))) hwr hbr, hs.fr.up hs.wf h1000 _, (hs.wf.kill hb).push (.vals e _) (sc_iff.2 fun b1 h1 => hids _ b1 (by simpa [Blk.ids] using h1))⟩, .inl (exec_app rfl hg hs hx hy rfl rfl ?_)⟩
    rw [hrun]
    have hbn : b ≠ n := by rintro rfl; have := (hs.wf.fresh b (Nat.le_refl _) h1000).1; rw [hb] at this; cases this
    simp [rv, up]
  · obtain ⟨_, ⟨j, hj, hjs, hjb, hz'⟩, _⟩ := c.tok e ie he
    obtain ⟨hzz, hzi⟩ := hz' z0 hz
    simp only [Bool.and_eq_true] at hz1
    have hcz : (rv (fun b => b) z0).cells = #[rv (fun b => b) z0] := cells_one' hz1.1 hz1.2
    have hcap : Builtin.nextslicecap (m + q) k ≤ 2 * (m + q) + 192 := nextslicecap_le (by omega)
    have hbytes : ¬ 2 ^ 48 < Builtin.nextslicecap (m + q) k * j.bytes := by
      rw [hjb, hby]
      have := Nat.mul_le_mul_right by_ hcap
      omega
    have hnb : j.bytes ≠ 0 := by rw [hjb, hby]; omega
    have q2 : (Builtin.firstCells 1 m (rv ρ (.slice b 0 m k))).run c.P w.drew = .ok (xb.take m).toArray w.drew := by
      have := run_loadRow (P := c.P) (w := w.drew) hob1 (n := m * 1) (by omega)
      simp only [rv, Builtin.firstCells]
      rw [this, Nat.mul_one]
    have r2d : (Builtin.firstCells 1 q (rv ρ (.slice b' 0 q q'))).run c.P w.drew = .ok xy.toArray w.drew := by
      have := run_loadRow (P := c.P) (w := w.drew) hoy1 (n := q * 1) (by omega)
      simp only [rv, Builtin.firstCells]
      rw [this, Nat.mul_one, ← hyq, List.take_length]
    have hzv : (zeroValue e).run c.P w.drew = .ok (rv (fun b => b) z0) w.drew := by
      simp [zeroValue, typeInfo, hj, hzz]
    let k' := (m + q) + w.tape w.drawn (.appendCap (m + q) k e) % (2 ^ 63 - (m + q))
    let zs := Builtin.zeroCells #[rv (fun b => b) z0] (k' - (m + q))
    have hzl : zs.toList.length = k' - (m + q) := by simp [zs, Builtin.zeroCells]
    have hrun : (Builtin.append_ #[t, t2] ty #[rv ρ (.slice b 0 m k), rv ρ (.slice b' 0 q q')]).run c.P w = .ok (.slice (some ⟨w.heap.size, 0, none⟩) (m + q) k') (w.drew.alloc (.cells ((xb.take m).toArray ++ xy.toArray ++ zs) e (0, 0))) := by
      simp only [Builtin.append_, rv] at r1 r2 r2d q2 ⊢
      simp [run_underlying hu, run_underlying hu2, run_sizeOf' c.tok he, hsz, r1, hfit, typeInfo, hj, hnb, hbytes, Question.forced, Question.cut, q2, r2d, hzv, hcz, newRow, k', zs]
      congr 2
      rw [← List.append_toArray, Array.append_assoc]
    have hbr : BR ρ (.vals e ((A ++ xl) ++ List.replicate (k' - (m + q)) V.bot)) (.cells ((xb.take m).toArray ++ xy.toArray ++ zs) e (0, 0)) := by
      have hRA := hRb.pre
      rw [hA] at hRA
      have := (hRA.app hRy).app (RelL.bots (ρ := ρ) (n := k' - (m + q)) (xs := zs.toList) hzl)
      exact ⟨_, this.1, this.2, by simp⟩
    have := (hs.kill hb).push h1000 (k := .vals e ((A ++ xl) ++ List.replicate (k' - (m + q)) V.bot)) (w' := w.drew.alloc (.cells ((xb.take m).toArray ++ xy.toArray ++ zs) e (0, 0))) (sc_iff.2 fun b1 h1 => hids _ b1 (by simpa [Blk.ids] using h1)) hbr rfl ⟨rfl, rfl, rfl, Nat.le_succ _⟩
    refine ⟨⟨k', by simp only [k']; omega⟩, _, _, this, .inl ?_⟩
    refine exec_app rfl hg hs hx hy rfl rfl ?_
    rw [hrun]
    simp [rv, up]
end
end Go.Proofs.YtendffbpmpobnaaDoor
