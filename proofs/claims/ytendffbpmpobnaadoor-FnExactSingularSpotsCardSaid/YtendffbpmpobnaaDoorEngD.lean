/- The engine, part D: append, copy, clear, make. -/
import Derived.Test.YtendffbpmpobnaaDoorEngC
namespace Go.Proofs.YtendffbpmpobnaaDoor

section
variable {c : Cx} {s : S} {Q : Post}

theorem CC.kill {ρ0 ρ : Nat → Nat} {w0 w : World} {H : Hp} (h : CC c ρ0 w0 ρ H w) (b : Nat) : CC c ρ0 w0 ρ ((b, .dead) :: H) w := by
  have old : ∀ b1 k1, lkB ((b, .dead) :: H) b1 = some k1 → k1 ≠ .dead → b1 ≠ b ∧ lkB H b1 = some k1 := by
    intro b1 k1 hl hd
    rw [lkB_cons] at hl
    split at hl
    · injection hl with hl; exact absurd hl.symm hd
    · rename_i e; exact ⟨Ne.symm e, hl⟩
  exact ⟨⟨fun b1 k1 hl hd => h.hr.1 b1 k1 (old b1 k1 hl hd).2 hd, fun b1 b2 k1 k2 h1 h2 d1 d2 hw he => h.hr.2 b1 b2 k1 k2 (old _ _ h1 d1).2 (old _ _ h2 d2).2 d1 d2 hw he⟩, h.inv.fix,
    fun b1 k1 hl hd hw => h.inv.own b1 k1 (old b1 k1 hl hd).2 hd hw, h.inv.os, h.inv.tape, h.inv.out, h.inv.drw, h.inv.size, h.inv.old⟩
theorem WF.kill (hwf : WF c s) {b : Nat} {k : Blk} (hb : lkB s.H b = some k) : WF c { F := s.F, H := (b, .dead) :: s.H, n := s.n } := hwf.upd hb rfl
/-- the block b goes on under a new id -/
theorem CC.adopt {ρ0 ρ : Nat → Nat} {w0 w w' : World} {H : Hp} (h : CC c ρ0 w0 ρ H w) {b n : Nat} {k k' : Blk} {ob : Obj} (hb : lkB H b = some k) (hk : k ≠ .dead) (hwk : wrt k = true) (hwk' : wrt k' = true) (hD : n ∉ c.D) (hn : lkB H n = none)
    (hids : ∀ b k, lkB H b = some k → ∀ b' ∈ k.ids, b' ≠ n) (hk' : ∀ b' ∈ k'.ids, b' ≠ n) (hw : Wrote w w' (ρ b) ob) (hbr : BR ρ k' ob) :
    CC c ρ0 w0 (up ρ n (ρ b)) ((n, k') :: (b, .dead) :: H) w' := by
  have hbn : b ≠ n := by rintro rfl; rw [hb] at hn; cases hn
  have h1 := h.wrote (k' := k') hb hk hwk hwk' hw hbr
  have cong : ∀ (k1 : Blk) (o' : Obj), (∀ b' ∈ k1.ids, b' ≠ n) → BR ρ k1 o' → BR (up ρ n (ρ b)) k1 o' := fun k1 o' h1 h2 => BR_congr (fun b' hb' => by simp [up, h1 b' hb']) h2
  have look : ∀ b1 k1, lkB ((n, k') :: (b, .dead) :: H) b1 = some k1 → k1 ≠ .dead → (b1 = n ∧ k1 = k') ∨ (b1 ≠ n ∧ b1 ≠ b ∧ lkB H b1 = some k1) := by
    intro b1 k1 hl hd
    rw [lkB_cons] at hl
    split at hl
    · rename_i e; injection hl with hl; exact .inl ⟨e.symm, hl.symm⟩
    · rename_i e
      rw [lkB_cons] at hl
      split at hl
      · injection hl with hl; exact absurd hl.symm hd
      · rename_i e'; exact .inr ⟨Ne.symm e, Ne.symm e', hl⟩
  have lk2 : ∀ b1 k1, b1 ≠ b → lkB H b1 = some k1 → lkB ((b, k') :: H) b1 = some k1 := fun b1 k1 hne hl => by rw [lkB_cons, if_neg (Ne.symm hne)]; exact hl
  refine ⟨⟨fun b1 k1 hl hd => ?_, fun b1 b2 k1 k2 h1' h2' d1 d2 hw12 he => ?_⟩, fun b1 hb1 => ?_, fun b1 k1 hl hd hw1 => ?_, h1.inv.os, h1.inv.tape, h1.inv.out, h1.inv.drw, h1.inv.size, h1.inv.old⟩
  · rcases look b1 k1 hl hd with ⟨rfl, rfl⟩ | ⟨e1, e2, hl'⟩
    · exact ⟨ob, by simp [up, hw.at_], cong _ _ hk' hbr⟩
    · obtain ⟨o1, ho1, hb1⟩ := h1.hr.1 b1 k1 (lk2 b1 k1 e2 hl') hd
      exact ⟨o1, by simp [up, e1, ho1], cong _ _ (hids b1 k1 hl') hb1⟩
  · rcases look b1 k1 h1' d1 with ⟨rfl, rfl⟩ | ⟨e1, e2, hl1⟩ <;> rcases look b2 k2 h2' d2 with ⟨rfl, rfl⟩ | ⟨e3, e4, hl2⟩
    · rfl
    · simp [up, e3] at he
      exact absurd (h.hr.2 b b2 k k2 hb hl2 hk d2 (.inl hwk) he).symm e4
    · simp [up, e1] at he
      exact absurd (h.hr.2 b1 b k1 k hl1 hb d1 hk (.inr hwk) he) e2
    · simp [up, e1, e3] at he
      exact h.hr.2 b1 b2 k1 k2 hl1 hl2 d1 d2 hw12 he
  · have : b1 ≠ n := fun e => hD (e ▸ hb1)
    simp [up, this, h.inv.fix b1 hb1]
  · rcases look b1 k1 hl hd with ⟨rfl, rfl⟩ | ⟨e1, e2, hl'⟩
    · simp only [up, if_true]; exact h.inv.own b k hb hk hwk
    · simp only [up, if_neg e1]; exact h.inv.own b1 k1 hl' hd hw1
theorem CC.drew' {ρ0 ρ : Nat → Nat} {w0 w : World} {H : Hp} (h : CC c ρ0 w0 ρ H w) : CC c ρ0 w0 ρ H w.drew := h.drew

/-! ### the append's parts -/
theorem growBy_le (n : Nat) : ∀ (r k : Nat), k < n → Builtin.growBy n r k ≤ n + (n + 768) / 4
  | 0, k, h => by simp [Builtin.growBy]; omega
  | r + 1, k, h => by
    simp only [Builtin.growBy]
    rw [if_neg (by omega)]
    by_cases h' : k + (k + 768) / 4 < n
    · exact growBy_le n r _ h'
    · cases r with
      | zero => simp [Builtin.growBy]; omega
      | succ r => simp only [Builtin.growBy]; rw [if_pos (by omega)]; omega
theorem nextslicecap_le {n k : Nat} (h : k < n) : Builtin.nextslicecap n k ≤ 2 * n + 192 := by
  unfold Builtin.nextslicecap
  split
  · omega
  · split
    · omega
    · have := growBy_le n 4 k h; omega
/-- what an element's zero is, in numbers -/
def ZI (i : TI) (sz : Nat) : Prop := 0 < sz ∧ i.size = sz ∧ (i.z = some (.int 0) ∧ sz = 1 ∨ i.z = some (.arr (List.replicate sz 0)))
theorem run_zero {e : Nat} {i : TI} {sz : Nat} (he : lkT c.T e = some i) (hz : ZI i sz) (w : World) : ∃ v : Value, (zeroValue e).run c.P w = .ok v w ∧ v.cells = icells (List.replicate sz 0) := by
  obtain ⟨_, ⟨j, hj, _, _, hz'⟩, _⟩ := c.tok e i he
  rcases hz.2.2 with ⟨h1, rfl⟩ | h1
  · exact ⟨.int .i64 0, by simp [zeroValue, typeInfo, hj, (hz' _ h1).1, rv], rfl⟩
  · exact ⟨.agg (icells (List.replicate sz 0)), by simp [zeroValue, typeInfo, hj, (hz' _ h1).1, rv, icells], rfl⟩
theorem zeroCells_ints {sz : Nat} (h : 0 < sz) (n : Nat) : Builtin.zeroCells (icells (List.replicate sz 0)) n = icells (List.replicate (n * sz) 0) := by
  unfold Builtin.zeroCells
  have := zmod (List.replicate sz 0) (by simp; omega) n
  simp only [List.length_replicate] at this
  rw [size_icells, List.length_replicate]
  rw [size_icells, List.length_replicate] at this
  rw [this]
  congr 1
  apply List.ext_getElem (by simp)
  intro q hq1 hq2
  have : q % sz < sz := Nat.mod_lt _ h
  simp [List.getD, this]
theorem run_loadInts' {ρ0 ρ : Nat → Nat} {w0 w : World} {H : Hp} {b o n t' : Nat} {l : List Int} (hw : CC c ρ0 w0 ρ H w) (hb : lkB H b = some (.ints t' l)) (h : o + n ≤ l.length) :
    (loadCells ⟨ρ b, o, none⟩ n).run c.P w = .ok (icells ((l.drop o).take n)) w := by
  have hlen : ((l.drop o).take n).length = n := by simp; omega
  have hl := run_loadCells_list (P := c.P) w ⟨ρ b, o, none⟩ (((l.drop o).take n).map (Value.int .i64)) (fun j v hv => by
    rw [add_none, cell_ints hw hb]
    simp only [List.getElem?_map, Option.map_eq_some_iff] at hv ⊢
    obtain ⟨z, hz, rfl⟩ := hv
    refine ⟨z, ?_, rfl⟩
    rw [List.getElem?_take] at hz
    split at hz
    · simpa [List.getElem?_drop] using hz
    · cases hz)
  rw [List.length_map, hlen] at hl
  exact hl
/-- the numbers that a slice value holds -/
def isl (H : Hp) (sz : Nat) : V → Option (List Int)
  | .slice b o n _ => match lkB H b with
    | some (.ints _ l) => match Nat.ble (o + n * sz) l.length with
      | true => some ((l.drop o).take (n * sz))
      | false => none
    | _ => none
  | .nilsl => some []
  | _ => none
def vlen : V → Nat
  | .slice _ _ n _ => n
  | _ => 0
/-- x is a slice of m elements whose numbers are xs -/
inductive IsSl (H : Hp) (sz : Nat) : V → Nat → List Int → Prop
  | nil : IsSl H sz .nilsl 0 []
  | mk {b o n k t : Nat} {l : List Int} (hb : lkB H b = some (.ints t l)) (h : o + n * sz ≤ l.length) : IsSl H sz (.slice b o n k) n ((l.drop o).take (n * sz))
theorem IsSl.len {H : Hp} {sz : Nat} {v : V} {n : Nat} {xs : List Int} (h : IsSl H sz v n xs) : xs.length = n * sz := by
  cases h with
  | nil => simp
  | mk hb h => simp; omega
theorem IsSl.run {ρ0 ρ : Nat → Nat} {w0 w : World} {H : Hp} {sz n : Nat} {v : V} {xs : List Int} (h : IsSl H sz v n xs) (hw : CC c ρ0 w0 ρ H w) :
    (Builtin.lenOf (rv ρ v)).run c.P w = .ok n w ∧ (Builtin.firstCells sz n (rv ρ v)).run c.P w = .ok (icells xs) w := by
  cases h with
  | nil => exact ⟨rfl, rfl⟩
  | mk hb h =>
    refine ⟨rfl, ?_⟩
    simp only [rv, Builtin.firstCells]
    exact run_loadInts' hw hb h

theorem IsSl.run_take {ρ0 ρ : Nat → Nat} {w0 w : World} {H : Hp} {sz n k : Nat} {v : V} {xs : List Int} (h : IsSl H sz v n xs) (hw : CC c ρ0 w0 ρ H w) (hk : k ≤ n) :
    (Builtin.firstCells sz k (rv ρ v)).run c.P w = .ok (icells (xs.take (k * sz))) w := by
  have hkn : k * sz ≤ n * sz := Nat.mul_le_mul_right sz hk
  cases h with
  | nil =>
    have : k = 0 := by omega
    subst this
    simp [rv, Builtin.firstCells, icells]
  | mk hb h =>
    have := run_loadInts' (n := k * sz) hw hb (Nat.le_trans (Nat.add_le_add_left hkn _) h)
    simp only [rv, Builtin.firstCells]
    rw [this, List.take_take, Nat.min_eq_left hkn]
theorem one_map (l : List Int) : ∀ x ∈ l.map (Value.int .i64), x.oneCell' = true := by
  intro x hx
  obtain ⟨n, _, rfl⟩ := List.mem_map.1 hx
  rfl
theorem icells_append (a b : List Int) : icells a ++ icells b = icells (a ++ b) := by simp [icells]

/-- the run of an append of numbers, as far as both ways have it alike -/
theorem app_fit {ρ0 ρ : Nat → Nat} {w0 w : World} {ats : Array TypeId} {t t2 : TypeId} {ty : TypeId} {i i2 ie : TI} {e e2 sz b o n k m t' : Nat} {y : V} {xs l : List Int} (hat : ats = #[t, t2]) (ht : lkT c.T t = some i) (hd : i.d = .slice e) (ht2 : lkT c.T t2 = some i2) (hd2 : i2.d = .slice e2)
    (he : lkT c.T e = some ie) (hsz : ie.size = sz) (hw : CC c ρ0 w0 ρ s.H w) (hb : lkB s.H b = some (.ints t' l)) (hy : IsSl s.H sz y m xs) (hfit : n + m ≤ k) (hroom : o + (n + m) * sz ≤ l.length) :
    ∃ w', (Builtin.append_ ats ty #[rv ρ (.slice b o n k), rv ρ y]).run c.P w = .ok (rv ρ (.slice b o (n + m) k)) w' ∧ Wrote w w' (ρ b) (.cells (icells (putI l (o + n * sz) xs)) t' (0, 0)) := by
  subst hat
  have hu := (c.tok t i ht).1
  rw [hd] at hu
  have hu2 := (c.tok t2 i2 ht2).1
  rw [hd2] at hu2
  obtain ⟨r1, r2⟩ := hy.run hw
  obtain ⟨ob, ho1, ho2⟩ := hw.hr.1 b _ hb (by simp)
  simp only [BR] at ho2; subst ho2
  have hlen := hy.len
  rw [Nat.add_mul] at hroom
  obtain ⟨w', hr, hwr⟩ := run_storeCells (P := c.P) (xs.map (Value.int .i64)) w (ρ b) (o + n * sz) 0 (icells l) t' ho1 (by simp [Value.oneCell']) (by simp [size_icells, hlen]; omega)
  refine ⟨w', ?_, ?_⟩
  · simp only [Builtin.append_, rv] at r1 r2 ⊢
    simp [run_underlying hu, run_underlying hu2, run_sizeOf' c.tok he, hsz, r1, r2, hfit, add_none, icells]
    simp [hr]
  · rw [Nat.add_zero] at hwr
    rw [putA_icells] at hwr
    exact hwr
theorem app_grow {ρ0 ρ : Nat → Nat} {w0 w : World} {ats : Array TypeId} {t t2 : TypeId} {ty : TypeId} {i i2 ie : TI} {e e2 sz n k m by_ : Nat} {x y : V} {xs ys : List Int} (hat : ats = #[t, t2]) (ht : lkT c.T t = some i) (hd : i.d = .slice e) (ht2 : lkT c.T t2 = some i2) (hd2 : i2.d = .slice e2)
    (he : lkT c.T e = some ie) (hz : ZI ie sz) (hby : ie.bytes = by_) (hw : CC c ρ0 w0 ρ s.H w) (hx : IsSl s.H sz x n ys) (hxv : (∃ b o, x = .slice b o n k) ∨ x = .nilsl ∧ k = 0) (hy : IsSl s.H sz y m xs) (hfit : ¬ n + m ≤ k) (hlim : (2 * (n + m) + 192) * by_ ≤ 281474976710656) (h63 : n + m ≤ 1000000000000) (hb0 : 0 < by_) :
    ∃ k' w', (Builtin.append_ ats ty #[rv ρ x, rv ρ y]).run c.P w = .ok (.slice (some ⟨w.heap.size, 0, none⟩) (n + m) k') w' ∧ n + m ≤ k' ∧ w'.heap = w.heap.push (.cells (icells (ys ++ xs ++ List.replicate ((k' - (n + m)) * sz) 0)) e (0, 0)) ∧ Same w w' := by
  subst hat
  have hu := (c.tok t i ht).1
  rw [hd] at hu
  have hu2 := (c.tok t2 i2 ht2).1
  rw [hd2] at hu2
  obtain ⟨r1, r2⟩ := hy.run hw
  obtain ⟨r1d, r2d⟩ := hy.run hw.drew'
  obtain ⟨q1, q2⟩ := hx.run hw.drew'
  obtain ⟨_, ⟨j, hj, hjs, hjb, hz'⟩, _⟩ := c.tok e ie he
  obtain ⟨zv, hzv, hzc⟩ := run_zero (c := c) he hz w.drew
  have hcap : Builtin.nextslicecap (n + m) k ≤ 2 * (n + m) + 192 := nextslicecap_le (by omega)
  have hbytes : ¬ 2 ^ 48 < Builtin.nextslicecap (n + m) k * j.bytes := by
    rw [hjb, hby]
    have := Nat.mul_le_mul_right by_ hcap
    omega
  have hnb : j.bytes ≠ 0 := by rw [hjb, hby]; omega
  refine ⟨(n + m) + w.tape w.drawn (.appendCap (n + m) k e) % (2 ^ 63 - (n + m)), w.drew.alloc (.cells (icells (ys ++ xs ++ List.replicate (((n + m) + w.tape w.drawn (.appendCap (n + m) k e) % (2 ^ 63 - (n + m)) - (n + m)) * sz) 0)) e (0, 0)), ?_, by omega, rfl, ⟨rfl, rfl, rfl, Nat.le_succ _⟩⟩
  have hxr : rv ρ x = .slice (match x with | .slice b o _ _ => some ⟨ρ b, o, none⟩ | _ => none) n k := by
    rcases hxv with ⟨b, o, rfl⟩ | ⟨rfl, rfl⟩
    · rfl
    · cases hx; rfl
  rw [hxr] at q2 ⊢
  generalize (match x with | .slice b o _ _ => some (⟨ρ b, o, none⟩ : Addr) | _ => none) = A at *
  have hsz : ie.size = sz := hz.2.1
  simp only [Builtin.append_] at r1 r2 r1d r2d ⊢
  simp [run_underlying hu, run_underlying hu2, run_sizeOf' c.tok he, hsz, r1, hfit, typeInfo, hj, hnb, hbytes, Question.forced, Question.cut, q2, r2d, hzv, hzc, zeroCells_ints hz.1, newRow, icells_append]

/-! ### append, as rules -/
theorem exec_app {o : Oper} {x y : Operand} {u v : V} {ats : Array TypeId} {ρ0 ρ : Nat → Nat} {w0 : World} {a : Act} {w w' : World} {z : Value} (ho : o.op = .call ⟨.builtin .append, #[x, y], ats⟩) (hg : GR c.gl c.D ρ0) (hs : St c ρ0 w0 ρ s a w)
    (hx : ev c s.F x = some u) (hy : ev c s.F y = some v) (hu : nb u = true) (hv : nb v = true) (hr : (Builtin.append_ ats o.type #[rv ρ u, rv ρ v]).run c.P w = .ok z w') : (execOp a.eval o).run c.P w = .ok (.value z) w' := by
  simp [execOp, ho, resolve, invoke, builtin, ev_rv hg hs.cc.inv.fix hs.fr hx (ne_bot hu), ev_rv hg hs.cc.inv.fix hs.fr hy (ne_bot hv), hr]
theorem IsSl.nb {H : Hp} {sz : Nat} {v : V} {n : Nat} {xs : List Int} (h : IsSl H sz v n xs) : Go.Proofs.YtendffbpmpobnaaDoor.nb v = true := by cases h <;> rfl
/-- it fits: written in place -/
theorem OW_app_fit {ops : Array Oper} {dst : Option Tmp} {ty t t2 : TypeId} {ats : Array TypeId} {pos : String} {af : Array Edge} {rest : List Oper} {x y : Operand} {i i2 ie : TI} {e e2 sz b o n k m t' : Nat} {v : V} {xs l : List Int}
    (hat : ats = #[t, t2]) (ht : lkT c.T t = some i) (hd : i.d = .slice e) (ht2 : lkT c.T t2 = some i2) (hd2 : i2.d = .slice e2) (he : lkT c.T e = some ie) (hsz : ie.size = sz)
    (hx : ev c s.F x = some (.slice b o n k)) (hy : ev c s.F y = some v) (hb : lkB s.H b = some (.ints t' l)) (hv : IsSl s.H sz v m xs) (hfit : n + m ≤ k) (hroom : o + (n + m) * sz ≤ l.length) (hN : okDst c.N dst = true) (hsc : sc s.n [b] = true)
    (h : OW c ops Q rest (S.put { F := s.F, H := (b, .ints t' (putI l (o + n * sz) xs)) :: s.H, n := s.n } dst (.slice b o (n + m) k))) :
    OW c ops Q (⟨dst, .call ⟨.builtin .append, #[x, y], ats⟩, ty, pos, af, none⟩ :: rest) s := by
  refine OW_any (ι := Unit) (fun _ => { F := s.F, H := (b, .ints t' (putI l (o + n * sz) xs)) :: s.H, n := s.n }) (fun _ => .slice b o (n + m) k) rfl hN (fun _ => hsc) (fun ρ0 w0 ρ a w hg hs => ?_) (fun _ => h)
  obtain ⟨w', hr, hw⟩ := app_fit (ty := ty) hat ht hd ht2 hd2 he hsz hs.cc hb hv hfit hroom
  exact ⟨(), ρ, w', ⟨hs.cc.wrote hb (by simp) rfl rfl hw rfl, hs.fr, hs.wf.upd hb rfl⟩, .inl (exec_app rfl hg hs hx hy rfl hv.nb hr)⟩
theorem St.kill {ρ0 ρ : Nat → Nat} {w0 w : World} {a : Act} {b : Nat} {k : Blk} (hs : St c ρ0 w0 ρ s a w) (hb : lkB s.H b = some k) : St c ρ0 w0 ρ { F := s.F, H := (b, .dead) :: s.H, n := s.n } a w :=
  ⟨hs.cc.kill b, hs.fr, hs.wf.kill hb⟩
/-- a row of the call's own, whole: it goes on under a new id; what lies behind its length is not told -/
theorem OW_app_own {ops : Array Oper} {dst : Option Tmp} {ty t t2 : TypeId} {ats : Array TypeId} {pos : String} {af : Array Edge} {rest : List Oper} {x y : Operand} {i i2 ie : TI} {e e2 sz b n k m by_ : Nat} {v : V} {xs l : List Int}
    (hat : ats = #[t, t2]) (ht : lkT c.T t = some i) (hd : i.d = .slice e) (ht2 : lkT c.T t2 = some i2) (hd2 : i2.d = .slice e2) (he : lkT c.T e = some ie) (hz : ZI ie sz) (hby : ie.bytes = by_) (hb0 : 0 < by_)
    (hx : ev c s.F x = some (.slice b 0 n k)) (hy : ev c s.F y = some v) (hb : lkB s.H b = some (.ints e l)) (hv : IsSl s.H sz v m xs) (hroom : k * sz ≤ l.length) (hnk : n ≤ k) (hlim : (2 * (n + m) + 192) * by_ ≤ 281474976710656) (h63 : n + m ≤ 1000000000000)
    (hN : okDst c.N dst = true) (hn : Nat.blt s.n 1000 = true) (hsc : sc (s.n + 1) [s.n] = true)
    (h : ∀ (k' : Nat) (spare : List Int), n + m ≤ k' → k' * sz ≤ (n + m) * sz + spare.length → OW c ops Q rest (S.put { F := s.F, H := (s.n, .ints e (l.take (n * sz) ++ xs ++ spare)) :: (b, .dead) :: s.H, n := s.n + 1 } dst (.slice s.n 0 (n + m) k'))) :
    OW c ops Q (⟨dst, .call ⟨.builtin .append, #[x, y], ats⟩, ty, pos, af, none⟩ :: rest) s := by
  have h1000 : s.n < 1000 := by simpa [Nat.blt_eq] using hn
  refine OW_any (ι := { p : Nat × List Int // n + m ≤ p.1 ∧ p.1 * sz ≤ (n + m) * sz + p.2.length }) (fun p => { F := s.F, H := (s.n, .ints e (l.take (n * sz) ++ xs ++ p.1.2)) :: (b, .dead) :: s.H, n := s.n + 1 }) (fun p => .slice s.n 0 (n + m) p.1.1) rfl hN (fun _ => hsc) (fun ρ0 w0 ρ a w hg hs => ?_)
    (fun p => h p.1.1 p.1.2 p.2.1 p.2.2)
  have hnsz : n * sz ≤ k * sz := Nat.mul_le_mul_right sz hnk
  have hne : ∀ b', (b' < s.n ∨ 1000 ≤ b') → b' ≠ s.n := fun b' h => by omega
  by_cases hfit : n + m ≤ k
  · have hmsz : (n + m) * sz ≤ k * sz := Nat.mul_le_mul_right sz hfit
    obtain ⟨w', hr, hw⟩ := app_fit (ty := ty) (o := 0) hat ht hd ht2 hd2 he hz.2.1 hs.cc hb hv hfit (by omega)
    have hlen := hv.len
    have e1 : putI l (0 + n * sz) xs = l.take (n * sz) ++ xs ++ l.drop ((n + m) * sz) := by
      have hsplit : l = l.take (n * sz) ++ ((l.drop (n * sz)).take (m * sz) ++ l.drop ((n + m) * sz)) := by
        rw [show l.drop ((n + m) * sz) = (l.drop (n * sz)).drop (m * sz) by rw [List.drop_drop, Nat.add_mul], List.take_append_drop, List.take_append_drop]
      have hpl : (l.take (n * sz)).length = n * sz := by simp; omega
      have key : ∀ (xs mid pre post : List Int), mid.length = xs.length → putI (pre ++ (mid ++ post)) pre.length xs = pre ++ xs ++ post := by
        intro xs
        induction xs with
        | nil => intro mid pre post h; have : mid = [] := List.eq_nil_of_length_eq_zero h; simp [putI, this]
        | cons x r ih =>
          intro mid pre post h
          match mid with
          | [] => simp at h
          | y :: mid =>
            have := ih mid (pre ++ [x]) post (by simpa using h)
            simp only [List.length_append, List.length_cons, List.length_nil, Nat.zero_add, List.append_assoc, List.cons_append, List.nil_append] at this
            simp only [putI, List.append_assoc]
            have e2 : (pre ++ (y :: mid ++ post)).set pre.length x = pre ++ x :: (mid ++ post) := by simp
            rw [e2, this]
            simp
      have hmid : ((l.drop (n * sz)).take (m * sz)).length = xs.length := by
        rw [hlen]; simp; rw [Nat.add_mul] at hmsz; omega
      have := key xs _ (l.take (n * sz)) (l.drop ((n + m) * sz)) hmid
      rw [hpl, ← hsplit] at this
      rw [Nat.zero_add]; exact this
    rw [e1] at hw
    refine ⟨⟨(k, l.drop ((n + m) * sz)), hfit, by simp only [List.length_drop]; omega⟩, up ρ s.n (ρ b), w', ⟨hs.cc.adopt hb (by simp) rfl rfl (hs.wf.fresh s.n (Nat.le_refl _) h1000).2 (hs.wf.fresh s.n (Nat.le_refl _) h1000).1
      (fun b k' hl b' hb' => hne b' (hs.wf.hs b k' hl b' hb')) (by simp [Blk.ids]) hw rfl, hs.fr.up hs.wf h1000 _, (hs.wf.kill hb).push (.ints e _) rfl⟩, .inl (exec_app rfl hg hs hx hy rfl hv.nb ?_)⟩
    rw [hr]
    have hbn : b ≠ s.n := by rintro rfl; have := (hs.wf.fresh s.n (Nat.le_refl _) h1000).1; rw [hb] at this; cases this
    simp [rv, up]
  · obtain ⟨k', w', hr, hk', hw, hsm⟩ := app_grow (ty := ty) (y := v) hat ht hd ht2 hd2 he hz hby hs.cc (.mk (b := b) (o := 0) (n := n) (k := k) hb (by omega)) (.inl ⟨b, 0, rfl⟩) hv hfit hlim h63 hb0
    rw [List.drop_zero] at hw
    have := (hs.kill hb).push h1000 (k := .ints e (l.take (n * sz) ++ xs ++ List.replicate ((k' - (n + m)) * sz) 0)) rfl rfl hw hsm
    refine ⟨⟨(k', List.replicate ((k' - (n + m)) * sz) 0), hk', ?_⟩, _, w', this, .inl ?_⟩
    · simp only [List.length_replicate]
      rw [← Nat.add_mul]
      exact Nat.mul_le_mul_right sz (by omega)
    · refine exec_app rfl hg hs hx hy rfl hv.nb ?_
      rw [hr]
      simp [rv, up]
/-- onto nil (or an empty cut) something comes: a new row -/
theorem OW_app_new {ops : Array Oper} {dst : Option Tmp} {ty t t2 : TypeId} {ats : Array TypeId} {pos : String} {af : Array Edge} {rest : List Oper} {x y : Operand} {i i2 ie : TI} {e e2 sz n k m by_ : Nat} {u v : V} {ys xs : List Int}
    (hat : ats = #[t, t2]) (ht : lkT c.T t = some i) (hd : i.d = .slice e) (ht2 : lkT c.T t2 = some i2) (hd2 : i2.d = .slice e2) (he : lkT c.T e = some ie) (hz : ZI ie sz) (hby : ie.bytes = by_) (hb0 : 0 < by_)
    (hx : ev c s.F x = some u) (hy : ev c s.F y = some v) (hu : IsSl s.H sz u n ys) (huv : (∃ b o, u = .slice b o n k) ∨ u = .nilsl ∧ k = 0) (hv : IsSl s.H sz v m xs) (hfit : ¬ n + m ≤ k) (hlim : (2 * (n + m) + 192) * by_ ≤ 281474976710656) (h63 : n + m ≤ 1000000000000)
    (hN : okDst c.N dst = true) (hn : Nat.blt s.n 1000 = true) (hsc : sc (s.n + 1) [s.n] = true)
    (h : ∀ (k' : Nat) (spare : List Int), n + m ≤ k' → k' * sz ≤ (n + m) * sz + spare.length → OW c ops Q rest (S.put { F := s.F, H := (s.n, .ints e (ys ++ xs ++ spare)) :: s.H, n := s.n + 1 } dst (.slice s.n 0 (n + m) k'))) :
    OW c ops Q (⟨dst, .call ⟨.builtin .append, #[x, y], ats⟩, ty, pos, af, none⟩ :: rest) s := by
  have h1000 : s.n < 1000 := by simpa [Nat.blt_eq] using hn
  refine OW_any (ι := { p : Nat × List Int // n + m ≤ p.1 ∧ p.1 * sz ≤ (n + m) * sz + p.2.length }) (fun p => { F := s.F, H := (s.n, .ints e (ys ++ xs ++ p.1.2)) :: s.H, n := s.n + 1 }) (fun p => .slice s.n 0 (n + m) p.1.1) rfl hN (fun _ => hsc) (fun ρ0 w0 ρ a w hg hs => ?_)
    (fun p => h p.1.1 p.1.2 p.2.1 p.2.2)
  obtain ⟨k', w', hr, hk', hw, hsm⟩ := app_grow (ty := ty) (y := v) hat ht hd ht2 hd2 he hz hby hs.cc hu huv hv hfit hlim h63 hb0
  have := hs.push h1000 (k := .ints e (ys ++ xs ++ List.replicate ((k' - (n + m)) * sz) 0)) rfl rfl hw hsm
  refine ⟨⟨(k', List.replicate ((k' - (n + m)) * sz) 0), hk', ?_⟩, _, w', this, .inl ?_⟩
  · simp only [List.length_replicate]
    rw [← Nat.add_mul]
    exact Nat.mul_le_mul_right sz (by omega)
  · refine exec_app rfl hg hs hx hy hu.nb hv.nb ?_
    rw [hr]
    simp [rv, up]
/-- nothing onto nil is nil -/
theorem Q_app00 {dst : Option Tmp} {ty t t2 : TypeId} {ats : Array TypeId} {pos : String} {af : Array Edge} {g : Option (Nat × Bool)} {x y : Operand} {i i2 ie : TI} {e e2 sz : Nat} {v : V}
    (hat : ats = #[t, t2]) (ht : lkT c.T t = some i) (hd : i.d = .slice e) (ht2 : lkT c.T t2 = some i2) (hd2 : i2.d = .slice e2) (he : lkT c.T e = some ie) (hsz : ie.size = sz)
    (hx : ev c s.F x = some .nilsl) (hy : ev c s.F y = some v) (hv : IsSl s.H sz v 0 []) : QOp c ⟨dst, .call ⟨.builtin .append, #[x, y], ats⟩, ty, pos, af, g⟩ s .nilsl := by
  subst hat
  intro ρ0 w0 hg ρ a hf hfix w hw
  refine quiet_val ?_
  have hu := (c.tok t i ht).1
  rw [hd] at hu
  have hu2 := (c.tok t2 i2 ht2).1
  rw [hd2] at hu2
  obtain ⟨r1, r2⟩ := hv.run hw
  simp [execOp, resolve, invoke, builtin, Builtin.append_, ev_rv hg hfix hf hx (by simp), ev_rv hg hfix hf hy (ne_bot hv.nb), rv, run_underlying hu, run_underlying hu2, run_sizeOf' c.tok he, hsz, r1, r2]
/-- nothing onto a row: the row -/
theorem Q_app0 {dst : Option Tmp} {ty t t2 : TypeId} {ats : Array TypeId} {pos : String} {af : Array Edge} {g : Option (Nat × Bool)} {x y : Operand} {i i2 ie : TI} {e e2 sz b o n k : Nat} {v : V}
    (hat : ats = #[t, t2]) (ht : lkT c.T t = some i) (hd : i.d = .slice e) (ht2 : lkT c.T t2 = some i2) (hd2 : i2.d = .slice e2) (he : lkT c.T e = some ie) (hsz : ie.size = sz)
    (hx : ev c s.F x = some (.slice b o n k)) (hy : ev c s.F y = some v) (hv : IsSl s.H sz v 0 []) (hnk : n ≤ k) : QOp c ⟨dst, .call ⟨.builtin .append, #[x, y], ats⟩, ty, pos, af, g⟩ s (.slice b o n k) := by
  subst hat
  intro ρ0 w0 hg ρ a hf hfix w hw
  refine quiet_val ?_
  have hu := (c.tok t i ht).1
  rw [hd] at hu
  have hu2 := (c.tok t2 i2 ht2).1
  rw [hd2] at hu2
  obtain ⟨r1, r2⟩ := hv.run hw
  simp [execOp, resolve, invoke, builtin, Builtin.append_, ev_rv hg hfix hf hx (by simp), ev_rv hg hfix hf hy (ne_bot hv.nb), rv, run_underlying hu, run_underlying hu2, run_sizeOf' c.tok he, hsz, r1, r2, hnk, icells, storeCells]

/-! ### make, clear, copy -/
theorem nr_mk {dst : Option Tmp} {ty t : TypeId} {pos : String} {af : Array Edge} {x y : Operand} {i ie : TI} {e sz by_ n k : Nat}
    (ht : lkT c.T t = some i) (hd : i.d = .slice e) (he : lkT c.T e = some ie) (hz : ZI ie sz) (hby : ie.bytes = by_) (hx : ev c s.F x = some (.int n)) (hy : ev c s.F y = some (.int k)) (hnk : n ≤ k) (hlim : k * by_ ≤ 281474976710656) (hk : k ≤ 1000000000000) : NewRun c s ⟨dst, .makeSlice t x y, ty, pos, af, none⟩ (.ints e (List.replicate (k * sz) 0)) (.slice s.n 0 n k) := by
  intro ρ0 ρ a w0 w hg hfix hf hw hwf
  refine ⟨.cells (icells (List.replicate (k * sz) 0)) e, w.alloc (.cells (icells (List.replicate (k * sz) 0)) e), BR_ints_self, rfl, ⟨rfl, rfl, rfl, Nat.le_refl _⟩, ?_⟩
  have hu := (c.tok t i ht).1
  rw [hd] at hu
  obtain ⟨_, ⟨j, hj, hjs, hjb, _⟩, _⟩ := c.tok e ie he
  obtain ⟨zv, hzv, hzc⟩ := run_zero (c := c) he hz w
  have e1 : IntKind.i64.wrap (n : Int) = n := wr_in (by omega)
  have e2 : IntKind.i64.wrap (k : Int) = k := wr_in (by omega)
  have hbig : ¬ ((2 : Int) ^ 48 < (j.bytes : Int) * k) := by
    rw [hjb, hby]
    have : ((by_ : Int) * k) = ((k * by_ : Nat) : Int) := by rw [Nat.mul_comm]; exact (Int.natCast_mul by_ k).symm
    have e48 : (2 : Int) ^ 48 = 281474976710656 := by decide
    omega
  have hcells : ∀ zc : Array Value, (k * sz = 0 → zc = #[]) → (k * sz ≠ 0 → zc = icells (List.replicate sz 0)) → (Array.range (k * sz)).map (fun q => zc[q % zc.size]!) = icells (List.replicate (k * sz) 0) := by
    intro zc h0 h1
    by_cases hl : k * sz = 0
    · simp [hl, icells]
    · rw [h1 hl]
      have := zeroCells_ints hz.1 k
      unfold Builtin.zeroCells at this
      rw [size_icells, List.length_replicate] at this
      rw [size_icells, List.length_replicate]
      exact this
  have hr : (Instr.makeSlice t (.int .i64 n) (.int .i64 k)).run c.P w = .ok (.slice (some ⟨w.heap.size, 0, none⟩) n k) (w.alloc (.cells (icells (List.replicate (k * sz) 0)) e)) := by
    unfold Instr.makeSlice
    simp only [Sem.run_bind, run_underlying hu, Result.andThen_ok, asInt, asIntOf, Sem.run_pure, typeInfo, run_program, hj, e1, e2, Int.toNat_natCast]
    have c1 : (decide ((k : Int) < 0) || decide ((j.bytes : Int) * k > 2 ^ 48)) = false := by rw [decide_eq_false (by omega), decide_eq_false hbig]; rfl
    have c2 : decide ((n : Int) < 0) = false := by simp
    have c3 : decide ((n : Int) > k) = false := by simp; omega
    simp only [c1, c2, c3, Bool.or_false, Bool.false_eq_true, if_false, run_askRoom, Result.andThen_ok, Sem.run_bind, run_sizeOf' c.tok he, hz.2.1]
    by_cases hl : k * sz = 0
    · simp only [hl, if_true, Sem.run_bind, Sem.run_pure, Result.andThen_ok]
      have := hcells #[] (fun _ => rfl) (fun h => absurd hl h)
      rw [hl] at this
      rw [this]
      simp [newRow]
    · simp only [if_neg hl, Sem.run_bind, hzv, Result.andThen_ok, Sem.run_pure, hzc]
      rw [hcells _ (fun h => absurd h hl) (fun _ => rfl)]
      simp [newRow]
  simp [execOp, ev_rv hg hfix hf hx (by simp), ev_rv hg hfix hf hy (by simp), rv, hr, up]
theorem OW_mk {ops : Array Oper} {dst : Option Tmp} {ty t : TypeId} {pos : String} {af : Array Edge} {rest : List Oper} {x y : Operand} {i ie : TI} {e sz by_ n k : Nat}
    (ht : lkT c.T t = some i) (hd : i.d = .slice e) (he : lkT c.T e = some ie) (hz : ZI ie sz) (hby : ie.bytes = by_) (hx : ev c s.F x = some (.int n)) (hy : ev c s.F y = some (.int k)) (hnk : n ≤ k) (hlim : k * by_ ≤ 281474976710656) (hk : k ≤ 1000000000000)
    (hN : okDst c.N dst = true) (hn : Nat.blt s.n 1000 = true) (hsc : sc (s.n + 1) [s.n] = true)
    (h : OW c ops Q rest (S.put { F := s.F, H := (s.n, .ints e (List.replicate (k * sz) 0)) :: s.H, n := s.n + 1 } dst (.slice s.n 0 n k))) :
    OW c ops Q (⟨dst, .makeSlice t x y, ty, pos, af, none⟩ :: rest) s :=
  OW_new (k := .ints e (List.replicate (k * sz) 0)) (v := .slice s.n 0 n k) rfl hN hn rfl hsc (nr_mk ht hd he hz hby hx hy hnk hlim hk) h
theorem OW_clear {ops : Array Oper} {dst : Option Tmp} {ty t : TypeId} {ats : Array TypeId} {pos : String} {af : Array Edge} {rest : List Oper} {x : Operand} {i ie : TI} {e sz b o n k t' : Nat} {l : List Int} (hat : ats = #[t])
    (ht : lkT c.T t = some i) (hd : i.d = .slice e) (he : lkT c.T e = some ie) (hz : ZI ie sz) (hx : ev c s.F x = some (.slice b o n k)) (hb : lkB s.H b = some (.ints t' l)) (hroom : o + n * sz ≤ l.length) (hN : okDst c.N dst = true)
    (h : OW c ops Q rest (S.put { F := s.F, H := (b, .ints t' (putI l o (List.replicate (n * sz) 0))) :: s.H, n := s.n } dst .bot)) :
    OW c ops Q (⟨dst, .call ⟨.builtin .clear, #[x], ats⟩, ty, pos, af, none⟩ :: rest) s := by
  subst hat
  refine OW_any (ι := Unit) (fun _ => { F := s.F, H := (b, .ints t' (putI l o (List.replicate (n * sz) 0))) :: s.H, n := s.n }) (fun _ => .bot) rfl hN (fun _ => rfl) (fun ρ0 w0 ρ a w hg hs => ?_) (fun _ => h)
  have hu := (c.tok t i ht).1
  rw [hd] at hu
  obtain ⟨ob, ho1, ho2⟩ := hs.cc.hr.1 b _ hb (by simp)
  simp only [BR] at ho2; subst ho2
  obtain ⟨zv, hzv, hzc⟩ := run_zero (c := c) he hz w
  cases n with
  | zero =>
    refine ⟨(), ρ, w, ⟨hs.cc.wrote (o' := .cells (icells l) t' (0, 0)) hb (by simp) rfl rfl ⟨ho1, rfl, fun _ _ => rfl, Same.refl w⟩ (by simp [BR, putI]), hs.fr, hs.wf.upd hb rfl⟩, .inl ?_⟩
    simp [execOp, resolve, invoke, builtin, Builtin.clear_, run_underlying hu, ev_rv hg hs.cc.inv.fix hs.fr hx (by simp), rv, undef]
  | succ n =>
    obtain ⟨w', hr, hwr⟩ := run_storeCells (P := c.P) ((List.replicate ((n + 1) * sz) 0).map (Value.int .i64)) w (ρ b) o 0 (icells l) t' ho1 (by simp [Value.oneCell']) (by simp [size_icells]; omega)
    rw [Nat.add_zero, putA_icells] at hwr
    refine ⟨(), ρ, w', ⟨hs.cc.wrote hb (by simp) rfl rfl hwr rfl, hs.fr, hs.wf.upd hb rfl⟩, .inl ?_⟩
    have hzz := zeroCells_ints hz.1 (n + 1)
    have hr' : (storeCells ⟨ρ b, o, none⟩ (icells (List.replicate ((n + 1) * sz) 0)).toList 0).run c.P w = .ok () w' := hr
    simp [execOp, resolve, invoke, builtin, Builtin.clear_, ev_rv hg hs.cc.inv.fix hs.fr hx (by simp), rv, run_underlying hu, hzv, hzc, hzz, hr', undef]
theorem OW_copy {ops : Array Oper} {dst : Option Tmp} {ty t t2 : TypeId} {ats : Array TypeId} {pos : String} {af : Array Edge} {rest : List Oper} {x y : Operand} {i ie : TI} {e sz b o n k m t' : Nat} {v : V} {xs l : List Int} (hat : ats = #[t, t2])
    (ht : lkT c.T t = some i) (hd : i.d = .slice e) (he : lkT c.T e = some ie) (hsz : ie.size = sz) (hx : ev c s.F x = some (.slice b o n k)) (hy : ev c s.F y = some v) (hb : lkB s.H b = some (.ints t' l)) (hv : IsSl s.H sz v m xs) (hroom : o + n * sz ≤ l.length) (hN : okDst c.N dst = true)
    (h : OW c ops Q rest (S.put { F := s.F, H := (b, .ints t' (putI l o (xs.take (min m n * sz)))) :: s.H, n := s.n } dst (.int (min m n : Nat)))) :
    OW c ops Q (⟨dst, .call ⟨.builtin .copy, #[x, y], ats⟩, ty, pos, af, none⟩ :: rest) s := by
  subst hat
  refine OW_any (ι := Unit) (fun _ => { F := s.F, H := (b, .ints t' (putI l o (xs.take (min m n * sz)))) :: s.H, n := s.n }) (fun _ => .int (min m n : Nat)) rfl hN (fun _ => rfl) (fun ρ0 w0 ρ a w hg hs => ?_) (fun _ => h)
  have hu := (c.tok t i ht).1
  rw [hd] at hu
  obtain ⟨ob, ho1, ho2⟩ := hs.cc.hr.1 b _ hb (by simp)
  simp only [BR] at ho2; subst ho2
  have hlen := hv.len
  have hmn : min m n * sz ≤ n * sz := Nat.mul_le_mul_right sz (Nat.min_le_right m n)
  obtain ⟨w', hr, hwr⟩ := run_storeCells (P := c.P) ((xs.take (min m n * sz)).map (Value.int .i64)) w (ρ b) o 0 (icells l) t' ho1 (one_map _) (by simp only [size_icells, List.length_map, List.length_take]; omega)
  rw [Nat.add_zero, putA_icells] at hwr
  refine ⟨(), ρ, w', ⟨hs.cc.wrote hb (by simp) rfl rfl hwr rfl, hs.fr, hs.wf.upd hb rfl⟩, .inl ?_⟩
  have hlo : (Builtin.lenOf (rv ρ v)).run c.P w = .ok m w := (hv.run hs.cc).1
  have hfc := hv.run_take (k := min m n) hs.cc (Nat.min_le_left m n)
  have hr' : (storeCells ⟨ρ b, o, none⟩ (icells (xs.take (min m n * sz))).toList 0).run c.P w = .ok () w' := hr
  have hmin : Nat.min m n = min m n := rfl
  simp [execOp, resolve, invoke, builtin, Builtin.copy_, ev_rv hg hs.cc.inv.fix hs.fr hx (by simp), ev_rv hg hs.cc.inv.fix hs.fr hy (ne_bot hv.nb), run_underlying hu, run_sizeOf' c.tok he, hsz, hlo, hmin, hfc, hr', goInt, show rv ρ (.slice b o n k) = .slice (some ⟨ρ b, o, none⟩) n k from rfl, show rv ρ (.int (min m n : Nat)) = .int .i64 (min m n : Nat) from rfl]
end
end Go.Proofs.YtendffbpmpobnaaDoor
