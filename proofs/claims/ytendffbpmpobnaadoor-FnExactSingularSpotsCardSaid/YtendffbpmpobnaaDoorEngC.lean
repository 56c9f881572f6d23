/- The engine, part C: new blocks, stores, appends. -/
import Derived.Test.YtendffbpmpobnaaDoorEngB
namespace Go.Proofs.YtendffbpmpobnaaDoor

def up (ρ : Nat → Nat) (n r : Nat) : Nat → Nat := fun b => if b = n then r else ρ b
structure Same (w w' : World) : Prop where
  os : w'.os = w.os
  tape : w'.tape = w.tape
  out : w'.output = w.output
  drw : w.drawn ≤ w'.drawn
theorem Same.refl (w : World) : Same w w := ⟨rfl, rfl, rfl, Nat.le_refl _⟩

section
variable {c : Cx} {s : S} {Q : Post}

theorem CC.live_lt {ρ0 ρ : Nat → Nat} {w0 w : World} {H : Hp} (h : CC c ρ0 w0 ρ H w) {b : Nat} {k : Blk} (hb : lkB H b = some k) (hk : k ≠ .dead) : ρ b < w.heap.size := by
  obtain ⟨o, ho, _⟩ := h.hr.1 b k hb hk
  rcases Nat.lt_or_ge (ρ b) w.heap.size with h' | h'
  · exact h'
  · rw [Array.getElem?_eq_none h'] at ho; cases ho

theorem CC.push {ρ0 ρ : Nat → Nat} {w0 w w' : World} {H : Hp} (h : CC c ρ0 w0 ρ H w) {n : Nat} (hD : n ∉ c.D)
    (hids : ∀ b k, lkB H b = some k → ∀ b' ∈ k.ids, b' ≠ n) {k : Blk} {o : Obj} (hk : ∀ b' ∈ k.ids, b' ≠ n) (hb : BR ρ k o) (hw : w'.heap = w.heap.push o) (hs : Same w w') :
    CC c ρ0 w0 (up ρ n w.heap.size) ((n, k) :: H) w' := by
  have old : ∀ i, i < w.heap.size → w'.heap[i]? = w.heap[i]? := fun i hi => by rw [hw, Array.getElem?_push, if_neg (by omega)]
  have cong : ∀ (k' : Blk) (o' : Obj), (∀ b' ∈ k'.ids, b' ≠ n) → BR ρ k' o' → BR (up ρ n w.heap.size) k' o' := fun k' o' hk' hb' => BR_congr (fun b hb => by simp [up, hk' b hb]) hb'
  refine ⟨⟨fun b k' hl hd => ?_, fun b b' k1 k2 h1 h2 d1 d2 hw12 he => ?_⟩, fun b hb => ?_, fun b k' hl hd hwk => ?_, ?_, ?_, ?_, ?_, ?_, ?_⟩
  · rw [lkB_cons] at hl
    split at hl
    · rename_i e; subst e; injection hl with hl; subst hl
      exact ⟨o, by simp [up, hw], cong _ _ hk hb⟩
    · rename_i e
      obtain ⟨o', ho', hb'⟩ := h.hr.1 b k' hl hd
      refine ⟨o', ?_, cong _ _ (hids b k' hl) hb'⟩
      simp only [up, if_neg (Ne.symm e)]
      rw [old _ (h.live_lt hl hd)]; exact ho'
  · rw [lkB_cons] at h1 h2
    split at h1 <;> split at h2
    · rename_i e1 e2; omega
    · rename_i e1 e2
      simp only [up, if_pos e1.symm, if_neg (Ne.symm e2)] at he
      have := h.live_lt h2 d2; omega
    · rename_i e1 e2
      simp only [up, if_pos e2.symm, if_neg (Ne.symm e1)] at he
      have := h.live_lt h1 d1; omega
    · rename_i e1 e2
      simp only [up, if_neg (Ne.symm e1), if_neg (Ne.symm e2)] at he
      exact h.hr.2 b b' k1 k2 h1 h2 d1 d2 hw12 he
  · have : b ≠ n := fun e => hD (e ▸ hb)
    simp [up, this, h.inv.fix b hb]
  · rw [lkB_cons] at hl
    split at hl
    · rename_i e; right; simp only [up, if_pos e.symm]; exact h.inv.size
    · rename_i e; simp only [up, if_neg (Ne.symm e)]; exact h.inv.own b k' hl hd hwk
  · exact hs.os.trans h.inv.os
  · exact hs.tape.trans h.inv.tape
  · exact hs.out.trans h.inv.out
  · exact Nat.le_trans h.inv.drw hs.drw
  · rw [hw]; simp; have := h.inv.size; omega
  · intro i hi hd
    rw [old i (by have := h.inv.size; omega)]
    exact h.inv.old i hi hd

theorem FR.up {ρ : Nat → Nat} {a : Act} (hf : FR c ρ s.F a) (hwf : WF c s) (h1000 : s.n < 1000) (r : Nat) : FR c (up ρ s.n r) s.F a :=
  ⟨hf.1, hf.2.1, fun t v hv => (hf.2.2 t v hv).imp id fun e => by
    rw [e]
    congr 1
    refine rv_congr v fun b hb => ?_
    have := hwf.fs t v hv b hb
    simp [Go.Proofs.YtendffbpmpobnaaDoor.up, show b ≠ s.n by omega]⟩
theorem WF.push (hwf : WF c s) (k : Blk) (hk : sc s.n k.ids = true) : WF c { F := s.F, H := (s.n, k) :: s.H, n := s.n + 1 } := by
  refine ⟨fun b h1 h2 => ?_, fun t v hv b hb => ?_, fun b k' hl b' hb' => ?_⟩
  · have h1' : s.n + 1 ≤ b := h1
    obtain ⟨h3, h4⟩ := hwf.fresh b (by omega) h2
    exact ⟨by rw [lkB_cons, if_neg (by omega)]; exact h3, h4⟩
  · have := hwf.fs t v hv b hb
    show b < s.n + 1 ∨ 1000 ≤ b
    omega
  · show b' < s.n + 1 ∨ 1000 ≤ b'
    rw [lkB_cons] at hl
    split at hl
    · injection hl with hl; subst hl
      have := sc_iff.1 hk b' hb'; omega
    · have := hwf.hs b k' hl b' hb'; omega
theorem St.push {ρ0 ρ : Nat → Nat} {w0 w w' : World} {a : Act} (hs : St c ρ0 w0 ρ s a w) (h1000 : s.n < 1000) {k : Blk} {o : Obj} (hk : sc s.n k.ids = true) (hb : BR ρ k o) (hw : w'.heap = w.heap.push o) (hsm : Same w w') :
    St c ρ0 w0 (up ρ s.n w.heap.size) { F := s.F, H := (s.n, k) :: s.H, n := s.n + 1 } a w' := by
  have hne : ∀ b, (b < s.n ∨ 1000 ≤ b) → b ≠ s.n := fun b h => by omega
  exact ⟨hs.cc.push (hs.wf.fresh s.n (Nat.le_refl _) h1000).2 (fun b k' hl b' hb' => hne b' (hs.wf.hs b k' hl b' hb')) (fun b' hb' => hne b' (sc_iff.1 hk b' hb')) hb hw hsm,
    hs.fr.up hs.wf h1000 _, hs.wf.push k hk⟩

/-- what an operation that makes one block does -/
def NewRun (c : Cx) (s : S) (o : Oper) (k : Blk) (v : V) : Prop :=
  ∀ ρ0 ρ a w0 w, GR c.gl c.D ρ0 → (∀ b ∈ c.D, ρ b = ρ0 b) → FR c ρ s.F a → CC c ρ0 w0 ρ s.H w → WF c s → ∃ ob w', BR ρ k ob ∧ w'.heap = w.heap.push ob ∧ Same w w' ∧
      (execOp a.eval o).run c.P w = .ok (.value (rv (up ρ s.n w.heap.size) v)) w'
/-- an operation that makes one block -/
theorem OW_new {ops : Array Oper} {o : Oper} {rest : List Oper} {k : Blk} {v : V} (hg : o.guard = none) (hN : okDst c.N o.dst = true) (hn : Nat.blt s.n 1000 = true) (hk : sc s.n k.ids = true) (hv : sc (s.n + 1) v.ids = true)
    (run : NewRun c s o k v)
    (h : OW c ops Q rest (S.put { F := s.F, H := (s.n, k) :: s.H, n := s.n + 1 } o.dst v)) : OW c ops Q (o :: rest) s := by
  intro ρ0 w0 hgr ρ a w hs
  have h1000 : s.n < 1000 := by simpa [Nat.blt_eq] using hn
  obtain ⟨ob, w', hb, hw, hsm, hr⟩ := run ρ0 ρ a w0 w hgr hs.cc.inv.fix hs.fr hs.cc hs.wf
  refine wpList_plain hg fun K hK => ?_
  unfold Oper.wp
  rw [hr]
  simp only [Oper.upon]
  exact hK _ _ (h ρ0 w0 hgr _ _ w' ((hs.push h1000 hk hb hw hsm).put o.dst v _ (okDst_lt hN) (.inr rfl) hv))

def mkBlk (t : TypeId) : V → Blk
  | .int n => .ints t [n]
  | .arr l => .ints t l
  | .agg vs => .vals t vs
  | v => .vals t [v]
def one : V → Bool
  | .raw v => v.oneCell'
  | .bot | .tuple _ => false
  | _ => true
theorem BR_vals_self {ρ : Nat → Nat} {t : TypeId} {vs : List V} : BR ρ (.vals t vs) (.cells (rvs ρ vs).toArray t (0, 0)) := by
  refine ⟨rvs ρ vs, by simp [rvs_eq_map], fun i v hv => ⟨rv ρ v, by simp [rvs_eq_map, hv], .inr rfl⟩, rfl⟩
theorem BR_mkBlk {ρ : Nat → Nat} {t : TypeId} {v : V} (h : one v = true) : BR ρ (mkBlk t v) (.cells (rv ρ v).cells t) := by
  cases v <;> simp only [mkBlk, one] at h ⊢
  case int n => rfl
  case arr l => rfl
  case agg vs => exact BR_vals_self
  case raw x =>
    refine ⟨[x], rfl, fun i v hv => ?_, ?_⟩
    · cases i <;> simp at hv
      subst hv; exact ⟨x, rfl, .inr rfl⟩
    · cases x <;> first | rfl | simp [Value.oneCell'] at h
  all_goals first | (exact BR_vals_self (vs := [_])) | simp at h
theorem nr_box {dst : Option Tmp} {ty t : TypeId} {pos : String} {af : Array Edge} {x : Operand} {v : V} (hx : ev c s.F x = some v) (ho : one v = true) : NewRun c s ⟨dst, .box t x, ty, pos, af, none⟩ (mkBlk t v) (.ptr s.n 0) := by
  intro ρ0 ρ a w0 w hg hfix hf hw hwf
  have hnb : v ≠ .bot := by rintro rfl; simp [one] at ho
  refine ⟨.cells (rv ρ v).cells t, w.alloc (.cells (rv ρ v).cells t), BR_mkBlk ho, rfl, ⟨rfl, rfl, rfl, Nat.le_refl _⟩, ?_⟩
  simp [execOp, Instr.box, newVar, newRow, ev_rv hg hfix hf hx hnb, rv, up]
theorem OW_box {ops : Array Oper} {dst : Option Tmp} {ty t : TypeId} {pos : String} {af : Array Edge} {rest : List Oper} {x : Operand} {v : V} (hx : ev c s.F x = some v) (ho : one v = true) (hN : okDst c.N dst = true) (hn : Nat.blt s.n 1000 = true)
    (hk : sc s.n (mkBlk t v).ids = true) (hv : sc (s.n + 1) [s.n] = true) (h : OW c ops Q rest (S.put { F := s.F, H := (s.n, mkBlk t v) :: s.H, n := s.n + 1 } dst (.ptr s.n 0))) :
    OW c ops Q (⟨dst, .box t x, ty, pos, af, none⟩ :: rest) s :=
  OW_new (v := .ptr s.n 0) rfl hN hn hk hv (nr_box hx ho) h
theorem nr_alloc {dst : Option Tmp} {ty t : TypeId} {pos : String} {af : Array Edge} {i : TI} {v : V} (ht : lkT c.T t = some i) (hz : i.z = some v) (ho : one v = true) : NewRun c s ⟨dst, .alloc t, ty, pos, af, none⟩ (mkBlk t v) (.ptr s.n 0) := by
  intro ρ0 ρ a w0 w hg hfix hf hw hwf
  refine ⟨.cells (rv ρ v).cells t, w.alloc (.cells (rv ρ v).cells t), BR_mkBlk ho, rfl, ⟨rfl, rfl, rfl, Nat.le_refl _⟩, ?_⟩
  obtain ⟨_, ⟨j, hj, _, _, hz'⟩, _⟩ := c.tok t i ht
  obtain ⟨hz1, hz2⟩ := hz' v hz
  have hzz : rv (fun b => b) v = rv ρ v := rv_congr v (fun b hb => by rw [hz2] at hb; simp at hb)
  rw [hzz] at hz1
  simp [execOp, Instr.alloc, zeroValue, typeInfo, hj, hz1, newVar, newRow, rv, up]
theorem OW_alloc {ops : Array Oper} {dst : Option Tmp} {ty t : TypeId} {pos : String} {af : Array Edge} {rest : List Oper} {i : TI} {v : V} (ht : lkT c.T t = some i) (hz : i.z = some v) (ho : one v = true) (hN : okDst c.N dst = true) (hn : Nat.blt s.n 1000 = true)
    (hk : sc s.n (mkBlk t v).ids = true) (hv : sc (s.n + 1) [s.n] = true) (h : OW c ops Q rest (S.put { F := s.F, H := (s.n, mkBlk t v) :: s.H, n := s.n + 1 } dst (.ptr s.n 0))) :
    OW c ops Q (⟨dst, .alloc t, ty, pos, af, none⟩ :: rest) s :=
  OW_new (v := .ptr s.n 0) rfl hN hn hk hv (nr_alloc ht hz ho) h
/-! #### literals -/
theorem icells_set (l : List Int) (o : Nat) (n : Int) : (icells l).setIfInBounds o (.int .i64 n) = icells (l.set o n) := by
  apply Array.ext'
  simp [icells, List.map_set]
def putA (cs : Array Value) (o : Nat) : List Value → Array Value
  | [] => cs
  | x :: r => putA (cs.setIfInBounds o x) (o + 1) r
theorem putA_icells : ∀ (xs l : List Int) (o : Nat), putA (icells l) o (xs.map (Value.int .i64)) = icells (putI l o xs)
  | [], l, o => rfl
  | x :: r, l, o => by simp only [List.map_cons, putA, putI, icells_set, putA_icells r]
theorem putA_size : ∀ (xs : List Value) (cs : Array Value) (o : Nat), (putA cs o xs).size = cs.size
  | [], _, _ => rfl
  | x :: r, cs, o => by simp [putA, putA_size r]
theorem putI_length : ∀ (xs l : List Int) (o : Nat), (putI l o xs).length = l.length
  | [], _, _ => rfl
  | x :: r, l, o => by simp [putI, putI_length r]
theorem foldl_put (off : Nat) : ∀ (l : List Value) (j : Nat) (cs : Array Value), (l.zipIdx j).foldl (fun cs (x : Value × Nat) => cs.setIfInBounds (off + x.2) x.1) cs = putA cs (off + j) l
  | [], _, _ => rfl
  | x :: r, j, cs => by
    simp only [List.zipIdx_cons, List.foldl_cons, putA]
    rw [foldl_put off r (j + 1)]
    rfl
theorem fill_cons {sz i : Nat} {cs : Array Value} {v : Value} {rest : List (Nat × Value)} (h1 : v.cells.size = sz) (h2 : i * sz + sz ≤ cs.size) :
    Instr.fill (fun i => some (i * sz, sz)) cs ((i, v) :: rest) = Instr.fill (fun i => some (i * sz, sz)) (putA cs (i * sz) v.cells.toList) rest := by
  simp only [Instr.fill]
  split
  · rename_i h; simp [h1] at h; omega
  · congr 1
    rw [← Array.foldl_toList, Array.toList_zipIdx]
    exact foldl_put (i * sz) v.cells.toList 0 cs
theorem size_icells (l : List Int) : (icells l).size = l.length := by simp [icells]
theorem fill_ints {sz : Nat} {ρ : Nat → Nat} : ∀ (ps : List (Nat × V)) (z r : List Int), fillI sz z ps = some r → (∀ p ∈ ps, ∀ l, p.2 = .arr l → l.length = sz) → (∀ p ∈ ps, (p.1 + 1) * sz ≤ z.length) →
    Instr.fill (fun i => some (i * sz, sz)) (icells z) (ps.map fun p => (p.1, rv ρ p.2)) = some (icells r)
  | [], z, r, h, _, _ => by simp only [fillI] at h; injection h with h; subst h; rfl
  | (i, v) :: ps, z, r, h, hl, hb => by
    have hbi := hb (i, v) (by simp)
    simp only [Nat.add_mul, Nat.one_mul] at hbi
    cases v <;> simp only [fillI] at h <;> first | (cases h; done) | skip
    case int n =>
      split at h
      · rename_i e
        have := Nat.eq_of_beq_eq_true e; subst this
        have ih := fill_ints (ρ := ρ) ps (z.set i n) r h (fun p hp => hl p (List.mem_cons_of_mem _ hp)) (fun p hp => by rw [List.length_set]; exact hb p (List.mem_cons_of_mem _ hp))
        rw [List.map_cons, fill_cons (by simp [rv, Value.cells]) (by rw [size_icells]; omega), ← ih]
        congr 1
        have := icells_set z i n
        simpa [rv, Value.cells, putA] using this
      · cases h
    case arr m =>
      have hm : m.length = sz := hl (i, .arr m) (by simp) m rfl
      have ih := fill_ints (ρ := ρ) ps (putI z (i * sz) m) r h (fun p hp => hl p (List.mem_cons_of_mem _ hp)) (fun p hp => by rw [putI_length]; exact hb p (List.mem_cons_of_mem _ hp))
      rw [List.map_cons, fill_cons (by simp [rv, Value.cells, hm]) (by rw [size_icells]; omega), ← ih]
      congr 1
      have := putA_icells m z (i * sz)
      simpa [rv, Value.cells] using this
/-- the same for cells that are no numbers -/
def fillV : List V → List (Nat × V) → Option (List V)
  | z, [] => some z
  | z, (i, v) :: r => match one v with
    | true => fillV (z.set i v) r
    | false => none
theorem rvs_set (ρ : Nat → Nat) (l : List V) (i : Nat) (v : V) : (rvs ρ l).set i (rv ρ v) = rvs ρ (l.set i v) := by simp [rvs_eq_map, List.map_set]
theorem cells_one {ρ : Nat → Nat} {v : V} (h : one v = true) (hi : ∀ l, v ≠ .arr l) (ha : ∀ l, v ≠ .agg l) : (rv ρ v).cells = #[rv ρ v] := by
  cases v <;> simp [one] at h <;> first | rfl | (exfalso; exact hi _ rfl) | (exfalso; exact ha _ rfl) | skip
  rename_i x
  cases x <;> first | rfl | simp [Value.oneCell'] at h
def noAgg : V → Bool
  | .arr _ | .agg _ => false
  | _ => true
theorem cells_one' {ρ : Nat → Nat} {v : V} (h : one v = true) (ha : noAgg v = true) : (rv ρ v).cells = #[rv ρ v] :=
  cells_one h (fun l e => by subst e; simp [noAgg] at ha) (fun l e => by subst e; simp [noAgg] at ha)
theorem fill_vals {ρ : Nat → Nat} : ∀ (ps : List (Nat × V)) (z r : List V), fillV z ps = some r → (∀ p ∈ ps, noAgg p.2 = true) → (∀ p ∈ ps, p.1 < z.length) →
    Instr.fill (fun i => some (i * 1, 1)) (rvs ρ z).toArray (ps.map fun p => (p.1, rv ρ p.2)) = some (rvs ρ r).toArray
  | [], z, r, h, _, _ => by simp only [fillV] at h; injection h with h; subst h; rfl
  | (i, v) :: ps, z, r, h, hl, hb => by
    have hbi := hb (i, v) (by simp)
    simp only [fillV] at h
    split at h
    · rename_i ho
      have ih := fill_vals (ρ := ρ) ps (z.set i v) r h (fun p hp => hl p (List.mem_cons_of_mem _ hp)) (fun p hp => by rw [List.length_set]; exact hb p (List.mem_cons_of_mem _ hp))
      have hc := cells_one' (ρ := ρ) ho (hl (i, v) (by simp))
      have hbi' : i < z.length := hbi
      rw [List.map_cons, fill_cons (by simp [hc]) (by simp [rvs_eq_map]; omega), ← ih]
      congr 1
      simp only [hc, putA, Nat.mul_one]
      rw [List.setIfInBounds_toArray, rvs_set]
    · cases h

theorem evp_rv {xs : List (Nat × Operand)} {vs : List (Nat × V)} {ρ0 ρ : Nat → Nat} {a : Act} (hg : GR c.gl c.D ρ0) (hfix : ∀ b ∈ c.D, ρ b = ρ0 b) (hf : FR c ρ s.F a) (h : evp c s.F xs = some vs) :
    xs.map (fun p => (p.1, a.eval p.2)) = vs.map fun p => (p.1, rv ρ p.2) := by
  induction xs generalizing vs with
  | nil => simp only [evp] at h; injection h with h; subst h; rfl
  | cons x r ih =>
    obtain ⟨i, x⟩ := x
    simp only [evp] at h
    split at h
    · cases h
    · rename_i v hv
      split at h
      · cases h
      · rename_i hnb
        split at h
        · cases h
        · rename_i us hus
          injection h with h; subst h
          simp [ih hus, ev_rv hg hfix hf hv (ne_bot hnb)]
/-- arrays' lengths, and places, are in order -/
def okParts (sz len : Nat) : List (Nat × V) → Bool
  | [] => true
  | (i, v) :: r => (match v with | .arr l => Nat.beq l.length sz | _ => true) && Nat.ble ((i + 1) * sz) len && okParts sz len r
theorem okParts_iff {sz len : Nat} {ps : List (Nat × V)} (h : okParts sz len ps = true) : (∀ p ∈ ps, ∀ l, p.2 = .arr l → l.length = sz) ∧ (∀ p ∈ ps, (p.1 + 1) * sz ≤ len) := by
  induction ps with
  | nil => simp
  | cons x r ih =>
    obtain ⟨i, v⟩ := x
    simp only [okParts, Bool.and_eq_true] at h
    obtain ⟨⟨h1, h2⟩, h3⟩ := h
    obtain ⟨ih1, ih2⟩ := ih h3
    refine ⟨fun p hp l hl => ?_, fun p hp => ?_⟩
    · rcases List.mem_cons.1 hp with rfl | hp
      · simp only at hl; subst hl; exact Nat.eq_of_beq_eq_true h1
      · exact ih1 p hp l hl
    · rcases List.mem_cons.1 hp with rfl | hp
      · exact Nat.le_of_ble_eq_true h2
      · exact ih2 p hp
/-- an array of numbers written out -/
theorem Q_build {dst : Option Tmp} {ty t : TypeId} {pos : String} {af : Array Edge} {g : Option (Nat × Bool)} {ps : List (Nat × Operand)} {vs : List (Nat × V)} {z r : List Int} {i ie : TI} {e n sz : Nat} (ht : lkT c.T t = some i) (hd : i.d = .array n e) (hz : i.z = some (.arr z))
    (he : lkT c.T e = some ie) (hs : ie.size = sz) (hp : evp c s.F ps = some vs) (hr : fillI sz z vs = some r) (hok : okParts sz z.length vs = true) :
    QOp c ⟨dst, .build t ps.toArray, ty, pos, af, g⟩ s (.arr r) := by
  intro ρ0 w0 hg ρ a hf hfix w hw
  refine quiet_val ?_
  obtain ⟨hu, ⟨j, hj, _, _, hz'⟩, _⟩ := c.tok t i ht
  rw [hd] at hu
  have hz1 : j.zero = some (.agg (icells z)) := (hz' _ hz).1
  obtain ⟨h1, h2⟩ := okParts_iff hok
  have hfill := fill_ints (ρ := ρ) vs z r hr h1 h2
  rw [← evp_rv hg hfix hf hp] at hfill
  simp [execOp, Instr.build, zeroValue, typeInfo, hj, hz1, Value.cells, run_underlying hu, run_sizeOf' c.tok he, hs, hfill, show rv ρ (.arr r) = .agg (icells r) from rfl]

theorem BR_ints_self {ρ : Nat → Nat} {t : TypeId} {l : List Int} : BR ρ (.ints t l) (.cells (icells l) t) := rfl
theorem zmod (z : List Int) (hz : z.length = 0 → False) (n : Nat) : (Array.range (n * z.length)).map (fun k => (icells z)[k % (icells z).size]!) = icells ((List.range (n * z.length)).map fun k => z.getD (k % z.length) 0) := by
  apply Array.ext'
  simp only [Array.toList_map, Array.toList_range, icells, List.map_map]
  apply List.map_congr_left
  intro k hk
  have : k % z.length < z.length := Nat.mod_lt _ (Nat.pos_of_ne_zero hz)
  simp [List.getD, this]
/-- a slice of numbers (or of arrays of numbers) written out -/
theorem nr_bsl {dst : Option Tmp} {ty t : TypeId} {pos : String} {af : Array Edge} {ps : List (Nat × Operand)} {vs : List (Nat × V)} {zl r : List Int} {i ie : TI} {e len sz : Nat} (ht : lkT c.T t = some i) (hd : i.d = .slice e)
    (he : lkT c.T e = some ie) (hs : ie.size = sz) (hz : ie.z = some (.int 0) ∧ sz = 1 ∨ ie.z = some (.arr zl) ∧ zl = List.replicate sz 0 ∧ 0 < sz) (hp : evp c s.F ps = some vs) (hr : fillI sz (List.replicate (len * sz) 0) vs = some r) (hok : okParts sz (len * sz) vs = true) (hlim : len * sz ≤ 16777216) : NewRun c s ⟨dst, .buildSlice t len ps.toArray, ty, pos, af, none⟩ (.ints e r) (.slice s.n 0 len len) := by
  intro ρ0 ρ a w0 w hg hfix hf hw hwf
  refine ⟨.cells (icells r) e, w.alloc (.cells (icells r) e), BR_ints_self, rfl, ⟨rfl, rfl, rfl, Nat.le_refl _⟩, ?_⟩
  have hu := (c.tok t i ht).1
  rw [hd] at hu
  obtain ⟨_, ⟨j, hj, _, _, hz'⟩, _⟩ := c.tok e ie he
  have hlim' : ¬ 2 ^ 24 < len * sz := by omega
  obtain ⟨h1, h2⟩ := okParts_iff hok
  have hfill := fill_ints (ρ := ρ) vs _ r hr h1 (by simpa using h2)
  rw [← evp_rv hg hfix hf hp] at hfill
  obtain ⟨zv, hzz, hcz⟩ : ∃ zc : Value, j.zero = some zc ∧ zc.cells = icells (List.replicate sz 0) ∧ 0 < sz := by
    rcases hz with ⟨hz, rfl⟩ | ⟨hz, rfl, hpos⟩
    · exact ⟨_, (hz' _ hz).1, rfl, by omega⟩
    · exact ⟨_, (hz' _ hz).1, rfl, hpos⟩
  obtain ⟨hcz, hpos⟩ := hcz
  have hcells : ∀ zc : Array Value, (len * sz = 0 → zc = #[]) → (len * sz ≠ 0 → zc = icells (List.replicate sz 0)) → (Array.range (len * sz)).map (fun k => zc[k % zc.size]!) = icells (List.replicate (len * sz) 0) := by
    intro zc h0 h1
    by_cases hl : len * sz = 0
    · simp [hl, icells]
    · rw [h1 hl]
      have := zmod (List.replicate sz 0) (by simp; omega) len
      simp only [List.length_replicate] at this
      rw [this]
      congr 1
      apply List.ext_getElem (by simp)
      intro q hq1 hq2
      have : q % sz < sz := Nat.mod_lt _ hpos
      simp [List.getD, this]
  have hr1 : (Instr.buildSlice t len (ps.toArray.map fun p => (p.1, a.eval p.2))).run c.P w = .ok (.slice (some ⟨w.heap.size, 0, none⟩) len len) (w.alloc (.cells (icells r) e)) := by
    unfold Instr.buildSlice
    simp only [Sem.run_bind, run_underlying hu, Result.andThen_ok, run_sizeOf' c.tok he, hs, if_neg hlim']
    by_cases hl : len * sz = 0
    · simp only [hl, if_true, Sem.run_bind, Sem.run_pure, Result.andThen_ok]
      have := hcells #[] (fun _ => rfl) (fun h => absurd hl h)
      rw [hl] at this
      rw [this]
      rw [hl, List.replicate_zero] at hfill
      simp [hfill, newRow]
    · simp only [if_neg hl, zeroValue, typeInfo, Sem.run_bind, run_program, Result.andThen_ok, hj, Sem.run_pure, hzz, hcz]
      rw [hcells _ (fun h => absurd h hl) (fun _ => rfl)]
      simp [hfill, newRow]
  simp only [execOp, Sem.run_bind]
  rw [hr1]
  simp [rv, up]
theorem OW_bsl {ops : Array Oper} {dst : Option Tmp} {ty t : TypeId} {pos : String} {af : Array Edge} {rest : List Oper} {ps : List (Nat × Operand)} {vs : List (Nat × V)} {zl r : List Int} {i ie : TI} {e len sz : Nat} (ht : lkT c.T t = some i) (hd : i.d = .slice e)
    (he : lkT c.T e = some ie) (hs : ie.size = sz) (hz : ie.z = some (.int 0) ∧ sz = 1 ∨ ie.z = some (.arr zl) ∧ zl = List.replicate sz 0 ∧ 0 < sz) (hp : evp c s.F ps = some vs) (hr : fillI sz (List.replicate (len * sz) 0) vs = some r) (hok : okParts sz (len * sz) vs = true) (hlim : len * sz ≤ 16777216)
    (hN : okDst c.N dst = true) (hn : Nat.blt s.n 1000 = true) (hv : sc (s.n + 1) [s.n] = true) (h : OW c ops Q rest (S.put { F := s.F, H := (s.n, .ints e r) :: s.H, n := s.n + 1 } dst (.slice s.n 0 len len))) :
    OW c ops Q (⟨dst, .buildSlice t len ps.toArray, ty, pos, af, none⟩ :: rest) s :=
  OW_new (k := .ints e r) (v := .slice s.n 0 len len) rfl hN hn rfl hv (nr_bsl ht hd he hs hz hp hr hok hlim) h
/-! ### stores -/
structure Wrote (w w' : World) (r : Nat) (o : Obj) : Prop where
  at_ : w'.heap[r]? = some o
  size : w'.heap.size = w.heap.size
  other : ∀ q, q ≠ r → w'.heap[q]? = w.heap[q]?
  same : Same w w'
theorem run_storeCells {P : Program} : ∀ (xs : List Value) (w : World) (r o i : Nat) (cs : Array Value) (t : TypeId), w.heap[r]? = some (.cells cs t (0, 0)) → (∀ x ∈ xs, x.oneCell' = true) → o + i + xs.length ≤ cs.size →
    ∃ w', (storeCells ⟨r, o, none⟩ xs i).run P w = .ok () w' ∧ Wrote w w' r (.cells (putA cs (o + i) xs) t (0, 0))
  | [], w, r, o, i, cs, t, h, _, _ => ⟨w, rfl, h, rfl, fun _ _ => rfl, Same.refl w⟩
  | x :: xs, w, r, o, i, cs, t, h, h1, hb => by
    simp only [List.length_cons] at hb
    have hc : w.cell? ⟨r, o + i, none⟩ = some cs[o + i] := by rw [cell_of_row w r (o + i) cs t (0, 0) h]; exact Array.getElem?_eq_getElem (by omega)
    have hfz : w.frozen? ⟨r, o + i, none⟩ = false := frozen_of_row w r (o + i) cs t h
    have hh := heap_setCell_same w r (o + i) cs t x h
    obtain ⟨w', hr, hw⟩ := run_storeCells (P := P) xs (w.setCell ⟨r, o + i, none⟩ x) r o (i + 1) (cs.setIfInBounds (o + i) x) t hh (fun y hy => h1 y (List.mem_cons_of_mem _ hy)) (by simp; omega)
    refine ⟨w', ?_, ?_⟩
    · have hst := run_store P w ⟨r, o + i, none⟩ x .plain (h1 x (by simp))
      simp only [hc, hfz] at hst
      simp only [storeCells, Sem.run_bind, add_none, hst, Bool.false_eq_true, if_false, Result.andThen_ok]
      exact hr
    · refine ⟨?_, ?_, ?_, ?_⟩
      · rw [hw.at_]; rfl
      · rw [hw.size]; simp
      · intro q hq; rw [hw.other q hq]; exact heap_setCell_other w ⟨r, o + i, none⟩ q x hq
      · exact ⟨hw.same.os, hw.same.tape, hw.same.out, hw.same.drw⟩

def live : Blk → Bool
  | .dead => false
  | _ => true
theorem live_ne {k : Blk} (h : live k = true) : k ≠ .dead := by rintro rfl; simp [live] at h
theorem CC.wrote {ρ0 ρ : Nat → Nat} {w0 w w' : World} {H : Hp} (h : CC c ρ0 w0 ρ H w) {b : Nat} {k k' : Blk} {o' : Obj} (hb : lkB H b = some k) (hk : k ≠ .dead) (hwk : wrt k = true) (hwk' : wrt k' = true) (hw : Wrote w w' (ρ b) o') (hb' : BR ρ k' o') :
    CC c ρ0 w0 ρ ((b, k') :: H) w' := by
  refine ⟨⟨fun b1 k1 hl hd => ?_, fun b1 b2 k1 k2 h1 h2 d1 d2 hw12 he => ?_⟩, h.inv.fix, fun b1 k1 hl hd hw1 => ?_, hw.same.os.trans h.inv.os, hw.same.tape.trans h.inv.tape, hw.same.out.trans h.inv.out, Nat.le_trans h.inv.drw hw.same.drw, by rw [hw.size]; exact h.inv.size, fun i hi hd => ?_⟩
  · rw [lkB_cons] at hl
    split at hl
    · rename_i e; subst e; injection hl with hl; subst hl; exact ⟨o', hw.at_, hb'⟩
    · rename_i e
      obtain ⟨o1, ho1, hb1⟩ := h.hr.1 b1 k1 hl hd
      refine ⟨o1, ?_, hb1⟩
      rw [hw.other _ (fun e' => e (h.hr.2 b b1 k k1 hb hl hk hd (.inl hwk) e'.symm))]
      exact ho1
  · have liveOf : ∀ b1 k1, lkB ((b, k') :: H) b1 = some k1 → k1 ≠ .dead → ∃ k2, lkB H b1 = some k2 ∧ k2 ≠ .dead ∧ wrt k2 = wrt k1 := by
      intro b1 k1 hl hd
      rw [lkB_cons] at hl
      split at hl
      · rename_i e; subst e; injection hl with hl; subst hl; exact ⟨k, hb, hk, hwk.trans hwk'.symm⟩
      · exact ⟨k1, hl, hd, rfl⟩
    obtain ⟨k3, h3, d3, w3⟩ := liveOf b1 k1 h1 d1
    obtain ⟨k4, h4, d4, w4⟩ := liveOf b2 k2 h2 d2
    exact h.hr.2 b1 b2 k3 k4 h3 h4 d3 d4 (by rw [w3, w4]; exact hw12) he
  · rw [lkB_cons] at hl
    split at hl
    · rename_i e; subst e; exact h.inv.own b k hb hk hwk
    · exact h.inv.own b1 k1 hl hd hw1
  · rw [hw.other i, h.inv.old i hi hd]
    rintro rfl
    rcases h.inv.own b k hb hk hwk with ⟨d, hd1, hd2⟩ | hge
    · exact hd d hd1 hd2.symm
    · omega
theorem WF.upd (hwf : WF c s) {b : Nat} {k k' : Blk} (hb : lkB s.H b = some k) (hk : sc s.n k'.ids = true) : WF c { F := s.F, H := (b, k') :: s.H, n := s.n } := by
  refine ⟨fun b1 h1 h2 => ?_, hwf.fs, fun b1 k1 hl b' hb' => ?_⟩
  · obtain ⟨h3, h4⟩ := hwf.fresh b1 h1 h2
    refine ⟨?_, h4⟩
    rw [lkB_cons, if_neg]
    · exact h3
    · rintro rfl; rw [hb] at h3; cases h3
  · rw [lkB_cons] at hl
    split at hl
    · injection hl with hl; subst hl; exact sc_iff.1 hk b' hb'
    · exact hwf.hs b1 k1 hl b' hb'
/-- an operation whose outcome is one of a family of states -/
theorem OW_any {ops : Array Oper} {o : Oper} {rest : List Oper} {ι : Sort _} (s' : ι → S) (v : ι → V) (hg : o.guard = none) (hN : okDst c.N o.dst = true) (hv : ∀ i, sc (s' i).n (v i).ids = true)
    (run : ∀ ρ0 w0 ρ a w, GR c.gl c.D ρ0 → St c ρ0 w0 ρ s a w → ∃ i ρ' w', St c ρ0 w0 ρ' (s' i) a w' ∧ ((execOp a.eval o).run c.P w = .ok (.value (rv ρ' (v i))) w' ∨ (v i = .bot ∧ (execOp a.eval o).run c.P w = .ok .skip w')))
    (h : ∀ i, OW c ops Q rest ((s' i).put o.dst (v i))) : OW c ops Q (o :: rest) s := by
  intro ρ0 w0 hgr ρ a w hs
  obtain ⟨i, ρ', w', hs', hr⟩ := run ρ0 w0 ρ a w hgr hs
  refine wpList_plain hg fun K hK => ?_
  unfold Oper.wp
  rcases hr with hr | ⟨hv0, hr⟩
  · rw [hr]
    exact hK _ _ (h i ρ0 w0 hgr _ _ w' (hs'.put o.dst (v i) _ (okDst_lt hN) (.inr rfl) (hv i)))
  · rw [hr]
    exact hK _ _ (h i ρ0 w0 hgr _ _ w' (hs'.put o.dst (v i) _ (okDst_lt hN) (.inl hv0) (hv i)))

theorem run_storeVar {P : Program} {T : TT} (tok : TOK P T) {t : Nat} {i : TI} (ht : lkT T t = some i) {w : World} {r o : Nat} {cs : Array Value} {t' : TypeId} {v : Value} (h : w.heap[r]? = some (.cells cs t' (0, 0)))
    (h1 : ∀ x ∈ v.cells.toList, x.oneCell' = true) (hs : v.cells.size = i.size) (hb : o + i.size ≤ cs.size) :
    ∃ w', (storeVar t ⟨r, o, none⟩ v).run P w = .ok () w' ∧ Wrote w w' r (.cells (putA cs o v.cells.toList) t' (0, 0)) := by
  obtain ⟨w', hr, hw⟩ := run_storeCells (P := P) v.cells.toList w r o 0 cs t' h h1 (by simp; omega)
  refine ⟨w', ?_, hw⟩
  simp [storeVar, run_sizeOf' tok ht, hs, hr]
theorem oneInts (l : List Int) : ∀ x ∈ (icells l).toList, x.oneCell' = true := by simp [icells, Value.oneCell']
/-- one number stored -/
theorem OW_st {ops : Array Oper} {dst : Option Tmp} {ty t t' : TypeId} {pos : String} {af : Array Edge} {rest : List Oper} {x y : Operand} {i : TI} {b o : Nat} {n : Int} {l : List Int} (ht : lkT c.T t = some i) (hsz : i.size = 1) (hx : ev c s.F x = some (.ptr b o))
    (hy : ev c s.F y = some (.int n)) (hb : lkB s.H b = some (.ints t' l)) (ho : o < l.length) (hN : okDst c.N dst = true) (h : OW c ops Q rest (S.put { F := s.F, H := (b, .ints t' (l.set o n)) :: s.H, n := s.n } dst .bot)) :
    OW c ops Q (⟨dst, .store t x y, ty, pos, af, none⟩ :: rest) s := by
  refine OW_any (ι := Unit) (fun _ => { F := s.F, H := (b, .ints t' (l.set o n)) :: s.H, n := s.n }) (fun _ => .bot) rfl hN (fun _ => rfl) (fun ρ0 w0 ρ a w hg hs => ?_) (fun _ => h)
  obtain ⟨ob, ho1, ho2⟩ := hs.cc.hr.1 b _ hb (by simp)
  simp only [BR] at ho2; subst ho2
  obtain ⟨w', hr, hw⟩ := run_storeVar (v := .int .i64 n) (o := o) c.tok ht ho1 (by simp [Value.cells, Value.oneCell']) (by simp [Value.cells, hsz]) (by rw [size_icells]; omega)
  refine ⟨(), ρ, w', ⟨hs.cc.wrote hb (by simp) rfl rfl hw ?_, hs.fr, hs.wf.upd hb rfl⟩, .inr ⟨rfl, ?_⟩⟩
  · have := icells_set l o n
    simp only [BR, ← this]; rfl
  · simp [execOp, Instr.storeAt, Instr.sureAddr, ev_rv hg hs.cc.inv.fix hs.fr hx (by simp), ev_rv hg hs.cc.inv.fix hs.fr hy (by simp), rv, hr]
/-- an array of numbers stored -/
theorem OW_sta {ops : Array Oper} {dst : Option Tmp} {ty t t' : TypeId} {pos : String} {af : Array Edge} {rest : List Oper} {x y : Operand} {i : TI} {b o : Nat} {m l : List Int} (ht : lkT c.T t = some i) (hx : ev c s.F x = some (.ptr b o))
    (hy : ev c s.F y = some (.arr m)) (hb : lkB s.H b = some (.ints t' l)) (hsz : m.length = i.size) (ho : o + i.size ≤ l.length) (hN : okDst c.N dst = true) (h : OW c ops Q rest (S.put { F := s.F, H := (b, .ints t' (putI l o m)) :: s.H, n := s.n } dst .bot)) :
    OW c ops Q (⟨dst, .store t x y, ty, pos, af, none⟩ :: rest) s := by
  refine OW_any (ι := Unit) (fun _ => { F := s.F, H := (b, .ints t' (putI l o m)) :: s.H, n := s.n }) (fun _ => .bot) rfl hN (fun _ => rfl) (fun ρ0 w0 ρ a w hg hs => ?_) (fun _ => h)
  obtain ⟨ob, ho1, ho2⟩ := hs.cc.hr.1 b _ hb (by simp)
  simp only [BR] at ho2; subst ho2
  obtain ⟨w', hr, hw⟩ := run_storeVar (v := .agg (icells m)) (o := o) c.tok ht ho1 (oneInts m) (by simp [Value.cells, size_icells, hsz]) (by rw [size_icells]; omega)
  refine ⟨(), ρ, w', ⟨hs.cc.wrote hb (by simp) rfl rfl hw ?_, hs.fr, hs.wf.upd hb rfl⟩, .inr ⟨rfl, ?_⟩⟩
  · have := putA_icells m l o
    simp only [BR]
    rw [← this]
    rfl
  · simp only [icells] at hr
    simp [execOp, Instr.storeAt, Instr.sureAddr, ev_rv hg hs.cc.inv.fix hs.fr hx (by simp), ev_rv hg hs.cc.inv.fix hs.fr hy (by simp), rv, hr]
theorem putI_full : ∀ (m l pre : List Int), l.length = m.length → putI (pre ++ l) pre.length m = pre ++ m
  | [], l, pre, h => by
    have : l = [] := List.eq_nil_of_length_eq_zero h
    simp [putI, this]
  | x :: m, [], pre, h => by simp at h
  | x :: m, y :: l, pre, h => by
    have ih := putI_full m l (pre ++ [x]) (by simpa using h)
    simp only [List.length_append, List.length_cons, List.length_nil, Nat.zero_add, List.append_assoc, List.cons_append, List.nil_append] at ih
    simp only [putI]
    rw [← ih]
    congr 1
    simp
/-- a whole block stored over -/
theorem OW_stw {ops : Array Oper} {dst : Option Tmp} {ty t t' : TypeId} {pos : String} {af : Array Edge} {rest : List Oper} {x y : Operand} {i : TI} {b : Nat} {m l : List Int} (ht : lkT c.T t = some i) (hx : ev c s.F x = some (.ptr b 0))
    (hy : ev c s.F y = some (.arr m)) (hb : lkB s.H b = some (.ints t' l)) (hsz : m.length = i.size) (ho : l.length = i.size) (hN : okDst c.N dst = true) (h : OW c ops Q rest (S.put { F := s.F, H := (b, .ints t' m) :: s.H, n := s.n } dst .bot)) :
    OW c ops Q (⟨dst, .store t x y, ty, pos, af, none⟩ :: rest) s := by
  refine OW_sta ht hx hy hb hsz (by omega) hN ?_
  have := putI_full m l [] (by omega)
  simp only [List.nil_append, List.length_nil] at this
  rw [this]; exact h
theorem rv_one {ρ : Nat → Nat} {v : V} (h : one v = true) (ha : noAgg v = true) : (rv ρ v).oneCell' = true := by
  cases v <;> simp [one, noAgg] at h ha <;> first | rfl | exact h
/-- one cell that is no number stored -/
theorem OW_stv {ops : Array Oper} {dst : Option Tmp} {ty t t' : TypeId} {pos : String} {af : Array Edge} {rest : List Oper} {x y : Operand} {i : TI} {b o : Nat} {v : V} {l : List V} (ht : lkT c.T t = some i) (hsz : i.size = 1) (hx : ev c s.F x = some (.ptr b o))
    (hy : ev c s.F y = some v) (hb : lkB s.H b = some (.vals t' l)) (h1 : one v = true) (h2 : noAgg v = true) (ho : o < l.length) (hN : okDst c.N dst = true) (hsc : sc s.n (idss (l.set o v)) = true)
    (h : OW c ops Q rest (S.put { F := s.F, H := (b, .vals t' (l.set o v)) :: s.H, n := s.n } dst .bot)) : OW c ops Q (⟨dst, .store t x y, ty, pos, af, none⟩ :: rest) s := by
  refine OW_any (ι := Unit) (fun _ => { F := s.F, H := (b, .vals t' (l.set o v)) :: s.H, n := s.n }) (fun _ => .bot) rfl hN (fun _ => rfl) (fun ρ0 w0 ρ a w hg hs => ?_) (fun _ => h)
  obtain ⟨ob, ho1, ho2⟩ := hs.cc.hr.1 b _ hb (by simp)
  simp only [BR] at ho2
  obtain ⟨xs, hl, hxs, rfl⟩ := ho2
  have hcv := cells_one' (ρ := ρ) h1 h2
  have hnb : v ≠ .bot := by rintro rfl; simp [one] at h1
  obtain ⟨w', hr, hw⟩ := run_storeVar (v := rv ρ v) (o := o) c.tok ht ho1 (by simp [hcv, rv_one h1 h2]) (by simp [hcv, hsz]) (by simp; omega)
  refine ⟨(), ρ, w', ⟨hs.cc.wrote hb (by simp) rfl rfl hw ?_, hs.fr, hs.wf.upd hb hsc⟩, .inr ⟨rfl, ?_⟩⟩
  · refine ⟨xs.set o (rv ρ v), by simp [hl], fun j u hu => ?_, by simp [hcv, putA]⟩
    by_cases e : o = j
    · subst e
      simp only [List.getElem?_set_self ho] at hu
      injection hu with hu; subst hu
      exact ⟨rv ρ v, by rw [List.getElem?_set_self (by omega)], .inr rfl⟩
    · rw [List.getElem?_set_ne e] at hu
      obtain ⟨z, hz1, hz2⟩ := hxs j u hu
      exact ⟨z, by rw [List.getElem?_set_ne e]; exact hz1, hz2⟩
  · simp [execOp, Instr.storeAt, Instr.sureAddr, ev_rv hg hs.cc.inv.fix hs.fr hx (by simp), ev_rv hg hs.cc.inv.fix hs.fr hy hnb, rv, hr]
end
end Go.Proofs.YtendffbpmpobnaaDoor
