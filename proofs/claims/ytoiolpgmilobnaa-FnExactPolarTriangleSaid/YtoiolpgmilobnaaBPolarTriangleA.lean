/- What the last text of PolarTriangle needs, part 1: contracts of functions and plain mathematics. No conditions beyond those each theorem states. -/
import Derived.Calls
import Derived.Tactics
import Derived.Deep.Quiet
import Derived.KernelRfl
import Derived.Laws.Rows
namespace Go.Proofs.Ytoiolpgmilobnaa
/-! ### values -/
inductive V where
  | bot
  | int (n : Int)
  | bool (b : Bool)
  | arr (l : List Int)
  | ptr (b off : Nat)
  | slice (b off len cap : Nat)
  | nilsl
  | tuple (vs : List V)
  | func (f : Nat) (first caps : List V)
  | agg (vs : List V)
  | raw (v : Value)
mutual
def rv (ρ : Nat → Nat) : V → Value
  | .bot => undef
  | .int n => .int .i64 n
  | .bool b => .bool b
  | .arr l => .agg (l.map (Value.int .i64)).toArray
  | .ptr b o => .pointer (some ⟨ρ b, o, none⟩)
  | .slice b o n c => .slice (some ⟨ρ b, o, none⟩) n c
  | .nilsl => .slice none 0 0
  | .tuple vs => .tuple (rvs ρ vs).toArray
  | .func f a c => .func (.func f) (rvs ρ a).toArray (rvs ρ c).toArray
  | .agg vs => .agg (rvs ρ vs).toArray
  | .raw v => v
def rvs (ρ : Nat → Nat) : List V → List Value
  | [] => []
  | v :: r => rv ρ v :: rvs ρ r
end
mutual
def ren (τ : Nat → Nat) : V → V
  | .ptr b o => .ptr (τ b) o
  | .slice b o n c => .slice (τ b) o n c
  | .tuple vs => .tuple (rens τ vs)
  | .func f a c => .func f (rens τ a) (rens τ c)
  | .agg vs => .agg (rens τ vs)
  | .bot => .bot
  | .int n => .int n
  | .bool b => .bool b
  | .arr l => .arr l
  | .nilsl => .nilsl
  | .raw v => .raw v
def rens (τ : Nat → Nat) : List V → List V
  | [] => []
  | v :: r => ren τ v :: rens τ r
end
mutual
theorem rv_ren (ρ τ : Nat → Nat) : ∀ v : V, rv ρ (ren τ v) = rv (fun b => ρ (τ b)) v
  | .ptr b o => by simp [ren, rv]
  | .slice b o n c => by simp [ren, rv]
  | .tuple vs => by simp [ren, rv, rvs_rens ρ τ vs]
  | .func f a c => by simp [ren, rv, rvs_rens ρ τ a, rvs_rens ρ τ c]
  | .agg vs => by simp [ren, rv, rvs_rens ρ τ vs]
  | .bot => by simp [ren, rv]
  | .int n => by simp [ren, rv]
  | .bool b => by simp [ren, rv]
  | .arr l => by simp [ren, rv]
  | .nilsl => by simp [ren, rv]
  | .raw v => by simp [ren, rv]
theorem rvs_rens (ρ τ : Nat → Nat) : ∀ vs : List V, rvs ρ (rens τ vs) = rvs (fun b => ρ (τ b)) vs
  | [] => by simp [rens, rvs]
  | v :: r => by simp [rens, rvs, rv_ren ρ τ v, rvs_rens ρ τ r]
end
theorem rvs_eq_map (ρ : Nat → Nat) : ∀ vs : List V, rvs ρ vs = vs.map (rv ρ)
  | [] => rfl
  | v :: r => by simp [rvs, rvs_eq_map ρ r]
theorem rens_eq_map (τ : Nat → Nat) : ∀ vs : List V, rens τ vs = vs.map (ren τ)
  | [] => rfl
  | v :: r => by simp [rens, rens_eq_map τ r]
mutual
def V.ids : V → List Nat
  | .ptr b _ => [b]
  | .slice b _ _ _ => [b]
  | .tuple vs => idss vs
  | .func _ a c => idss a ++ idss c
  | .agg vs => idss vs
  | .bot => []
  | .int _ => []
  | .bool _ => []
  | .arr _ => []
  | .nilsl => []
  | .raw _ => []
def idss : List V → List Nat
  | [] => []
  | v :: r => V.ids v ++ idss r
end
mutual
theorem ren_id (τ : Nat → Nat) : ∀ v : V, (∀ b ∈ v.ids, τ b = b) → ren τ v = v
  | .ptr b o, h => by simp [ren, h b (by simp [V.ids])]
  | .slice b o n c, h => by simp [ren, h b (by simp [V.ids])]
  | .tuple vs, h => by simp [ren, rens_id τ vs (fun b hb => h b (by simpa [V.ids] using hb))]
  | .func f a c, h => by
    simp [ren, rens_id τ a (fun b hb => h b (by simp [V.ids, hb])), rens_id τ c (fun b hb => h b (by simp [V.ids, hb]))]
  | .agg vs, h => by simp [ren, rens_id τ vs (fun b hb => h b (by simpa [V.ids] using hb))]
  | .bot, _ => by simp [ren]
  | .int n, _ => by simp [ren]
  | .bool b, _ => by simp [ren]
  | .arr l, _ => by simp [ren]
  | .nilsl, _ => by simp [ren]
  | .raw v, _ => by simp [ren]
theorem rens_id (τ : Nat → Nat) : ∀ vs : List V, (∀ b ∈ idss vs, τ b = b) → rens τ vs = vs
  | [], _ => by simp [rens]
  | v :: r, h => by
    simp [rens, ren_id τ v (fun b hb => h b (by simp [idss, hb])), rens_id τ r (fun b hb => h b (by simp [idss, hb]))]
end
mutual
theorem rv_congr {ρ ρ' : Nat → Nat} : ∀ v : V, (∀ b ∈ v.ids, ρ b = ρ' b) → rv ρ v = rv ρ' v
  | .ptr b o, h => by simp [rv, h b (by simp [V.ids])]
  | .slice b o n c, h => by simp [rv, h b (by simp [V.ids])]
  | .tuple vs, h => by simp [rv, rvs_congr vs (fun b hb => h b (by simpa [V.ids] using hb))]
  | .func f a c, h => by
    simp [rv, rvs_congr a (fun b hb => h b (by simp [V.ids, hb])), rvs_congr c (fun b hb => h b (by simp [V.ids, hb]))]
  | .agg vs, h => by simp [rv, rvs_congr vs (fun b hb => h b (by simpa [V.ids] using hb))]
  | .bot, _ => by simp [rv]
  | .int n, _ => by simp [rv]
  | .bool b, _ => by simp [rv]
  | .arr l, _ => by simp [rv]
  | .nilsl, _ => by simp [rv]
  | .raw v, _ => by simp [rv]
theorem rvs_congr {ρ ρ' : Nat → Nat} : ∀ vs : List V, (∀ b ∈ idss vs, ρ b = ρ' b) → rvs ρ vs = rvs ρ' vs
  | [], _ => by simp [rvs]
  | v :: r, h => by
    simp [rvs, rv_congr v (fun b hb => h b (by simp [idss, hb])), rvs_congr r (fun b hb => h b (by simp [idss, hb]))]
end
def VR (ρ : Nat → Nat) (v : V) (x : Value) : Prop := v = .bot ∨ x = rv ρ v
/-! ### heaps -/
inductive Blk where
  | dead
  | ints (t : TypeId) (l : List Int)
  | vals (t : TypeId) (l : List V)
  | ro (o : Nat) (l : List Int)
  | obj (o : Obj)
def Blk.ren (τ : Nat → Nat) : Blk → Blk
  | .dead => .dead
  | .ints t l => .ints t l
  | .vals t l => .vals t (rens τ l)
  | .ro o l => .ro o l
  | .obj o => .obj o
/-- may it be written? -/
def wrt : Blk → Bool
  | .ro _ _ => false
  | _ => true
def Blk.ids : Blk → List Nat
  | .vals _ l => idss l
  | _ => []
theorem Blk.ren_id (τ : Nat → Nat) (k : Blk) (h : ∀ b ∈ k.ids, τ b = b) : k.ren τ = k := by
  cases k <;> simp [Blk.ren]
  exact rens_id τ _ (fun b hb => h b (by simpa [Blk.ids] using hb))
def icells (l : List Int) : Array Value := (l.map (Value.int .i64)).toArray
def BR (ρ : Nat → Nat) : Blk → Obj → Prop
  | .dead, _ => True
  | .ints t l, o => o = .cells (icells l) t (0, 0)
  | .vals t l, o => ∃ xs : List Value, xs.length = l.length ∧ (∀ (i : Nat) (v : V), l[i]? = some v → ∃ x, xs[i]? = some x ∧ VR ρ v x) ∧ o = .cells xs.toArray t (0, 0)
  | .ro o0 l, o => ∃ cs t fr, o = .cells cs t fr ∧ ∀ (i : Nat) (n : Int), l[i]? = some n → cs[o0 + i]? = some (.int .i64 n)
  | .obj o', o => o = o'
theorem VR_ren {ρ τ : Nat → Nat} {v : V} {x : Value} : VR ρ (Go.Proofs.Ytoiolpgmilobnaa.ren τ v) x → VR (fun b => ρ (τ b)) v x := by
  rintro (h | h)
  · left
    cases v <;> simp [Go.Proofs.Ytoiolpgmilobnaa.ren] at h ⊢
  · right; rw [h, rv_ren]
theorem BR_ren {ρ τ : Nat → Nat} {k : Blk} {o : Obj} (h : BR ρ (k.ren τ) o) : BR (fun b => ρ (τ b)) k o := by
  cases k <;> simp only [Blk.ren, BR] at h ⊢
  · exact h
  · obtain ⟨xs, hl, hx, ho⟩ := h
    refine ⟨xs, by simpa [rens_eq_map] using hl, fun i v hv => ?_, ho⟩
    obtain ⟨x, hx1, hx2⟩ := hx i (Go.Proofs.Ytoiolpgmilobnaa.ren τ v) (by simp [rens_eq_map, hv])
    exact ⟨x, hx1, VR_ren hx2⟩
  · exact h
  · exact h
theorem mem_idss {l : List V} {i : Nat} {v : V} (h : l[i]? = some v) {b : Nat} (hb : b ∈ v.ids) : b ∈ idss l := by
  induction l generalizing i with
  | nil => simp at h
  | cons a r ih =>
    cases i with
    | zero => simp at h; subst h; simp [idss, hb]
    | succ i => simp at h; simp [idss, ih h]
theorem BR_congr {ρ ρ' : Nat → Nat} {k : Blk} {o : Obj} (hc : ∀ b ∈ k.ids, ρ b = ρ' b) (h : BR ρ k o) : BR ρ' k o := by
  cases k <;> simp only [BR] at h ⊢
  · exact h
  · obtain ⟨xs, hl, hx, ho⟩ := h
    refine ⟨xs, hl, fun i v hv => ?_, ho⟩
    obtain ⟨x, hx1, hx2⟩ := hx i v hv
    refine ⟨x, hx1, hx2.imp id fun e => ?_⟩
    rw [e]
    exact rv_congr v (fun b hb => hc b (by simpa [Blk.ids] using mem_idss hv hb))
  · exact h
  · exact h
abbrev Hp := List (Nat × Blk)
def lkB : Hp → Nat → Option Blk
  | [], _ => none
  | (i, b) :: r, k => match Nat.beq i k with
    | true => some b
    | false => lkB r k
theorem lkB_cons (i : Nat) (b : Blk) (r : Hp) (k : Nat) : lkB ((i, b) :: r) k = if i = k then some b else lkB r k := by
  simp only [lkB]
  by_cases h : i = k
  · subst h; simp
  · simp [h]
    cases hb : Nat.beq i k
    · rfl
    · exact absurd (Nat.eq_of_beq_eq_true hb) h
theorem lkB_mem {H : Hp} {b : Nat} {k : Blk} (h : lkB H b = some k) : (b, k) ∈ H := by
  induction H with
  | nil => simp [lkB] at h
  | cons x r ih =>
    obtain ⟨i, y⟩ := x
    rw [lkB_cons] at h
    split at h
    · rename_i e; subst e; injection h with h; subst h; simp
    · exact List.mem_cons_of_mem _ (ih h)
theorem lkB_none {H : Hp} {b : Nat} (h : ∀ k, (b, k) ∉ H) : lkB H b = none := by
  cases hl : lkB H b with
  | none => rfl
  | some k => exact absurd (lkB_mem hl) (h k)
theorem lkB_append (A B : Hp) (b : Nat) : lkB (A ++ B) b = match lkB A b with | some k => some k | none => lkB B b := by
  induction A with
  | nil => simp [lkB]
  | cons x r ih =>
    obtain ⟨i, y⟩ := x
    simp only [List.cons_append, lkB_cons]
    split
    · rfl
    · exact ih
def HR (ρ : Nat → Nat) (H : Hp) (w : World) : Prop :=
  (∀ b k, lkB H b = some k → k ≠ .dead → ∃ o, w.heap[ρ b]? = some o ∧ BR ρ k o) ∧
  (∀ b b' k k', lkB H b = some k → lkB H b' = some k' → k ≠ .dead → k' ≠ .dead → (wrt k = true ∨ wrt k' = true) → ρ b = ρ b' → b = b')
/-! ### frames -/
abbrev Fr := List (Nat × V)
def lkV : Fr → Nat → Option V
  | [], _ => none
  | (i, v) :: r, k => match Nat.beq i k with
    | true => some v
    | false => lkV r k
theorem lkV_cons (i : Nat) (b : V) (r : Fr) (k : Nat) : lkV ((i, b) :: r) k = if i = k then some b else lkV r k := by
  simp only [lkV]
  by_cases h : i = k
  · subst h; simp
  · simp [h]
    cases hb : Nat.beq i k
    · rfl
    · exact absurd (Nat.eq_of_beq_eq_true hb) h
theorem lkV_mem {H : Fr} {b : Nat} {k : V} (h : lkV H b = some k) : (b, k) ∈ H := by
  induction H with
  | nil => simp [lkV] at h
  | cons x r ih =>
    obtain ⟨i, y⟩ := x
    rw [lkV_cons] at h
    split at h
    · rename_i e; subst e; injection h with h; subst h; simp
    · exact List.mem_cons_of_mem _ (ih h)
structure TI where
  d : TypeDesc
  size : Nat
  bytes : Nat
  z : Option V
  g : Bool := false
abbrev TT := List (Nat × TI)
def lkT : TT → Nat → Option TI
  | [], _ => none
  | (i, b) :: r, k => match Nat.beq i k with
    | true => some b
    | false => lkT r k
/-- the table of types tells the program's types -/
def TI.ok (P : Program) (t : Nat) (x : TI) : Prop :=
  P.underlying t = some x.d ∧ (∃ i, P.info? t = some i ∧ i.size = x.size ∧ i.bytes = x.bytes ∧ ∀ v, x.z = some v → i.zero = some (rv (fun b => b) v) ∧ v.ids = []) ∧ (x.g = true → P.eqGuardType P.depth t = false)
def TOK (P : Program) (T : TT) : Prop := ∀ t x, lkT T t = some x → x.ok P t
theorem TOK.nil {P : Program} : TOK P [] := fun t x h => by simp [lkT] at h
theorem TOK.cons {P : Program} {T : TT} {t : Nat} {x : TI} (h : x.ok P t) (hT : TOK P T) : TOK P ((t, x) :: T) := by
  intro t' x' h'
  simp only [lkT] at h'
  split at h'
  · rename_i e; have := Nat.eq_of_beq_eq_true e; subst this; injection h' with h'; subst h'; exact h
  · exact hT _ _ h'
structure Cx where
  P : Program
  T : TT
  tok : TOK P T
  gl : List (Nat × Nat)
  N : Nat
  D : List Nat
  W : List Nat
/-- a state: the frame's slots, the heap, the next id -/
structure S where
  F : Fr
  H : Hp
  n : Nat
def FR (c : Cx) (ρ : Nat → Nat) (F : Fr) (a : Act) : Prop :=
  a.defers = [] ∧ a.tmps.size = c.N ∧ ∀ t v, lkV F t = some v → v = .bot ∨ a.tmps[t]? = some (rv ρ v)
def GR (gl : List (Nat × Nat)) (D : List Nat) (ρ : Nat → Nat) : Prop := ∀ x ∈ gl, x.2 ∈ D ∧ ρ x.2 = x.1
def sc (n : Nat) (l : List Nat) : Bool := l.all fun b => Nat.blt b n || Nat.ble 1000 b
theorem sc_iff {n : Nat} {l : List Nat} : sc n l = true ↔ ∀ b ∈ l, b < n ∨ 1000 ≤ b := by
  simp [sc, Nat.blt_eq, Nat.ble_eq]
structure WF (c : Cx) (s : S) : Prop where
  fresh : ∀ b, s.n ≤ b → b < 1000 → lkB s.H b = none ∧ b ∉ c.D
  fs : ∀ t v, lkV s.F t = some v → ∀ b ∈ v.ids, b < s.n ∨ 1000 ≤ b
  hs : ∀ b k, lkB s.H b = some k → ∀ b' ∈ k.ids, b' < s.n ∨ 1000 ≤ b'
/-- the world since the call began: initial blocks kept in place, all else of the old world untouched -/
structure Inv (D W : List Nat) (ρ0 : Nat → Nat) (w0 : World) (ρ : Nat → Nat) (H : Hp) (w : World) : Prop where
  fix : ∀ b ∈ D, ρ b = ρ0 b
  own : ∀ b k, lkB H b = some k → k ≠ .dead → wrt k = true → (∃ d ∈ W, ρ b = ρ0 d) ∨ w0.heap.size ≤ ρ b
  os : w.os = w0.os
  tape : w.tape = w0.tape
  out : w.output = w0.output
  drw : w0.drawn ≤ w.drawn
  size : w0.heap.size ≤ w.heap.size
  old : ∀ i, i < w0.heap.size → (∀ d ∈ W, ρ0 d ≠ i) → w.heap[i]? = w0.heap[i]?
structure CC (c : Cx) (ρ0 : Nat → Nat) (w0 : World) (ρ : Nat → Nat) (H : Hp) (w : World) : Prop where
  hr : HR ρ H w
  inv : Inv c.D c.W ρ0 w0 ρ H w
structure St (c : Cx) (ρ0 : Nat → Nat) (w0 : World) (ρ : Nat → Nat) (s : S) (a : Act) (w : World) : Prop where
  cc : CC c ρ0 w0 ρ s.H w
  fr : FR c ρ s.F a
  wf : WF c s
abbrev Post := Exit → S → Prop
def Lift (c : Cx) (ρ0 : Nat → Nat) (w0 : World) (Q : Post) (e : Exit) (a : Act) (w : World) : Prop :=
  ∃ s ρ, Q e s ∧ St c ρ0 w0 ρ s a w
def CW (c : Cx) (code : Code) (Q : Post) (s : S) : Prop :=
  ∀ ρ0 w0, GR c.gl c.D ρ0 → ∀ ρ a w, St c ρ0 w0 ρ s a w → code.wp c.P (Lift c ρ0 w0 Q) a w
def OW (c : Cx) (ops : Array Oper) (Q : Post) (l : List Oper) (s : S) : Prop :=
  ∀ ρ0 w0, GR c.gl c.D ρ0 → ∀ ρ a w, St c ρ0 w0 ρ s a w → wpList c.P ops (Lift c ρ0 w0 Q) l a w
def QW (c : Cx) (ops : Array Oper) (K : S → Prop) (l : List Oper) (s : S) : Prop :=
  ∀ ρ0 w0, GR c.gl c.D ρ0 → ∀ ρ a, FR c ρ s.F a → WF c s → (∃ w, CC c ρ0 w0 ρ s.H w) →
    wpQuiet c.P ops (CC c ρ0 w0 ρ s.H) (fun a' => ∃ F', K { s with F := F' } ∧ FR c ρ F' a' ∧ WF c { s with F := F' }) l a
/-! ### code -/
def thenP (K : S → Prop) (Q : Post) : Post
  | .normal, s => K s
  | e, s => Q e s
def inBlockP (id : Nat) (Q : Post) : Post
  | .exit i, s => if i = id then Q .normal s else Q (.exit i) s
  | e, s => Q e s
section
variable {c : Cx} {Q : Post} {s : S}
theorem CW_skip (h : Q .normal s) : CW c .skip Q s := fun _ _ _ ρ _ _ hs => wp_skip ⟨s, ρ, h, hs⟩
theorem CW_exit {id : Nat} (h : Q (.exit id) s) : CW c (.exit id) Q s := fun _ _ _ ρ _ _ hs => wp_exit ⟨s, ρ, h, hs⟩
theorem CW_ret (h : Q .ret s) : CW c .ret Q s := fun _ _ _ ρ _ _ hs => wp_ret ⟨s, ρ, h, hs⟩
theorem CW_seq {x y : Code} (h : CW c x (thenP (CW c y Q) Q) s) : CW c (.seq x y) Q s := by
  intro ρ0 w0 hg ρ a w hs
  refine wp_seq (Code.wp_mono ?_ (h ρ0 w0 hg ρ a w hs))
  rintro e a' w' ⟨s', ρ', hq, hs'⟩
  cases e <;> first | exact hq ρ0 w0 hg ρ' a' w' hs' | exact ⟨s', ρ', hq, hs'⟩
theorem CW_block {id : Nat} {x : Code} (h : CW c x (inBlockP id Q) s) : CW c (.block id x) Q s := by
  intro ρ0 w0 hg ρ a w hs
  refine wp_block (Code.wp_mono ?_ (h ρ0 w0 hg ρ a w hs))
  rintro e a' w' ⟨s', ρ', hq, hs'⟩
  cases e with
  | exit i =>
    simp only [inBlockP] at hq
    simp only [Exit.inBlock]
    split
    · rename_i e; rw [if_pos e] at hq; exact ⟨s', ρ', hq, hs'⟩
    · rename_i e; rw [if_neg e] at hq; exact ⟨s', ρ', hq, hs'⟩
  | _ => exact ⟨s', ρ', hq, hs'⟩
theorem CW_mono {x : Code} {Q' : Post} (hq : ∀ e s, Q e s → Q' e s) (h : CW c x Q s) : CW c x Q' s := fun ρ0 w0 hg ρ a w hs =>
  Code.wp_mono (fun _ _ _ ⟨s', ρ', q, hs'⟩ => ⟨s', ρ', hq _ _ q, hs'⟩) (h ρ0 w0 hg ρ a w hs)
def absV : Value → Option V
  | .int .i64 n => some (.int n)
  | .bool b => some (.bool b)
  | .slice none 0 0 => some .nilsl
  | v => some (.raw v)
theorem absV_rv {v : Value} {x : V} (ρ : Nat → Nat) (h : absV v = some x) : rv ρ x = v := by
  unfold absV at h
  split at h <;> (injection h with h; subst h; simp [rv])
def gId : List (Nat × Nat) → Nat → Option Nat
  | [], _ => none
  | (g, b) :: r, k => match Nat.beq g k with
    | true => some b
    | false => gId r k
theorem gId_mem {l : List (Nat × Nat)} {g b : Nat} (h : gId l g = some b) : (g, b) ∈ l := by
  induction l with
  | nil => simp [gId] at h
  | cons x r ih =>
    obtain ⟨i, y⟩ := x
    simp only [gId] at h
    split at h
    · rename_i e; have := Nat.eq_of_beq_eq_true e; subst this; injection h with h; subst h; simp
    · exact List.mem_cons_of_mem _ (ih h)
/-- what an operand is -/
def ev (c : Cx) (F : Fr) : Operand → Option V
  | .tmp t => lkV F t
  | .const v => absV v
  | .global g => (gId c.gl g).map fun b => .ptr b 0
  | .func f => some (.func f [] [])
theorem ev_rv {x : Operand} {v : V} {ρ0 ρ : Nat → Nat} {a : Act} (hg : GR c.gl c.D ρ0) (hfix : ∀ b ∈ c.D, ρ b = ρ0 b) (hf : FR c ρ s.F a) (h : ev c s.F x = some v) (hv : v ≠ .bot) :
    a.eval x = rv ρ v := by
  cases x with
  | tmp t =>
    rcases hf.2.2 t v h with e | e
    · exact absurd e hv
    · simp [Act.eval, Array.getD_eq_getD_getElem?, e]
  | const u => exact (absV_rv ρ h).symm
  | global g =>
    simp only [ev, Option.map_eq_some_iff] at h
    obtain ⟨b, hb, rfl⟩ := h
    have := hg _ (gId_mem hb)
    simp only [Act.eval, rv, hfix _ this.1, this.2]
  | func f =>
    simp only [ev] at h
    injection h with h
    subst h
    simp [Act.eval, rv, rvs]
def S.put (s : S) (d : Option Nat) (v : V) : S := match d with
  | some d => { s with F := (d, v) :: s.F }
  | none => s
theorem FR.put {ρ : Nat → Nat} {F : Fr} {a : Act} (hf : FR c ρ F a) (d : Nat) (v : V) (x : Value) (hd : d < c.N) (h : VR ρ v x) : FR c ρ ((d, v) :: F) (a.put (some d) x) := by
  refine ⟨hf.1, by simp [Act.put, hf.2.1], fun t u hu => ?_⟩
  rw [lkV_cons] at hu
  split at hu
  · rename_i e; subst e; injection hu with hu; subst hu
    rcases h with h | h
    · exact .inl h
    · right; simp [Act.put, hf.2.1, hd, h]
  · rename_i e
    rcases hf.2.2 t u hu with h' | h'
    · exact .inl h'
    · right; simp [Act.put, e, h']
theorem FR.put' {ρ : Nat → Nat} {a : Act} (hf : FR c ρ s.F a) (d : Option Nat) (v : V) (x : Value) (hd : ∀ t, d = some t → t < c.N) (h : VR ρ v x) : FR c ρ (s.put d v).F (a.put d x) := by
  cases d with
  | none => exact hf
  | some d => exact hf.put d v x (hd d rfl) h
@[simp] theorem put_H (d : Option Nat) (v : V) : (s.put d v).H = s.H := by cases d <;> rfl
@[simp] theorem put_n (d : Option Nat) (v : V) : (s.put d v).n = s.n := by cases d <;> rfl
theorem WF.put {s : S} (h : WF c s) (d : Option Nat) (v : V) (hv : sc s.n v.ids = true) : WF c (s.put d v) := by
  cases d with
  | none => exact h
  | some d =>
    refine ⟨h.fresh, fun t u hu b hb => ?_, h.hs⟩
    simp only [S.put, lkV_cons] at hu
    split at hu
    · injection hu with hu; subst hu; exact sc_iff.1 hv b hb
    · exact h.fs t u hu b hb
theorem St.put {ρ0 ρ : Nat → Nat} {w0 w : World} {a : Act} (hs : St c ρ0 w0 ρ s a w) (d : Option Nat) (v : V) (x : Value) (hd : ∀ t, d = some t → t < c.N) (h : VR ρ v x) (hv : sc s.n v.ids = true) :
    St c ρ0 w0 ρ (s.put d v) (a.put d x) w :=
  ⟨by simpa using hs.cc, hs.fr.put' d v x hd h, hs.wf.put d v hv⟩
theorem WF.setB {s : S} (h : WF c s) (d : Nat) (b : Bool) : WF c { s with F := (d, .bool b) :: s.F } := h.put (some d) (.bool b) rfl
/-- the slot of an operation lies in the frame -/
def okDst (N : Nat) : Option Nat → Bool
  | none => true
  | some d => Nat.blt d N
theorem okDst_lt {N : Nat} {d : Option Nat} (h : okDst N d = true) : ∀ t, d = some t → t < N := by
  rintro t rfl
  simpa [okDst, Nat.blt_eq] using h
theorem CW_cond {x : Operand} {p q : Code} {t : Bool} (hx : ev c s.F x = some (.bool t)) (h1 : t = true → CW c p Q s) (h0 : t = false → CW c q Q s) : CW c (.cond x p q) Q s := by
  intro ρ0 w0 hg ρ a w hs
  refine wp_cond_split (t := t) ?_ (fun ht => h1 ht ρ0 w0 hg ρ a w hs) (fun ht => h0 ht ρ0 w0 hg ρ a w hs)
  rw [ev_rv hg hs.cc.inv.fix hs.fr hx (by simp)]; rfl
theorem CW_cond_t {x : Operand} {p q : Code} {v : V} (hx : ev c s.F x = some v) (hv : v = .bool true) (h1 : CW c p Q s) : CW c (.cond x p q) Q s :=
  CW_cond (hv ▸ hx) (fun _ => h1) (fun h => by simp at h)
theorem CW_cond_f {x : Operand} {p q : Code} {v : V} (hx : ev c s.F x = some v) (hv : v = .bool false) (h1 : CW c q Q s) : CW c (.cond x p q) Q s :=
  CW_cond (hv ▸ hx) (fun h => by simp at h) (fun _ => h1)
theorem CW_region {id : Nat} {l : List Oper} (h : OW c l.toArray Q l s) : CW c (.region id l.toArray false) Q s :=
  fun ρ0 w0 hg ρ a w hs => wp_region_lit (h ρ0 w0 hg ρ a w hs)
theorem OW_nil {ops : Array Oper} (h : Q .normal s) : OW c ops Q [] s := fun _ _ _ ρ _ _ hs => wpList_nil ⟨s, ρ, h, hs⟩
theorem CC.drew {ρ0 ρ : Nat → Nat} {w0 w : World} {H : Hp} (h : CC c ρ0 w0 ρ H w) : CC c ρ0 w0 ρ H { w with drawn := w.drawn + 1 } :=
  ⟨h.hr, h.inv.fix, h.inv.own, h.inv.os, h.inv.tape, h.inv.out, Nat.le_succ_of_le h.inv.drw, h.inv.size, h.inv.old⟩
theorem CW_draw {id : Nat} {l : List Oper} (hm : c.P.follows .mixedOrders = true) (hB : Region.lexB .any l.toArray = true)
    (h : QW c l.toArray (Q .normal) l s) : CW c (.region id l.toArray true) Q s := by
  intro ρ0 w0 hg ρ a w hs
  refine wp_region_quiet (C := CC c ρ0 w0 ρ s.H) hm hB hs.cc.drew ?_
  have := h ρ0 w0 hg ρ a hs.fr hs.wf ⟨w, hs.cc⟩
  have mono : ∀ (l : List Oper) (a : Act) (K K' : Act → Prop), (∀ a, K a → K' a) → wpQuiet c.P l.toArray (CC c ρ0 w0 ρ s.H) K l a → wpQuiet c.P l.toArray (CC c ρ0 w0 ρ s.H) K' l a := by
    intro l
    generalize l.toArray = ops
    induction l with
    | nil => exact fun a K K' hk h => hk a h
    | cons o r ih =>
      intro a K K' hk h
      unfold wpQuiet at h ⊢
      split
      · rename_i hw; rw [if_pos hw] at h; exact Oper.quiet_mono (fun a => ih a K K' hk) h
      · rename_i hw; rw [if_neg hw] at h; exact ih _ K K' hk h
  refine mono l a _ _ ?_ this
  rintro a' ⟨F', hq, hf', hwf⟩ w' hw'
  exact ⟨_, ρ, hq, hw', hf', hwf⟩
theorem QW_nil {ops : Array Oper} {K : S → Prop} (h : K s) : QW c ops K [] s := fun _ _ _ _ _ hf hwf _ => ⟨s.F, h, hf, hwf⟩
/-! ### guards -/
theorem yielded_of {ops : Array Oper} {j d : Nat} {b : Bool} {ρ : Nat → Nat} {a : Act} (hf : FR c ρ s.F a) (hd : (ops[j]?).bind (·.dst) = some d) (hb : lkV s.F d = some (.bool b)) :
    yielded ops a.tmps j = some b := by
  rcases hf.2.2 d _ hb with h | h
  · simp at h
  · simp [yielded, hd, h, rv]
theorem FR.setB {ρ : Nat → Nat} {F : Fr} {a : Act} {d : Nat} {b : Bool} (hf : FR c ρ F a) (hb : lkV F d = some (.bool b)) : FR c ρ ((d, .bool b) :: F) a :=
  ⟨hf.1, hf.2.1, fun t u hu => by
    rw [lkV_cons] at hu
    split at hu
    · rename_i e; subst e; injection hu with hu; subst hu; exact hf.2.2 _ _ hb
    · exact hf.2.2 t u hu⟩
theorem wanted_eq {o : Oper} {ops : Array Oper} {j d : Nat} {b want : Bool} {ρ : Nat → Nat} {a : Act} (hg : o.guard = some (j, want)) (hf : FR c ρ s.F a) (hd : (ops[j]?).bind (·.dst) = some d) (hb : lkV s.F d = some (.bool b)) :
    Region.wanted o (yielded ops a.tmps) = (b == want) := by
  simp [Region.wanted, hg, yielded_of hf hd hb]
theorem wpList_unguard {P : Program} {ops : Array Oper} {Q : Exit → Act → World → Prop} {o : Oper} {rest : List Oper} {a : Act} {w : World} (hw : Region.wanted o (yielded ops a.tmps) = true)
    (h : wpList P ops Q ({ o with guard := none } :: rest) a w) : wpList P ops Q (o :: rest) a w := by
  unfold wpList at h ⊢
  rw [if_pos (by simp [Region.wanted])] at h
  rw [if_pos hw]
  exact h
theorem OW_gt {ops : Array Oper} {dst : Option Tmp} {op : Op} {ty : TypeId} {pos : String} {af : Array Edge} {rest : List Oper} {j d : Nat} {want : Bool}
    (hd : (ops[j]?).bind (·.dst) = some d) (hb : lkV s.F d = some (.bool want))
    (h : OW c ops Q (⟨dst, op, ty, pos, af, none⟩ :: rest) s) : OW c ops Q (⟨dst, op, ty, pos, af, some (j, want)⟩ :: rest) s :=
  fun ρ0 w0 hg ρ a w hs => wpList_unguard (by rw [wanted_eq rfl hs.fr hd hb]; simp) (h ρ0 w0 hg ρ a w hs)
theorem OW_gs {ops : Array Oper} {dst : Option Tmp} {op : Op} {ty : TypeId} {pos : String} {af : Array Edge} {rest : List Oper} {j d : Nat} {b want : Bool}
    (hd : (ops[j]?).bind (·.dst) = some d) (hb : lkV s.F d = some (.bool b)) (hne : (b == want) = false) (hN : okDst c.N dst = true)
    (h : OW c ops Q rest (s.put dst .bot)) : OW c ops Q (⟨dst, op, ty, pos, af, some (j, want)⟩ :: rest) s := by
  intro ρ0 w0 hg ρ a w hs
  unfold wpList
  rw [if_neg (by rw [wanted_eq rfl hs.fr hd hb]; simp [hne])]
  exact h ρ0 w0 hg ρ _ w (hs.put dst .bot undef (okDst_lt hN) (.inl rfl) rfl)
theorem OW_gT {ops : Array Oper} {dst : Option Tmp} {op : Op} {ty : TypeId} {pos : String} {af : Array Edge} {rest : List Oper} {j d : Nat} {want : Bool} {v : V}
    (hd : (ops[j]?).bind (·.dst) = some d) (hb : lkV s.F d = some v) (hv : v = .bool want)
    (h : OW c ops Q (⟨dst, op, ty, pos, af, none⟩ :: rest) s) : OW c ops Q (⟨dst, op, ty, pos, af, some (j, want)⟩ :: rest) s := OW_gt hd (hv ▸ hb) h
theorem OW_gS1 {ops : Array Oper} {dst : Option Tmp} {op : Op} {ty : TypeId} {pos : String} {af : Array Edge} {rest : List Oper} {j d : Nat} {v : V}
    (hd : (ops[j]?).bind (·.dst) = some d) (hb : lkV s.F d = some v) (hv : v = .bool false) (hN : okDst c.N dst = true)
    (h : OW c ops Q rest (s.put dst .bot)) : OW c ops Q (⟨dst, op, ty, pos, af, some (j, true)⟩ :: rest) s := OW_gs hd (hv ▸ hb) rfl hN h
theorem OW_gS0 {ops : Array Oper} {dst : Option Tmp} {op : Op} {ty : TypeId} {pos : String} {af : Array Edge} {rest : List Oper} {j d : Nat} {v : V}
    (hd : (ops[j]?).bind (·.dst) = some d) (hb : lkV s.F d = some v) (hv : v = .bool true) (hN : okDst c.N dst = true)
    (h : OW c ops Q rest (s.put dst .bot)) : OW c ops Q (⟨dst, op, ty, pos, af, some (j, false)⟩ :: rest) s := OW_gs hd (hv ▸ hb) rfl hN h
theorem OW_guard {ops : Array Oper} {dst : Option Tmp} {op : Op} {ty : TypeId} {pos : String} {af : Array Edge} {rest : List Oper} {j d : Nat} {b want : Bool}
    (hd : (ops[j]?).bind (·.dst) = some d) (hb : lkV s.F d = some (.bool b)) (hN : okDst c.N dst = true)
    (h1 : b = want → OW c ops Q (⟨dst, op, ty, pos, af, none⟩ :: rest) { s with F := (d, .bool want) :: s.F })
    (h0 : b = (!want) → OW c ops Q rest ({ s with F := (d, .bool (!want)) :: s.F }.put dst .bot)) : OW c ops Q (⟨dst, op, ty, pos, af, some (j, want)⟩ :: rest) s := by
  intro ρ0 w0 hg ρ a w hs
  by_cases e : b = want
  · subst e
    exact wpList_unguard (by rw [wanted_eq rfl hs.fr hd hb]; simp) (h1 rfl ρ0 w0 hg ρ a w ⟨hs.cc, hs.fr.setB hb, hs.wf.setB _ _⟩)
  · have e' : b = (!want) := by cases b <;> cases want <;> simp_all
    have := h0 e'
    unfold wpList
    rw [if_neg (by rw [wanted_eq rfl hs.fr hd hb]; simpa using e)]
    subst e'
    exact this ρ0 w0 hg ρ _ w (St.put (s := { s with F := (d, .bool (!want)) :: s.F }) ⟨hs.cc, hs.fr.setB hb, hs.wf.setB _ _⟩ dst .bot undef (okDst_lt hN) (.inl rfl) rfl)
theorem QW_put {ops : Array Oper} {K : S → Prop} {l : List Oper} {ρ0 ρ : Nat → Nat} {w0 : World} {a : Act} {dst : Option Tmp} {v : V} {x : Value} (h : QW c ops K l (s.put dst v)) (hg : GR c.gl c.D ρ0) (hf : FR c ρ s.F a) (hwf : WF c s)
    (hx : ∃ w, CC c ρ0 w0 ρ s.H w) (hN : okDst c.N dst = true) (hv : VR ρ v x) (hsc : sc s.n v.ids = true) :
    wpQuiet c.P ops (CC c ρ0 w0 ρ s.H) (fun a' => ∃ F', K { s with F := F' } ∧ FR c ρ F' a' ∧ WF c { s with F := F' }) l (a.put dst x) := by
  have := h ρ0 w0 hg ρ _ (hf.put' dst v x (okDst_lt hN) hv) (hwf.put dst v hsc) (by simpa using hx)
  cases dst <;> exact this
theorem QW_gs {ops : Array Oper} {K : S → Prop} {dst : Option Tmp} {op : Op} {ty : TypeId} {pos : String} {af : Array Edge} {rest : List Oper} {j d : Nat} {b want : Bool}
    (hd : (ops[j]?).bind (·.dst) = some d) (hb : lkV s.F d = some (.bool b)) (hne : (b == want) = false) (hN : okDst c.N dst = true)
    (h : QW c ops K rest (s.put dst .bot)) : QW c ops K (⟨dst, op, ty, pos, af, some (j, want)⟩ :: rest) s := by
  intro ρ0 w0 hg ρ a hf hwf hx
  unfold wpQuiet
  rw [if_neg (by rw [wanted_eq rfl hf hd hb]; simp [hne])]
  exact QW_put h hg hf hwf hx hN (.inl rfl) rfl
theorem QW_gS1 {ops : Array Oper} {K : S → Prop} {dst : Option Tmp} {op : Op} {ty : TypeId} {pos : String} {af : Array Edge} {rest : List Oper} {j d : Nat} {v : V}
    (hd : (ops[j]?).bind (·.dst) = some d) (hb : lkV s.F d = some v) (hv : v = .bool false) (hN : okDst c.N dst = true)
    (h : QW c ops K rest (s.put dst .bot)) : QW c ops K (⟨dst, op, ty, pos, af, some (j, true)⟩ :: rest) s := QW_gs hd (hv ▸ hb) rfl hN h
theorem QW_gS0 {ops : Array Oper} {K : S → Prop} {dst : Option Tmp} {op : Op} {ty : TypeId} {pos : String} {af : Array Edge} {rest : List Oper} {j d : Nat} {v : V}
    (hd : (ops[j]?).bind (·.dst) = some d) (hb : lkV s.F d = some v) (hv : v = .bool true) (hN : okDst c.N dst = true)
    (h : QW c ops K rest (s.put dst .bot)) : QW c ops K (⟨dst, op, ty, pos, af, some (j, false)⟩ :: rest) s := QW_gs hd (hv ▸ hb) rfl hN h
/-! ### one quiet operation -/
def QOp (c : Cx) (o : Oper) (s : S) (v : V) : Prop :=
  ∀ ρ0 w0, GR c.gl c.D ρ0 → ∀ ρ a, FR c ρ s.F a → (∀ b ∈ c.D, ρ b = ρ0 b) → ∀ w, CC c ρ0 w0 ρ s.H w → o.quietAt c.P a (CC c ρ0 w0 ρ s.H) w (rv ρ v)
theorem OW_q {ops : Array Oper} {o : Oper} {rest : List Oper} {v : V} (hq : QOp c o s v) (hg : o.guard = none) (hN : okDst c.N o.dst = true) (hsc : sc s.n v.ids = true) (h : OW c ops Q rest (s.put o.dst v)) : OW c ops Q (o :: rest) s := by
  intro ρ0 w0 hgr ρ a w hs
  refine wpList_plain hg fun K hK => ?_
  have hq' := hq ρ0 w0 hgr ρ a hs.fr hs.cc.inv.fix w hs.cc
  unfold Oper.quietAt at hq'
  unfold Oper.wp
  generalize (execOp a.eval o).run c.P w = r at *
  have fin : ∀ w', CC c ρ0 w0 ρ s.H w' → K (a.put o.dst (rv ρ v)) w' := fun w' hw' =>
    hK _ _ (h ρ0 w0 hgr ρ _ w' (St.put ⟨hw', hs.fr, hs.wf⟩ o.dst v _ (okDst_lt hN) (.inr rfl) hsc))
  cases r with
  | ok n w' =>
    cases n <;> simp only [Oper.quietUpon] at hq' <;> simp only [Oper.upon]
    case value u =>
      obtain ⟨rfl, rfl⟩ := hq'
      exact fin _ hs.cc
    case skip =>
      obtain ⟨rfl, e2⟩ := hq'
      rw [← e2]
      exact fin _ hs.cc
    case enter f args =>
      obtain ⟨rfl, hc⟩ := hq'
      exact hc.mono fun e w'' ⟨he, hw''⟩ => by subst he; exact fin _ hw''
  | halt x w' => simp only [Oper.quietUpon] at hq'
theorem QW_q {ops : Array Oper} {K : S → Prop} {o : Oper} {rest : List Oper} {v : V} (hq : QOp c o s v) (hg : o.guard = none) (hN : okDst c.N o.dst = true) (hsc : sc s.n v.ids = true) (h : QW c ops K rest (s.put o.dst v)) : QW c ops K (o :: rest) s := by
  intro ρ0 w0 hgr ρ a hf hwf hx
  unfold wpQuiet
  rw [if_pos (by simp [Region.wanted, hg])]
  have hfix : ∀ b ∈ c.D, ρ b = ρ0 b := by obtain ⟨w, hw⟩ := hx; exact hw.inv.fix
  exact ⟨rv ρ v, fun w hw => hq ρ0 w0 hgr ρ a hf hfix w hw, QW_put h hgr hf hwf hx hN (.inr rfl) hsc⟩
end
end Go.Proofs.Ytoiolpgmilobnaa
