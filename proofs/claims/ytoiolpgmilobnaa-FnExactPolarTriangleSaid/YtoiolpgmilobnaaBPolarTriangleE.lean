/- What the last text of PolarTriangle needs, part 5: contracts of functions and plain mathematics. No conditions beyond those each theorem states. -/
import Derived.Deep.Quiet
import Derived.Test.YtoiolpgmilobnaaBPolarTriangleD
namespace Go.Proofs.Ytoiolpgmilobnaa
set_option linter.unusedVariables false
/-! ### operations that look at no memory -/
def PX (c : Cx) (o : Oper) (s : S) (v : V) : Prop := ∀ ρ0, GR c.gl c.D ρ0 → ∀ ρ a, FR c ρ s.F a → (∀ b ∈ c.D, ρ b = ρ0 b) → ∀ w, (execOp a.eval o).run c.P w = .ok (.value (rv ρ v)) w
section
variable {c : Cx} {s : S} {dst : Option Tmp} {ty : TypeId} {pos : String} {af : Array Edge} {g : Option (Nat × Bool)}
theorem PX_move {x : Operand} {v : V} (h : ev c s.F x = some v) (hv : nb v = true) : PX c ⟨dst, .move x, ty, pos, af, g⟩ s v := by
  intro ρ0 hg ρ a hf hfix w
  simp [execOp, ev_rv hg hfix hf h (ne_bot hv)]
theorem PX_bin {op : BinOp} {x y : Operand} {t t' : TypeId} {m n : Int} {v : V} (hx : ev c s.F x = some (.int m)) (hy : ev c s.F y = some (.int n)) (h : arith op m n = some v) :
    PX c ⟨dst, .binOp op t x y t', ty, pos, af, g⟩ s v := by
  intro ρ0 hg ρ a hf hfix w
  have ex := ev_rv hg hfix hf hx (by simp)
  have ey := ev_rv hg hfix hf hy (by simp)
  cases op <;> simp only [arith] at h <;> first | (cases h; done) | (injection h with h; subst h; simp [execOp, ex, ey, rv, eqGuard_at_int, binOp, Op.intArith, Op.intCmp, wr])
theorem PX_binu {op : BinOp} {x y : Operand} {t t' : TypeId} {m n z : Int} (hx : ev c s.F x = some (.int m)) (hy : ev c s.F y = some (.int n)) (h : arithU op m n = some z)
    (hr : -9223372036854775808 ≤ z ∧ z ≤ 9223372036854775807) : PX c ⟨dst, .binOp op t x y t', ty, pos, af, g⟩ s (.int z) := by
  have e : arith op m n = some (.int (wr z)) := by
    cases op <;> simp only [arithU] at h <;> first | (cases h; done) | (injection h with h; subst h; rfl)
  rw [wr_in hr] at e
  exact PX_bin hx hy e
end
/-! ### more of a heap -/
structure Ext (c : Cx) (ρ : Nat → Nat) (H : Hp) (ρ' : Nat → Nat) (H' : Hp) : Prop where
  lk : ∀ b k, lkB H b = some k → k ≠ .dead → lkB H' b = some k ∧ ρ' b = ρ b ∧ ∀ b' ∈ k.ids, ρ' b' = ρ b'
  d : ∀ b ∈ c.D, ρ' b = ρ b
section
variable {c : Cx} {s : S} {ρ0 ρ ρ' ρ2 : Nat → Nat} {H H' H2 : Hp} {w0 w : World}
theorem Ext.refl : Ext c ρ H ρ H := ⟨fun _ _ h _ => ⟨h, rfl, fun _ _ => rfl⟩, fun _ _ => rfl⟩
theorem Ext.trans (h1 : Ext c ρ H ρ' H') (h2 : Ext c ρ' H' ρ2 H2) : Ext c ρ H ρ2 H2 := by
  refine ⟨fun b k hk hd => ?_, fun b hb => (h2.d b hb).trans (h1.d b hb)⟩
  obtain ⟨a1, a2, a3⟩ := h1.lk b k hk hd
  obtain ⟨b1, b2, b3⟩ := h2.lk b k a1 hd
  exact ⟨b1, b2.trans a2, fun b' hb' => (b3 b' hb').trans (a3 b' hb')⟩
theorem CC.sub (h : Ext c ρ H ρ' H') (hw : CC c ρ0 w0 ρ' H' w) : CC c ρ0 w0 ρ H w := by
  refine ⟨⟨fun b k hk hd => ?_, fun b b' k k' h1 h2 d1 d2 hw12 he => ?_⟩, fun b hb => ?_, fun b k hk hd hwk => ?_, hw.inv.os, hw.inv.tape, hw.inv.out, hw.inv.drw, hw.inv.size, hw.inv.old⟩
  · obtain ⟨a1, a2, a3⟩ := h.lk b k hk hd
    obtain ⟨o, ho, hb⟩ := hw.hr.1 b k a1 hd
    exact ⟨o, by rw [← a2]; exact ho, BR_congr a3 hb⟩
  · obtain ⟨a1, a2, _⟩ := h.lk b k h1 d1
    obtain ⟨b1, b2, _⟩ := h.lk b' k' h2 d2
    exact hw.hr.2 b b' k k' a1 b1 d1 d2 hw12 (by rw [a2, b2]; exact he)
  · rw [← h.d b hb]; exact hw.inv.fix b hb
  · obtain ⟨a1, a2, _⟩ := h.lk b k hk hd
    rw [← a2]; exact hw.inv.own b k a1 hd hwk
/-- what makes no call -/
def NE (o : Oper) : Prop := ∀ ev P w f args w', (execOp ev o).run P w ≠ .ok (.enter f args) w'
theorem ne_v {P : Program} {m : Sem Value} {w w' : World} {f : FuncId} {args : Array Value} : (do pure (Next.value (← m)) : Sem Next).run P w ≠ .ok (.enter f args) w' := by
  simp only [Sem.run_bind]
  cases m.run P w <;> simp [Result.andThen]
/-- an operation that reads: the same in all greater heaps -/
def QX (c : Cx) (o : Oper) (s : S) (v : V) : Prop :=
  ∀ ρ0 w0, GR c.gl c.D ρ0 → ∀ ρ a, FR c ρ s.F a → (∀ b ∈ c.D, ρ b = ρ0 b) → ∀ ρ' H', Ext c ρ s.H ρ' H' → ∀ w, CC c ρ0 w0 ρ' H' w → o.quietAt c.P a (CC c ρ0 w0 ρ' H') w (rv ρ v)
theorem QX_of {o : Oper} {v : V} (h : QOp c o s v) (hne : NE o) : QX c o s v := by
  intro ρ0 w0 hg ρ a hf hfix ρ' H' hx w hw
  have h1 := h ρ0 w0 hg ρ a hf hfix w (hw.sub hx)
  have h2 := hne a.eval c.P w
  unfold Oper.quietAt at h1 ⊢
  generalize (execOp a.eval o).run c.P w = r at *
  cases r with
  | ok n w' =>
    cases n <;> simp only [Oper.quietUpon] at h1 ⊢
    case value u => exact h1
    case skip => exact h1
    case enter f args => exact absurd rfl (h2 f args w')
  | halt x w' => simp only [Oper.quietUpon] at h1
theorem QX_callv {dst : Option Tmp} {ty : TypeId} {pos : String} {af : Array Edge} {g : Option (Nat × Bool)} {op : Op} {f : Nat} {vs args0 : List V} {gl' : List (Nat × Nat)} {H0 : Hp} {r : V}
    (run : ∀ ρ0 ρ a w, GR c.gl c.D ρ0 → (∀ b ∈ c.D, ρ b = ρ0 b) → FR c ρ s.F a → (execOp a.eval ⟨dst, op, ty, pos, af, g⟩).run c.P w = .ok (.enter f (rvs ρ vs).toArray) w)
    (con : ConQ c.P gl' f args0 H0 r) (σ : Nat → Nat) (hargs : vs = rens σ args0) (hfit : Fits c s σ gl' H0) (hr : (r.ids.all fun b => (ids H0).contains b) = true) (hcl : closedB H0 = true) (hin : ((idss args0).all fun b => (ids H0).contains b) = true) :
    QX c ⟨dst, op, ty, pos, af, g⟩ s (ren σ r) := by
  intro ρ0 w0 hgr ρ a hf hfix ρ' H' hx w hw
  have hold : ∀ b ∈ ids H0, ρ' (σ b) = ρ (σ b) := fun b hb => by
    obtain ⟨k, hk⟩ := mem_ids_of hb
    exact (hx.lk _ _ (vH_lk hfit.hp hk) (ren_dead (live_of hfit.live hk))).2.1
  have hvH : ∀ H1 : Hp, (∀ x ∈ H1, x ∈ H0) → vH σ s.H H1 → vH σ H' H1 := by
    intro H1
    induction H1 with
    | nil => intro _ _; trivial
    | cons x r ih =>
      obtain ⟨b, k⟩ := x
      intro hm h
      have hl : k ≠ .dead := live_ne (List.all_eq_true.1 hfit.live _ (hm (b, k) (by simp)))
      exact ⟨(hx.lk _ _ h.1 (ren_dead hl)).1, ih (fun y hy => hm y (List.mem_cons_of_mem _ hy)) h.2⟩
  have hfit' : Fits c ⟨s.F, H', s.n⟩ σ gl' H0 := ⟨hvH H0 (fun _ h => h) hfit.hp, hfit.live, hfit.inj, hfit.gl⟩
  unfold Oper.quietAt
  rw [run ρ0 ρ a w hgr hfix hf]
  refine ⟨rfl, ?_⟩
  rw [hargs, rvs_rens]
  have e1 : rvs (fun b => ρ (σ b)) args0 = rvs (fun b => ρ' (σ b)) args0 := rvs_congr _ fun b hb => by
    simp only [List.all_eq_true, List.contains_iff_mem] at hin
    exact (hold b (hin b hb)).symm
  have e2 : rv ρ (ren σ r) = rv ρ' (ren σ r) := by
    rw [rv_ren, rv_ren]
    simp only [List.all_eq_true, List.contains_iff_mem] at hr
    exact rv_congr _ fun b hb => (hold b (hr b hb)).symm
  rw [e1, e2]
  exact calls_keep con σ hfit' hr hcl hgr hw
end
section
variable {P : Program} {ops : Array Oper} {Q : Exit → Act → World → Prop} {tl : Nat → Bool} {T T' : World → Prop}
/-- what an operation waits for -/
def depsOf (ops : Array Oper) (j : Nat) : List Nat := ((ops[j]?).map fun o => (o.after.toList.filter fun e => Region.binds .any e).map (·.on)).getD []
def dedup : List Nat → List Nat
  | [] => []
  | x :: r => match (dedup r).elem x with
    | true => dedup r
    | false => x :: dedup r
theorem mem_dedup {x : Nat} : ∀ {l : List Nat}, x ∈ dedup l → x ∈ l
  | [], h => h
  | y :: r, h => by
    simp only [dedup] at h
    split at h
    · exact List.mem_cons_of_mem _ (mem_dedup h)
    · rcases List.mem_cons.1 h with h | h
      · exact h ▸ List.mem_cons_self
      · exact List.mem_cons_of_mem _ (mem_dedup h)
def ancs (ops : Array Oper) : Nat → List Nat → List Nat
  | 0, l => l
  | n + 1, l => ancs ops n (dedup (l ++ l.flatMap (depsOf ops)))
/-- what has come was free to come -/
def DC (ops : Array Oper) (listed : Array Bool) : Prop := ∀ k, listed.getD k false = true → ∀ i ∈ depsOf ops k, listed.getD i false = true
theorem ancs_listed {listed : Array Bool} (hd : DC ops listed) : ∀ (n : Nat) (l : List Nat), (∀ x ∈ l, listed.getD x false = true) → ∀ x ∈ ancs ops n l, listed.getD x false = true
  | 0, _, h => h
  | n + 1, l, h => ancs_listed hd n _ fun x hx => by
    rcases List.mem_append.1 (mem_dedup hx) with h1 | h1
    · exact h x h1
    · obtain ⟨y, hy, hxy⟩ := List.mem_flatMap.1 h1
      exact hd y (h y hy) x hxy
theorem ready_deps {listed : Array Bool} {j : Nat} (hj : j ∈ Region.ready .any ops listed) : ∀ i ∈ depsOf ops j, listed.getD i false = true := by
  obtain ⟨_, o, ho, hall⟩ := mem_ready.1 hj
  intro i hi
  simp only [depsOf, ho, Option.map_some, Option.getD_some, List.mem_map, List.mem_filter] at hi
  obtain ⟨e, ⟨he, hb⟩, rfl⟩ := hi
  exact hall e (by simpa using he) hb
theorem DC.set {listed : Array Bool} {j : Nat} (hd : DC ops listed) (hj : j ∈ Region.ready .any ops listed) : DC ops (listed.setIfInBounds j true) := by
  intro k hk i hi
  refine getD_set_true ?_
  by_cases e : j = k
  · subst e; exact ready_deps hj i hi
  · exact hd k (by rwa [getD_set_ne false e] at hk) i hi
theorem DC.start (m : Nat) : DC ops (Array.replicate m false) := by
  intro k hk
  exfalso
  rcases Nat.lt_or_ge k m with h | h
  · simp [h] at hk
  · rw [Array.getD_eq_getD_getElem?, Array.getElem?_eq_none (by simpa using h)] at hk
    cases hk
/-- what looks at no memory -/
def pureOp (ops : Array Oper) (i : Nat) : Bool := match (ops[i]?).map (fun o : Oper => (o.guard.isNone, o.op)) with
  | some (_, Op.extract _ _) => true
  | some (true, Op.move _) => true
  | some (true, Op.slice _ _ lo hi _) => lo.isSome || hi.isSome
  | some (true, Op.binOp .add _ _ _ _) => true
  | _ => false
/-- the tail's operations wait for all others that may look at memory -/
def tailB (ops : Array Oper) (tl : Nat → Bool) : Bool := (List.range ops.size).all fun j => match tl j with
  | false => true
  | true => let A := ancs ops 14 (depsOf ops j); (List.range ops.size).all fun i => tl i || pureOp ops i || A.elem i
theorem tail_waits {listed : Array Bool} {i j : Nat} (h : tailB ops tl = true) (hdc : DC ops listed) (hj : j ∈ Region.ready .any ops listed) (ht : tl j = true) (hi : i < ops.size) (hti : tl i = false) (hpu : pureOp ops i = false) : listed.getD i false = true := by
  have hjs : j < ops.size := by obtain ⟨_, o, ho, _⟩ := mem_ready.1 hj; exact (Array.getElem?_eq_some_iff.1 ho).1
  simp only [tailB, List.all_eq_true, List.mem_range] at h
  have h1 := h j hjs
  rw [ht] at h1
  simp only [List.all_eq_true, List.mem_range, Bool.or_eq_true] at h1
  rcases h1 i hi with (h2 | h2) | h2
  · rw [hti] at h2; cases h2
  · rw [hpu] at h2; cases h2
  · exact ancs_listed hdc 14 _ (ready_deps hj) i (by simpa using h2)
theorem wpOp_quiet {i : Nat} {o : Oper} {v : Value} {a : Act} {w : World} {K : Act → World → Prop} (hi : ops[i]? = some o) (hy : YieldsIn P ops T o v a) (hT : T w) (h : ∀ w', T w' → K (a.put o.dst v) w') : wpOp P ops Q i K a w := by
  unfold wpOp
  simp only [hi]
  rcases hy with ⟨hw, hq⟩ | ⟨hw, rfl⟩
  · simp only [hw, if_true]
    refine .inl ?_
    have h1 := hq w hT
    unfold Oper.quietAt at h1
    unfold Oper.wp
    generalize (execOp a.eval o).run P w = r at *
    cases r with
    | ok n w' =>
      cases n <;> simp only [Oper.quietUpon] at h1 <;> simp only [Oper.upon]
      case value u => obtain ⟨rfl, rfl⟩ := h1; exact h _ hT
      case skip => obtain ⟨rfl, e⟩ := h1; rw [← e]; exact h _ hT
      case enter f args => obtain ⟨rfl, hc⟩ := h1; exact hc.mono fun e w'' ⟨he, hw''⟩ => by subst he; exact h _ hw''
    | halt x w' => simp only [Oper.quietUpon] at h1
  · simp only [hw, Bool.false_eq_true, if_false]; exact h _ hT
/-- operation i has its value before j comes: j does as it does behind it -/
theorem wpOp_swap {Y : Act → Prop} {j : Nat} {oi oj : Oper} {v : Value} (hj : ops[j]? = some oj) (hap : oi.apart ops oj = true) (hsi : ∀ cs b, oi.op ≠ .select cs b) (hsj : ∀ cs b, oj.op ≠ .select cs b)
    (hQ : ∀ ch a w, ¬ Q (.panic ch) a w) {K : Act → World → Prop} {a : Act} {w : World} (hy : ∀ a a', Y a → execOp a'.eval oi = execOp a.eval oi → Region.wanted oi (yielded ops a'.tmps) = Region.wanted oi (yielded ops a.tmps) → Y a') (hya : Y a) (h : wpOp P ops Q j K (a.put oi.dst v) w) :
    wpOp P ops Q j (fun a' w' => Y a' ∧ K (a'.put oi.dst v) w') a w := by
  obtain ⟨h1, h2, h3⟩ := Oper.apart_spec hap
  have keep : ∀ u, Y (a.put oj.dst u) := fun u => hy a _ hya (execOp_put oi hsi a oj.dst u h3) (wanted_put oi a oj.dst u h3)
  unfold wpOp at h ⊢
  simp only [hj] at h ⊢
  rw [wanted_put oj a oi.dst v h1] at h
  split
  · rename_i hw
    rw [if_pos hw] at h
    have he := execOp_put oj hsj a oi.dst v h1
    rcases h with h | ⟨h4, h5⟩
    · left
      unfold Oper.wp at h ⊢
      rw [he] at h
      generalize (execOp a.eval oj).run P w = r at *
      cases r with
      | ok n w' =>
        cases n <;> simp only [Oper.upon] at h ⊢
        case value u => exact ⟨keep u, by rw [← Act.put_comm a v u h2]; exact h⟩
        case skip => exact ⟨keep _, by rw [← Act.put_comm a v undef h2]; exact h⟩
        case defer d =>
          refine ⟨hy { a with defers := d :: a.defers } _ (hy a _ hya rfl rfl) (execOp_put oi hsi _ oj.dst _ h3) (wanted_put oi _ oj.dst _ h3), ?_⟩
          rw [← Act.put_comm _ v undef h2, ← Act.put_defers]
          exact h
        case enter f args =>
          refine h.mono fun e w'' he => ?_
          cases e with
          | returned u => exact ⟨keep u, by rw [← Act.put_comm a v u h2]; exact he⟩
          | panicked ch => exact absurd he (hQ _ _ _)
          | outgrown => exact he
        case row row args => exact h.mono fun u w'' he => ⟨keep u, by rw [← Act.put_comm a v u h2]; exact he⟩
      | halt x w' =>
        cases x <;> simp only [Oper.upon] at h ⊢
        case panic u => exact absurd h (hQ _ _ _)
    · right
      refine ⟨?_, h5⟩
      unfold Oper.asks at h4 ⊢
      rwa [he] at h4
  · rename_i hw
    rw [if_neg hw] at h
    exact ⟨keep _, by rw [← Act.put_comm a v undef h2]; exact h⟩
end
section
variable {c : Cx} {ρ0 : Nat → Nat} {w0 : World} {ops : Array Oper} {Q : Exit → Act → World → Prop} {tl : Nat → Bool}
/-- whichever order comes -/
def anyU (c : Cx) (ρ0 : Nat → Nat) (w0 : World) (ops : Array Oper) (Q : Exit → Act → World → Prop) (tl : Nat → Bool) : Nat → Array Bool → Act → (Nat → Nat) → Hp → Prop
  | 0, listed, a, ρ, H => Region.ready .any ops listed = [] ∧ ∀ w, CC c ρ0 w0 ρ H w → Q .normal a w
  | m + 1, listed, a, ρ, H => (Region.ready .any ops listed = [] → ∀ w, CC c ρ0 w0 ρ H w → Q .normal a w) ∧
    ∀ i ∈ Region.ready .any ops listed, ∀ w, CC c ρ0 w0 ρ H w → wpOp c.P ops Q i (fun a' w' => (tl i = true ∧ wpAny c.P .any ops Q m (listed.setIfInBounds i true) a' w') ∨
      (tl i = false ∧ ∃ ρ' H', Ext c ρ H ρ' H' ∧ CC c ρ0 w0 ρ' H' w' ∧ anyU c ρ0 w0 ops Q tl m (listed.setIfInBounds i true) a' ρ' H')) a w
theorem anyU_sound : ∀ (m : Nat) (listed : Array Bool) (a : Act) (ρ : Nat → Nat) (H : Hp) (w : World), CC c ρ0 w0 ρ H w → anyU c ρ0 w0 ops Q tl m listed a ρ H → wpAny c.P .any ops Q m listed a w
  | 0, _, _, _, _, w, hw, h => ⟨h.1, h.2 w hw⟩
  | m + 1, _, _, _, _, w, hw, h => ⟨fun h0 => h.1 h0 w hw, fun i hi => wpOp_mono (fun a' w' h' => by
    rcases h' with ⟨_, h'⟩ | ⟨_, ρ', H', _, hw', h'⟩
    · exact h'
    · exact anyU_sound m _ a' ρ' H' w' hw' h') (h.2 i hi w hw)⟩
/-- operation o yields v in all greater heaps -/
def YX (c : Cx) (ρ0 : Nat → Nat) (w0 : World) (ops : Array Oper) (o : Oper) (v : Value) (ρ : Nat → Nat) (H : Hp) (a : Act) : Prop :=
  (Region.wanted o (yielded ops a.tmps) = true ∧ ∀ ρ' H', Ext c ρ H ρ' H' → ∀ w, CC c ρ0 w0 ρ' H' w → o.quietAt c.P a (CC c ρ0 w0 ρ' H') w v) ∨
  (Region.wanted o (yielded ops a.tmps) = false ∧ v = undef)
theorem YX.same {o : Oper} {v : Value} {ρ : Nat → Nat} {H : Hp} (a a' : Act) (h : YX c ρ0 w0 ops o v ρ H a) (he : execOp a'.eval o = execOp a.eval o) (hw : Region.wanted o (yielded ops a'.tmps) = Region.wanted o (yielded ops a.tmps)) : YX c ρ0 w0 ops o v ρ H a' := by
  unfold YX Oper.quietAt at *
  rw [he, hw]
  exact h
theorem YX.ext {o : Oper} {v : Value} {ρ ρ' : Nat → Nat} {H H' : Hp} {a : Act} (h : YX c ρ0 w0 ops o v ρ H a) (hx : Ext c ρ H ρ' H') : YX c ρ0 w0 ops o v ρ' H' a :=
  h.imp (fun ⟨h1, h2⟩ => ⟨h1, fun ρ2 H2 hx2 => h2 ρ2 H2 (hx.trans hx2)⟩) id
theorem YX.yields {o : Oper} {v : Value} {ρ : Nat → Nat} {H : Hp} {a : Act} (h : YX c ρ0 w0 ops o v ρ H a) : YieldsIn c.P ops (CC c ρ0 w0 ρ H) o v a :=
  h.imp (fun ⟨h1, h2⟩ => ⟨h1, h2 ρ H .refl⟩) id
theorem unl {listed : Array Bool} {i : Nat} (h0 : listed.getD i true = false) (h1 : listed.getD i false = true) : False := by
  rcases Nat.lt_or_ge i listed.size with h' | h'
  · simp [h'] at h0 h1; rw [h0] at h1; cases h1
  · simp [Array.getElem?_eq_none h'] at h1
theorem anyU_take {i : Nat} {oi : Oper} {v : Value} (hi : ops[i]? = some oi) (hs : Region.noSelect ops = true) (hti : tl i = false) (hpu : pureOp ops i = false) (htl : tailB ops tl = true) (hQ : ∀ ch a w, ¬ Q (.panic ch) a w) : ∀ (m : Nat) (listed : Array Bool) (a : Act) (ρ : Nat → Nat) (H : Hp), DC ops listed →
    (∀ j oj, ops[j]? = some oj → j ≠ i → listed.getD j true = false → (∀ e ∈ oj.after, Region.binds .any e = true → e.on ≠ i) → oi.apart ops oj = true) → i ∈ Region.ready .any ops listed → YX c ρ0 w0 ops oi v ρ H a →
    anyU c ρ0 w0 ops Q tl m (listed.setIfInBounds i true) (a.put oi.dst v) ρ H → anyU c ρ0 w0 ops Q tl (m + 1) listed a ρ H := by
  have his : i < ops.size := (Array.getElem?_eq_some_iff.1 hi).1
  have nsel := Region.noSelect_spec hs
  intro m
  induction m with
  | zero =>
    intro listed a ρ H hdc _ hr hy h
    refine ⟨fun h => by rw [h] at hr; (cases hr), fun j hj w hw => ?_⟩
    by_cases hji : j = i
    · subst hji; exact wpOp_quiet hi hy.yields hw fun w' hw' => .inr ⟨hti, ρ, H, .refl, hw', h⟩
    · have := ready_mono hj hji
      rw [h.1] at this
      cases this
  | succ m ih =>
    intro listed a ρ H hdc hfree hr hy h
    refine ⟨fun h => by rw [h] at hr; (cases hr), fun j hj w hw => ?_⟩
    by_cases hji : j = i
    · subst hji; exact wpOp_quiet hi hy.yields hw fun w' hw' => .inr ⟨hti, ρ, H, .refl, hw', h⟩
    · have hjt : tl j = false := by
        cases ht : tl j
        · rfl
        · exact (unl (mem_ready.1 hr).1 (tail_waits htl hdc hj ht his hti hpu)).elim
      obtain ⟨hjun, oj, hoj, hall⟩ := mem_ready.1 hj
      have hnot : ∀ e ∈ oj.after, Region.binds .any e = true → e.on ≠ i := fun e he hb heq => by
        have h1 := hall e he hb
        rw [heq] at h1
        exact unl (mem_ready.1 hr).1 h1
      have hfree' : ∀ k ok, ops[k]? = some ok → k ≠ i → (listed.setIfInBounds j true).getD k true = false → (∀ e ∈ ok.after, Region.binds .any e = true → e.on ≠ i) → oi.apart ops ok = true := fun k ok hk hki hun hno => by
        refine hfree k ok hk hki ?_ hno
        by_cases hjk : j = k
        · subst hjk; exact hjun
        · rw [getD_set_ne true hjk] at hun; exact hun
      have h1 := h.2 j (ready_mono hj hji) w hw
      have h2 := wpOp_swap (Y := YX c ρ0 w0 ops oi v ρ H) hoj (hfree j oj hoj hji hjun hnot) (fun cs b => nsel i oi cs b hi) (fun cs b => nsel j oj cs b hoj) hQ YX.same hy h1
      refine wpOp_mono (fun a' w' ⟨hy', hk⟩ => .inr ⟨hjt, ?_⟩) h2
      rcases hk with ⟨hjt', _⟩ | ⟨_, ρ', H', hx, hw', hk⟩
      · rw [hjt] at hjt'; cases hjt'
      · refine ⟨ρ', H', hx, hw', ih (listed.setIfInBounds j true) a' ρ' H' (hdc.set hj) hfree' (ready_mono hr (Ne.symm hji)) (hy'.ext hx) ?_⟩
        rw [Array.setIfInBounds_comm _ _ hji]
        exact hk
theorem wpOp_yields {i : Nat} {o : Oper} {v : Value} {a : Act} {w : World} {K : Act → World → Prop} (hi : ops[i]? = some o) (hy : Yields c.P ops o v a) (h : K (a.put o.dst v) w) : wpOp c.P ops Q i K a w := by
  unfold wpOp
  simp only [hi]
  rcases hy with ⟨hw, hq⟩ | ⟨hw, rfl⟩
  · simp only [hw, if_true]
    exact .inl (by simp only [Oper.wp, hq w, Oper.upon]; exact h)
  · simp only [hw, Bool.false_eq_true, if_false]; exact h
theorem anyU_takeP {i : Nat} {oi : Oper} {v : Value} (hi : ops[i]? = some oi) (hs : Region.noSelect ops = true) (hti : tl i = false) (hQ : ∀ ch a w, ¬ Q (.panic ch) a w) : ∀ (m : Nat) (listed : Array Bool) (a : Act) (ρ : Nat → Nat) (H : Hp),
    (∀ j oj, ops[j]? = some oj → j ≠ i → listed.getD j true = false → (∀ e ∈ oj.after, Region.binds .any e = true → e.on ≠ i) → oi.apart ops oj = true) → i ∈ Region.ready .any ops listed → Yields c.P ops oi v a →
    anyU c ρ0 w0 ops Q tl m (listed.setIfInBounds i true) (a.put oi.dst v) ρ H → anyU c ρ0 w0 ops Q tl (m + 1) listed a ρ H := by
  have nsel := Region.noSelect_spec hs
  intro m
  induction m with
  | zero =>
    intro listed a ρ H _ hr hy h
    refine ⟨fun h => by rw [h] at hr; (cases hr), fun j hj w hw => ?_⟩
    by_cases hji : j = i
    · subst hji; exact wpOp_yields hi hy (.inr ⟨hti, ρ, H, .refl, hw, h⟩)
    · have := ready_mono hj hji
      rw [h.1] at this
      cases this
  | succ m ih =>
    intro listed a ρ H hfree hr hy h
    refine ⟨fun h => by rw [h] at hr; (cases hr), fun j hj w hw => ?_⟩
    by_cases hji : j = i
    · subst hji; exact wpOp_yields hi hy (.inr ⟨hti, ρ, H, .refl, hw, h⟩)
    · obtain ⟨hjun, oj, hoj, hall⟩ := mem_ready.1 hj
      have hnot : ∀ e ∈ oj.after, Region.binds .any e = true → e.on ≠ i := fun e he hb heq => by
        have h1 := hall e he hb
        rw [heq] at h1
        exact unl (mem_ready.1 hr).1 h1
      have hfree' : ∀ k ok, ops[k]? = some ok → k ≠ i → (listed.setIfInBounds j true).getD k true = false → (∀ e ∈ ok.after, Region.binds .any e = true → e.on ≠ i) → oi.apart ops ok = true := fun k ok hk hki hun hno => by
        refine hfree k ok hk hki ?_ hno
        by_cases hjk : j = k
        · subst hjk; exact hjun
        · rw [getD_set_ne true hjk] at hun; exact hun
      have h1 := h.2 j (ready_mono hj hji) w hw
      have h2 := wpOp_swap (Y := fun a => Yields c.P ops oi v a) hoj (hfree j oj hoj hji hjun hnot) (fun cs b => nsel i oi cs b hi) (fun cs b => nsel j oj cs b hoj) hQ
        (fun a a' h he hw => by unfold Yields at *; rw [he, hw]; exact h) hy h1
      refine wpOp_mono (fun a' w' ⟨hy', hk⟩ => ?_) h2
      rcases hk with ⟨hjt, hk⟩ | ⟨hjt, ρ', H', hx, hw', hk⟩
      · refine .inl ⟨hjt, wpAny_first hi nsel (fun ch a w h => absurd h (hQ _ _ _)) m _ _ _ hfree' (ready_mono hr (Ne.symm hji)) hy' ?_⟩
        rw [Array.setIfInBounds_comm _ _ hji]
        exact hk
      · refine .inr ⟨hjt, ρ', H', hx, hw', ih (listed.setIfInBounds j true) a' ρ' H' hfree' (ready_mono hr (Ne.symm hji)) hy' ?_⟩
        rw [Array.setIfInBounds_comm _ _ hji]
        exact hk
end
/-! ### on states -/
def np (Q : Exit → Act → World → Prop) : Exit → Act → World → Prop := fun e a w => (∀ ch, e ≠ .panic ch) ∧ Q e a w
def npP (Q : Post) : Post := fun e s => (∀ ch, e ≠ .panic ch) ∧ Q e s
theorem npN {Q : Post} {s : S} (h : Q .normal s) : npP Q .normal s := ⟨fun _ h => (by cases h), h⟩
def AW (c : Cx) (ops : Array Oper) (tl : Nat → Bool) (Q : Post) (m : Nat) (listed : Array Bool) (s : S) : Prop :=
  ∀ ρ0 w0, GR c.gl c.D ρ0 → ∀ ρ a, FR c ρ s.F a → WF c s → (∀ b ∈ c.D, ρ b = ρ0 b) → DC ops listed → anyU c ρ0 w0 ops (np (Lift c ρ0 w0 Q)) tl m listed a ρ s.H
section
variable {c : Cx} {s : S} {Q : Post} {ops : Array Oper} {tl : Nat → Bool} {m : Nat} {listed : Array Bool}
theorem CW_any {id : Nat} {l : List Oper} (tl : Nat → Bool) (m : Nat) (hsz : l.toArray.size = m) (hm : c.P.follows .mixedOrders = true) (hst : (Region.noSelect l.toArray && tailB l.toArray tl) = true)
    (h : (Region.noSelect l.toArray && tailB l.toArray tl) = true → AW c l.toArray tl Q m (Array.replicate m false) s) : CW c (.region id l.toArray true) Q s := by
  subst hsz
  have h := h hst
  intro ρ0 w0 hg ρ a w hs
  refine Code.wp_mono (fun e a w h => h.2) (wp_region_any (Q := np (Lift c ρ0 w0 Q)) hm ?_)
  exact anyU_sound (c := c) (tl := tl) _ _ _ _ _ _ hs.cc.drew (h ρ0 w0 hg ρ a hs.fr hs.wf hs.cc.inv.fix (DC.start _))
theorem AW_done (hr : Region.ready .any ops listed = []) (h : Q .normal s) : AW c ops tl Q m listed s := by
  intro ρ0 w0 hg ρ a hf hwf hfix hdc
  have : ∀ w, CC c ρ0 w0 ρ s.H w → np (Lift c ρ0 w0 Q) .normal a w := fun w hw => ⟨fun _ h => by (cases h), s, ρ, h, hw, hf, hwf⟩
  cases m with
  | zero => exact ⟨hr, this⟩
  | succ m => exact ⟨fun _ => this, by rw [hr]; simp⟩
theorem AW_take {i : Nat} {o : Oper} {v : V} (hi : ops[i]? = some o) (hs : Region.noSelect ops = true) (htl : (!tl i && !pureOp ops i && tailB ops tl) = true) (hf : (Region.free .any ops listed i && (Region.ready .any ops listed).contains i) = true) (hg : o.guard = none) (hq : QX c o s v) (hN : okDst c.N o.dst = true)
    (hsc : sc s.n v.ids = true) (h : AW c ops tl Q m (listed.setIfInBounds i true) (s.put o.dst v)) : AW c ops tl Q (m + 1) listed s := by
  intro ρ0 w0 hgr ρ a hfr hwf hfix hdc
  simp only [Bool.and_eq_true, Bool.not_eq_true'] at htl hf
  refine anyU_take hi hs htl.1.1 htl.1.2 htl.2 (fun ch a w h => h.1 ch rfl) m listed a ρ s.H hdc (Region.free_spec hi hf.1) (by simpa using hf.2) (.inl ⟨by simp [Region.wanted, hg], fun ρ' H' hx w hw => hq ρ0 w0 hgr ρ a hfr hfix ρ' H' hx w hw⟩) ?_
  have := h ρ0 w0 hgr ρ _ (hfr.put' o.dst v _ (okDst_lt hN) (.inr rfl)) (hwf.put o.dst v hsc) hfix (hdc.set (by simpa using hf.2))
  rwa [put_H] at this
/-- an operation that makes blocks, and leaves the old ones -/
def GOp (c : Cx) (o : Oper) (s : S) (K : S → Prop) : Prop :=
  ∀ ρ0 w0, GR c.gl c.D ρ0 → ∀ ρ a, FR c ρ s.F a → WF c s → (∀ b ∈ c.D, ρ b = ρ0 b) → ∀ w, CC c ρ0 w0 ρ s.H w → ∀ Q, o.wp c.P a w (fun a' w' => ∃ s' ρ', K s' ∧ FR c ρ' s'.F a' ∧ WF c s' ∧ CC c ρ0 w0 ρ' s'.H w' ∧ Ext c ρ s.H ρ' s'.H) Q
theorem GOp_new {o : Oper} {k : Blk} {v : V} (hN : okDst c.N o.dst = true) (hn : Nat.blt s.n 1000 = true) (hk : sc s.n k.ids = true) (hv : sc (s.n + 1) v.ids = true) (run : NewRun c s o k v) :
    GOp c o s (fun s' => s' = S.put { F := s.F, H := (s.n, k) :: s.H, n := s.n + 1 } o.dst v) := by
  intro ρ0 w0 hgr ρ a hf hwf hfix w hw Q
  have h1000 : s.n < 1000 := by simpa [Nat.blt_eq] using hn
  obtain ⟨ob, w', hb, hwh, hsm, hr⟩ := run ρ0 ρ a w0 w hgr hfix hf hw hwf
  have hst := (St.push ⟨hw, hf, hwf⟩ h1000 hk hb hwh hsm).put o.dst v _ (okDst_lt hN) (.inr rfl) hv
  unfold Oper.wp
  rw [hr]
  simp only [Oper.upon]
  refine ⟨_, _, rfl, hst.fr, hst.wf, hst.cc, fun b k' hk' hd => ?_, fun b hb => ?_⟩
  · have hne : ∀ b', (b' < s.n ∨ 1000 ≤ b') → b' ≠ s.n := fun b' h => by omega
    have hbn : b ≠ s.n := fun e => by have := (hwf.fresh s.n (Nat.le_refl _) h1000).1; rw [← e, hk'] at this; cases this
    refine ⟨?_, by simp [up, hbn], fun b' hb' => by simp [up, hne b' (hwf.hs b k' hk' b' hb')]⟩
    rw [put_H, lkB_cons, if_neg (Ne.symm hbn)]; exact hk'
  · have : b ≠ s.n := fun e => (hwf.fresh s.n (Nat.le_refl _) h1000).2 (e ▸ hb)
    simp [up, this]
mutual
theorem ren_congr {τ τ' : Nat → Nat} : ∀ v : V, (∀ b ∈ v.ids, τ b = τ' b) → ren τ v = ren τ' v
  | .ptr b o, h => by simp [ren, h b (by simp [V.ids])]
  | .slice b o n c, h => by simp [ren, h b (by simp [V.ids])]
  | .tuple vs, h => by simp [ren, rens_congr vs (fun b hb => h b (by simpa [V.ids] using hb))]
  | .func f a c, h => by simp [ren, rens_congr a (fun b hb => h b (by simp [V.ids, hb])), rens_congr c (fun b hb => h b (by simp [V.ids, hb]))]
  | .agg vs, h => by simp [ren, rens_congr vs (fun b hb => h b (by simpa [V.ids] using hb))]
  | .bot, _ => by simp [ren]
  | .int _, _ => by simp [ren]
  | .bool _, _ => by simp [ren]
  | .arr _, _ => by simp [ren]
  | .nilsl, _ => by simp [ren]
  | .raw _, _ => by simp [ren]
theorem rens_congr {τ τ' : Nat → Nat} : ∀ vs : List V, (∀ b ∈ idss vs, τ b = τ' b) → rens τ vs = rens τ' vs
  | [], _ => by simp [rens]
  | v :: r, h => by simp [rens, ren_congr v (fun b hb => h b (by simp [idss, hb])), rens_congr r (fun b hb => h b (by simp [idss, hb]))]
end
theorem Blk.ren_congr {τ τ' : Nat → Nat} (k : Blk) (h : ∀ b ∈ k.ids, τ b = τ' b) : k.ren τ = k.ren τ' := by
  cases k <;> simp only [Blk.ren]
  rw [rens_congr _ (fun b hb => h b (by simpa [Blk.ids] using hb))]
theorem GOp_callv {dst : Option Tmp} {ty : TypeId} {pos : String} {af : Array Edge} {op : Op} {f : Nat} {vs args0 : List V} {gl' : List (Nat × Nat)} {H0 : Hp} {R : V → Hp → Prop}
    (run : ∀ ρ0 ρ a w, GR c.gl c.D ρ0 → (∀ b ∈ c.D, ρ b = ρ0 b) → FR c ρ s.F a → (execOp a.eval ⟨dst, op, ty, pos, af, none⟩).run c.P w = .ok (.enter f (rvs ρ vs).toArray) w)
    (con : Con c.P gl' f args0 H0 R) (σ : Nat → Nat) (M : Nat) (hargs : vs = rens σ args0) (hfit : Fits c s σ gl' H0) (hcl : closedB H0 = true) (hM : Nat.ble (s.n + M) 1000 = true) (hN : okDst c.N dst = true) (h : ∀ r H1, R r H1 → scM H0 M r H1 = true ∧ ∀ b ∈ ids H0, lkB H1 b = lkB H0 b) :
    GOp c ⟨dst, op, ty, pos, af, none⟩ s (fun s' => ∃ r H1, R r H1 ∧ s' = (after H0 σ M s H1).put dst (ren (σ' H0 σ s.n) r)) := by
  intro ρ0 w0 hgr ρ a hf hwf hfix w hw Q
  have hM' : s.n + M ≤ 1000 := Nat.le_of_ble_eq_true hM
  unfold Oper.wp
  rw [run ρ0 ρ a w hgr hfix hf]
  simp only [Oper.upon]
  obtain ⟨hpre, hgl⟩ := hfit.pre hgr hw
  have hc := con.2 _ w hpre hgl
  rw [hargs, rvs_rens]
  refine hc.mono ?_
  rintro e w' ⟨r, H1, ρ1, hR, rfl, hr1, hi1⟩
  obtain ⟨hsc, hkeep⟩ := h r H1 hR
  obtain ⟨ρ', hs', hv, hscv, hold⟩ := St.called ⟨hw, hf, hwf⟩ hfit hM' hsc hr1 hi1
  have hst := hs'.put dst _ _ (okDst_lt hN) (.inr hv.symm) hscv
  refine ⟨_, ρ', ⟨r, H1, hR, rfl⟩, hst.fr, hst.wf, hst.cc, fun b k hk hd => ?_, fun b hb => hold b fun h => (hwf.fresh b h.1 (by omega)).2 hb⟩
  have hnf : ¬ (s.n ≤ b ∧ b < s.n + M) := fun hb => by have := (hwf.fresh b hb.1 (by omega)).1; rw [hk] at this; cases this
  refine ⟨?_, hold b hnf, fun b' hb' => hold b' fun h => by have := hwf.hs b k hk b' hb'; omega⟩
  rw [put_H]
  simp only [after, lkB_append]
  split
  · rename_i k' hk'
    obtain ⟨b1, k1, g1, g2, g3⟩ := lkB_map hk'
    by_cases h0 : b1 ∈ ids H0
    · have hk1 : lkB H0 b1 = some k1 := by rw [← hkeep b1 h0]; exact g1
      have hb : b = σ b1 := by rw [g2]; simp [σ', h0]
      have e1 := vH_lk hfit.hp hk1
      rw [← hb, hk] at e1
      injection e1 with e1
      simp only [closedB, List.all_eq_true, List.contains_iff_mem] at hcl
      rw [g3, e1]
      congr 1
      exact Blk.ren_congr k1 fun b' hb' => by simp [σ', hcl _ (lkB_mem hk1) b' hb']
    · simp only [scM, Bool.and_eq_true, List.all_eq_true, Bool.or_eq_true, Nat.blt_eq, List.contains_iff_mem] at hsc
      have := (hsc.1.2 _ (lkB_mem g1)).1
      rcases this with h1 | h1
      · exact absurd h1 h0
      · exact absurd (by rw [g2]; simp only [σ', List.contains_iff_mem, h0, if_false]; exact ⟨by omega, by omega⟩) hnf
  · exact hk
/-- whichever comes of those that may -/
def GStep (c : Cx) (ops : Array Oper) (tl : Nat → Bool) (Q : Post) (m : Nat) (listed : Array Bool) (s : S) (i : Nat) : Prop :=
  ∃ o K, ops[i]? = some o ∧ o.guard = none ∧ tl i = false ∧ GOp c o s K ∧ ∀ s', K s' → AW c ops tl Q m (listed.setIfInBounds i true) s'
theorem AW_any {rs : List Nat} (hr : Region.ready .any ops listed = rs) (hne : rs ≠ []) (h : ∀ i ∈ rs, GStep c ops tl Q m listed s i) : AW c ops tl Q (m + 1) listed s := by
  intro ρ0 w0 hgr ρ a hf hwf hfix hdc
  refine ⟨fun h0 => absurd (hr ▸ h0) hne, fun i hi w hw => ?_⟩
  obtain ⟨o, K, ho, hg, ht, hG, hk⟩ := h i (hr ▸ hi)
  unfold wpOp
  simp only [ho]
  rw [if_pos (by simp [Region.wanted, hg])]
  refine .inl (Oper.wp_mono (fun a' w' h' => ?_) (hG ρ0 w0 hgr ρ a hf hwf hfix w hw _))
  obtain ⟨s', ρ', hK, hf', hwf', hw', hx⟩ := h'
  exact .inr ⟨ht, ρ', s'.H, hx, hw', hk s' hK ρ0 w0 hgr ρ' a' hf' hwf' hw'.inv.fix (hdc.set hi)⟩
theorem AW_one {i : Nat} (hr : Region.ready .any ops listed = [i]) (h : GStep c ops tl Q m listed s i) : AW c ops tl Q (m + 1) listed s := AW_any hr (by simp) (by simpa using h)
theorem AW_two {i j : Nat} (hr : Region.ready .any ops listed = [i, j]) (h : GStep c ops tl Q m listed s i) (h' : GStep c ops tl Q m listed s j) : AW c ops tl Q (m + 1) listed s := AW_any hr (by simp) (by simpa using ⟨h, h'⟩)
/-- the tail, in its order -/
def chainB (ops : Array Oper) (tl : Nat → Bool) : List Nat → Array Bool → Bool
  | [], listed => (Region.ready .any ops listed).isEmpty
  | i :: r, listed => (Region.ready .any ops listed == [i]) && tl i && chainB ops tl r (listed.setIfInBounds i true)
theorem tail_any {P : Program} {Q : Exit → Act → World → Prop} : ∀ (is : List Nat) (l : List Oper) (listed : Array Bool) (a : Act) (w : World), is.map (ops[·]?) = l.map some → chainB ops tl is listed = true → wpList P ops Q l a w → wpAny P .any ops Q is.length listed a w
  | [], [], listed, a, w, _, hc, h => ⟨by simpa [chainB] using hc, h⟩
  | [], _ :: _, _, _, _, hm, _, _ => by simp at hm
  | _ :: _, [], _, _, _, hm, _, _ => by simp at hm
  | i :: is, o :: l, listed, a, w, hm, hc, h => by
    simp only [List.map_cons, List.cons.injEq] at hm
    simp only [chainB, Bool.and_eq_true, beq_iff_eq] at hc
    refine ⟨fun h0 => by rw [hc.1.1] at h0; (cases h0), fun j hj => ?_⟩
    rw [hc.1.1] at hj
    obtain rfl : j = i := by simpa using hj
    unfold wpOp
    simp only [hm.1]
    unfold wpList at h
    split
    · rename_i hw
      rw [if_pos hw] at h
      exact h.imp (Oper.wp_mono fun a' w' h' => tail_any is l _ a' w' hm.2 hc.2 h') id
    · rename_i hw
      rw [if_neg hw] at h
      exact tail_any is l _ _ _ hm.2 hc.2 h
theorem wpList_mono {P : Program} {Q Q' : Exit → Act → World → Prop} (hq : ∀ e a w, Q e a w → Q' e a w) (hl : LetsOut Q → LetsOut Q') : ∀ (l : List Oper) (a : Act) (w : World), wpList P ops Q l a w → wpList P ops Q' l a w
  | [], a, w, h => hq _ _ _ h
  | o :: l, a, w, h => by
    unfold wpList at h ⊢
    split
    · rename_i hw
      rw [if_pos hw] at h
      refine h.imp (fun h => ?_) fun h => ⟨h.1, hl h.2⟩
      unfold Oper.wp at h ⊢
      generalize (execOp a.eval o).run P w = r at *
      cases r with
      | ok n w' =>
        cases n <;> simp only [Oper.upon] at h ⊢ <;> first | exact wpList_mono hq hl l _ _ h | skip
        case enter f args =>
          refine h.mono fun e w'' he => ?_
          cases e with
          | returned u => exact wpList_mono hq hl l _ _ he
          | panicked ch => exact hq _ _ _ he
          | outgrown => exact hl he
        case row row args => exact h.mono fun u w'' he => wpList_mono hq hl l _ _ he
      | halt x w' => cases x <;> simp only [Oper.upon] at h ⊢ <;> exact hq _ _ _ h
    · rename_i hw
      rw [if_neg hw] at h
      exact wpList_mono hq hl l _ _ h
theorem AW_tail {is : List Nat} {l : List Oper} (hm : is.map (ops[·]?) = l.map some) (hc : chainB ops tl is listed = true) (hn : is.length = m) (h : OW c ops (npP Q) l s) : AW c ops tl Q m listed s := by
  subst hn
  intro ρ0 w0 hgr ρ a hf hwf hfix hdc
  have key : ∀ w, CC c ρ0 w0 ρ s.H w → wpList c.P ops (np (Lift c ρ0 w0 Q)) l a w := fun w hw =>
    wpList_mono (Q := Lift c ρ0 w0 (npP Q)) (fun e a w h => by obtain ⟨s', ρ', hq, hs'⟩ := h; exact ⟨hq.1, s', ρ', hq.2, hs'⟩) (fun h => by obtain ⟨a, w, s', ρ', hq, hs'⟩ := h; exact ⟨a, w, hq.1, s', ρ', hq.2, hs'⟩) l a w (h ρ0 w0 hgr ρ a w ⟨hw, hf, hwf⟩)
  cases is with
  | nil =>
    cases l with
    | nil => exact ⟨by simpa [chainB] using hc, fun w hw => key w hw⟩
    | cons o l => simp at hm
  | cons i is =>
    cases l with
    | nil => simp at hm
    | cons o l =>
      simp only [List.map_cons, List.cons.injEq] at hm
      simp only [chainB, Bool.and_eq_true, beq_iff_eq] at hc
      refine ⟨fun h0 => by rw [hc.1.1] at h0; (cases h0), fun j hj w hw => ?_⟩
      rw [hc.1.1] at hj
      obtain rfl : j = i := by simpa using hj
      have hk := key w hw
      unfold wpOp
      simp only [hm.1]
      unfold wpList at hk
      split
      · rename_i hwt
        rw [if_pos hwt] at hk
        exact hk.imp (Oper.wp_mono fun a' w' h' => .inl ⟨hc.1.2, tail_any is l _ a' w' hm.2 hc.2 h'⟩) id
      · rename_i hwt
        rw [if_neg hwt] at hk
        exact .inl ⟨hc.1.2, tail_any is l _ _ _ hm.2 hc.2 hk⟩
theorem AW_three {i j k : Nat} (hr : Region.ready .any ops listed = [i, j, k]) (h : GStep c ops tl Q m listed s i) (h' : GStep c ops tl Q m listed s j) (h'' : GStep c ops tl Q m listed s k) : AW c ops tl Q (m + 1) listed s := AW_any hr (by simp) (by simpa using ⟨h, h', h''⟩)
theorem AW_last (is : List Nat) (hm : (is.all fun i => (ops[i]?).isSome) = true) (hc : chainB ops tl is listed = true) (hn : is.length = m) (h : OW c ops (npP Q) (is.filterMap (ops[·]?)) s) : AW c ops tl Q m listed s := by
  refine AW_tail ?_ hc hn h
  clear hc hn h
  induction is with
  | nil => rfl
  | cons i is ih =>
    simp only [List.all_cons, Bool.and_eq_true] at hm
    obtain ⟨o, ho⟩ := Option.isSome_iff_exists.1 hm.1
    simp only [List.map_cons, List.filterMap_cons, ho, ih hm.2]
/-! ### over states written out -/
theorem NE_move {dst : Option Tmp} {x : Operand} {ty : TypeId} {pos : String} {af : Array Edge} {g : Option (Nat × Bool)} : NE ⟨dst, .move x, ty, pos, af, g⟩ := fun ev P w f args w' h => by simp [execOp] at h
theorem NE_assign {dst : Option Tmp} {x : Operand} {ty : TypeId} {pos : String} {af : Array Edge} {g : Option (Nat × Bool)} : NE ⟨dst, .assign x, ty, pos, af, g⟩ := fun ev P w f args w' h => by simp [execOp] at h
theorem NE_load {dst : Option Tmp} {t : TypeId} {x : Operand} {ty : TypeId} {pos : String} {af : Array Edge} {g : Option (Nat × Bool)} : NE ⟨dst, .load t x, ty, pos, af, g⟩ := fun ev P w f args w' h => ne_v h
theorem NE_bin {dst : Option Tmp} {op : BinOp} {t t' : TypeId} {x y : Operand} {ty : TypeId} {pos : String} {af : Array Edge} {g : Option (Nat × Bool)} : NE ⟨dst, .binOp op t x y t', ty, pos, af, g⟩ := fun ev P w f args w' h => ne_v h
theorem NE_ix {dst : Option Tmp} {t : TypeId} {x y : Operand} {ty : TypeId} {pos : String} {af : Array Edge} {g : Option (Nat × Bool)} : NE ⟨dst, .indexAddr t x y, ty, pos, af, g⟩ := fun ev P w f args w' h => ne_v h
theorem NE_slice {dst : Option Tmp} {t : TypeId} {x : Operand} {a b d : Option Operand} {ty : TypeId} {pos : String} {af : Array Edge} {g : Option (Nat × Bool)} : NE ⟨dst, .slice t x a b d, ty, pos, af, g⟩ := fun ev P w f args w' h => ne_v h
theorem NE_build {dst : Option Tmp} {t : TypeId} {ps : Array (Nat × Operand)} {ty : TypeId} {pos : String} {af : Array Edge} {g : Option (Nat × Bool)} : NE ⟨dst, .build t ps, ty, pos, af, g⟩ := fun ev P w f args w' h => ne_v h
theorem NE_len {dst : Option Tmp} {x : Array Operand} {ats : Array TypeId} {ty : TypeId} {pos : String} {af : Array Edge} {g : Option (Nat × Bool)} : NE ⟨dst, .call ⟨.builtin .len, x, ats⟩, ty, pos, af, g⟩ := fun ev P w f args w' h => by
  simp only [execOp, resolve, invoke, builtin, Sem.run_bind, Sem.run_pure, Result.andThen_ok] at h
  cases hb : (Builtin.len_ ats ty (x.map ev)).run P w <;> rw [hb] at h <;> simp [Result.andThen] at h
end
section
variable {c : Cx} {Q : Post} {F : Fr} {H : Hp} {n : Nat} {ops : Array Oper} {tl : Nat → Bool} {m : Nat} {listed : Array Bool} {d : Nat} {op : Op} {ty : TypeId} {pos : String} {af : Array Edge} {v : V}
theorem QX_call {s : S} {dst : Option Tmp} {g : Option (Nat × Bool)} {f : Nat} {xs : List Operand} {ats : Array TypeId} {vs args0 : List V} {gl' : List (Nat × Nat)} {H0 : Hp} {r : V}
    (con : ConQ c.P gl' f args0 H0 r) (σ : List (Nat × Nat)) (hx : evs c s.F xs = some vs) (hargs : vs = rens (ap σ) args0) (hfit : Fits c s (ap σ) gl' H0) (hr : (r.ids.all fun b => (ids H0).contains b) = true) (hcl : closedB H0 = true) (hin : ((idss args0).all fun b => (ids H0).contains b) = true) :
    QX c ⟨dst, .call ⟨.value (.func f), xs.toArray, ats⟩, ty, pos, af, g⟩ s (ren (ap σ) r) := QX_callv (fun _ _ _ _ hg hfix hf => run_call rfl con.1 hg hfix hf hx) con (ap σ) hargs hfit hr hcl hin
theorem QX_call0 {s : S} {dst : Option Tmp} {g : Option (Nat × Bool)} {f : Nat} {xs : List Operand} {ats : Array TypeId} {vs : List V} {r : V} (con : ConQ c.P [] f vs [] r) (hx : evs c s.F xs = some vs) (hids : idss vs = []) (hr : r.ids = []) :
    QX c ⟨dst, .call ⟨.value (.func f), xs.toArray, ats⟩, ty, pos, af, g⟩ s r := by
  have := QX_call (c := c) (s := s) (dst := dst) (ty := ty) (pos := pos) (af := af) (g := g) (ats := ats) con [] hx (rens_id _ _ (fun b hb => by rw [hids] at hb; simp at hb)).symm ⟨trivial, rfl, by simp [ids], by simp⟩ (by simp [hr]) rfl (by simp [hids])
  rwa [ren_id _ r (fun b hb => by rw [hr] at hb; simp at hb)] at this
theorem aQ (i : Nat) (hst : (Region.noSelect ops && tailB ops tl) = true) (hi : ops[i]? = some ⟨some d, op, ty, pos, af, none⟩) (ht : (tl i || pureOp ops i) = false) (hf : (Region.free .any ops listed i && (Region.ready .any ops listed).contains i) = true) (hq : QX c ⟨some d, op, ty, pos, af, none⟩ ⟨F, H, n⟩ v) (hN : Nat.blt d c.N = true)
    (hsc : sc n v.ids = true) (h : AW c ops tl Q m (listed.setIfInBounds i true) ⟨(d, v) :: F, H, n⟩) : AW c ops tl Q (m + 1) listed ⟨F, H, n⟩ := by
  simp only [Bool.and_eq_true] at hst
  simp only [Bool.or_eq_false_iff] at ht
  exact AW_take hi hst.1 (by simp [ht, hst.2]) hf rfl hq hN hsc h
/-- products and remainders under names of their own -/
theorem aMul (i : Nat) {t t' : TypeId} {x y : Operand} {p k : Int} (hst : (Region.noSelect ops && tailB ops tl) = true) (hi : ops[i]? = some ⟨some d, .binOp .mul t x y t', ty, pos, af, none⟩) (ht : (tl i || pureOp ops i) = false) (hf : (Region.free .any ops listed i && (Region.ready .any ops listed).contains i) = true) (A B : Int)
    (hx : ev c F x = some (.int p)) (hy : ev c F y = some (.int k)) (ha : -A ≤ p ∧ p ≤ A) (hb : -B ≤ k ∧ k ≤ B) (hAB : A * B ≤ 9223372036854775807) (hN : Nat.blt d c.N = true)
    (h : ∀ z, z = p * k → -(A * B) ≤ z → z ≤ A * B → AW c ops tl Q m (listed.setIfInBounds i true) ⟨(d, .int z) :: F, H, n⟩) : AW c ops tl Q (m + 1) listed ⟨F, H, n⟩ := by
  have hm := mul_bds ha.1 ha.2 hb.1 hb.2
  exact aQ i hst hi ht hf (QX_of (Q_binu hx hy rfl (by omega)) NE_bin) hN rfl (h _ rfl hm.1 hm.2)
theorem aMulN (i : Nat) {t t' : TypeId} {x y : Operand} {p k : Int} (hst : (Region.noSelect ops && tailB ops tl) = true) (hi : ops[i]? = some ⟨some d, .binOp .mul t x y t', ty, pos, af, none⟩) (ht : (tl i || pureOp ops i) = false) (hf : (Region.free .any ops listed i && (Region.ready .any ops listed).contains i) = true) (A B : Int)
    (hx : ev c F x = some (.int p)) (hy : ev c F y = some (.int k)) (ha : 0 ≤ p ∧ p ≤ A) (hb : 0 ≤ k ∧ k ≤ B) (hAB : A * B ≤ 9223372036854775807) (hN : Nat.blt d c.N = true)
    (h : ∀ z, z = p * k → 0 ≤ z → z ≤ A * B → AW c ops tl Q m (listed.setIfInBounds i true) ⟨(d, .int z) :: F, H, n⟩) : AW c ops tl Q (m + 1) listed ⟨F, H, n⟩ := by
  have hm := mulN_bds ha.1 ha.2 hb.1 hb.2
  exact aQ i hst hi ht hf (QX_of (Q_binu hx hy rfl (by omega)) NE_bin) hN rfl (h _ rfl hm.1 hm.2)
/-- a part of an answer -/
theorem aP (i : Nat) {op : Op} (hst : (Region.noSelect ops && tailB ops tl) = true) (hi : ops[i]? = some ⟨some d, op, ty, pos, af, none⟩) (ht : tl i = false) (hf : (Region.free .any ops listed i && (Region.ready .any ops listed).contains i) = true)
    (hq : PX c ⟨some d, op, ty, pos, af, none⟩ ⟨F, H, n⟩ v) (hN : Nat.blt d c.N = true) (hsc : sc n v.ids = true) (h : AW c ops tl Q m (listed.setIfInBounds i true) ⟨(d, v) :: F, H, n⟩) : AW c ops tl Q (m + 1) listed ⟨F, H, n⟩ := by
  intro ρ0 w0 hgr ρ a hfr hwf hfix hdc
  simp only [Bool.and_eq_true] at hst hf
  refine anyU_takeP hi hst.1 ht (fun ch a w h => h.1 ch rfl) m listed a ρ H (Region.free_spec hi hf.1) (by simpa using hf.2) (v := rv ρ v) (.inl ⟨by simp [Region.wanted], fun w => hq ρ0 hgr ρ a hfr hfix w⟩) ?_
  exact h ρ0 w0 hgr ρ _ (hfr.put' (some d) v _ (okDst_lt (d := some d) hN) (.inr rfl)) (hwf.put (some d) v hsc) hfix (hdc.set (by simpa using hf.2))
theorem aExt (i : Nat) {x : Operand} {k : Nat} {vs : List V} (hst : (Region.noSelect ops && tailB ops tl) = true) (hi : ops[i]? = some ⟨some d, .extract x k, ty, pos, af, none⟩) (ht : tl i = false) (hf : (Region.free .any ops listed i && (Region.ready .any ops listed).contains i) = true)
    (hx : ev c F x = some (.tuple vs)) (hk : vs[k]? = some v) (hN : Nat.blt d c.N = true) (hsc : sc n v.ids = true) (h : AW c ops tl Q m (listed.setIfInBounds i true) ⟨(d, v) :: F, H, n⟩) : AW c ops tl Q (m + 1) listed ⟨F, H, n⟩ := by
  intro ρ0 w0 hgr ρ a hfr hwf hfix hdc
  simp only [Bool.and_eq_true] at hst hf
  have hv : (rvs ρ vs)[k]? = some (rv ρ v) := by rw [rvs_eq_map]; simp [hk]
  refine anyU_takeP hi hst.1 ht (fun ch a w h => h.1 ch rfl) m listed a ρ H (Region.free_spec hi hf.1) (by simpa using hf.2) (v := rv ρ v) (.inl ⟨by simp [Region.wanted], fun w => by simp [execOp, ev_rv hgr hfix hfr hx (by simp), rv, Instr.extract, hv]⟩) ?_
  exact h ρ0 w0 hgr ρ _ (hfr.put' (some d) v _ (okDst_lt (d := some d) hN) (.inr rfl)) (hwf.put (some d) v hsc) hfix (hdc.set (by simpa using hf.2))
theorem gBsl {i0 : Nat} {t : TypeId} {ps : List (Nat × Operand)} {vs : List (Nat × V)} {zl r : List Int} {i ie : TI} {e len sz : Nat} (hi : ops[i0]? = some ⟨some d, .buildSlice t len ps.toArray, ty, pos, af, none⟩) (htl : tl i0 = false) (ht : lkT c.T t = some i) (hd : i.d = .slice e) (he : lkT c.T e = some ie) (hs : ie.size = sz)
    (hz : ie.z = some (.int 0) ∧ sz = 1 ∨ ie.z = some (.arr zl) ∧ zl = List.replicate sz 0 ∧ 0 < sz) (hp : evp c F ps = some vs) (hr : fillI sz (List.replicate (len * sz) 0) vs = some r) (hok : okParts sz (len * sz) vs = true) (hlim : Nat.ble (len * sz) 16777216 = true)
    (hN : Nat.blt d c.N = true) (hn : Nat.blt n 1000 = true) (h : AW c ops tl Q m (listed.setIfInBounds i0 true) ⟨(d, .slice n 0 len len) :: F, (n, .ints e r) :: H, n + 1⟩) : GStep c ops tl Q m listed ⟨F, H, n⟩ i0 :=
  ⟨_, _, hi, rfl, htl, GOp_new (k := .ints e r) (v := .slice n 0 len len) hN hn rfl (by simp [sc, V.ids, Nat.blt_eq]) (nr_bsl ht hd he hs hz hp hr hok (Nat.le_of_ble_eq_true hlim)), fun s' e => by subst e; exact h⟩
theorem gBsl1 {i0 : Nat} {t : TypeId} {ps : List (Nat × Operand)} {l : List Int} {i ie : TI} {e sz : Nat} (hl : l.length = sz) (hi : ops[i0]? = some ⟨some d, .buildSlice t 1 ps.toArray, ty, pos, af, none⟩) (htl : tl i0 = false) (ht : lkT c.T t = some i) (hd : i.d = .slice e) (he : lkT c.T e = some ie) (hs : ie.size = sz) (hz : ie.z = some (.arr (List.replicate sz 0))) (h0 : Nat.blt 0 sz = true)
    (hp : evp c F ps = some [(0, .arr l)]) (hlim : Nat.ble sz 16777216 = true) (hN : Nat.blt d c.N = true) (hn : Nat.blt n 1000 = true) (h : AW c ops tl Q m (listed.setIfInBounds i0 true) ⟨(d, .slice n 0 1 1) :: F, (n, .ints e l) :: H, n + 1⟩) : GStep c ops tl Q m listed ⟨F, H, n⟩ i0 := by
  have e1 : fillI sz (List.replicate (1 * sz) 0) [(0, V.arr l)] = some l := by simp only [fillI, Nat.one_mul, Nat.zero_mul, putI_all hl]
  exact gBsl hi htl ht hd he hs (.inr ⟨hz, rfl, by simpa [Nat.blt_eq] using h0⟩) hp e1 (by simp [okParts, hl]) (by simpa using hlim) hN hn h
theorem gAlloc {i0 : Nat} {t : TypeId} {i : TI} {k0 : Blk} (hi : ops[i0]? = some ⟨some d, .alloc t, ty, pos, af, none⟩) (htl : tl i0 = false) (ht : lkT c.T t = some i) (hz : i.z = some v) (ho : one v = true) (hk : mkBlk t v = k0) (hN : Nat.blt d c.N = true) (hn : Nat.blt n 1000 = true) (hsc : sc n k0.ids = true)
    (h : AW c ops tl Q m (listed.setIfInBounds i0 true) ⟨(d, .ptr n 0) :: F, (n, k0) :: H, n + 1⟩) : GStep c ops tl Q m listed ⟨F, H, n⟩ i0 := by
  subst hk
  exact ⟨_, _, hi, rfl, htl, GOp_new (k := mkBlk t v) (v := .ptr n 0) hN hn hsc (by simp [sc, V.ids, Nat.blt_eq]) (nr_alloc ht hz ho), fun s' e => by subst e; exact h⟩
theorem keep_pre (H0 N : Hp) : ∀ b ∈ ids H0, lkB (H0 ++ N) b = lkB H0 b := fun b hb => by
  obtain ⟨k, hk⟩ := mem_ids_of hb
  rw [lkB_append, hk]
theorem gCall {i0 f : Nat} {xs : List Operand} {ats : Array TypeId} {vs args0 : List V} {gl' : List (Nat × Nat)} {H0 : Hp} {R : V → Hp → Prop} (hi : ops[i0]? = some ⟨some d, .call ⟨.value (.func f), xs.toArray, ats⟩, ty, pos, af, none⟩) (htl : tl i0 = false)
    (con : Con c.P gl' f args0 H0 R) (σ : List (Nat × Nat)) (M : Nat) (hx : evs c F xs = some vs) (hargs : vs = rens (ap σ) args0) (hfit : Fits c ⟨F, H, n⟩ (ap σ) gl' H0) (hcl : closedB H0 = true) (hM : Nat.ble (n + M) 1000 = true) (hN : Nat.blt d c.N = true)
    (h : ∀ r H1, R r H1 → ∃ v' Hn, scM H0 M r H1 = true ∧ (∀ b ∈ ids H0, lkB H1 b = lkB H0 b) ∧ ren (σ' H0 (ap σ) n) r = v' ∧ (H1.map fun x => (σ' H0 (ap σ) n x.1, x.2.ren (σ' H0 (ap σ) n))) = Hn ∧ AW c ops tl Q m (listed.setIfInBounds i0 true) ⟨(d, v') :: F, Hn ++ H, n + M⟩) :
    GStep c ops tl Q m listed ⟨F, H, n⟩ i0 := by
  refine ⟨_, _, hi, rfl, htl, GOp_callv (fun _ _ _ _ hg hfix hf => run_call rfl con.1 hg hfix hf hx) con (ap σ) M hargs hfit hcl hM hN (fun r H1 hR => ?_), ?_⟩
  · obtain ⟨_, _, h1, h2, _⟩ := h r H1 hR; exact ⟨h1, h2⟩
  · rintro s' ⟨r, H1, hR, rfl⟩
    obtain ⟨v', Hn, _, _, rfl, rfl, h3⟩ := h r H1 hR
    exact h3
end
end Go.Proofs.Ytoiolpgmilobnaa
namespace Go.Proofs.Ytoiolpgmilobnaa
set_option linter.unusedVariables false
theorem run_eqSlNil {P : Program} {t e : TypeId} (hu : P.underlying t = some (.slice e)) (d : Nat) (a : Addr) (n k : Nat) (w : World) : (Op.equalIn (d + 1) t (.slice (some a) n k) (.slice none 0 0)).run P w = .ok false w := by
  simp [Op.equalIn, run_underlying hu]
theorem guard_sl {P : Program} (op : BinOp) (t : TypeId) (x y : Operand) (a b : Option Addr) (n k n' k' : Nat) (w : World) : (eqGuard op t x y (.slice a n k) (.slice b n' k')).run P w = .ok () w := by
  cases op <;> rfl
theorem Q_eqnil {c : Cx} {s : S} {dst : Option Tmp} {ty : TypeId} {pos : String} {af : Array Edge} {gd : Option (Nat × Bool)} {x y : Operand} {t t' e : TypeId} {b o n k : Nat} {i : TI} (ht : lkT c.T t = some i) (hd : i.d = .slice e) (hx : ev c s.F x = some (.slice b o n k)) (hy : ev c s.F y = some .nilsl) :
    QOp c ⟨dst, .binOp .eql t x y t', ty, pos, af, gd⟩ s (.bool false) := by
  intro ρ0 w0 hg ρ a hf hfix w hw
  refine quiet_val ?_
  have ex := ev_rv hg hfix hf hx (by simp)
  have ey := ev_rv hg hfix hf hy (by simp)
  have hu := (c.tok t i ht).1
  rw [hd] at hu
  simp only [execOp, ex, ey, rv, guard_sl, binOp, Op.equal, Op.maxDepth, Sem.run_bind, Sem.run_pure, Result.andThen_ok, run_eqSlNil hu 9999]
  try rfl
end Go.Proofs.Ytoiolpgmilobnaa
