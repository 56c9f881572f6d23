/- What the last text of PolarTriangle needs, part 2: contracts of functions and plain mathematics. No conditions beyond those each theorem states. -/
import Derived.ChangeKeysEq
import Derived.Laws.StructEq
import Derived.Test.YtoiolpgmilobnaaBPolarTriangleA
namespace Go.Proofs.Ytoiolpgmilobnaa
def nb : V → Bool
  | .bot => false
  | _ => true
theorem ne_bot {v : V} (h : nb v = true) : v ≠ .bot := by rintro rfl; simp [nb] at h
/-- int64 wraparound -/
def wr (z : Int) : Int := IntKind.i64.wrap z
theorem wr_in {z : Int} (h : -9223372036854775808 ≤ z ∧ z ≤ 9223372036854775807) : wr z = z := by
  have e : (2 : Int) ^ 64 = 18446744073709551616 := by decide
  have e' : (2 : Int) ^ 63 = 9223372036854775808 := by decide
  simp only [wr, IntKind.wrap, IntKind.bits, IntKind.signed, e, Bool.true_and, ge_iff_le, decide_eq_true_eq, Nat.add_one_sub_one, e']
  split <;> omega
section
variable {c : Cx} {s : S} {dst : Option Tmp} {ty : TypeId} {pos : String} {af : Array Edge} {g : Option (Nat × Bool)}
theorem quiet_val {o : Oper} {a : Act} {C : World → Prop} {w : World} {x : Value} (h : (execOp a.eval o).run c.P w = .ok (.value x) w) : o.quietAt c.P a C w x := by
  unfold Oper.quietAt; rw [h]; exact ⟨rfl, rfl⟩
theorem Q_move {x : Operand} {v : V} (h : ev c s.F x = some v) (hv : nb v = true) : QOp c ⟨dst, .move x, ty, pos, af, g⟩ s v := by
  intro ρ0 w0 hg ρ a hf hfix w hw
  refine quiet_val ?_
  simp [execOp, ev_rv hg hfix hf h (ne_bot hv)]
theorem Q_assign {x : Operand} {v : V} (h : ev c s.F x = some v) (hv : nb v = true) : QOp c ⟨dst, .assign x, ty, pos, af, g⟩ s v := by
  intro ρ0 w0 hg ρ a hf hfix w hw
  refine quiet_val ?_
  simp [execOp, ev_rv hg hfix hf h (ne_bot hv)]
theorem Q_pick {x y z : Operand} {t : Bool} {v u : V} (hx : ev c s.F x = some (.bool t)) (hy : t = true → ev c s.F y = some u) (hz : t = false → ev c s.F z = some u) (hv : u = v) (hn : nb v = true) :
    QOp c ⟨dst, .pick x y z, ty, pos, af, g⟩ s v := by
  subst hv
  intro ρ0 w0 hg ρ a hf hfix w hw
  refine quiet_val ?_
  have ex := ev_rv hg hfix hf hx (by simp)
  cases t
  · simp [execOp, ex, rv, asBool, ev_rv hg hfix hf (hz rfl) (ne_bot hn)]
  · simp [execOp, ex, rv, asBool, ev_rv hg hfix hf (hy rfl) (ne_bot hn)]
theorem Q_pick_t {x y z : Operand} {v u : V} (hx : ev c s.F x = some u) (hu : u = .bool true) (hy : ev c s.F y = some v) (hn : nb v = true) : QOp c ⟨dst, .pick x y z, ty, pos, af, g⟩ s v :=
  Q_pick (hu ▸ hx) (fun _ => hy) (fun h => by simp at h) rfl hn
theorem Q_pick_f {x y z : Operand} {v u : V} (hx : ev c s.F x = some u) (hu : u = .bool false) (hz : ev c s.F z = some v) (hn : nb v = true) : QOp c ⟨dst, .pick x y z, ty, pos, af, g⟩ s v :=
  Q_pick (hu ▸ hx) (fun h => by simp at h) (fun _ => hz) rfl hn
def arith : BinOp → Int → Int → Option V
  | .add, a, b => some (.int (wr (a + b)))
  | .sub, a, b => some (.int (wr (a - b)))
  | .mul, a, b => some (.int (wr (a * b)))
  | .eql, a, b => some (.bool (a == b))
  | .neq, a, b => some (.bool (a != b))
  | .lss, a, b => some (.bool (decide (a < b)))
  | .leq, a, b => some (.bool (decide (a ≤ b)))
  | .gtr, a, b => some (.bool (decide (a > b)))
  | .geq, a, b => some (.bool (decide (a ≥ b)))
  | _, _, _ => none
theorem Q_bin {op : BinOp} {x y : Operand} {t t' : TypeId} {m n : Int} {v : V} (hx : ev c s.F x = some (.int m)) (hy : ev c s.F y = some (.int n)) (h : arith op m n = some v) :
    QOp c ⟨dst, .binOp op t x y t', ty, pos, af, g⟩ s v := by
  intro ρ0 w0 hg ρ a hf hfix w hw
  refine quiet_val ?_
  have ex := ev_rv hg hfix hf hx (by simp)
  have ey := ev_rv hg hfix hf hy (by simp)
  cases op <;> simp only [arith] at h <;> first | (cases h; done) | (injection h with h; subst h; simp [execOp, ex, ey, rv, eqGuard_at_int, binOp, Op.intArith, Op.intCmp, wr])
/-- sums, differences, products that stay in range -/
def arithU : BinOp → Int → Int → Option Int
  | .add, a, b => some (a + b)
  | .sub, a, b => some (a - b)
  | .mul, a, b => some (a * b)
  | _, _, _ => none
theorem Q_binu {op : BinOp} {x y : Operand} {t t' : TypeId} {m n z : Int} (hx : ev c s.F x = some (.int m)) (hy : ev c s.F y = some (.int n)) (h : arithU op m n = some z)
    (hr : -9223372036854775808 ≤ z ∧ z ≤ 9223372036854775807) : QOp c ⟨dst, .binOp op t x y t', ty, pos, af, g⟩ s (.int z) := by
  have e : arith op m n = some (.int (wr z)) := by
    cases op <;> simp only [arithU] at h <;> first | (cases h; done) | (injection h with h; subst h; rfl)
  rw [wr_in hr] at e
  exact Q_bin hx hy e
theorem Q_rem {x y : Operand} {t t' : TypeId} {m n : Int} (hx : ev c s.F x = some (.int m)) (hy : ev c s.F y = some (.int n)) (h : n ≠ 0) :
    QOp c ⟨dst, .binOp .rem t x y t', ty, pos, af, g⟩ s (.int (m.tmod n)) := by
  intro ρ0 w0 hg ρ a hf hfix w hw
  refine quiet_val ?_
  simp [execOp, ev_rv hg hfix hf hx (by simp), ev_rv hg hfix hf hy (by simp), rv, eqGuard_at_int, binOp, Op.intDiv, h]
/-- '==', '!=' on bools -/
def boolB : BinOp → Bool → Bool → Option Bool
  | .eql, a, b => some (a == b)
  | .neq, a, b => some (a != b)
  | _, _, _ => none
theorem run_sizeOf' {P : Program} {T : TT} (tok : TOK P T) {t : Nat} {i : TI} (h : lkT T t = some i) (w : World) : (sizeOf t).run P w = .ok i.size w := by
  obtain ⟨_, ⟨j, hj, hs, _⟩, _⟩ := tok t i h
  simp [sizeOf, typeInfo, hj, hs]
theorem cellsOf_tok {P : Program} {T : TT} (tok : TOK P T) {t : Nat} {i : TI} (h : lkT T t = some i) : P.cellsOf t = i.size := by
  obtain ⟨_, ⟨j, hj, hs, _⟩, _⟩ := tok t i h
  simp [Program.cellsOf, hj, hs]
def aggD : TypeDesc → Bool
  | .struct _ => true
  | .array _ _ => true
  | _ => false
theorem run_isAgg' {P : Program} {T : TT} (tok : TOK P T) {t : Nat} {i : TI} (h : lkT T t = some i) (w : World) :
    (isAgg t).run P w = .ok (aggD i.d) w := by
  have hu := (tok t i h).1
  simp only [isAgg, Sem.run_bind, run_underlying hu, Result.andThen_ok]
  cases i.d <;> simp [aggD]
/-- '==' on two arrays of int64 numbers -/
theorem run_eqInts {P : Program} {T : TT} (tok : TOK P T) {e : Nat} {ie : TI} (he : lkT T e = some ie) (hed : ie.d = .int .i64) (hes : ie.size = 1) (l m : List Int) (hlm : l.length = m.length) (d : Nat) (w : World) :
    ∀ (n k : Nat), k + n = l.length → (Op.eqItems (d + 1) e 1 (icells l) (icells m) (List.range' k n)).run P w = .ok (decide (l.drop k = m.drop k)) w
  | 0, k, h => by
    have h1 : l.drop k = [] := List.drop_eq_nil_of_le (by omega)
    have h2 : m.drop k = [] := List.drop_eq_nil_of_le (by omega)
    simp [Op.eqItems, h1, h2]
  | n + 1, k, h => by
    have ih := run_eqInts tok he hed hes l m hlm d w n (k + 1) (by omega)
    have hu := (tok e ie he).1
    rw [hed] at hu
    have hag : (isAgg e).run P w = .ok false w := by rw [run_isAgg' tok he, hed]; rfl
    have hl : l[k]? = some l[k] := List.getElem?_eq_getElem (by omega)
    have hm : m[k]? = some m[k] := List.getElem?_eq_getElem (by omega)
    have hdl : l.drop k = l[k] :: l.drop (k + 1) := List.drop_eq_getElem_cons (by omega)
    have hdm : m.drop k = m[k] :: m.drop (k + 1) := List.drop_eq_getElem_cons (by omega)
    generalize l[k] = u at *
    generalize m[k] = v at *
    have p1 : (part e (icells l) (k * 1)).run P w = .ok (.int .i64 u) w := by simp [part, hag, icells, hl]
    have p2 : (part e (icells m) (k * 1)).run P w = .ok (.int .i64 v) w := by simp [part, hag, icells, hm]
    have p3 : (Op.equalIn (d + 1) e (.int .i64 u) (.int .i64 v)).run P w = .ok (u == v) w := by simp [Op.equalIn, run_underlying hu]
    simp only [List.range'_succ, Op.eqItems, Sem.run_bind, p1, p2, p3, Result.andThen_ok]
    by_cases e' : u = v
    · simp only [e', BEq.rfl, Bool.not_true, Bool.false_eq_true, if_false, ih]
      congr 1
      simp [hdl, hdm, e']
    · have e2 : (u == v) = false := by simpa using e'
      simp only [e2, Bool.not_false, if_true, Sem.run_pure]
      congr 1
      simp [hdl, hdm, e']
theorem run_eqArr {P : Program} {T : TT} (tok : TOK P T) {t e n : Nat} {it ie : TI} (ht : lkT T t = some it) (htd : it.d = .array n e) (he : lkT T e = some ie) (hed : ie.d = .int .i64) (hes : ie.size = 1)
    (l m : List Int) (hl : l.length = n) (hm : m.length = n) (w : World) : (Op.equalIn 10000 t (.agg (icells l)) (.agg (icells m))).run P w = .ok (decide (l = m)) w := by
  obtain ⟨hu, _⟩ := tok t it ht
  rw [htd] at hu
  obtain ⟨_, ⟨j, hj, hs, _⟩, _⟩ := tok e ie he
  rw [run_equalIn_array w 9999 _ _ hu hj, cellsOf_tok tok he, hes, List.range_eq_range']
  have := run_eqInts tok he hed hes l m (by omega) 9998 w n 0 (by omega)
  simpa using this
theorem Q_arrb {op : BinOp} {x y : Operand} {t t' e n : TypeId} {l m : List Int} {b : Bool} {it ie : TI} (ht : lkT c.T t = some it) (htd : it.d = .array n e) (htg : it.g = true) (he : lkT c.T e = some ie) (hed : ie.d = .int .i64) (hes : ie.size = 1)
    (hx : ev c s.F x = some (.arr l)) (hy : ev c s.F y = some (.arr m)) (h : boolB op (decide (l = m)) true = some b) (hl : l.length = n) (hm : m.length = n) :
    QOp c ⟨dst, .binOp op t x y t', ty, pos, af, g⟩ s (.bool b) := by
  intro ρ0 w0 hg ρ a hf hfix w hw
  refine quiet_val ?_
  have ex := ev_rv hg hfix hf hx (by simp)
  have ey := ev_rv hg hfix hf hy (by simp)
  have hgd := (c.tok t it ht).2.2 htg
  have hr := run_eqArr c.tok ht htd he hed hes l m hl hm w
  simp only [icells] at hr
  cases op <;> simp only [boolB] at h <;> first | (cases h; done) | skip
  · injection h with h; subst h
    simp only [execOp, ex, ey, rv, Sem.run_bind, run_eqGuard_agg w _ _ _ _ _ _ hgd, Result.andThen_ok, run_eql_struct, hr, Sem.run_pure, beq_true]
  · injection h with h; subst h
    simp only [execOp, ex, ey, rv, Sem.run_bind, run_eqGuard_agg w _ _ _ _ _ _ hgd, Result.andThen_ok, run_neq_struct, hr, Sem.run_pure]
    cases decide (l = m) <;> rfl
theorem Q_not {x : Operand} {t : TypeId} {b : Bool} (hx : ev c s.F x = some (.bool b)) : QOp c ⟨dst, .unOp .not t x, ty, pos, af, g⟩ s (.bool (!b)) := by
  intro ρ0 w0 hg ρ a hf hfix w hw
  refine quiet_val ?_
  simp [execOp, ev_rv hg hfix hf hx (by simp), rv, Op.unary]
/-- a conversion between array (or slice) types of one underlying type never is an operation of its own; a tuple's part is -/
theorem Q_extract {x : Operand} {k : Nat} {vs : List V} {v : V} (hx : ev c s.F x = some (.tuple vs)) (h : vs[k]? = some v) : QOp c ⟨dst, .extract x k, ty, pos, af, g⟩ s v := by
  intro ρ0 w0 hg ρ a hf hfix w hw
  refine quiet_val ?_
  have : (rvs ρ vs)[k]? = some (rv ρ v) := by rw [rvs_eq_map]; simp [h]
  simp [execOp, ev_rv hg hfix hf hx (by simp), rv, Instr.extract, this]
def evs (c : Cx) (F : Fr) : List Operand → Option (List V)
  | [] => some []
  | x :: r => match ev c F x with
    | none => none
    | some v => match nb v with
      | false => none
      | true => match evs c F r with
        | none => none
        | some vs => some (v :: vs)
theorem evs_rv {xs : List Operand} {vs : List V} {ρ0 ρ : Nat → Nat} {a : Act} (hg : GR c.gl c.D ρ0) (hfix : ∀ b ∈ c.D, ρ b = ρ0 b) (hf : FR c ρ s.F a) (h : evs c s.F xs = some vs) :
    xs.map a.eval = rvs ρ vs := by
  induction xs generalizing vs with
  | nil => simp only [evs] at h; injection h with h; subst h; rfl
  | cons x r ih =>
    simp only [evs] at h
    split at h
    · cases h
    · rename_i v hv
      split at h
      · cases h
      · rename_i hnb
        split at h
        · cases h
        · rename_i us hus
          injection h with h; subst h
          simp [rvs, ih hus, ev_rv hg hfix hf hv (ne_bot hnb)]
theorem Q_makeFunc {f : Nat} {first caps : List Operand} {us vs : List V} (h1 : evs c s.F first = some us) (h2 : evs c s.F caps = some vs) :
    QOp c ⟨dst, .makeFunc (.func f) first.toArray caps.toArray, ty, pos, af, g⟩ s (.func f us vs) := by
  intro ρ0 w0 hg ρ a hf hfix w hw
  refine quiet_val ?_
  simp [execOp, Instr.makeFunc, rv, evs_rv hg hfix hf h1, evs_rv hg hfix hf h2]
/-! #### len, cap -/
theorem Q_len {x : Operand} {t : TypeId} {ats : Array TypeId} {i : TI} {e b o n k : Nat} (hat : ats = #[t]) (ht : lkT c.T t = some i) (hd : i.d = .slice e) (hx : ev c s.F x = some (.slice b o n k)) :
    QOp c ⟨dst, .call ⟨.builtin .len, #[x], ats⟩, ty, pos, af, g⟩ s (.int n) := by
  subst hat
  intro ρ0 w0 hg ρ a hf hfix w hw
  refine quiet_val ?_
  have hu := (c.tok t i ht).1
  rw [hd] at hu
  simp [execOp, resolve, invoke, builtin, Builtin.len_, run_underlying hu, ev_rv hg hfix hf hx (by simp), rv, goInt]
theorem Q_len0 {x : Operand} {t : TypeId} {ats : Array TypeId} {i : TI} {e : Nat} (hat : ats = #[t]) (ht : lkT c.T t = some i) (hd : i.d = .slice e) (hx : ev c s.F x = some .nilsl) :
    QOp c ⟨dst, .call ⟨.builtin .len, #[x], ats⟩, ty, pos, af, g⟩ s (.int 0) := by
  subst hat
  intro ρ0 w0 hg ρ a hf hfix w hw
  refine quiet_val ?_
  have hu := (c.tok t i ht).1
  rw [hd] at hu
  simp [execOp, resolve, invoke, builtin, Builtin.len_, run_underlying hu, ev_rv hg hfix hf hx (by simp), rv, goInt]
/-! #### addresses -/
theorem add_none (b o n : Nat) : Addr.add ⟨b, o, none⟩ n = ⟨b, o + n, none⟩ := Addr.add_lit b o n
theorem Q_ixs {x y : Operand} {t : TypeId} {i ie : TI} {e b o n k : Nat} {j : Int} (ht : lkT c.T t = some i) (hd : i.d = .slice e) (he : lkT c.T e = some ie) (hx : ev c s.F x = some (.slice b o n k)) (hy : ev c s.F y = some (.int j))
    (h : 0 ≤ j ∧ j < n) : QOp c ⟨dst, .indexAddr t x y, ty, pos, af, g⟩ s (.ptr b (o + j.toNat * ie.size)) := by
  intro ρ0 w0 hg ρ a hf hfix w hw
  refine quiet_val ?_
  have hu := (c.tok t i ht).1
  rw [hd] at hu
  simp [execOp, Instr.indexAt, asIntOf, run_underlying hu, ev_rv hg hfix hf hx (by simp), ev_rv hg hfix hf hy (by simp), rv, h, run_sizeOf' c.tok he, add_none]
theorem Q_ixa {x y : Operand} {t : TypeId} {i ie : TI} {e n b o : Nat} {j : Int} (ht : lkT c.T t = some i) (hd : i.d = .array n e) (he : lkT c.T e = some ie) (hx : ev c s.F x = some (.ptr b o)) (hy : ev c s.F y = some (.int j))
    (h : 0 ≤ j ∧ j < n) : QOp c ⟨dst, .indexAddr t x y, ty, pos, af, g⟩ s (.ptr b (o + j.toNat * ie.size)) := by
  intro ρ0 w0 hg ρ a hf hfix w hw
  refine quiet_val ?_
  have hu := (c.tok t i ht).1
  rw [hd] at hu
  simp [execOp, Instr.indexAt, Instr.sureAddr, asIntOf, run_underlying hu, ev_rv hg hfix hf hx (by simp), ev_rv hg hfix hf hy (by simp), rv, h, run_sizeOf' c.tok he, add_none]
/-! #### cuts -/
def bnd (c : Cx) (F : Fr) (d : Nat) : Option Operand → Option Nat
  | none => some d
  | some x => match ev c F x with
    | some (.int (.ofNat n)) => some n
    | _ => none
theorem bnd_some {F : Fr} {d n : Nat} {o : Option Operand} (h : bnd c F d o = some n) : (o = none ∧ n = d) ∨ ∃ x, o = some x ∧ ev c F x = some (.int n) := by
  cases o with
  | none => simp only [bnd] at h; injection h with h; exact .inl ⟨rfl, h.symm⟩
  | some x =>
    simp only [bnd] at h
    split at h
    · rename_i m hm; injection h with h; subst h; exact .inr ⟨x, rfl, hm⟩
    · cases h
theorem run_bound {P : Program} {w : World} {n y : Nat} {code : BoundsCode} (h : n ≤ y) : (Instr.sliceBound (.int .i64 n) y code).run P w = .ok n w := by
  simp [Instr.sliceBound, asIntOf, h]
theorem run_bounds {ρ0 ρ : Nat → Nat} {a : Act} {lo hi mx : Option Operand} {l h m len cap : Nat} {isS : Bool} {w : World} (hg : GR c.gl c.D ρ0) (hfix : ∀ b ∈ c.D, ρ b = ρ0 b) (hf : FR c ρ s.F a)
    (hl : bnd c s.F 0 lo = some l) (hh : bnd c s.F len hi = some h) (hm : bnd c s.F cap mx = some m) (hmx : mx.isSome = true → hi.isSome = true) (h1 : l ≤ h) (h2 : h ≤ m) (h3 : m ≤ cap) :
    (Instr.sliceBounds isS len cap (lo.map a.eval) (hi.map a.eval) (mx.map a.eval)).run c.P w = .ok (l, h, m) w := by
  have key : ∀ {x : Operand} {n : Nat}, ev c s.F x = some (.int n) → a.eval x = .int .i64 n := fun hx => by rw [ev_rv hg hfix hf hx (by simp)]; rfl
  rcases bnd_some hm with ⟨rfl, rfl⟩ | ⟨xm, rfl, em⟩ <;> rcases bnd_some hh with ⟨rfl, rfl⟩ | ⟨xh, rfl, eh⟩ <;> rcases bnd_some hl with ⟨rfl, rfl⟩ | ⟨xl, rfl, el⟩
  all_goals
    clear hl hh hm
    try have el' := key el
    try have eh' := key eh
    try have em' := key em
    clear key
    first
    | (simp at hmx; done)
    | (clear hmx; simp [Instr.sliceBounds, *, run_bound]; done)
    | (clear hmx; simp [Instr.sliceBounds, *, run_bound h1, run_bound h2, run_bound h3])
theorem Q_sls {x : Operand} {t : TypeId} {lo hi mx : Option Operand} {i ie : TI} {e b o n k l h m : Nat} (ht : lkT c.T t = some i) (hd : i.d = .slice e) (he : lkT c.T e = some ie) (hx : ev c s.F x = some (.slice b o n k))
    (hl : bnd c s.F 0 lo = some l) (hh : bnd c s.F n hi = some h) (hm : bnd c s.F k mx = some m) (hmx : (mx.isSome = true → hi.isSome = true)) (hb : l ≤ h ∧ h ≤ m ∧ m ≤ k) :
    QOp c ⟨dst, .slice t x lo hi mx, ty, pos, af, g⟩ s (.slice b (if m = l then o else o + l * ie.size) (h - l) (m - l)) := by
  intro ρ0 w0 hg ρ a hf hfix w hw
  refine quiet_val ?_
  have hu := (c.tok t i ht).1
  rw [hd] at hu
  have hr := run_bounds (w := w) (isS := true) hg hfix hf hl hh hm hmx hb.1 hb.2.1 hb.2.2
  by_cases e' : m = l
  · simp [execOp, Instr.sliceAt, Instr.slice, run_underlying hu, ev_rv hg hfix hf hx (by simp), rv, hr, run_sizeOf' c.tok he, e']
  · simp [execOp, Instr.sliceAt, Instr.slice, run_underlying hu, ev_rv hg hfix hf hx (by simp), rv, hr, run_sizeOf' c.tok he, e', add_none]
theorem Q_sla {x : Operand} {t : TypeId} {lo hi mx : Option Operand} {i ie : TI} {e b o n l h m : Nat} (ht : lkT c.T t = some i) (hd : i.d = .array n e) (he : lkT c.T e = some ie) (hx : ev c s.F x = some (.ptr b o))
    (hl : bnd c s.F 0 lo = some l) (hh : bnd c s.F n hi = some h) (hm : bnd c s.F n mx = some m) (hmx : (mx.isSome = true → hi.isSome = true)) (hb : l ≤ h ∧ h ≤ m ∧ m ≤ n) :
    QOp c ⟨dst, .slice t x lo hi mx, ty, pos, af, g⟩ s (.slice b (if m = l then o else o + l * ie.size) (h - l) (m - l)) := by
  intro ρ0 w0 hg ρ a hf hfix w hw
  refine quiet_val ?_
  have hu := (c.tok t i ht).1
  rw [hd] at hu
  have hr := run_bounds (w := w) (isS := false) hg hfix hf hl hh hm hmx hb.1 hb.2.1 hb.2.2
  by_cases e' : m = l
  · simp [execOp, Instr.sliceAt, Instr.sureAddr, run_underlying hu, ev_rv hg hfix hf hx (by simp), rv, hr, run_sizeOf' c.tok he, e']
  · simp [execOp, Instr.sliceAt, Instr.sureAddr, run_underlying hu, ev_rv hg hfix hf hx (by simp), rv, hr, run_sizeOf' c.tok he, e', add_none]
/-! #### loads -/
theorem cell_ints {ρ0 ρ : Nat → Nat} {w0 w : World} {H : Hp} {b o t : Nat} {l : List Int} (hw : CC c ρ0 w0 ρ H w) (hb : lkB H b = some (.ints t l)) : w.cell? ⟨ρ b, o, none⟩ = (l[o]?).map (Value.int .i64) := by
  obtain ⟨ob, h1, h2⟩ := hw.hr.1 b _ hb (by simp)
  simp only [BR] at h2
  subst h2
  simp [World.cell?, h1, icells]
/-- one number -/
theorem Q_ld {x : Operand} {t t' : TypeId} {i : TI} {b o : Nat} {l : List Int} (ht : lkT c.T t = some i) (hd : i.d = .int .i64) (hx : ev c s.F x = some (.ptr b o)) (hb : lkB s.H b = some (.ints t' l)) (h : o < l.length) :
    QOp c ⟨dst, .load t x, ty, pos, af, g⟩ s (.int (l.getD o 0)) := by
  intro ρ0 w0 hg ρ a hf hfix w hw
  refine quiet_val ?_
  have hag : (isAgg t).run c.P w = .ok false w := by rw [run_isAgg' c.tok ht, hd]; try rfl
  have hc : w.cell? ⟨ρ b, o, none⟩ = some (.int .i64 (l.getD o 0)) := by rw [cell_ints hw hb]; simp [List.getD, List.getElem?_eq_getElem h]
  simp [execOp, Instr.loadAt, Instr.sureAddr, loadVar, hag, ev_rv hg hfix hf hx (by simp), rv, hc]
theorem run_loadInts {ρ0 ρ : Nat → Nat} {w0 w : World} {H : Hp} {b o n t t' : Nat} {l : List Int} {i : TI} (hw : CC c ρ0 w0 ρ H w) (hb : lkB H b = some (.ints t' l)) (ht : lkT c.T t = some i)
    (hd : aggD i.d = true) (hs : i.size = n) (h : o + n ≤ l.length) : (loadVar t ⟨ρ b, o, none⟩).run c.P w = .ok (.agg (icells ((l.drop o).take n))) w := by
  have hag : (isAgg t).run c.P w = .ok true w := by rw [run_isAgg' c.tok ht, hd]; try rfl
  have hlen : ((l.drop o).take n).length = n := by simp; omega
  have hl := run_loadCells_list (P := c.P) w ⟨ρ b, o, none⟩ (((l.drop o).take n).map (Value.int .i64)) (fun j v hv => by
    rw [add_none, cell_ints hw hb]
    simp only [List.getElem?_map, Option.map_eq_some_iff] at hv ⊢
    obtain ⟨z, hz, rfl⟩ := hv
    refine ⟨z, ?_, rfl⟩
    rw [List.getElem?_take] at hz
    split at hz
    · simpa [List.getElem?_drop] using hz
    · cases hz)
  rw [List.length_map, hlen] at hl
  simp [loadVar, hag, run_sizeOf' c.tok ht, hs, hl, icells]
/-- an array of numbers, in the midst of a block -/
theorem Q_lda {x : Operand} {t t' : TypeId} {i : TI} {b o n : Nat} {l : List Int} (ht : lkT c.T t = some i) (hd : aggD i.d = true) (hs : i.size = n) (hx : ev c s.F x = some (.ptr b o)) (hb : lkB s.H b = some (.ints t' l))
    (h : o + n ≤ l.length) : QOp c ⟨dst, .load t x, ty, pos, af, g⟩ s (.arr ((l.drop o).take n)) := by
  intro ρ0 w0 hg ρ a hf hfix w hw
  refine quiet_val ?_
  have := run_loadInts hw hb ht hd hs h
  simp only [icells] at this
  simp [execOp, Instr.loadAt, Instr.sureAddr, ev_rv hg hfix hf hx (by simp), rv, this]
/-- a whole block of numbers -/
theorem Q_ldw {x : Operand} {t t' : TypeId} {i : TI} {b : Nat} {l : List Int} (ht : lkT c.T t = some i) (hd : aggD i.d = true) (hx : ev c s.F x = some (.ptr b 0)) (hb : lkB s.H b = some (.ints t' l))
    (h : l.length = i.size) : QOp c ⟨dst, .load t x, ty, pos, af, g⟩ s (.arr l) := by
  have := Q_lda (c := c) (s := s) (dst := dst) (ty := ty) (pos := pos) (af := af) (g := g) (o := 0) ht hd rfl hx hb (by omega)
  rw [List.drop_zero, ← h, List.take_length] at this
  exact this
theorem cell_vals {ρ0 ρ : Nat → Nat} {w0 w : World} {H : Hp} {b o t : Nat} {l : List V} {v : V} (hw : CC c ρ0 w0 ρ H w) (hb : lkB H b = some (.vals t l)) (h : l[o]? = some v) (hn : nb v = true) : w.cell? ⟨ρ b, o, none⟩ = some (rv ρ v) := by
  obtain ⟨ob, h1, h2⟩ := hw.hr.1 b _ hb (by simp)
  simp only [BR] at h2
  obtain ⟨xs, hl, hx, rfl⟩ := h2
  obtain ⟨x, hx1, hx2⟩ := hx o v h
  rcases hx2 with e | e
  · exact absurd e (ne_bot hn)
  · simp [World.cell?, h1, hx1, e]
/-- one cell that is no number -/
theorem Q_ldv {x : Operand} {t t' : TypeId} {i : TI} {b o : Nat} {l : List V} {v : V} (ht : lkT c.T t = some i) (hd : aggD i.d = false) (hx : ev c s.F x = some (.ptr b o)) (hb : lkB s.H b = some (.vals t' l))
    (h : l[o]? = some v) (hn : nb v = true) : QOp c ⟨dst, .load t x, ty, pos, af, g⟩ s v := by
  intro ρ0 w0 hg ρ a hf hfix w hw
  refine quiet_val ?_
  have hag : (isAgg t).run c.P w = .ok false w := by rw [run_isAgg' c.tok ht, hd]; try rfl
  simp [execOp, Instr.loadAt, Instr.sureAddr, loadVar, hag, ev_rv hg hfix hf hx (by simp), rv, cell_vals hw hb h hn]
/-- an element of an array value -/
theorem Q_index {x y : Operand} {t : TypeId} {i ie : TI} {e n : Nat} {j : Int} {l : List Int} (ht : lkT c.T t = some i) (hd : i.d = .array n e) (he : lkT c.T e = some ie) (hed : ie.d = .int .i64) (hes : ie.size = 1) (hx : ev c s.F x = some (.arr l)) (hy : ev c s.F y = some (.int j))
    (h : 0 ≤ j ∧ j < n) (hl : j < l.length) : QOp c ⟨dst, .index t x y, ty, pos, af, g⟩ s (.int (l.getD j.toNat 0)) := by
  intro ρ0 w0 hg ρ a hf hfix w hw
  refine quiet_val ?_
  have hu := (c.tok t i ht).1
  rw [hd] at hu
  have hag : (isAgg e).run c.P w = .ok false w := by rw [run_isAgg' c.tok he, hed]; try rfl
  have hl' : l[j.toNat]? = some (l.getD j.toNat 0) := by
    have : j.toNat < l.length := by omega
    simp [List.getD, List.getElem?_eq_getElem this]
  generalize l.getD j.toNat 0 = z at *
  simp [execOp, Instr.index, asIntOf, run_underlying hu, ev_rv hg hfix hf hx (by simp), ev_rv hg hfix hf hy (by simp), rv, h, run_sizeOf' c.tok he, hes, part, hag, hl']
/-! #### literals of arrays of numbers -/
def putI (l : List Int) (o : Nat) : List Int → List Int
  | [] => l
  | x :: r => putI (l.set o x) (o + 1) r
def fillI (sz : Nat) : List Int → List (Nat × V) → Option (List Int)
  | z, [] => some z
  | z, (i, .int n) :: r => match Nat.beq sz 1 with
    | true => fillI sz (z.set i n) r
    | false => none
  | z, (i, .arr m) :: r => fillI sz (putI z (i * sz) m) r
  | _, _ => none
def evp (c : Cx) (F : Fr) : List (Nat × Operand) → Option (List (Nat × V))
  | [] => some []
  | (i, x) :: r => match ev c F x with
    | none => none
    | some v => match nb v with
      | false => none
      | true => match evp c F r with
        | none => none
        | some vs => some ((i, v) :: vs)
end
end Go.Proofs.Ytoiolpgmilobnaa
namespace Go.Proofs.Ytoiolpgmilobnaa
def up (ρ : Nat → Nat) (n r : Nat) : Nat → Nat := fun b => if b = n then r else ρ b
structure Same (w w' : World) : Prop where
  os : w'.os = w.os
  tape : w'.tape = w.tape
  out : w'.output = w.output
  drw : w.drawn ≤ w'.drawn
theorem Same.refl (w : World) : Same w w := ⟨rfl, rfl, rfl, Nat.le_refl _⟩
section
variable {c : Cx} {s : S} {Q : Post}
theorem CC.live_lt {ρ0 ρ : Nat → Nat} {w0 w : World} {H : Hp} (h : CC c ρ0 w0 ρ H w) {b : Nat} {k : Blk} (hb : lkB H b = some k) (hk : k ≠ .dead) : ρ b < w.heap.size := by
  obtain ⟨o, ho, _⟩ := h.hr.1 b k hb hk
  rcases Nat.lt_or_ge (ρ b) w.heap.size with h' | h'
  · exact h'
  · rw [Array.getElem?_eq_none h'] at ho; cases ho
theorem CC.push {ρ0 ρ : Nat → Nat} {w0 w w' : World} {H : Hp} (h : CC c ρ0 w0 ρ H w) {n : Nat} (hD : n ∉ c.D)
    (hids : ∀ b k, lkB H b = some k → ∀ b' ∈ k.ids, b' ≠ n) {k : Blk} {o : Obj} (hk : ∀ b' ∈ k.ids, b' ≠ n) (hb : BR ρ k o) (hw : w'.heap = w.heap.push o) (hs : Same w w') :
    CC c ρ0 w0 (up ρ n w.heap.size) ((n, k) :: H) w' := by
  have old : ∀ i, i < w.heap.size → w'.heap[i]? = w.heap[i]? := fun i hi => by rw [hw, Array.getElem?_push, if_neg (by omega)]
  have cong : ∀ (k' : Blk) (o' : Obj), (∀ b' ∈ k'.ids, b' ≠ n) → BR ρ k' o' → BR (up ρ n w.heap.size) k' o' := fun k' o' hk' hb' => BR_congr (fun b hb => by simp [up, hk' b hb]) hb'
  refine ⟨⟨fun b k' hl hd => ?_, fun b b' k1 k2 h1 h2 d1 d2 hw12 he => ?_⟩, fun b hb => ?_, fun b k' hl hd hwk => ?_, ?_, ?_, ?_, ?_, ?_, ?_⟩
  · rw [lkB_cons] at hl
    split at hl
    · rename_i e; subst e; injection hl with hl; subst hl
      exact ⟨o, by simp [up, hw], cong _ _ hk hb⟩
    · rename_i e
      obtain ⟨o', ho', hb'⟩ := h.hr.1 b k' hl hd
      refine ⟨o', ?_, cong _ _ (hids b k' hl) hb'⟩
      simp only [up, if_neg (Ne.symm e)]
      rw [old _ (h.live_lt hl hd)]; exact ho'
  · rw [lkB_cons] at h1 h2
    split at h1 <;> split at h2
    · rename_i e1 e2; omega
    · rename_i e1 e2
      simp only [up, if_pos e1.symm, if_neg (Ne.symm e2)] at he
      have := h.live_lt h2 d2; omega
    · rename_i e1 e2
      simp only [up, if_pos e2.symm, if_neg (Ne.symm e1)] at he
      have := h.live_lt h1 d1; omega
    · rename_i e1 e2
      simp only [up, if_neg (Ne.symm e1), if_neg (Ne.symm e2)] at he
      exact h.hr.2 b b' k1 k2 h1 h2 d1 d2 hw12 he
  · have : b ≠ n := fun e => hD (e ▸ hb)
    simp [up, this, h.inv.fix b hb]
  · rw [lkB_cons] at hl
    split at hl
    · rename_i e; right; simp only [up, if_pos e.symm]; exact h.inv.size
    · rename_i e; simp only [up, if_neg (Ne.symm e)]; exact h.inv.own b k' hl hd hwk
  · exact hs.os.trans h.inv.os
  · exact hs.tape.trans h.inv.tape
  · exact hs.out.trans h.inv.out
  · exact Nat.le_trans h.inv.drw hs.drw
  · rw [hw]; simp; have := h.inv.size; omega
  · intro i hi hd
    rw [old i (by have := h.inv.size; omega)]
    exact h.inv.old i hi hd
theorem FR.up {ρ : Nat → Nat} {a : Act} (hf : FR c ρ s.F a) (hwf : WF c s) (h1000 : s.n < 1000) (r : Nat) : FR c (up ρ s.n r) s.F a :=
  ⟨hf.1, hf.2.1, fun t v hv => (hf.2.2 t v hv).imp id fun e => by
    rw [e]
    congr 1
    refine rv_congr v fun b hb => ?_
    have := hwf.fs t v hv b hb
    simp [Go.Proofs.Ytoiolpgmilobnaa.up, show b ≠ s.n by omega]⟩
theorem WF.push (hwf : WF c s) (k : Blk) (hk : sc s.n k.ids = true) : WF c { F := s.F, H := (s.n, k) :: s.H, n := s.n + 1 } := by
  refine ⟨fun b h1 h2 => ?_, fun t v hv b hb => ?_, fun b k' hl b' hb' => ?_⟩
  · have h1' : s.n + 1 ≤ b := h1
    obtain ⟨h3, h4⟩ := hwf.fresh b (by omega) h2
    exact ⟨by rw [lkB_cons, if_neg (by omega)]; exact h3, h4⟩
  · have := hwf.fs t v hv b hb
    show b < s.n + 1 ∨ 1000 ≤ b
    omega
  · show b' < s.n + 1 ∨ 1000 ≤ b'
    rw [lkB_cons] at hl
    split at hl
    · injection hl with hl; subst hl
      have := sc_iff.1 hk b' hb'; omega
    · have := hwf.hs b k' hl b' hb'; omega
theorem St.push {ρ0 ρ : Nat → Nat} {w0 w w' : World} {a : Act} (hs : St c ρ0 w0 ρ s a w) (h1000 : s.n < 1000) {k : Blk} {o : Obj} (hk : sc s.n k.ids = true) (hb : BR ρ k o) (hw : w'.heap = w.heap.push o) (hsm : Same w w') :
    St c ρ0 w0 (up ρ s.n w.heap.size) { F := s.F, H := (s.n, k) :: s.H, n := s.n + 1 } a w' := by
  have hne : ∀ b, (b < s.n ∨ 1000 ≤ b) → b ≠ s.n := fun b h => by omega
  exact ⟨hs.cc.push (hs.wf.fresh s.n (Nat.le_refl _) h1000).2 (fun b k' hl b' hb' => hne b' (hs.wf.hs b k' hl b' hb')) (fun b' hb' => hne b' (sc_iff.1 hk b' hb')) hb hw hsm,
    hs.fr.up hs.wf h1000 _, hs.wf.push k hk⟩
/-- what an operation that makes one block does -/
def NewRun (c : Cx) (s : S) (o : Oper) (k : Blk) (v : V) : Prop :=
  ∀ ρ0 ρ a w0 w, GR c.gl c.D ρ0 → (∀ b ∈ c.D, ρ b = ρ0 b) → FR c ρ s.F a → CC c ρ0 w0 ρ s.H w → WF c s → ∃ ob w', BR ρ k ob ∧ w'.heap = w.heap.push ob ∧ Same w w' ∧
      (execOp a.eval o).run c.P w = .ok (.value (rv (up ρ s.n w.heap.size) v)) w'
/-- an operation that makes one block -/
theorem OW_new {ops : Array Oper} {o : Oper} {rest : List Oper} {k : Blk} {v : V} (hg : o.guard = none) (hN : okDst c.N o.dst = true) (hn : Nat.blt s.n 1000 = true) (hk : sc s.n k.ids = true) (hv : sc (s.n + 1) v.ids = true)
    (run : NewRun c s o k v)
    (h : OW c ops Q rest (S.put { F := s.F, H := (s.n, k) :: s.H, n := s.n + 1 } o.dst v)) : OW c ops Q (o :: rest) s := by
  intro ρ0 w0 hgr ρ a w hs
  have h1000 : s.n < 1000 := by simpa [Nat.blt_eq] using hn
  obtain ⟨ob, w', hb, hw, hsm, hr⟩ := run ρ0 ρ a w0 w hgr hs.cc.inv.fix hs.fr hs.cc hs.wf
  refine wpList_plain hg fun K hK => ?_
  unfold Oper.wp
  rw [hr]
  simp only [Oper.upon]
  exact hK _ _ (h ρ0 w0 hgr _ _ w' ((hs.push h1000 hk hb hw hsm).put o.dst v _ (okDst_lt hN) (.inr rfl) hv))
def mkBlk (t : TypeId) : V → Blk
  | .int n => .ints t [n]
  | .arr l => .ints t l
  | .agg vs => .vals t vs
  | v => .vals t [v]
def one : V → Bool
  | .raw v => v.oneCell'
  | .bot | .tuple _ => false
  | _ => true
theorem BR_vals_self {ρ : Nat → Nat} {t : TypeId} {vs : List V} : BR ρ (.vals t vs) (.cells (rvs ρ vs).toArray t (0, 0)) := by
  refine ⟨rvs ρ vs, by simp [rvs_eq_map], fun i v hv => ⟨rv ρ v, by simp [rvs_eq_map, hv], .inr rfl⟩, rfl⟩
theorem BR_mkBlk {ρ : Nat → Nat} {t : TypeId} {v : V} (h : one v = true) : BR ρ (mkBlk t v) (.cells (rv ρ v).cells t) := by
  cases v <;> simp only [mkBlk, one] at h ⊢
  case int n => rfl
  case arr l => rfl
  case agg vs => exact BR_vals_self
  case raw x =>
    refine ⟨[x], rfl, fun i v hv => ?_, ?_⟩
    · cases i <;> simp at hv
      subst hv; exact ⟨x, rfl, .inr rfl⟩
    · cases x <;> first | rfl | simp [Value.oneCell'] at h
  all_goals first | (exact BR_vals_self (vs := [_])) | simp at h
theorem nr_box {dst : Option Tmp} {ty t : TypeId} {pos : String} {af : Array Edge} {x : Operand} {v : V} (hx : ev c s.F x = some v) (ho : one v = true) : NewRun c s ⟨dst, .box t x, ty, pos, af, none⟩ (mkBlk t v) (.ptr s.n 0) := by
  intro ρ0 ρ a w0 w hg hfix hf hw hwf
  have hnb : v ≠ .bot := by rintro rfl; simp [one] at ho
  refine ⟨.cells (rv ρ v).cells t, w.alloc (.cells (rv ρ v).cells t), BR_mkBlk ho, rfl, ⟨rfl, rfl, rfl, Nat.le_refl _⟩, ?_⟩
  simp [execOp, Instr.box, newVar, newRow, ev_rv hg hfix hf hx hnb, rv, up]
theorem OW_box {ops : Array Oper} {dst : Option Tmp} {ty t : TypeId} {pos : String} {af : Array Edge} {rest : List Oper} {x : Operand} {v : V} (hx : ev c s.F x = some v) (ho : one v = true) (hN : okDst c.N dst = true) (hn : Nat.blt s.n 1000 = true)
    (hk : sc s.n (mkBlk t v).ids = true) (hv : sc (s.n + 1) [s.n] = true) (h : OW c ops Q rest (S.put { F := s.F, H := (s.n, mkBlk t v) :: s.H, n := s.n + 1 } dst (.ptr s.n 0))) :
    OW c ops Q (⟨dst, .box t x, ty, pos, af, none⟩ :: rest) s :=
  OW_new (v := .ptr s.n 0) rfl hN hn hk hv (nr_box hx ho) h
theorem nr_alloc {dst : Option Tmp} {ty t : TypeId} {pos : String} {af : Array Edge} {i : TI} {v : V} (ht : lkT c.T t = some i) (hz : i.z = some v) (ho : one v = true) : NewRun c s ⟨dst, .alloc t, ty, pos, af, none⟩ (mkBlk t v) (.ptr s.n 0) := by
  intro ρ0 ρ a w0 w hg hfix hf hw hwf
  refine ⟨.cells (rv ρ v).cells t, w.alloc (.cells (rv ρ v).cells t), BR_mkBlk ho, rfl, ⟨rfl, rfl, rfl, Nat.le_refl _⟩, ?_⟩
  obtain ⟨_, ⟨j, hj, _, _, hz'⟩, _⟩ := c.tok t i ht
  obtain ⟨hz1, hz2⟩ := hz' v hz
  have hzz : rv (fun b => b) v = rv ρ v := rv_congr v (fun b hb => by rw [hz2] at hb; simp at hb)
  rw [hzz] at hz1
  simp [execOp, Instr.alloc, zeroValue, typeInfo, hj, hz1, newVar, newRow, rv, up]
theorem OW_alloc {ops : Array Oper} {dst : Option Tmp} {ty t : TypeId} {pos : String} {af : Array Edge} {rest : List Oper} {i : TI} {v : V} (ht : lkT c.T t = some i) (hz : i.z = some v) (ho : one v = true) (hN : okDst c.N dst = true) (hn : Nat.blt s.n 1000 = true)
    (hk : sc s.n (mkBlk t v).ids = true) (hv : sc (s.n + 1) [s.n] = true) (h : OW c ops Q rest (S.put { F := s.F, H := (s.n, mkBlk t v) :: s.H, n := s.n + 1 } dst (.ptr s.n 0))) :
    OW c ops Q (⟨dst, .alloc t, ty, pos, af, none⟩ :: rest) s :=
  OW_new (v := .ptr s.n 0) rfl hN hn hk hv (nr_alloc ht hz ho) h
/-! #### literals -/
theorem icells_set (l : List Int) (o : Nat) (n : Int) : (icells l).setIfInBounds o (.int .i64 n) = icells (l.set o n) := by
  apply Array.ext'
  simp [icells, List.map_set]
def putA (cs : Array Value) (o : Nat) : List Value → Array Value
  | [] => cs
  | x :: r => putA (cs.setIfInBounds o x) (o + 1) r
theorem putA_icells : ∀ (xs l : List Int) (o : Nat), putA (icells l) o (xs.map (Value.int .i64)) = icells (putI l o xs)
  | [], l, o => rfl
  | x :: r, l, o => by simp only [List.map_cons, putA, putI, icells_set, putA_icells r]
theorem putI_length : ∀ (xs l : List Int) (o : Nat), (putI l o xs).length = l.length
  | [], _, _ => rfl
  | x :: r, l, o => by simp [putI, putI_length r]
theorem foldl_put (off : Nat) : ∀ (l : List Value) (j : Nat) (cs : Array Value), (l.zipIdx j).foldl (fun cs (x : Value × Nat) => cs.setIfInBounds (off + x.2) x.1) cs = putA cs (off + j) l
  | [], _, _ => rfl
  | x :: r, j, cs => by
    simp only [List.zipIdx_cons, List.foldl_cons, putA]
    rw [foldl_put off r (j + 1)]
    rfl
theorem fill_cons {sz i : Nat} {cs : Array Value} {v : Value} {rest : List (Nat × Value)} (h1 : v.cells.size = sz) (h2 : i * sz + sz ≤ cs.size) :
    Instr.fill (fun i => some (i * sz, sz)) cs ((i, v) :: rest) = Instr.fill (fun i => some (i * sz, sz)) (putA cs (i * sz) v.cells.toList) rest := by
  simp only [Instr.fill]
  split
  · rename_i h; simp [h1] at h; omega
  · congr 1
    rw [← Array.foldl_toList, Array.toList_zipIdx]
    exact foldl_put (i * sz) v.cells.toList 0 cs
theorem size_icells (l : List Int) : (icells l).size = l.length := by simp [icells]
theorem fill_ints {sz : Nat} {ρ : Nat → Nat} : ∀ (ps : List (Nat × V)) (z r : List Int), fillI sz z ps = some r → (∀ p ∈ ps, ∀ l, p.2 = .arr l → l.length = sz) → (∀ p ∈ ps, (p.1 + 1) * sz ≤ z.length) →
    Instr.fill (fun i => some (i * sz, sz)) (icells z) (ps.map fun p => (p.1, rv ρ p.2)) = some (icells r)
  | [], z, r, h, _, _ => by simp only [fillI] at h; injection h with h; subst h; rfl
  | (i, v) :: ps, z, r, h, hl, hb => by
    have hbi := hb (i, v) (by simp)
    simp only [Nat.add_mul, Nat.one_mul] at hbi
    cases v <;> simp only [fillI] at h <;> first | (cases h; done) | skip
    case int n =>
      split at h
      · rename_i e
        have := Nat.eq_of_beq_eq_true e; subst this
        have ih := fill_ints (ρ := ρ) ps (z.set i n) r h (fun p hp => hl p (List.mem_cons_of_mem _ hp)) (fun p hp => by rw [List.length_set]; exact hb p (List.mem_cons_of_mem _ hp))
        rw [List.map_cons, fill_cons (by simp [rv, Value.cells]) (by rw [size_icells]; omega), ← ih]
        congr 1
        have := icells_set z i n
        simpa [rv, Value.cells, putA] using this
      · cases h
    case arr m =>
      have hm : m.length = sz := hl (i, .arr m) (by simp) m rfl
      have ih := fill_ints (ρ := ρ) ps (putI z (i * sz) m) r h (fun p hp => hl p (List.mem_cons_of_mem _ hp)) (fun p hp => by rw [putI_length]; exact hb p (List.mem_cons_of_mem _ hp))
      rw [List.map_cons, fill_cons (by simp [rv, Value.cells, hm]) (by rw [size_icells]; omega), ← ih]
      congr 1
      have := putA_icells m z (i * sz)
      simpa [rv, Value.cells] using this
/-- the same for cells that are no numbers -/
def fillV : List V → List (Nat × V) → Option (List V)
  | z, [] => some z
  | z, (i, v) :: r => match one v with
    | true => fillV (z.set i v) r
    | false => none
theorem rvs_set (ρ : Nat → Nat) (l : List V) (i : Nat) (v : V) : (rvs ρ l).set i (rv ρ v) = rvs ρ (l.set i v) := by simp [rvs_eq_map, List.map_set]
theorem cells_one {ρ : Nat → Nat} {v : V} (h : one v = true) (hi : ∀ l, v ≠ .arr l) (ha : ∀ l, v ≠ .agg l) : (rv ρ v).cells = #[rv ρ v] := by
  cases v <;> simp [one] at h <;> first | rfl | (exfalso; exact hi _ rfl) | (exfalso; exact ha _ rfl) | skip
  rename_i x
  cases x <;> first | rfl | simp [Value.oneCell'] at h
def noAgg : V → Bool
  | .arr _ | .agg _ => false
  | _ => true
theorem cells_one' {ρ : Nat → Nat} {v : V} (h : one v = true) (ha : noAgg v = true) : (rv ρ v).cells = #[rv ρ v] :=
  cells_one h (fun l e => by subst e; simp [noAgg] at ha) (fun l e => by subst e; simp [noAgg] at ha)
theorem fill_vals {ρ : Nat → Nat} : ∀ (ps : List (Nat × V)) (z r : List V), fillV z ps = some r → (∀ p ∈ ps, noAgg p.2 = true) → (∀ p ∈ ps, p.1 < z.length) →
    Instr.fill (fun i => some (i * 1, 1)) (rvs ρ z).toArray (ps.map fun p => (p.1, rv ρ p.2)) = some (rvs ρ r).toArray
  | [], z, r, h, _, _ => by simp only [fillV] at h; injection h with h; subst h; rfl
  | (i, v) :: ps, z, r, h, hl, hb => by
    have hbi := hb (i, v) (by simp)
    simp only [fillV] at h
    split at h
    · rename_i ho
      have ih := fill_vals (ρ := ρ) ps (z.set i v) r h (fun p hp => hl p (List.mem_cons_of_mem _ hp)) (fun p hp => by rw [List.length_set]; exact hb p (List.mem_cons_of_mem _ hp))
      have hc := cells_one' (ρ := ρ) ho (hl (i, v) (by simp))
      have hbi' : i < z.length := hbi
      rw [List.map_cons, fill_cons (by simp [hc]) (by simp [rvs_eq_map]; omega), ← ih]
      congr 1
      simp only [hc, putA, Nat.mul_one]
      rw [List.setIfInBounds_toArray, rvs_set]
    · cases h
theorem evp_rv {xs : List (Nat × Operand)} {vs : List (Nat × V)} {ρ0 ρ : Nat → Nat} {a : Act} (hg : GR c.gl c.D ρ0) (hfix : ∀ b ∈ c.D, ρ b = ρ0 b) (hf : FR c ρ s.F a) (h : evp c s.F xs = some vs) :
    xs.map (fun p => (p.1, a.eval p.2)) = vs.map fun p => (p.1, rv ρ p.2) := by
  induction xs generalizing vs with
  | nil => simp only [evp] at h; injection h with h; subst h; rfl
  | cons x r ih =>
    obtain ⟨i, x⟩ := x
    simp only [evp] at h
    split at h
    · cases h
    · rename_i v hv
      split at h
      · cases h
      · rename_i hnb
        split at h
        · cases h
        · rename_i us hus
          injection h with h; subst h
          simp [ih hus, ev_rv hg hfix hf hv (ne_bot hnb)]
/-- arrays' lengths, and places, are in order -/
def okParts (sz len : Nat) : List (Nat × V) → Bool
  | [] => true
  | (i, v) :: r => (match v with | .arr l => Nat.beq l.length sz | _ => true) && Nat.ble ((i + 1) * sz) len && okParts sz len r
theorem okParts_iff {sz len : Nat} {ps : List (Nat × V)} (h : okParts sz len ps = true) : (∀ p ∈ ps, ∀ l, p.2 = .arr l → l.length = sz) ∧ (∀ p ∈ ps, (p.1 + 1) * sz ≤ len) := by
  induction ps with
  | nil => simp
  | cons x r ih =>
    obtain ⟨i, v⟩ := x
    simp only [okParts, Bool.and_eq_true] at h
    obtain ⟨⟨h1, h2⟩, h3⟩ := h
    obtain ⟨ih1, ih2⟩ := ih h3
    refine ⟨fun p hp l hl => ?_, fun p hp => ?_⟩
    · rcases List.mem_cons.1 hp with rfl | hp
      · simp only at hl; subst hl; exact Nat.eq_of_beq_eq_true h1
      · exact ih1 p hp l hl
    · rcases List.mem_cons.1 hp with rfl | hp
      · exact Nat.le_of_ble_eq_true h2
      · exact ih2 p hp
/-- an array of numbers written out -/
theorem Q_build {dst : Option Tmp} {ty t : TypeId} {pos : String} {af : Array Edge} {g : Option (Nat × Bool)} {ps : List (Nat × Operand)} {vs : List (Nat × V)} {z r : List Int} {i ie : TI} {e n sz : Nat} (ht : lkT c.T t = some i) (hd : i.d = .array n e) (hz : i.z = some (.arr z))
    (he : lkT c.T e = some ie) (hs : ie.size = sz) (hp : evp c s.F ps = some vs) (hr : fillI sz z vs = some r) (hok : okParts sz z.length vs = true) :
    QOp c ⟨dst, .build t ps.toArray, ty, pos, af, g⟩ s (.arr r) := by
  intro ρ0 w0 hg ρ a hf hfix w hw
  refine quiet_val ?_
  obtain ⟨hu, ⟨j, hj, _, _, hz'⟩, _⟩ := c.tok t i ht
  rw [hd] at hu
  have hz1 : j.zero = some (.agg (icells z)) := (hz' _ hz).1
  obtain ⟨h1, h2⟩ := okParts_iff hok
  have hfill := fill_ints (ρ := ρ) vs z r hr h1 h2
  rw [← evp_rv hg hfix hf hp] at hfill
  simp [execOp, Instr.build, zeroValue, typeInfo, hj, hz1, Value.cells, run_underlying hu, run_sizeOf' c.tok he, hs, hfill, show rv ρ (.arr r) = .agg (icells r) from rfl]
theorem BR_ints_self {ρ : Nat → Nat} {t : TypeId} {l : List Int} : BR ρ (.ints t l) (.cells (icells l) t) := rfl
theorem zmod (z : List Int) (hz : z.length = 0 → False) (n : Nat) : (Array.range (n * z.length)).map (fun k => (icells z)[k % (icells z).size]!) = icells ((List.range (n * z.length)).map fun k => z.getD (k % z.length) 0) := by
  apply Array.ext'
  simp only [Array.toList_map, Array.toList_range, icells, List.map_map]
  apply List.map_congr_left
  intro k hk
  have : k % z.length < z.length := Nat.mod_lt _ (Nat.pos_of_ne_zero hz)
  simp [List.getD, this]
/-- a slice of numbers (or of arrays of numbers) written out -/
theorem nr_bsl {dst : Option Tmp} {ty t : TypeId} {pos : String} {af : Array Edge} {ps : List (Nat × Operand)} {vs : List (Nat × V)} {zl r : List Int} {i ie : TI} {e len sz : Nat} (ht : lkT c.T t = some i) (hd : i.d = .slice e)
    (he : lkT c.T e = some ie) (hs : ie.size = sz) (hz : ie.z = some (.int 0) ∧ sz = 1 ∨ ie.z = some (.arr zl) ∧ zl = List.replicate sz 0 ∧ 0 < sz) (hp : evp c s.F ps = some vs) (hr : fillI sz (List.replicate (len * sz) 0) vs = some r) (hok : okParts sz (len * sz) vs = true) (hlim : len * sz ≤ 16777216) : NewRun c s ⟨dst, .buildSlice t len ps.toArray, ty, pos, af, none⟩ (.ints e r) (.slice s.n 0 len len) := by
  intro ρ0 ρ a w0 w hg hfix hf hw hwf
  refine ⟨.cells (icells r) e, w.alloc (.cells (icells r) e), BR_ints_self, rfl, ⟨rfl, rfl, rfl, Nat.le_refl _⟩, ?_⟩
  have hu := (c.tok t i ht).1
  rw [hd] at hu
  obtain ⟨_, ⟨j, hj, _, _, hz'⟩, _⟩ := c.tok e ie he
  have hlim' : ¬ 2 ^ 24 < len * sz := by omega
  obtain ⟨h1, h2⟩ := okParts_iff hok
  have hfill := fill_ints (ρ := ρ) vs _ r hr h1 (by simpa using h2)
  rw [← evp_rv hg hfix hf hp] at hfill
  obtain ⟨zv, hzz, hcz⟩ : ∃ zc : Value, j.zero = some zc ∧ zc.cells = icells (List.replicate sz 0) ∧ 0 < sz := by
    rcases hz with ⟨hz, rfl⟩ | ⟨hz, rfl, hpos⟩
    · exact ⟨_, (hz' _ hz).1, rfl, by omega⟩
    · exact ⟨_, (hz' _ hz).1, rfl, hpos⟩
  obtain ⟨hcz, hpos⟩ := hcz
  have hcells : ∀ zc : Array Value, (len * sz = 0 → zc = #[]) → (len * sz ≠ 0 → zc = icells (List.replicate sz 0)) → (Array.range (len * sz)).map (fun k => zc[k % zc.size]!) = icells (List.replicate (len * sz) 0) := by
    intro zc h0 h1
    by_cases hl : len * sz = 0
    · simp [hl, icells]
    · rw [h1 hl]
      have := zmod (List.replicate sz 0) (by simp; omega) len
      simp only [List.length_replicate] at this
      rw [this]
      congr 1
      apply List.ext_getElem (by simp)
      intro q hq1 hq2
      have : q % sz < sz := Nat.mod_lt _ hpos
      simp [List.getD, this]
  have hr1 : (Instr.buildSlice t len (ps.toArray.map fun p => (p.1, a.eval p.2))).run c.P w = .ok (.slice (some ⟨w.heap.size, 0, none⟩) len len) (w.alloc (.cells (icells r) e)) := by
    unfold Instr.buildSlice
    simp only [Sem.run_bind, run_underlying hu, Result.andThen_ok, run_sizeOf' c.tok he, hs, if_neg hlim']
    by_cases hl : len * sz = 0
    · simp only [hl, if_true, Sem.run_bind, Sem.run_pure, Result.andThen_ok]
      have := hcells #[] (fun _ => rfl) (fun h => absurd hl h)
      rw [hl] at this
      rw [this]
      rw [hl, List.replicate_zero] at hfill
      simp [hfill, newRow]
    · simp only [if_neg hl, zeroValue, typeInfo, Sem.run_bind, run_program, Result.andThen_ok, hj, Sem.run_pure, hzz, hcz]
      rw [hcells _ (fun h => absurd h hl) (fun _ => rfl)]
      simp [hfill, newRow]
  simp only [execOp, Sem.run_bind]
  rw [hr1]
  simp [rv, up]
theorem OW_bsl {ops : Array Oper} {dst : Option Tmp} {ty t : TypeId} {pos : String} {af : Array Edge} {rest : List Oper} {ps : List (Nat × Operand)} {vs : List (Nat × V)} {zl r : List Int} {i ie : TI} {e len sz : Nat} (ht : lkT c.T t = some i) (hd : i.d = .slice e)
    (he : lkT c.T e = some ie) (hs : ie.size = sz) (hz : ie.z = some (.int 0) ∧ sz = 1 ∨ ie.z = some (.arr zl) ∧ zl = List.replicate sz 0 ∧ 0 < sz) (hp : evp c s.F ps = some vs) (hr : fillI sz (List.replicate (len * sz) 0) vs = some r) (hok : okParts sz (len * sz) vs = true) (hlim : len * sz ≤ 16777216)
    (hN : okDst c.N dst = true) (hn : Nat.blt s.n 1000 = true) (hv : sc (s.n + 1) [s.n] = true) (h : OW c ops Q rest (S.put { F := s.F, H := (s.n, .ints e r) :: s.H, n := s.n + 1 } dst (.slice s.n 0 len len))) :
    OW c ops Q (⟨dst, .buildSlice t len ps.toArray, ty, pos, af, none⟩ :: rest) s :=
  OW_new (k := .ints e r) (v := .slice s.n 0 len len) rfl hN hn rfl hv (nr_bsl ht hd he hs hz hp hr hok hlim) h
/-! ### stores -/
structure Wrote (w w' : World) (r : Nat) (o : Obj) : Prop where
  at_ : w'.heap[r]? = some o
  size : w'.heap.size = w.heap.size
  other : ∀ q, q ≠ r → w'.heap[q]? = w.heap[q]?
  same : Same w w'
theorem run_storeCells {P : Program} : ∀ (xs : List Value) (w : World) (r o i : Nat) (cs : Array Value) (t : TypeId), w.heap[r]? = some (.cells cs t (0, 0)) → (∀ x ∈ xs, x.oneCell' = true) → o + i + xs.length ≤ cs.size →
    ∃ w', (storeCells ⟨r, o, none⟩ xs i).run P w = .ok () w' ∧ Wrote w w' r (.cells (putA cs (o + i) xs) t (0, 0))
  | [], w, r, o, i, cs, t, h, _, _ => ⟨w, rfl, h, rfl, fun _ _ => rfl, Same.refl w⟩
  | x :: xs, w, r, o, i, cs, t, h, h1, hb => by
    simp only [List.length_cons] at hb
    have hc : w.cell? ⟨r, o + i, none⟩ = some cs[o + i] := by rw [cell_of_row w r (o + i) cs t (0, 0) h]; exact Array.getElem?_eq_getElem (by omega)
    have hfz : w.frozen? ⟨r, o + i, none⟩ = false := frozen_of_row w r (o + i) cs t h
    have hh := heap_setCell_same w r (o + i) cs t x h
    obtain ⟨w', hr, hw⟩ := run_storeCells (P := P) xs (w.setCell ⟨r, o + i, none⟩ x) r o (i + 1) (cs.setIfInBounds (o + i) x) t hh (fun y hy => h1 y (List.mem_cons_of_mem _ hy)) (by simp; omega)
    refine ⟨w', ?_, ?_⟩
    · have hst := run_store P w ⟨r, o + i, none⟩ x .plain (h1 x (by simp))
      simp only [hc, hfz] at hst
      simp only [storeCells, Sem.run_bind, add_none, hst, Bool.false_eq_true, if_false, Result.andThen_ok]
      exact hr
    · refine ⟨?_, ?_, ?_, ?_⟩
      · rw [hw.at_]; rfl
      · rw [hw.size]; simp
      · intro q hq; rw [hw.other q hq]; exact heap_setCell_other w ⟨r, o + i, none⟩ q x hq
      · exact ⟨hw.same.os, hw.same.tape, hw.same.out, hw.same.drw⟩
def live : Blk → Bool
  | .dead => false
  | _ => true
theorem live_ne {k : Blk} (h : live k = true) : k ≠ .dead := by rintro rfl; simp [live] at h
theorem CC.wrote {ρ0 ρ : Nat → Nat} {w0 w w' : World} {H : Hp} (h : CC c ρ0 w0 ρ H w) {b : Nat} {k k' : Blk} {o' : Obj} (hb : lkB H b = some k) (hk : k ≠ .dead) (hwk : wrt k = true) (hwk' : wrt k' = true) (hw : Wrote w w' (ρ b) o') (hb' : BR ρ k' o') :
    CC c ρ0 w0 ρ ((b, k') :: H) w' := by
  refine ⟨⟨fun b1 k1 hl hd => ?_, fun b1 b2 k1 k2 h1 h2 d1 d2 hw12 he => ?_⟩, h.inv.fix, fun b1 k1 hl hd hw1 => ?_, hw.same.os.trans h.inv.os, hw.same.tape.trans h.inv.tape, hw.same.out.trans h.inv.out, Nat.le_trans h.inv.drw hw.same.drw, by rw [hw.size]; exact h.inv.size, fun i hi hd => ?_⟩
  · rw [lkB_cons] at hl
    split at hl
    · rename_i e; subst e; injection hl with hl; subst hl; exact ⟨o', hw.at_, hb'⟩
    · rename_i e
      obtain ⟨o1, ho1, hb1⟩ := h.hr.1 b1 k1 hl hd
      refine ⟨o1, ?_, hb1⟩
      rw [hw.other _ (fun e' => e (h.hr.2 b b1 k k1 hb hl hk hd (.inl hwk) e'.symm))]
      exact ho1
  · have liveOf : ∀ b1 k1, lkB ((b, k') :: H) b1 = some k1 → k1 ≠ .dead → ∃ k2, lkB H b1 = some k2 ∧ k2 ≠ .dead ∧ wrt k2 = wrt k1 := by
      intro b1 k1 hl hd
      rw [lkB_cons] at hl
      split at hl
      · rename_i e; subst e; injection hl with hl; subst hl; exact ⟨k, hb, hk, hwk.trans hwk'.symm⟩
      · exact ⟨k1, hl, hd, rfl⟩
    obtain ⟨k3, h3, d3, w3⟩ := liveOf b1 k1 h1 d1
    obtain ⟨k4, h4, d4, w4⟩ := liveOf b2 k2 h2 d2
    exact h.hr.2 b1 b2 k3 k4 h3 h4 d3 d4 (by rw [w3, w4]; exact hw12) he
  · rw [lkB_cons] at hl
    split at hl
    · rename_i e; subst e; exact h.inv.own b k hb hk hwk
    · exact h.inv.own b1 k1 hl hd hw1
  · rw [hw.other i, h.inv.old i hi hd]
    rintro rfl
    rcases h.inv.own b k hb hk hwk with ⟨d, hd1, hd2⟩ | hge
    · exact hd d hd1 hd2.symm
    · omega
theorem WF.upd (hwf : WF c s) {b : Nat} {k k' : Blk} (hb : lkB s.H b = some k) (hk : sc s.n k'.ids = true) : WF c { F := s.F, H := (b, k') :: s.H, n := s.n } := by
  refine ⟨fun b1 h1 h2 => ?_, hwf.fs, fun b1 k1 hl b' hb' => ?_⟩
  · obtain ⟨h3, h4⟩ := hwf.fresh b1 h1 h2
    refine ⟨?_, h4⟩
    rw [lkB_cons, if_neg]
    · exact h3
    · rintro rfl; rw [hb] at h3; cases h3
  · rw [lkB_cons] at hl
    split at hl
    · injection hl with hl; subst hl; exact sc_iff.1 hk b' hb'
    · exact hwf.hs b1 k1 hl b' hb'
/-- an operation whose outcome is one of a family of states -/
theorem OW_any {ops : Array Oper} {o : Oper} {rest : List Oper} {ι : Sort _} (s' : ι → S) (v : ι → V) (hg : o.guard = none) (hN : okDst c.N o.dst = true) (hv : ∀ i, sc (s' i).n (v i).ids = true)
    (run : ∀ ρ0 w0 ρ a w, GR c.gl c.D ρ0 → St c ρ0 w0 ρ s a w → ∃ i ρ' w', St c ρ0 w0 ρ' (s' i) a w' ∧ ((execOp a.eval o).run c.P w = .ok (.value (rv ρ' (v i))) w' ∨ (v i = .bot ∧ (execOp a.eval o).run c.P w = .ok .skip w')))
    (h : ∀ i, OW c ops Q rest ((s' i).put o.dst (v i))) : OW c ops Q (o :: rest) s := by
  intro ρ0 w0 hgr ρ a w hs
  obtain ⟨i, ρ', w', hs', hr⟩ := run ρ0 w0 ρ a w hgr hs
  refine wpList_plain hg fun K hK => ?_
  unfold Oper.wp
  rcases hr with hr | ⟨hv0, hr⟩
  · rw [hr]
    exact hK _ _ (h i ρ0 w0 hgr _ _ w' (hs'.put o.dst (v i) _ (okDst_lt hN) (.inr rfl) (hv i)))
  · rw [hr]
    exact hK _ _ (h i ρ0 w0 hgr _ _ w' (hs'.put o.dst (v i) _ (okDst_lt hN) (.inl hv0) (hv i)))
theorem run_storeVar {P : Program} {T : TT} (tok : TOK P T) {t : Nat} {i : TI} (ht : lkT T t = some i) {w : World} {r o : Nat} {cs : Array Value} {t' : TypeId} {v : Value} (h : w.heap[r]? = some (.cells cs t' (0, 0)))
    (h1 : ∀ x ∈ v.cells.toList, x.oneCell' = true) (hs : v.cells.size = i.size) (hb : o + i.size ≤ cs.size) :
    ∃ w', (storeVar t ⟨r, o, none⟩ v).run P w = .ok () w' ∧ Wrote w w' r (.cells (putA cs o v.cells.toList) t' (0, 0)) := by
  obtain ⟨w', hr, hw⟩ := run_storeCells (P := P) v.cells.toList w r o 0 cs t' h h1 (by simp; omega)
  refine ⟨w', ?_, hw⟩
  simp [storeVar, run_sizeOf' tok ht, hs, hr]
theorem oneInts (l : List Int) : ∀ x ∈ (icells l).toList, x.oneCell' = true := by simp [icells, Value.oneCell']
/-- one number stored -/
theorem OW_st {ops : Array Oper} {dst : Option Tmp} {ty t t' : TypeId} {pos : String} {af : Array Edge} {rest : List Oper} {x y : Operand} {i : TI} {b o : Nat} {n : Int} {l : List Int} (ht : lkT c.T t = some i) (hsz : i.size = 1) (hx : ev c s.F x = some (.ptr b o))
    (hy : ev c s.F y = some (.int n)) (hb : lkB s.H b = some (.ints t' l)) (ho : o < l.length) (hN : okDst c.N dst = true) (h : OW c ops Q rest (S.put { F := s.F, H := (b, .ints t' (l.set o n)) :: s.H, n := s.n } dst .bot)) :
    OW c ops Q (⟨dst, .store t x y, ty, pos, af, none⟩ :: rest) s := by
  refine OW_any (ι := Unit) (fun _ => { F := s.F, H := (b, .ints t' (l.set o n)) :: s.H, n := s.n }) (fun _ => .bot) rfl hN (fun _ => rfl) (fun ρ0 w0 ρ a w hg hs => ?_) (fun _ => h)
  obtain ⟨ob, ho1, ho2⟩ := hs.cc.hr.1 b _ hb (by simp)
  simp only [BR] at ho2; subst ho2
  obtain ⟨w', hr, hw⟩ := run_storeVar (v := .int .i64 n) (o := o) c.tok ht ho1 (by simp [Value.cells, Value.oneCell']) (by simp [Value.cells, hsz]) (by rw [size_icells]; omega)
  refine ⟨(), ρ, w', ⟨hs.cc.wrote hb (by simp) rfl rfl hw ?_, hs.fr, hs.wf.upd hb rfl⟩, .inr ⟨rfl, ?_⟩⟩
  · have := icells_set l o n
    simp only [BR, ← this]; rfl
  · simp [execOp, Instr.storeAt, Instr.sureAddr, ev_rv hg hs.cc.inv.fix hs.fr hx (by simp), ev_rv hg hs.cc.inv.fix hs.fr hy (by simp), rv, hr]
/-- an array of numbers stored -/
theorem OW_sta {ops : Array Oper} {dst : Option Tmp} {ty t t' : TypeId} {pos : String} {af : Array Edge} {rest : List Oper} {x y : Operand} {i : TI} {b o : Nat} {m l : List Int} (ht : lkT c.T t = some i) (hx : ev c s.F x = some (.ptr b o))
    (hy : ev c s.F y = some (.arr m)) (hb : lkB s.H b = some (.ints t' l)) (hsz : m.length = i.size) (ho : o + i.size ≤ l.length) (hN : okDst c.N dst = true) (h : OW c ops Q rest (S.put { F := s.F, H := (b, .ints t' (putI l o m)) :: s.H, n := s.n } dst .bot)) :
    OW c ops Q (⟨dst, .store t x y, ty, pos, af, none⟩ :: rest) s := by
  refine OW_any (ι := Unit) (fun _ => { F := s.F, H := (b, .ints t' (putI l o m)) :: s.H, n := s.n }) (fun _ => .bot) rfl hN (fun _ => rfl) (fun ρ0 w0 ρ a w hg hs => ?_) (fun _ => h)
  obtain ⟨ob, ho1, ho2⟩ := hs.cc.hr.1 b _ hb (by simp)
  simp only [BR] at ho2; subst ho2
  obtain ⟨w', hr, hw⟩ := run_storeVar (v := .agg (icells m)) (o := o) c.tok ht ho1 (oneInts m) (by simp [Value.cells, size_icells, hsz]) (by rw [size_icells]; omega)
  refine ⟨(), ρ, w', ⟨hs.cc.wrote hb (by simp) rfl rfl hw ?_, hs.fr, hs.wf.upd hb rfl⟩, .inr ⟨rfl, ?_⟩⟩
  · have := putA_icells m l o
    simp only [BR]
    rw [← this]
    rfl
  · simp only [icells] at hr
    simp [execOp, Instr.storeAt, Instr.sureAddr, ev_rv hg hs.cc.inv.fix hs.fr hx (by simp), ev_rv hg hs.cc.inv.fix hs.fr hy (by simp), rv, hr]
theorem putI_full : ∀ (m l pre : List Int), l.length = m.length → putI (pre ++ l) pre.length m = pre ++ m
  | [], l, pre, h => by
    have : l = [] := List.eq_nil_of_length_eq_zero h
    simp [putI, this]
  | x :: m, [], pre, h => by simp at h
  | x :: m, y :: l, pre, h => by
    have ih := putI_full m l (pre ++ [x]) (by simpa using h)
    simp only [List.length_append, List.length_cons, List.length_nil, Nat.zero_add, List.append_assoc, List.cons_append, List.nil_append] at ih
    simp only [putI]
    rw [← ih]
    congr 1
    simp
/-- a whole block stored over -/
theorem OW_stw {ops : Array Oper} {dst : Option Tmp} {ty t t' : TypeId} {pos : String} {af : Array Edge} {rest : List Oper} {x y : Operand} {i : TI} {b : Nat} {m l : List Int} (ht : lkT c.T t = some i) (hx : ev c s.F x = some (.ptr b 0))
    (hy : ev c s.F y = some (.arr m)) (hb : lkB s.H b = some (.ints t' l)) (hsz : m.length = i.size) (ho : l.length = i.size) (hN : okDst c.N dst = true) (h : OW c ops Q rest (S.put { F := s.F, H := (b, .ints t' m) :: s.H, n := s.n } dst .bot)) :
    OW c ops Q (⟨dst, .store t x y, ty, pos, af, none⟩ :: rest) s := by
  refine OW_sta ht hx hy hb hsz (by omega) hN ?_
  have := putI_full m l [] (by omega)
  simp only [List.nil_append, List.length_nil] at this
  rw [this]; exact h
theorem rv_one {ρ : Nat → Nat} {v : V} (h : one v = true) (ha : noAgg v = true) : (rv ρ v).oneCell' = true := by
  cases v <;> simp [one, noAgg] at h ha <;> first | rfl | exact h
/-- one cell that is no number stored -/
theorem OW_stv {ops : Array Oper} {dst : Option Tmp} {ty t t' : TypeId} {pos : String} {af : Array Edge} {rest : List Oper} {x y : Operand} {i : TI} {b o : Nat} {v : V} {l : List V} (ht : lkT c.T t = some i) (hsz : i.size = 1) (hx : ev c s.F x = some (.ptr b o))
    (hy : ev c s.F y = some v) (hb : lkB s.H b = some (.vals t' l)) (h1 : one v = true) (h2 : noAgg v = true) (ho : o < l.length) (hN : okDst c.N dst = true) (hsc : sc s.n (idss (l.set o v)) = true)
    (h : OW c ops Q rest (S.put { F := s.F, H := (b, .vals t' (l.set o v)) :: s.H, n := s.n } dst .bot)) : OW c ops Q (⟨dst, .store t x y, ty, pos, af, none⟩ :: rest) s := by
  refine OW_any (ι := Unit) (fun _ => { F := s.F, H := (b, .vals t' (l.set o v)) :: s.H, n := s.n }) (fun _ => .bot) rfl hN (fun _ => rfl) (fun ρ0 w0 ρ a w hg hs => ?_) (fun _ => h)
  obtain ⟨ob, ho1, ho2⟩ := hs.cc.hr.1 b _ hb (by simp)
  simp only [BR] at ho2
  obtain ⟨xs, hl, hxs, rfl⟩ := ho2
  have hcv := cells_one' (ρ := ρ) h1 h2
  have hnb : v ≠ .bot := by rintro rfl; simp [one] at h1
  obtain ⟨w', hr, hw⟩ := run_storeVar (v := rv ρ v) (o := o) c.tok ht ho1 (by simp [hcv, rv_one h1 h2]) (by simp [hcv, hsz]) (by simp; omega)
  refine ⟨(), ρ, w', ⟨hs.cc.wrote hb (by simp) rfl rfl hw ?_, hs.fr, hs.wf.upd hb hsc⟩, .inr ⟨rfl, ?_⟩⟩
  · refine ⟨xs.set o (rv ρ v), by simp [hl], fun j u hu => ?_, by simp [hcv, putA]⟩
    by_cases e : o = j
    · subst e
      simp only [List.getElem?_set_self ho] at hu
      injection hu with hu; subst hu
      exact ⟨rv ρ v, by rw [List.getElem?_set_self (by omega)], .inr rfl⟩
    · rw [List.getElem?_set_ne e] at hu
      obtain ⟨z, hz1, hz2⟩ := hxs j u hu
      exact ⟨z, by rw [List.getElem?_set_ne e]; exact hz1, hz2⟩
  · simp [execOp, Instr.storeAt, Instr.sureAddr, ev_rv hg hs.cc.inv.fix hs.fr hx (by simp), ev_rv hg hs.cc.inv.fix hs.fr hy hnb, rv, hr]
end
end Go.Proofs.Ytoiolpgmilobnaa
namespace Go.Proofs.Ytoiolpgmilobnaa
section
variable {c : Cx} {s : S} {Q : Post}
theorem CC.kill {ρ0 ρ : Nat → Nat} {w0 w : World} {H : Hp} (h : CC c ρ0 w0 ρ H w) (b : Nat) : CC c ρ0 w0 ρ ((b, .dead) :: H) w := by
  have old : ∀ b1 k1, lkB ((b, .dead) :: H) b1 = some k1 → k1 ≠ .dead → b1 ≠ b ∧ lkB H b1 = some k1 := by
    intro b1 k1 hl hd
    rw [lkB_cons] at hl
    split at hl
    · injection hl with hl; exact absurd hl.symm hd
    · rename_i e; exact ⟨Ne.symm e, hl⟩
  exact ⟨⟨fun b1 k1 hl hd => h.hr.1 b1 k1 (old b1 k1 hl hd).2 hd, fun b1 b2 k1 k2 h1 h2 d1 d2 hw he => h.hr.2 b1 b2 k1 k2 (old _ _ h1 d1).2 (old _ _ h2 d2).2 d1 d2 hw he⟩, h.inv.fix,
    fun b1 k1 hl hd hw => h.inv.own b1 k1 (old b1 k1 hl hd).2 hd hw, h.inv.os, h.inv.tape, h.inv.out, h.inv.drw, h.inv.size, h.inv.old⟩
theorem WF.kill (hwf : WF c s) {b : Nat} {k : Blk} (hb : lkB s.H b = some k) : WF c { F := s.F, H := (b, .dead) :: s.H, n := s.n } := hwf.upd hb rfl
/-- the block b goes on under a new id -/
theorem CC.adopt {ρ0 ρ : Nat → Nat} {w0 w w' : World} {H : Hp} (h : CC c ρ0 w0 ρ H w) {b n : Nat} {k k' : Blk} {ob : Obj} (hb : lkB H b = some k) (hk : k ≠ .dead) (hwk : wrt k = true) (hwk' : wrt k' = true) (hD : n ∉ c.D) (hn : lkB H n = none)
    (hids : ∀ b k, lkB H b = some k → ∀ b' ∈ k.ids, b' ≠ n) (hk' : ∀ b' ∈ k'.ids, b' ≠ n) (hw : Wrote w w' (ρ b) ob) (hbr : BR ρ k' ob) :
    CC c ρ0 w0 (up ρ n (ρ b)) ((n, k') :: (b, .dead) :: H) w' := by
  have hbn : b ≠ n := by rintro rfl; rw [hb] at hn; cases hn
  have h1 := h.wrote (k' := k') hb hk hwk hwk' hw hbr
  have cong : ∀ (k1 : Blk) (o' : Obj), (∀ b' ∈ k1.ids, b' ≠ n) → BR ρ k1 o' → BR (up ρ n (ρ b)) k1 o' := fun k1 o' h1 h2 => BR_congr (fun b' hb' => by simp [up, h1 b' hb']) h2
  have look : ∀ b1 k1, lkB ((n, k') :: (b, .dead) :: H) b1 = some k1 → k1 ≠ .dead → (b1 = n ∧ k1 = k') ∨ (b1 ≠ n ∧ b1 ≠ b ∧ lkB H b1 = some k1) := by
    intro b1 k1 hl hd
    rw [lkB_cons] at hl
    split at hl
    · rename_i e; injection hl with hl; exact .inl ⟨e.symm, hl.symm⟩
    · rename_i e
      rw [lkB_cons] at hl
      split at hl
      · injection hl with hl; exact absurd hl.symm hd
      · rename_i e'; exact .inr ⟨Ne.symm e, Ne.symm e', hl⟩
  have lk2 : ∀ b1 k1, b1 ≠ b → lkB H b1 = some k1 → lkB ((b, k') :: H) b1 = some k1 := fun b1 k1 hne hl => by rw [lkB_cons, if_neg (Ne.symm hne)]; exact hl
  refine ⟨⟨fun b1 k1 hl hd => ?_, fun b1 b2 k1 k2 h1' h2' d1 d2 hw12 he => ?_⟩, fun b1 hb1 => ?_, fun b1 k1 hl hd hw1 => ?_, h1.inv.os, h1.inv.tape, h1.inv.out, h1.inv.drw, h1.inv.size, h1.inv.old⟩
  · rcases look b1 k1 hl hd with ⟨rfl, rfl⟩ | ⟨e1, e2, hl'⟩
    · exact ⟨ob, by simp [up, hw.at_], cong _ _ hk' hbr⟩
    · obtain ⟨o1, ho1, hb1⟩ := h1.hr.1 b1 k1 (lk2 b1 k1 e2 hl') hd
      exact ⟨o1, by simp [up, e1, ho1], cong _ _ (hids b1 k1 hl') hb1⟩
  · rcases look b1 k1 h1' d1 with ⟨rfl, rfl⟩ | ⟨e1, e2, hl1⟩ <;> rcases look b2 k2 h2' d2 with ⟨rfl, rfl⟩ | ⟨e3, e4, hl2⟩
    · rfl
    · simp [up, e3] at he
      exact absurd (h.hr.2 b b2 k k2 hb hl2 hk d2 (.inl hwk) he).symm e4
    · simp [up, e1] at he
      exact absurd (h.hr.2 b1 b k1 k hl1 hb d1 hk (.inr hwk) he) e2
    · simp [up, e1, e3] at he
      exact h.hr.2 b1 b2 k1 k2 hl1 hl2 d1 d2 hw12 he
  · have : b1 ≠ n := fun e => hD (e ▸ hb1)
    simp [up, this, h.inv.fix b1 hb1]
  · rcases look b1 k1 hl hd with ⟨rfl, rfl⟩ | ⟨e1, e2, hl'⟩
    · simp only [up, if_true]; exact h.inv.own b k hb hk hwk
    · simp only [up, if_neg e1]; exact h.inv.own b1 k1 hl' hd hw1
theorem CC.drew' {ρ0 ρ : Nat → Nat} {w0 w : World} {H : Hp} (h : CC c ρ0 w0 ρ H w) : CC c ρ0 w0 ρ H w.drew := h.drew
/-! ### the append's parts -/
theorem growBy_le (n : Nat) : ∀ (r k : Nat), k < n → Builtin.growBy n r k ≤ n + (n + 768) / 4
  | 0, k, h => by simp [Builtin.growBy]; omega
  | r + 1, k, h => by
    simp only [Builtin.growBy]
    rw [if_neg (by omega)]
    by_cases h' : k + (k + 768) / 4 < n
    · exact growBy_le n r _ h'
    · cases r with
      | zero => simp [Builtin.growBy]; omega
      | succ r => simp only [Builtin.growBy]; rw [if_pos (by omega)]; omega
theorem nextslicecap_le {n k : Nat} (h : k < n) : Builtin.nextslicecap n k ≤ 2 * n + 192 := by
  unfold Builtin.nextslicecap
  split
  · omega
  · split
    · omega
    · have := growBy_le n 4 k h; omega
/-- what an element's zero is, in numbers -/
def ZI (i : TI) (sz : Nat) : Prop := 0 < sz ∧ i.size = sz ∧ (i.z = some (.int 0) ∧ sz = 1 ∨ i.z = some (.arr (List.replicate sz 0)))
theorem run_zero {e : Nat} {i : TI} {sz : Nat} (he : lkT c.T e = some i) (hz : ZI i sz) (w : World) : ∃ v : Value, (zeroValue e).run c.P w = .ok v w ∧ v.cells = icells (List.replicate sz 0) := by
  obtain ⟨_, ⟨j, hj, _, _, hz'⟩, _⟩ := c.tok e i he
  rcases hz.2.2 with ⟨h1, rfl⟩ | h1
  · exact ⟨.int .i64 0, by simp [zeroValue, typeInfo, hj, (hz' _ h1).1, rv], rfl⟩
  · exact ⟨.agg (icells (List.replicate sz 0)), by simp [zeroValue, typeInfo, hj, (hz' _ h1).1, rv, icells], rfl⟩
theorem zeroCells_ints {sz : Nat} (h : 0 < sz) (n : Nat) : Builtin.zeroCells (icells (List.replicate sz 0)) n = icells (List.replicate (n * sz) 0) := by
  unfold Builtin.zeroCells
  have := zmod (List.replicate sz 0) (by simp; omega) n
  simp only [List.length_replicate] at this
  rw [size_icells, List.length_replicate]
  rw [size_icells, List.length_replicate] at this
  rw [this]
  congr 1
  apply List.ext_getElem (by simp)
  intro q hq1 hq2
  have : q % sz < sz := Nat.mod_lt _ h
  simp [List.getD, this]
theorem run_loadInts' {ρ0 ρ : Nat → Nat} {w0 w : World} {H : Hp} {b o n t' : Nat} {l : List Int} (hw : CC c ρ0 w0 ρ H w) (hb : lkB H b = some (.ints t' l)) (h : o + n ≤ l.length) :
    (loadCells ⟨ρ b, o, none⟩ n).run c.P w = .ok (icells ((l.drop o).take n)) w := by
  have hlen : ((l.drop o).take n).length = n := by simp; omega
  have hl := run_loadCells_list (P := c.P) w ⟨ρ b, o, none⟩ (((l.drop o).take n).map (Value.int .i64)) (fun j v hv => by
    rw [add_none, cell_ints hw hb]
    simp only [List.getElem?_map, Option.map_eq_some_iff] at hv ⊢
    obtain ⟨z, hz, rfl⟩ := hv
    refine ⟨z, ?_, rfl⟩
    rw [List.getElem?_take] at hz
    split at hz
    · simpa [List.getElem?_drop] using hz
    · cases hz)
  rw [List.length_map, hlen] at hl
  exact hl
/-- x is a slice of m elements whose numbers are xs -/
inductive IsSl (H : Hp) (sz : Nat) : V → Nat → List Int → Prop
  | nil : IsSl H sz .nilsl 0 []
  | mk {b o n k t : Nat} {l : List Int} (hb : lkB H b = some (.ints t l)) (h : o + n * sz ≤ l.length) : IsSl H sz (.slice b o n k) n ((l.drop o).take (n * sz))
theorem IsSl.len {H : Hp} {sz : Nat} {v : V} {n : Nat} {xs : List Int} (h : IsSl H sz v n xs) : xs.length = n * sz := by
  cases h with
  | nil => simp
  | mk hb h => simp; omega
theorem IsSl.run {ρ0 ρ : Nat → Nat} {w0 w : World} {H : Hp} {sz n : Nat} {v : V} {xs : List Int} (h : IsSl H sz v n xs) (hw : CC c ρ0 w0 ρ H w) :
    (Builtin.lenOf (rv ρ v)).run c.P w = .ok n w ∧ (Builtin.firstCells sz n (rv ρ v)).run c.P w = .ok (icells xs) w := by
  cases h with
  | nil => exact ⟨rfl, rfl⟩
  | mk hb h =>
    refine ⟨rfl, ?_⟩
    simp only [rv, Builtin.firstCells]
    exact run_loadInts' hw hb h
theorem icells_append (a b : List Int) : icells a ++ icells b = icells (a ++ b) := by simp [icells]
/-- the run of an append of numbers, as far as both ways have it alike -/
theorem app_fit {ρ0 ρ : Nat → Nat} {w0 w : World} {ats : Array TypeId} {t t2 : TypeId} {ty : TypeId} {i i2 ie : TI} {e e2 sz b o n k m t' : Nat} {y : V} {xs l : List Int} (hat : ats = #[t, t2]) (ht : lkT c.T t = some i) (hd : i.d = .slice e) (ht2 : lkT c.T t2 = some i2) (hd2 : i2.d = .slice e2)
    (he : lkT c.T e = some ie) (hsz : ie.size = sz) (hw : CC c ρ0 w0 ρ s.H w) (hb : lkB s.H b = some (.ints t' l)) (hy : IsSl s.H sz y m xs) (hfit : n + m ≤ k) (hroom : o + (n + m) * sz ≤ l.length) :
    ∃ w', (Builtin.append_ ats ty #[rv ρ (.slice b o n k), rv ρ y]).run c.P w = .ok (rv ρ (.slice b o (n + m) k)) w' ∧ Wrote w w' (ρ b) (.cells (icells (putI l (o + n * sz) xs)) t' (0, 0)) := by
  subst hat
  have hu := (c.tok t i ht).1
  rw [hd] at hu
  have hu2 := (c.tok t2 i2 ht2).1
  rw [hd2] at hu2
  obtain ⟨r1, r2⟩ := hy.run hw
  obtain ⟨ob, ho1, ho2⟩ := hw.hr.1 b _ hb (by simp)
  simp only [BR] at ho2; subst ho2
  have hlen := hy.len
  rw [Nat.add_mul] at hroom
  obtain ⟨w', hr, hwr⟩ := run_storeCells (P := c.P) (xs.map (Value.int .i64)) w (ρ b) (o + n * sz) 0 (icells l) t' ho1 (by simp [Value.oneCell']) (by simp [size_icells, hlen]; omega)
  refine ⟨w', ?_, ?_⟩
  · simp only [Builtin.append_, rv] at r1 r2 ⊢
    simp [run_underlying hu, run_underlying hu2, run_sizeOf' c.tok he, hsz, r1, r2, hfit, add_none, icells]
    simp [hr]
  · rw [Nat.add_zero] at hwr
    rw [putA_icells] at hwr
    exact hwr
theorem app_grow {ρ0 ρ : Nat → Nat} {w0 w : World} {ats : Array TypeId} {t t2 : TypeId} {ty : TypeId} {i i2 ie : TI} {e e2 sz n k m by_ : Nat} {x y : V} {xs ys : List Int} (hat : ats = #[t, t2]) (ht : lkT c.T t = some i) (hd : i.d = .slice e) (ht2 : lkT c.T t2 = some i2) (hd2 : i2.d = .slice e2)
    (he : lkT c.T e = some ie) (hz : ZI ie sz) (hby : ie.bytes = by_) (hw : CC c ρ0 w0 ρ s.H w) (hx : IsSl s.H sz x n ys) (hxv : (∃ b o, x = .slice b o n k) ∨ x = .nilsl ∧ k = 0) (hy : IsSl s.H sz y m xs) (hfit : ¬ n + m ≤ k) (hlim : (2 * (n + m) + 192) * by_ ≤ 281474976710656) (h63 : n + m ≤ 1000000000000) (hb0 : 0 < by_) :
    ∃ k' w', (Builtin.append_ ats ty #[rv ρ x, rv ρ y]).run c.P w = .ok (.slice (some ⟨w.heap.size, 0, none⟩) (n + m) k') w' ∧ n + m ≤ k' ∧ w'.heap = w.heap.push (.cells (icells (ys ++ xs ++ List.replicate ((k' - (n + m)) * sz) 0)) e (0, 0)) ∧ Same w w' := by
  subst hat
  have hu := (c.tok t i ht).1
  rw [hd] at hu
  have hu2 := (c.tok t2 i2 ht2).1
  rw [hd2] at hu2
  obtain ⟨r1, r2⟩ := hy.run hw
  obtain ⟨r1d, r2d⟩ := hy.run hw.drew'
  obtain ⟨q1, q2⟩ := hx.run hw.drew'
  obtain ⟨_, ⟨j, hj, hjs, hjb, hz'⟩, _⟩ := c.tok e ie he
  obtain ⟨zv, hzv, hzc⟩ := run_zero (c := c) he hz w.drew
  have hcap : Builtin.nextslicecap (n + m) k ≤ 2 * (n + m) + 192 := nextslicecap_le (by omega)
  have hbytes : ¬ 2 ^ 48 < Builtin.nextslicecap (n + m) k * j.bytes := by
    rw [hjb, hby]
    have := Nat.mul_le_mul_right by_ hcap
    omega
  have hnb : j.bytes ≠ 0 := by rw [hjb, hby]; omega
  refine ⟨(n + m) + w.tape w.drawn (.appendCap (n + m) k e) % (2 ^ 63 - (n + m)), w.drew.alloc (.cells (icells (ys ++ xs ++ List.replicate (((n + m) + w.tape w.drawn (.appendCap (n + m) k e) % (2 ^ 63 - (n + m)) - (n + m)) * sz) 0)) e (0, 0)), ?_, by omega, rfl, ⟨rfl, rfl, rfl, Nat.le_succ _⟩⟩
  have hxr : rv ρ x = .slice (match x with | .slice b o _ _ => some ⟨ρ b, o, none⟩ | _ => none) n k := by
    rcases hxv with ⟨b, o, rfl⟩ | ⟨rfl, rfl⟩
    · rfl
    · cases hx; rfl
  rw [hxr] at q2 ⊢
  generalize (match x with | .slice b o _ _ => some (⟨ρ b, o, none⟩ : Addr) | _ => none) = A at *
  have hsz : ie.size = sz := hz.2.1
  simp only [Builtin.append_] at r1 r2 r1d r2d ⊢
  simp [run_underlying hu, run_underlying hu2, run_sizeOf' c.tok he, hsz, r1, hfit, typeInfo, hj, hnb, hbytes, Question.forced, Question.cut, q2, r2d, hzv, hzc, zeroCells_ints hz.1, newRow, icells_append]
/-! ### append, as rules -/
theorem exec_app {o : Oper} {x y : Operand} {u v : V} {ats : Array TypeId} {ρ0 ρ : Nat → Nat} {w0 : World} {a : Act} {w w' : World} {z : Value} (ho : o.op = .call ⟨.builtin .append, #[x, y], ats⟩) (hg : GR c.gl c.D ρ0) (hs : St c ρ0 w0 ρ s a w)
    (hx : ev c s.F x = some u) (hy : ev c s.F y = some v) (hu : nb u = true) (hv : nb v = true) (hr : (Builtin.append_ ats o.type #[rv ρ u, rv ρ v]).run c.P w = .ok z w') : (execOp a.eval o).run c.P w = .ok (.value z) w' := by
  simp [execOp, ho, resolve, invoke, builtin, ev_rv hg hs.cc.inv.fix hs.fr hx (ne_bot hu), ev_rv hg hs.cc.inv.fix hs.fr hy (ne_bot hv), hr]
theorem IsSl.nb {H : Hp} {sz : Nat} {v : V} {n : Nat} {xs : List Int} (h : IsSl H sz v n xs) : Go.Proofs.Ytoiolpgmilobnaa.nb v = true := by cases h <;> rfl
theorem St.kill {ρ0 ρ : Nat → Nat} {w0 w : World} {a : Act} {b : Nat} {k : Blk} (hs : St c ρ0 w0 ρ s a w) (hb : lkB s.H b = some k) : St c ρ0 w0 ρ { F := s.F, H := (b, .dead) :: s.H, n := s.n } a w :=
  ⟨hs.cc.kill b, hs.fr, hs.wf.kill hb⟩
/-- a row of the call's own, whole: it goes on under a new id; what lies behind its length is not told -/
theorem OW_app_own {ops : Array Oper} {dst : Option Tmp} {ty t t2 : TypeId} {ats : Array TypeId} {pos : String} {af : Array Edge} {rest : List Oper} {x y : Operand} {i i2 ie : TI} {e e2 sz b n k m by_ : Nat} {v : V} {xs l : List Int}
    (hat : ats = #[t, t2]) (ht : lkT c.T t = some i) (hd : i.d = .slice e) (ht2 : lkT c.T t2 = some i2) (hd2 : i2.d = .slice e2) (he : lkT c.T e = some ie) (hz : ZI ie sz) (hby : ie.bytes = by_) (hb0 : 0 < by_)
    (hx : ev c s.F x = some (.slice b 0 n k)) (hy : ev c s.F y = some v) (hb : lkB s.H b = some (.ints e l)) (hv : IsSl s.H sz v m xs) (hroom : k * sz ≤ l.length) (hnk : n ≤ k) (hlim : (2 * (n + m) + 192) * by_ ≤ 281474976710656) (h63 : n + m ≤ 1000000000000)
    (hN : okDst c.N dst = true) (hn : Nat.blt s.n 1000 = true) (hsc : sc (s.n + 1) [s.n] = true)
    (h : ∀ (k' : Nat) (spare : List Int), n + m ≤ k' → k' * sz ≤ (n + m) * sz + spare.length → OW c ops Q rest (S.put { F := s.F, H := (s.n, .ints e (l.take (n * sz) ++ xs ++ spare)) :: (b, .dead) :: s.H, n := s.n + 1 } dst (.slice s.n 0 (n + m) k'))) :
    OW c ops Q (⟨dst, .call ⟨.builtin .append, #[x, y], ats⟩, ty, pos, af, none⟩ :: rest) s := by
  have h1000 : s.n < 1000 := by simpa [Nat.blt_eq] using hn
  refine OW_any (ι := { p : Nat × List Int // n + m ≤ p.1 ∧ p.1 * sz ≤ (n + m) * sz + p.2.length }) (fun p => { F := s.F, H := (s.n, .ints e (l.take (n * sz) ++ xs ++ p.1.2)) :: (b, .dead) :: s.H, n := s.n + 1 }) (fun p => .slice s.n 0 (n + m) p.1.1) rfl hN (fun _ => hsc) (fun ρ0 w0 ρ a w hg hs => ?_)
    (fun p => h p.1.1 p.1.2 p.2.1 p.2.2)
  have hnsz : n * sz ≤ k * sz := Nat.mul_le_mul_right sz hnk
  have hne : ∀ b', (b' < s.n ∨ 1000 ≤ b') → b' ≠ s.n := fun b' h => by omega
  by_cases hfit : n + m ≤ k
  · have hmsz : (n + m) * sz ≤ k * sz := Nat.mul_le_mul_right sz hfit
    obtain ⟨w', hr, hw⟩ := app_fit (ty := ty) (o := 0) hat ht hd ht2 hd2 he hz.2.1 hs.cc hb hv hfit (by omega)
    have hlen := hv.len
    have e1 : putI l (0 + n * sz) xs = l.take (n * sz) ++ xs ++ l.drop ((n + m) * sz) := by
      have hsplit : l = l.take (n * sz) ++ ((l.drop (n * sz)).take (m * sz) ++ l.drop ((n + m) * sz)) := by
        rw [show l.drop ((n + m) * sz) = (l.drop (n * sz)).drop (m * sz) by rw [List.drop_drop, Nat.add_mul], List.take_append_drop, List.take_append_drop]
      have hpl : (l.take (n * sz)).length = n * sz := by simp; omega
      have key : ∀ (xs mid pre post : List Int), mid.length = xs.length → putI (pre ++ (mid ++ post)) pre.length xs = pre ++ xs ++ post := by
        intro xs
        induction xs with
        | nil => intro mid pre post h; have : mid = [] := List.eq_nil_of_length_eq_zero h; simp [putI, this]
        | cons x r ih =>
          intro mid pre post h
          match mid with
          | [] => simp at h
          | y :: mid =>
            have := ih mid (pre ++ [x]) post (by simpa using h)
            simp only [List.length_append, List.length_cons, List.length_nil, Nat.zero_add, List.append_assoc, List.cons_append, List.nil_append] at this
            simp only [putI, List.append_assoc]
            have e2 : (pre ++ (y :: mid ++ post)).set pre.length x = pre ++ x :: (mid ++ post) := by simp
            rw [e2, this]
            simp
      have hmid : ((l.drop (n * sz)).take (m * sz)).length = xs.length := by
        rw [hlen]; simp; rw [Nat.add_mul] at hmsz; omega
      have := key xs _ (l.take (n * sz)) (l.drop ((n + m) * sz)) hmid
      rw [hpl, ← hsplit] at this
      rw [Nat.zero_add]; exact this
    rw [e1] at hw
    refine ⟨⟨(k, l.drop ((n + m) * sz)), hfit, by simp only [List.length_drop]; omega⟩, up ρ s.n (ρ b), w', ⟨hs.cc.adopt hb (by simp) rfl rfl (hs.wf.fresh s.n (Nat.le_refl _) h1000).2 (hs.wf.fresh s.n (Nat.le_refl _) h1000).1
      (fun b k' hl b' hb' => hne b' (hs.wf.hs b k' hl b' hb')) (by simp [Blk.ids]) hw rfl, hs.fr.up hs.wf h1000 _, (hs.wf.kill hb).push (.ints e _) rfl⟩, .inl (exec_app rfl hg hs hx hy rfl hv.nb ?_)⟩
    rw [hr]
    have hbn : b ≠ s.n := by rintro rfl; have := (hs.wf.fresh s.n (Nat.le_refl _) h1000).1; rw [hb] at this; cases this
    simp [rv, up]
  · obtain ⟨k', w', hr, hk', hw, hsm⟩ := app_grow (ty := ty) (y := v) hat ht hd ht2 hd2 he hz hby hs.cc (.mk (b := b) (o := 0) (n := n) (k := k) hb (by omega)) (.inl ⟨b, 0, rfl⟩) hv hfit hlim h63 hb0
    rw [List.drop_zero] at hw
    have := (hs.kill hb).push h1000 (k := .ints e (l.take (n * sz) ++ xs ++ List.replicate ((k' - (n + m)) * sz) 0)) rfl rfl hw hsm
    refine ⟨⟨(k', List.replicate ((k' - (n + m)) * sz) 0), hk', ?_⟩, _, w', this, .inl ?_⟩
    · simp only [List.length_replicate]
      rw [← Nat.add_mul]
      exact Nat.mul_le_mul_right sz (by omega)
    · refine exec_app rfl hg hs hx hy rfl hv.nb ?_
      rw [hr]
      simp [rv, up]
theorem OW_clear {ops : Array Oper} {dst : Option Tmp} {ty t : TypeId} {ats : Array TypeId} {pos : String} {af : Array Edge} {rest : List Oper} {x : Operand} {i ie : TI} {e sz b o n k t' : Nat} {l : List Int} (hat : ats = #[t])
    (ht : lkT c.T t = some i) (hd : i.d = .slice e) (he : lkT c.T e = some ie) (hz : ZI ie sz) (hx : ev c s.F x = some (.slice b o n k)) (hb : lkB s.H b = some (.ints t' l)) (hroom : o + n * sz ≤ l.length) (hN : okDst c.N dst = true)
    (h : OW c ops Q rest (S.put { F := s.F, H := (b, .ints t' (putI l o (List.replicate (n * sz) 0))) :: s.H, n := s.n } dst .bot)) :
    OW c ops Q (⟨dst, .call ⟨.builtin .clear, #[x], ats⟩, ty, pos, af, none⟩ :: rest) s := by
  subst hat
  refine OW_any (ι := Unit) (fun _ => { F := s.F, H := (b, .ints t' (putI l o (List.replicate (n * sz) 0))) :: s.H, n := s.n }) (fun _ => .bot) rfl hN (fun _ => rfl) (fun ρ0 w0 ρ a w hg hs => ?_) (fun _ => h)
  have hu := (c.tok t i ht).1
  rw [hd] at hu
  obtain ⟨ob, ho1, ho2⟩ := hs.cc.hr.1 b _ hb (by simp)
  simp only [BR] at ho2; subst ho2
  obtain ⟨zv, hzv, hzc⟩ := run_zero (c := c) he hz w
  cases n with
  | zero =>
    refine ⟨(), ρ, w, ⟨hs.cc.wrote (o' := .cells (icells l) t' (0, 0)) hb (by simp) rfl rfl ⟨ho1, rfl, fun _ _ => rfl, Same.refl w⟩ (by simp [BR, putI]), hs.fr, hs.wf.upd hb rfl⟩, .inl ?_⟩
    simp [execOp, resolve, invoke, builtin, Builtin.clear_, run_underlying hu, ev_rv hg hs.cc.inv.fix hs.fr hx (by simp), rv, undef]
  | succ n =>
    obtain ⟨w', hr, hwr⟩ := run_storeCells (P := c.P) ((List.replicate ((n + 1) * sz) 0).map (Value.int .i64)) w (ρ b) o 0 (icells l) t' ho1 (by simp [Value.oneCell']) (by simp [size_icells]; omega)
    rw [Nat.add_zero, putA_icells] at hwr
    refine ⟨(), ρ, w', ⟨hs.cc.wrote hb (by simp) rfl rfl hwr rfl, hs.fr, hs.wf.upd hb rfl⟩, .inl ?_⟩
    have hzz := zeroCells_ints hz.1 (n + 1)
    have hr' : (storeCells ⟨ρ b, o, none⟩ (icells (List.replicate ((n + 1) * sz) 0)).toList 0).run c.P w = .ok () w' := hr
    simp [execOp, resolve, invoke, builtin, Builtin.clear_, ev_rv hg hs.cc.inv.fix hs.fr hx (by simp), rv, run_underlying hu, hzv, hzc, hzz, hr', undef]
end
end Go.Proofs.Ytoiolpgmilobnaa
namespace Go.Proofs.Ytoiolpgmilobnaa
/-! ### a state seen with other ids, and less of it -/
def vF (τ : Nat → Nat) (F : Fr) : Fr → Prop
  | [] => True
  | (t, v) :: r => lkV F t = some (ren τ v) ∧ vF τ F r
def vH (τ : Nat → Nat) (H : Hp) : Hp → Prop
  | [] => True
  | (b, k) :: r => lkB H (τ b) = some (k.ren τ) ∧ vH τ H r
def ids (H : Hp) : List Nat := H.map (·.1)
def wids (H : Hp) : List Nat := (H.filter fun x => wrt x.2).map (·.1)
def wfB (D : List Nat) (s : S) : Bool :=
  (s.H.all fun x => (Nat.blt x.1 s.n || Nat.ble 1000 x.1) && sc s.n x.2.ids) && (D.all fun b => Nat.blt b s.n || Nat.ble 1000 b) && s.F.all fun x => sc s.n x.2.ids
theorem wf_of {c : Cx} {s : S} (h : wfB c.D s = true) : WF c s := by
  simp only [wfB, Bool.and_eq_true, List.all_eq_true, Bool.or_eq_true, Nat.blt_eq, Nat.ble_eq] at h
  obtain ⟨⟨h1, h2⟩, h3⟩ := h
  refine ⟨fun b hb1 hb2 => ⟨lkB_none fun k hk => ?_, fun hD => ?_⟩, fun t v hv b hb => sc_iff.1 (h3 _ (lkV_mem hv)) b hb, fun b k hk b' hb' => sc_iff.1 (h1 _ (lkB_mem hk)).2 b' hb'⟩
  · have := (h1 _ hk).1; simp only at this; omega
  · have := h2 _ hD; omega
/-- a map on ids, by its pairs -/
def ap : List (Nat × Nat) → Nat → Nat
  | [], b => b
  | (i, j) :: r, b => match Nat.beq i b with
    | true => j
    | false => ap r b
def injB (τ : Nat → Nat) : List Nat → Bool
  | [] => true
  | b :: r => (r.all fun b' => Nat.beq b b' || !(Nat.beq (τ b) (τ b'))) && injB τ r
theorem injB_iff {τ : Nat → Nat} {l : List Nat} (h : injB τ l = true) : ∀ b ∈ l, ∀ b' ∈ l, τ b = τ b' → b = b' := by
  induction l with
  | nil => simp
  | cons x r ih =>
    simp only [injB, Bool.and_eq_true, List.all_eq_true, Bool.or_eq_true, Bool.not_eq_true'] at h
    obtain ⟨h1, h2⟩ := h
    have key : ∀ b' ∈ r, τ x = τ b' → x = b' := fun b' hb' e => by
      rcases h1 b' hb' with h | h
      · exact Nat.eq_of_beq_eq_true h
      · rw [e] at h; simp at h
    intro b hb b' hb' e
    rcases List.mem_cons.1 hb with h3 | h3 <;> rcases List.mem_cons.1 hb' with h4 | h4
    · rw [h3, h4]
    · subst h3; exact key b' h4 e
    · subst h4; exact (key b h3 e.symm).symm
    · exact ih h2 b h3 b' h4 e
structure ViewT (c : Cx) (τ : Nat → Nat) (s' s : S) : Prop where
  fixD : ∀ d ∈ c.D, τ d = d
  fr : vF τ s.F s'.F
  hp : vH τ s.H s'.H
  inj : ∀ b ∈ ids s'.H, ∀ b' ∈ ids s'.H, τ b = τ b' → b = b'
  wf : WF c s'
def View (c : Cx) (s' s : S) : Prop := ∃ τ, ViewT c τ s' s
theorem vF_lk {τ : Nat → Nat} {F F' : Fr} (h : vF τ F F') {t : Nat} {v : V} (hv : lkV F' t = some v) : lkV F t = some (ren τ v) := by
  induction F' with
  | nil => simp [lkV] at hv
  | cons x r ih =>
    obtain ⟨t', v'⟩ := x
    simp only [vF] at h
    rw [lkV_cons] at hv
    split at hv
    · rename_i e; subst e; injection hv with hv; subst hv; exact h.1
    · exact ih h.2 hv
theorem vH_lk {τ : Nat → Nat} {H H' : Hp} (h : vH τ H H') {b : Nat} {k : Blk} (hv : lkB H' b = some k) : lkB H (τ b) = some (k.ren τ) := by
  induction H' with
  | nil => simp [lkB] at hv
  | cons x r ih =>
    obtain ⟨t', v'⟩ := x
    simp only [vH] at h
    rw [lkB_cons] at hv
    split at hv
    · rename_i e; subst e; injection hv with hv; subst hv; exact h.1
    · exact ih h.2 hv
theorem ren_bot {τ : Nat → Nat} {v : V} (h : v ≠ .bot) : ren τ v ≠ .bot := by cases v <;> simp [ren] at h ⊢
theorem ren_dead {τ : Nat → Nat} {k : Blk} (h : k ≠ .dead) : k.ren τ ≠ .dead := by cases k <;> simp [Blk.ren] at h ⊢
theorem wrt_ren {τ : Nat → Nat} {k : Blk} : wrt (k.ren τ) = wrt k := by cases k <;> rfl
theorem mem_wids {H : Hp} {b : Nat} {k : Blk} (h : lkB H b = some k) (hw : wrt k = true) : b ∈ wids H := List.mem_map.2 ⟨_, List.mem_filter.2 ⟨lkB_mem h, hw⟩, rfl⟩
theorem mem_ids {H : Hp} {b : Nat} {k : Blk} (h : lkB H b = some k) : b ∈ ids H := List.mem_map.2 ⟨_, lkB_mem h, rfl⟩
section
variable {c : Cx} {s s' : S} {Q : Post}
theorem CC.view {ρ0 ρ τ : Nat → Nat} {w0 w : World} {H H' : Hp} (h : CC c ρ0 w0 ρ H w) (fixD : ∀ d ∈ c.D, τ d = d) (hp : vH τ H H') (inj : ∀ b ∈ ids H', ∀ b' ∈ ids H', τ b = τ b' → b = b') : CC c ρ0 w0 (fun b => ρ (τ b)) H' w := by
  refine ⟨⟨fun b k hl hd => ?_, fun b b' k k' h1 h2 d1 d2 hw12 he => ?_⟩, fun b hb => ?_, fun b k hl hd hwk => ?_, h.inv.os, h.inv.tape, h.inv.out, h.inv.drw, h.inv.size, h.inv.old⟩
  · obtain ⟨o, ho, hb⟩ := h.hr.1 _ _ (vH_lk hp hl) (ren_dead hd)
    exact ⟨o, ho, BR_ren hb⟩
  · exact inj b (mem_ids h1) b' (mem_ids h2) (h.hr.2 _ _ _ _ (vH_lk hp h1) (vH_lk hp h2) (ren_dead d1) (ren_dead d2) (by rw [wrt_ren, wrt_ren]; exact hw12) he)
  · simp only [fixD b hb]; exact h.inv.fix b hb
  · exact h.inv.own _ _ (vH_lk hp hl) (ren_dead hd) (by rw [wrt_ren]; exact hwk)
theorem St.view {ρ0 ρ τ : Nat → Nat} {w0 w : World} {a : Act} (hs : St c ρ0 w0 ρ s a w) (h : ViewT c τ s' s) : St c ρ0 w0 (fun b => ρ (τ b)) s' a w :=
  ⟨hs.cc.view h.fixD h.hp h.inj, ⟨hs.fr.1, hs.fr.2.1, fun t v hv => by
    by_cases hb : v = .bot
    · exact .inl hb
    · rcases hs.fr.2.2 t _ (vF_lk h.fr hv) with e | e
      · exact absurd e (ren_bot hb)
      · exact .inr (by rw [e, rv_ren])⟩, h.wf⟩
theorem CW_view {x : Code} (h : View c s' s) (hx : CW c x Q s') : CW c x Q s := by
  obtain ⟨τ, h⟩ := h
  exact fun ρ0 w0 hg ρ a w hs => hx ρ0 w0 hg _ a w (hs.view h)
/-- the usual way to show a view: everything by evaluation -/
theorem View.mk' (l : List (Nat × Nat)) (h1 : (c.D.all fun d => Nat.beq (ap l d) d) = true) (h2 : wfB c.D s' = true) (h3 : injB (ap l) (ids s'.H) = true) (h4 : vF (ap l) s.F s'.F) (h5 : vH (ap l) s.H s'.H) : View c s' s :=
  ⟨ap l, fun d hd => by simpa using (List.all_eq_true.1 h1) d hd, h4, h5, injB_iff h3, wf_of h2⟩
/-! ### loops -/
theorem wp_loop_fam {P : Program} {ι : Type} {x : Code} {Q : Exit → Act → World → Prop} {a : Act} {w : World} (I : ι → Act → World → Prop) (μ : ι → Nat) (i0 : ι) (h0 : I i0 a w)
    (round : ∀ i a w, I i a w → x.wp P (Exit.then (fun a' w' => ∃ j, I j a' w' ∧ μ j < μ i) Q) a w) : (Code.loop x).wp P Q a w := by
  intro b k cs
  have key : ∀ n i a w, μ i = n → I i a w → ∃ e a' w', Q e a' w' ∧ Arrives P (lone (b.at a (.code x :: .inLoop x :: k)) cs w) b k cs e a' w' := by
    intro n
    induction n using Nat.strongRecOn with
    | _ n ih =>
      intro i a w hn hI
      obtain ⟨e, a₁, w₁, hq, harr⟩ := round i a w hI b (.inLoop x :: k) cs
      cases e with
      | normal =>
        obtain ⟨j, hI₁, hlt⟩ := hq
        obtain ⟨e₂, a₂, w₂, hq₂, harr₂⟩ := ih (μ j) (hn ▸ hlt) j a₁ w₁ rfl hI₁
        exact ⟨e₂, a₂, w₂, hq₂, .of_steps (Steps.trans harr (.one step_inLoop)) harr₂⟩
      | exit id => exact ⟨_, a₁, w₁, hq, .pass (x := .inLoop x) rfl (fun _ _ => .inl (by simp)) harr⟩
      | goto l => exact ⟨_, a₁, w₁, hq, .pass (x := .inLoop x) rfl (fun _ _ => .inl (by simp)) harr⟩
      | ret => exact ⟨_, a₁, w₁, hq, .pass (x := .inLoop x) rfl (fun _ _ => .inl (by simp)) harr⟩
      | panic ch => exact ⟨_, a₁, w₁, hq, .pass (x := .inLoop x) rfl (fun _ _ => .inl (by simp)) harr⟩
      | outgrown => exact ⟨_, a₁, w₁, hq, .pass (x := .inLoop x) rfl (fun _ _ => .inl (by simp)) harr⟩
  obtain ⟨e, a', w', hq, harr⟩ := key _ i0 a w rfl h0
  exact ⟨e, a', w', hq, .of_steps (.one step_loop) harr⟩
theorem CW_loop {ι : Type} (ok : ι → Prop) (I : ι → S) (μ : ι → Nat) (i0 : ι) {body : Code} (h0 : ok i0) (hv : View c (I i0) s)
    (round : ∀ i, ok i → CW c body (thenP (fun s' => ∃ j, ok j ∧ μ j < μ i ∧ View c (I j) s') Q) (I i)) : CW c (.loop body) Q s := by
  intro ρ0 w0 hg ρ a w hs
  obtain ⟨τ, hv⟩ := hv
  refine wp_loop_fam (ι := ι) (fun i a w => ok i ∧ ∃ ρ, St c ρ0 w0 ρ (I i) a w) μ i0 ⟨h0, _, hs.view hv⟩ ?_
  rintro i a w ⟨hok, ρ, hs⟩
  refine Code.wp_mono ?_ (round i hok ρ0 w0 hg ρ a w hs)
  rintro e a' w' ⟨s', ρ', hq, hs'⟩
  cases e with
  | normal =>
    obtain ⟨j, hj, hlt, τ', hv'⟩ := hq
    exact ⟨j, ⟨hj, _, hs'.view hv'⟩, hlt⟩
  | _ => exact ⟨s', ρ', hq, hs'⟩
/-! ### functions -/
/-- what a function leaves in a result -/
inductive RV (c : Cx) (s : S) : ResultVar → V → Prop
  | tmp {t : Nat} {v : V} (h : lkV s.F t = some v) (hn : nb v = true) : RV c s (.tmp t) v
  | arr {a t t' b : Nat} {i : TI} {l : List Int} (h : lkV s.F a = some (.ptr b 0)) (hb : lkB s.H b = some (.ints t' l)) (ht : lkT c.T t = some i) (hd : aggD i.d = true) (hl : l.length = i.size) : RV c s (.cell a t) (.arr l)
  | int {a t t' b : Nat} {i : TI} {n : Int} (h : lkV s.F a = some (.ptr b 0)) (hb : lkB s.H b = some (.ints t' [n])) (ht : lkT c.T t = some i) (hd : i.d = .int .i64) : RV c s (.cell a t) (.int n)
  | val {a t t' b : Nat} {i : TI} {v : V} (h : lkV s.F a = some (.ptr b 0)) (hb : lkB s.H b = some (.vals t' [v])) (hn : nb v = true) (ht : lkT c.T t = some i) (hd : aggD i.d = false) : RV c s (.cell a t) v
inductive RVs (c : Cx) (s : S) : List ResultVar → List V → Prop
  | nil : RVs c s [] []
  | cons {x : ResultVar} {v : V} {r : List ResultVar} {vs : List V} (h : RV c s x v) (hr : RVs c s r vs) : RVs c s (x :: r) (v :: vs)
def resV : List V → V
  | [v] => v
  | vs => .tuple vs
def resF (tmps : Array Value) : ResultVar → Sem Value
  | .tmp t => pure (tmps.getD t undef)
  | .cell p t => do loadVar t (← asAddr (tmps.getD p undef))
theorem RV.run {ρ0 ρ : Nat → Nat} {w0 w : World} {a : Act} {x : ResultVar} {v : V} (hs : St c ρ0 w0 ρ s a w) (h : RV c s x v) :
    (resF a.tmps x).run c.P w = .ok (rv ρ v) w := by
  have slot : ∀ {t : Nat} {v : V}, lkV s.F t = some v → v ≠ .bot → a.tmps.getD t undef = rv ρ v := fun {t v} h1 h2 => by
    rcases hs.fr.2.2 t v h1 with e | e
    · exact absurd e h2
    · simp [Array.getD_eq_getD_getElem?, e]
  cases h with
  | tmp h hn => simp only [resF, slot h (ne_bot hn)]; rfl
  | arr h hb ht hd hl =>
    rename_i i l
    have := run_loadInts (o := 0) hs.cc hb ht hd rfl (by omega)
    rw [List.drop_zero, ← hl, List.take_length] at this
    simp only [resF, slot h (by simp), rv, asAddr, Sem.run_bind, Sem.run_pure, Result.andThen_ok, this, icells]
  | int h hb ht hd =>
    have hag : ∀ w, (isAgg _).run c.P w = .ok false w := fun w => by rw [run_isAgg' c.tok ht, hd]; try rfl
    have hc := cell_ints (o := 0) hs.cc hb
    simp only [resF, slot h (by simp), rv, asAddr, Sem.run_bind, Sem.run_pure, Result.andThen_ok, loadVar, hag, Bool.false_eq_true, if_false, run_load, hc]
    rfl
  | val h hb hn ht hd =>
    have hag : ∀ w, (isAgg _).run c.P w = .ok false w := fun w => by rw [run_isAgg' c.tok ht, hd]
    have hc := cell_vals (o := 0) hs.cc hb rfl hn
    simp only [resF, slot h (by simp), rv, asAddr, Sem.run_bind, Sem.run_pure, Result.andThen_ok, loadVar, hag, Bool.false_eq_true, if_false, run_load, hc]
theorem mapM_run {P : Program} {α : Type} (f : α → Sem Value) (w : World) : ∀ (l : List α) (vs : List Value), l.length = vs.length → (∀ (i : Nat) x v, l[i]? = some x → vs[i]? = some v → (f x).run P w = .ok v w) → (l.mapM f).run P w = .ok vs w
  | [], [], _, _ => by simp
  | x :: l, v :: vs, hl, h => by
    have h0 := h 0 x v rfl rfl
    have ih := mapM_run f w l vs (by simpa using hl) (fun (i : Nat) y u hy hu => h (i + 1) y u (by simpa using hy) (by simpa using hu))
    simp [List.mapM_cons, h0, ih]
theorem RVs.spec {rs : List ResultVar} {vs : List V} (h : RVs c s rs vs) : rs.length = vs.length ∧ ∀ (i : Nat) x v, rs[i]? = some x → vs[i]? = some v → RV c s x v := by
  induction h with
  | nil => simp
  | cons h hr ih =>
    refine ⟨by simp [ih.1], fun (i : Nat) x v h1 h2 => ?_⟩
    cases i with
    | zero => simp at h1 h2; subst h1; subst h2; exact h
    | succ i => simp at h1 h2; exact ih.2 i x v h1 h2
theorem results_run {ρ0 ρ : Nat → Nat} {w0 w : World} {a : Act} {fn : Func} {rs : List ResultVar} {vs : List V} (hf : fn.results = rs.toArray) (hs : St c ρ0 w0 ρ s a w) (h : RVs c s rs vs) : (results fn a.tmps).run c.P w = .ok (rv ρ (resV vs)) w := by
  obtain ⟨hl, hx⟩ := h.spec
  have hm := mapM_run (P := c.P) (resF a.tmps) w rs (rvs ρ vs) (by simp [rvs_eq_map, hl])
    (fun (i : Nat) x v h1 h2 => by
      rw [rvs_eq_map] at h2
      simp only [List.getElem?_map, Option.map_eq_some_iff] at h2
      obtain ⟨u, hu, rfl⟩ := h2
      exact (hx i x u h1 hu).run hs)
  have hfun : results fn a.tmps = (do
      let vs ← fn.results.mapM (resF a.tmps)
      pure (if h : vs.size = 1 then vs[0] else .tuple vs)) := by
    unfold results
    congr 1
  rw [hfun, hf, List.mapM_toArray]
  simp only [Sem.run_bind, Sem.run_map, hm, Result.andThen_ok, Sem.run_pure]
  congr 1
  match vs with
  | [] => simp [rvs, resV, rv]
  | [v] => simp [rvs, resV]
  | v :: u :: r => simp [rvs, resV, rv]
/-- the exit of a function: the results, and the heap, seen as the contract has them -/
def exitP (c : Cx) (rs : List ResultVar) (R : V → Hp → Prop) : Post := fun e s =>
  (e = .normal ∨ e = .ret) ∧ ∃ vs r H' n', RVs c s rs vs ∧ View c ⟨[(0, r)], H', n'⟩ ⟨[(0, resV vs)], s.H, s.n⟩ ∧ nb r = true ∧ R r H'
structure Enter (P : Program) (f : Nat) : Prop where
  ex : ∃ fn, P.funcs[f]? = some fn ∧ fn.body.isNone = false ∧ (fn.name == "runtime.NumGoroutine") = false
def Con (P : Program) (gl : List (Nat × Nat)) (f : Nat) (args : List V) (H : Hp) (R : V → Hp → Prop) : Prop :=
  Enter P f ∧ ∀ ρ w, HR ρ H w → GR gl (ids H) ρ → Calls P f (rvs ρ args).toArray w fun e w' =>
    ∃ r H' ρ', R r H' ∧ e = .returned (rv ρ' r) ∧ HR ρ' H' w' ∧ Inv (ids H) (wids H) ρ w ρ' H' w'
def entF : Nat → List V → Fr
  | _, [] => []
  | k, v :: r => (k, v) :: entF (k + 1) r
theorem entF_lk : ∀ (vs : List V) (k t : Nat) (v : V), lkV (entF k vs) t = some v → ∃ j, t = k + j ∧ vs[j]? = some v
  | [], k, t, v, h => by simp [entF, lkV] at h
  | u :: r, k, t, v, h => by
    simp only [entF] at h
    rw [lkV_cons] at h
    split at h
    · rename_i e; injection h with h; subst h; exact ⟨0, by omega, rfl⟩
    · obtain ⟨j, rfl, hj⟩ := entF_lk r (k + 1) t v h
      exact ⟨j + 1, by omega, by simpa using hj⟩
theorem con_of_cw {P : Program} {T : TT} (tok : TOK P T) {gl : List (Nat × Nat)} {f N n : Nat} {fn : Func} {x : Code} {args : List V} {H : Hp} {R : V → Hp → Prop} {rs : List ResultVar} (hf : P.funcs[f]? = some fn) (hb : fn.body = some x)
    (hname : (fn.name == "runtime.NumGoroutine") = false) (hN : fn.ntmps = N) (hrs : fn.results = rs.toArray) (hargs : Nat.ble args.length N = true) (hwf : wfB (ids H) ⟨entF 0 args, H, n⟩ = true)
    (h : CW ⟨P, T, tok, gl, N, ids H, wids H⟩ x (exitP ⟨P, T, tok, gl, N, ids H, wids H⟩ rs R) ⟨entF 0 args, H, n⟩) : Con P gl f args H R := by
  refine ⟨⟨fn, hf, by simp [hb], hname⟩, fun ρ w hr hg => ?_⟩
  have hlen : args.length ≤ N := Nat.le_of_ble_eq_true hargs
  refine calls_of_wp hf hb ?_
  have hst : St ⟨P, T, tok, gl, N, ids H, wids H⟩ ρ w ρ ⟨entF 0 args, H, n⟩ { tmps := (rvs ρ args).toArray ++ Array.replicate (fn.ntmps - (rvs ρ args).toArray.size) undef, defers := [] } w := by
    refine ⟨⟨hr, fun _ _ => rfl, fun b k hl _ hw => .inl ⟨b, mem_wids hl hw, rfl⟩, rfl, rfl, rfl, Nat.le_refl _, Nat.le_refl _, fun _ _ _ => rfl⟩, ⟨rfl, by simp [rvs_eq_map, hN]; omega, fun t v hv => ?_⟩, wf_of hwf⟩
    obtain ⟨j, rfl, hj⟩ := entF_lk args 0 t v hv
    right
    have hjl : j < args.length := by
      rcases Nat.lt_or_ge j args.length with h | h
      · exact h
      · rw [List.getElem?_eq_none h] at hj; cases hj
    rw [Nat.zero_add, Array.getElem?_append_left (by simp [rvs_eq_map, hjl])]
    simp [rvs_eq_map, hj]
  refine Code.wp_mono ?_ (h ρ w hg ρ _ w hst)
  rintro e a' w' ⟨s', ρ', ⟨he, vs, r, H', n', hvs, ⟨τ, hv⟩, hnb, hR⟩, hs'⟩
  have hrun := results_run hrs hs' hvs
  have hcc := hs'.cc.view hv.fixD hv.hp hv.inj
  have hval : resV vs = ren τ r := by have := hv.fr.1; simpa [lkV] using this
  have fin : a'.defers = [] ∧ ∃ v, (results fn a'.tmps).run P w' = .ok v w' ∧ ∃ r H' ρ', R r H' ∧ Ending.returned v = .returned (rv ρ' r) ∧ HR ρ' H' w' ∧ Inv (ids H) (wids H) ρ w ρ' H' w' :=
    ⟨hs'.fr.1, _, hrun, r, H', _, hR, by rw [hval, rv_ren], hcc.hr, hcc.inv⟩
  rcases he with rfl | rfl <;> exact fin
theorem Con.mono {P : Program} {gl : List (Nat × Nat)} {f : Nat} {args : List V} {H : Hp} {R R' : V → Hp → Prop} (h : Con P gl f args H R) (hr : ∀ r H', R r H' → R' r H') : Con P gl f args H R' :=
  ⟨h.1, fun ρ w h1 h2 => (h.2 ρ w h1 h2).mono fun _ _ ⟨r, H', ρ', q, rest⟩ => ⟨r, H', ρ', hr _ _ q, rest⟩⟩
end
end Go.Proofs.Ytoiolpgmilobnaa
namespace Go.Proofs.Ytoiolpgmilobnaa
section
variable {c : Cx} {s : S} {Q : Post}
theorem run_call {f : Nat} {o : Oper} {xs : List Operand} {ats : Array TypeId} {vs : List V} {ρ0 ρ : Nat → Nat} {a : Act} {w : World} (ho : o.op = .call ⟨.value (.func f), xs.toArray, ats⟩) (he : Enter c.P f) (hg : GR c.gl c.D ρ0) (hfix : ∀ b ∈ c.D, ρ b = ρ0 b) (hf : FR c ρ s.F a)
    (hx : evs c s.F xs = some vs) : (execOp a.eval o).run c.P w = .ok (.enter f (rvs ρ vs).toArray) w := by
  obtain ⟨fn, h1, h2, h3⟩ := he
  have h3' : ¬ fn.name = "runtime.NumGoroutine" := by simpa using h3
  have h2' : ¬ fn.body = none := fun e => by simp [e] at h2
  simp [execOp, ho, resolve, Act.eval, Deferred.ofValue, invoke, callFunc, h1, h2', h3', evs_rv hg hfix hf hx]
/-- a call through a slot that holds a function (a closure) -/
theorem run_callv {f : Nat} {o : Oper} {x : Operand} {xs : List Operand} {ats : Array TypeId} {fst caps vs : List V} {ρ0 ρ : Nat → Nat} {a : Act} {w : World} (ho : o.op = .call ⟨.value x, xs.toArray, ats⟩) (he : Enter c.P f) (hg : GR c.gl c.D ρ0) (hfix : ∀ b ∈ c.D, ρ b = ρ0 b) (hf : FR c ρ s.F a)
    (hv : ev c s.F x = some (.func f fst caps)) (hx : evs c s.F xs = some vs) : (execOp a.eval o).run c.P w = .ok (.enter f (rvs ρ (fst ++ vs ++ caps)).toArray) w := by
  obtain ⟨fn, h1, h2, h3⟩ := he
  have h3' : ¬ fn.name = "runtime.NumGoroutine" := by simpa using h3
  have h2' : ¬ fn.body = none := fun e => by simp [e] at h2
  have e := ev_rv hg hfix hf hv (by simp)
  simp only [rv] at e
  simp [execOp, ho, resolve, e, Deferred.ofValue, invoke, callFunc, h1, h2', h3', evs_rv hg hfix hf hx, rvs_eq_map]
theorem mem_ids_of {H : Hp} {b : Nat} (h : b ∈ ids H) : ∃ k, lkB H b = some k := by
  induction H with
  | nil => simp [ids] at h
  | cons x r ih =>
    obtain ⟨i, k⟩ := x
    by_cases e : i = b
    · exact ⟨k, by rw [lkB_cons, if_pos e]⟩
    · have : b ∈ ids r := by
        simp only [ids, List.map_cons, List.mem_cons] at h
        rcases h with h | h
        · exact absurd h.symm e
        · exact h
      obtain ⟨k', hk'⟩ := ih this
      exact ⟨k', by rw [lkB_cons, if_neg e]; exact hk'⟩
def allLive (H : Hp) : Bool := H.all fun x => live x.2
theorem live_of {H : Hp} {b : Nat} {k : Blk} (h : allLive H = true) (hl : lkB H b = some k) : k ≠ .dead := live_ne (List.all_eq_true.1 h _ (lkB_mem hl))
theorem vH_mem {τ : Nat → Nat} {H H' : Hp} (h : vH τ H H') {b : Nat} {k : Blk} (hm : (b, k) ∈ H') : lkB H (τ b) = some (k.ren τ) := by
  induction H' with
  | nil => simp at hm
  | cons x r ih =>
    obtain ⟨t', v'⟩ := x
    simp only [vH] at h
    rcases List.mem_cons.1 hm with e | hm
    · injection e with e1 e2; subst e1; subst e2; exact h.1
    · exact ih h.2 hm
theorem wids_mem {H : Hp} {d : Nat} (h : d ∈ wids H) : ∃ k, (d, k) ∈ H ∧ wrt k = true := by
  obtain ⟨⟨d', k⟩, h1, rfl⟩ := List.mem_map.1 h
  obtain ⟨h2, h3⟩ := List.mem_filter.1 h1
  exact ⟨k, h2, h3⟩
theorem wids_ids {H : Hp} {d : Nat} (h : d ∈ wids H) : d ∈ ids H := by
  obtain ⟨k, h1, _⟩ := wids_mem h
  exact List.mem_map.2 ⟨_, h1, rfl⟩
/-- what a caller hands to a contract: its own ids for the contract's -/
structure Fits (c : Cx) (s : S) (σ : Nat → Nat) (gl' : List (Nat × Nat)) (H0 : Hp) : Prop where
  hp : vH σ s.H H0
  live : allLive H0 = true
  inj : ∀ b ∈ ids H0, ∀ b' ∈ ids H0, σ b = σ b' → b = b'
  gl : ∀ x ∈ gl', x.2 ∈ ids H0 ∧ (x.1, σ x.2) ∈ c.gl
theorem Fits.pre {σ : Nat → Nat} {gl' : List (Nat × Nat)} {H0 : Hp} (h : Fits c s σ gl' H0) {ρ0 ρ : Nat → Nat} {w0 w : World} (hg : GR c.gl c.D ρ0) (hw : CC c ρ0 w0 ρ s.H w) : HR (fun b => ρ (σ b)) H0 w ∧ GR gl' (ids H0) (fun b => ρ (σ b)) := by
  refine ⟨⟨fun b k hl hd => ?_, fun b b' k k' h1 h2 d1 d2 hw12 he => ?_⟩, fun x hx => ?_⟩
  · obtain ⟨o, ho, hb⟩ := hw.hr.1 _ _ (vH_lk h.hp hl) (ren_dead hd)
    exact ⟨o, ho, BR_ren hb⟩
  · exact h.inj b (mem_ids h1) b' (mem_ids h2) (hw.hr.2 _ _ _ _ (vH_lk h.hp h1) (vH_lk h.hp h2) (ren_dead d1) (ren_dead d2) (by rw [wrt_ren, wrt_ren]; exact hw12) he)
  · obtain ⟨h1, h2⟩ := h.gl x hx
    obtain ⟨h3, h4⟩ := hg _ h2
    exact ⟨h1, by simp only at h3 h4 ⊢; rw [hw.inv.fix _ h3]; exact h4⟩
def σ' (H0 : Hp) (σ : Nat → Nat) (n : Nat) (b : Nat) : Nat := if (ids H0).contains b then σ b else n + b
def after (H0 : Hp) (σ : Nat → Nat) (M : Nat) (s : S) (H1 : Hp) : S :=
  { F := s.F, H := (H1.map fun x => (σ' H0 σ s.n x.1, x.2.ren (σ' H0 σ s.n))) ++ s.H, n := s.n + M }
/-- the ids of an outcome: the contract's own, or new ones below M -/
def scM (H0 : Hp) (M : Nat) (r : V) (H1 : Hp) : Bool :=
  (r.ids.all fun b => (ids H0).contains b || Nat.blt b M) && (H1.all fun x => ((ids H0).contains x.1 || Nat.blt x.1 M && wrt x.2) && x.2.ids.all fun b => (ids H0).contains b || Nat.blt b M) && (ids H0).all fun b => (ids H1).contains b
theorem lkB_map {τ : Nat → Nat} {g : Blk → Blk} {H : Hp} {b : Nat} {k : Blk} (h : lkB (H.map fun x => (τ x.1, g x.2)) b = some k) : ∃ b1 k1, lkB H b1 = some k1 ∧ b = τ b1 ∧ k = g k1 := by
  induction H with
  | nil => simp [lkB] at h
  | cons x r ih =>
    obtain ⟨i, y⟩ := x
    simp only [List.map_cons] at h
    rw [lkB_cons] at h
    split at h
    · rename_i e; injection h with h
      exact ⟨i, y, by rw [lkB_cons, if_pos rfl], e.symm, h.symm⟩
    · rename_i e
      obtain ⟨b1, k1, h1, h2, h3⟩ := ih h
      refine ⟨b1, k1, ?_, h2, h3⟩
      rw [lkB_cons, if_neg]
      · exact h1
      · rintro rfl; exact e h2.symm
theorem lkB_map_none {τ : Nat → Nat} {g : Blk → Blk} {H : Hp} {b : Nat} (h : lkB (H.map fun x => (τ x.1, g x.2)) b = none) : ∀ b1 ∈ ids H, τ b1 ≠ b := by
  induction H with
  | nil => simp [ids]
  | cons x r ih =>
    obtain ⟨i, y⟩ := x
    simp only [List.map_cons] at h
    rw [lkB_cons] at h
    split at h
    · cases h
    · rename_i e
      intro b1 hb1
      simp only [ids, List.map_cons, List.mem_cons] at hb1
      rcases hb1 with rfl | hb1
      · exact e
      · exact ih h b1 hb1
mutual
theorem mem_ids_ren {τ : Nat → Nat} : ∀ {v : V} {b : Nat}, b ∈ (ren τ v).ids → ∃ b1 ∈ v.ids, b = τ b1
  | .ptr b o, b', h => by simp [ren, V.ids] at h; exact ⟨b, by simp [V.ids], h⟩
  | .slice b o n c, b', h => by simp [ren, V.ids] at h; exact ⟨b, by simp [V.ids], h⟩
  | .tuple vs, b', h => by
    simp only [ren, V.ids] at h ⊢
    exact mem_idss_rens h
  | .agg vs, b', h => by
    simp only [ren, V.ids] at h ⊢
    exact mem_idss_rens h
  | .func f a c, b', h => by
    simp only [ren, V.ids, List.mem_append] at h ⊢
    rcases h with h | h
    · obtain ⟨b1, h1, h2⟩ := mem_idss_rens h; exact ⟨b1, .inl h1, h2⟩
    · obtain ⟨b1, h1, h2⟩ := mem_idss_rens h; exact ⟨b1, .inr h1, h2⟩
  | .bot, b', h => by simp [ren, V.ids] at h
  | .int n, b', h => by simp [ren, V.ids] at h
  | .bool b, b', h => by simp [ren, V.ids] at h
  | .arr l, b', h => by simp [ren, V.ids] at h
  | .nilsl, b', h => by simp [ren, V.ids] at h
  | .raw v, b', h => by simp [ren, V.ids] at h
theorem mem_idss_rens {τ : Nat → Nat} : ∀ {l : List V} {b : Nat}, b ∈ idss (rens τ l) → ∃ b1 ∈ idss l, b = τ b1
  | [], b', h => by simp [rens, idss] at h
  | v :: r, b', h => by
    simp only [rens, idss, List.mem_append] at h ⊢
    rcases h with h | h
    · obtain ⟨b1, h1, h2⟩ := mem_ids_ren h; exact ⟨b1, .inl h1, h2⟩
    · obtain ⟨b1, h1, h2⟩ := mem_idss_rens h; exact ⟨b1, .inr h1, h2⟩
end
theorem St.called {ρ0 ρ ρ1 : Nat → Nat} {w0 w w' : World} {a : Act} {σ : Nat → Nat} {gl' : List (Nat × Nat)} {H0 H1 : Hp} {M : Nat} {r : V} (hs : St c ρ0 w0 ρ s a w) (hfit : Fits c s σ gl' H0) (hM : s.n + M ≤ 1000) (hsc : scM H0 M r H1 = true)
    (hr : HR ρ1 H1 w') (hi : Inv (ids H0) (wids H0) (fun b => ρ (σ b)) w ρ1 H1 w') :
    ∃ ρ', St c ρ0 w0 ρ' (after H0 σ M s H1) a w' ∧ rv ρ' (ren (σ' H0 σ s.n) r) = rv ρ1 r ∧ sc (s.n + M) (ren (σ' H0 σ s.n) r).ids = true ∧ ∀ b, ¬ (s.n ≤ b ∧ b < s.n + M) → ρ' b = ρ b := by
  simp only [scM, Bool.and_eq_true, List.all_eq_true, Bool.or_eq_true, Nat.blt_eq, List.contains_iff_mem] at hsc
  obtain ⟨⟨hsr, hs1⟩, hs0⟩ := hsc
  -- σ on the contract's ids stays out of the fresh range
  have hold : ∀ b ∈ ids H0, ∃ k, lkB s.H (σ b) = some k ∧ k ≠ .dead := fun b hb => by
    obtain ⟨k, hk⟩ := mem_ids_of hb
    exact ⟨_, vH_lk hfit.hp hk, ren_dead (live_of hfit.live hk)⟩
  have holdw : ∀ d ∈ wids H0, ∃ k, lkB s.H (σ d) = some k ∧ k ≠ .dead ∧ wrt k = true := fun d hd => by
    obtain ⟨k, hk, hw⟩ := wids_mem hd
    exact ⟨_, vH_mem hfit.hp hk, ren_dead (live_ne (List.all_eq_true.1 hfit.live _ hk)), by rw [wrt_ren]; exact hw⟩
  have hnf : ∀ b k, lkB s.H b = some k → ¬ (s.n ≤ b ∧ b < s.n + M) := fun b k hk hb => by
    have := (hs.wf.fresh b hb.1 (by omega)).1; rw [hk] at this; cases this
  let ρ' : Nat → Nat := fun b => if s.n ≤ b ∧ b < s.n + M then ρ1 (b - s.n) else ρ b
  have e1 : ∀ b, (b ∈ ids H0 ∨ b < M) → ρ' (σ' H0 σ s.n b) = ρ1 b := fun b hb => by
    by_cases h0 : b ∈ ids H0
    · obtain ⟨k, hk, _⟩ := hold b h0
      simp only [ρ', σ', List.contains_iff_mem, h0, if_true, if_neg (hnf _ _ hk)]
      exact (hi.fix b h0).symm
    · have hbM : b < M := hb.resolve_left h0
      simp only [ρ', σ', List.contains_iff_mem, h0, if_false]
      rw [if_pos (by omega)]
      congr 1; omega
  have e2 : ∀ b, ¬ (s.n ≤ b ∧ b < s.n + M) → ρ' b = ρ b := fun b hb => by simp only [ρ', if_neg hb]
  have hscb : ∀ b, (b ∈ ids H0 ∨ b < M) → σ' H0 σ s.n b < s.n + M ∨ 1000 ≤ σ' H0 σ s.n b := fun b hb => by
    by_cases h0 : b ∈ ids H0
    · obtain ⟨k, hk, _⟩ := hold b h0
      simp only [σ', List.contains_iff_mem, h0, if_true]
      by_cases hf : s.n ≤ σ b ∧ σ b < 1000
      · have := (hs.wf.fresh _ hf.1 hf.2).1; rw [hk] at this; cases this
      · omega
    · have hbM : b < M := hb.resolve_left h0
      simp only [σ', List.contains_iff_mem, h0, if_false]; omega
  have hidr : ∀ (v : V), (∀ b ∈ v.ids, b ∈ ids H0 ∨ b < M) → rv ρ' (ren (σ' H0 σ s.n) v) = rv ρ1 v := fun v hv => by
    rw [rv_ren]; exact rv_congr v fun b hb => e1 b (hv b hb)
  -- a lookup in the new heap
  have look : ∀ b k, lkB (after H0 σ M s H1).H b = some k → (∃ b1 k1, lkB H1 b1 = some k1 ∧ b = σ' H0 σ s.n b1 ∧ k = k1.ren (σ' H0 σ s.n)) ∨ (lkB s.H b = some k ∧ ∀ b1 ∈ ids H1, σ' H0 σ s.n b1 ≠ b) := fun b k hl => by
    simp only [after, lkB_append] at hl
    split at hl
    · rename_i k' hk'; injection hl with hl; subst hl; exact .inl (lkB_map hk')
    · rename_i hn; exact .inr ⟨hl, lkB_map_none hn⟩
  have kd : ∀ {k1 : Blk}, k1.ren (σ' H0 σ s.n) ≠ .dead → k1 ≠ .dead := fun {k1} h e => by subst e; exact h rfl
  have hid1 : ∀ b1 k1, lkB H1 b1 = some k1 → (b1 ∈ ids H0 ∨ b1 < M) ∧ ∀ b ∈ k1.ids, b ∈ ids H0 ∨ b < M := fun b1 k1 h => by
    have := hs1 _ (lkB_mem h)
    exact ⟨this.1.imp id fun h => h.1, this.2⟩
  have hidw : ∀ b1 k1, lkB H1 b1 = some k1 → wrt k1 = true ∨ b1 ∈ ids H0 := fun b1 k1 h => by
    have := hs1 _ (lkB_mem h)
    rcases this.1 with h | h
    · exact .inr h
    · exact .inl h.2
  -- an old live block that the call did not get stays as it was
  have keep : ∀ b k, lkB s.H b = some k → k ≠ .dead → (∀ b1 ∈ ids H1, σ' H0 σ s.n b1 ≠ b) → ∀ d ∈ wids H0, ρ (σ d) ≠ ρ b := fun b k hl hd hne d hd0 he => by
    obtain ⟨k', hk', hd', hw'⟩ := holdw d hd0
    have hbd := hs.cc.hr.2 _ _ _ _ hk' hl hd' hd (.inl hw') he
    have hd1 := wids_ids hd0
    have := hne d (hs0 d hd1)
    simp only [σ', List.contains_iff_mem, hd1, if_true] at this
    exact this hbd
  -- a block of the call's and an old one do not lie at one place
  have apart : ∀ b1 k1 b k, lkB H1 b1 = some k1 → k1 ≠ .dead → lkB s.H b = some k → k ≠ .dead → (∀ b2 ∈ ids H1, σ' H0 σ s.n b2 ≠ b) → (wrt k1 = true ∨ wrt k = true) → ρ1 b1 ≠ ρ b := fun b1 k1 b k g1 d1 f1 d2 f2 hw he => by
    rcases hidw b1 k1 g1 with hw1 | h0
    · rcases hi.own b1 k1 g1 d1 hw1 with ⟨d, hd0, hd1⟩ | hge
      · exact keep b k f1 d2 f2 d hd0 (hd1.symm.trans he)
      · have := hs.cc.live_lt f1 d2; omega
    · cases hwk : wrt k1 with
      | true =>
        rcases hi.own b1 k1 g1 d1 hwk with ⟨d, hd0, hd1⟩ | hge
        · exact keep b k f1 d2 f2 d hd0 (hd1.symm.trans he)
        · have := hs.cc.live_lt f1 d2; omega
      | false =>
        have hwb : wrt k = true := by rcases hw with h | h; · rw [hwk] at h; cases h
                                      · exact h
        obtain ⟨k', hk', hd'⟩ := hold b1 h0
        have hfx := hi.fix b1 h0
        have hbd := hs.cc.hr.2 _ _ _ _ hk' f1 hd' d2 (.inr hwb) (hfx.symm.trans he)
        have := f2 b1 (hs0 b1 h0)
        simp only [σ', List.contains_iff_mem, h0, if_true] at this
        exact this hbd
  refine ⟨ρ', ⟨⟨⟨fun b k hl hd => ?_, fun b b' k k' h1 h2 d1 d2 hw12 he => ?_⟩, fun b hb => ?_, fun b k hl hd hwk => ?_, hi.os.trans hs.cc.inv.os, hi.tape.trans hs.cc.inv.tape, hi.out.trans hs.cc.inv.out, Nat.le_trans hs.cc.inv.drw hi.drw, Nat.le_trans hs.cc.inv.size hi.size, fun i hil hid => ?_⟩,
    ⟨hs.fr.1, hs.fr.2.1, fun t v hv => (hs.fr.2.2 t v hv).imp id fun e => ?_⟩, ⟨fun b h1 h2 => ?_, fun t v hv b hb => ?_, fun b k hl b' hb' => ?_⟩⟩, hidr r hsr, ?_, e2⟩
  · rcases look b k hl with ⟨b1, k1, h1, rfl, rfl⟩ | ⟨h1, h2⟩
    · obtain ⟨hi1, hi2⟩ := hid1 b1 k1 h1
      obtain ⟨o, ho, hb⟩ := hr.1 b1 k1 h1 (kd hd)
      refine ⟨o, by rw [e1 b1 hi1]; exact ho, ?_⟩
      cases k1 <;> simp only [Blk.ren, BR] at hb ⊢
      · exact hb
      · obtain ⟨xs, hxl, hx, rfl⟩ := hb
        refine ⟨xs, by simpa [rens_eq_map] using hxl, fun i v hv => ?_, rfl⟩
        rw [rens_eq_map] at hv
        simp only [List.getElem?_map, Option.map_eq_some_iff] at hv
        obtain ⟨u, hu, rfl⟩ := hv
        obtain ⟨x, hx1, hx2⟩ := hx i u hu
        refine ⟨x, hx1, hx2.imp (fun e => by subst e; rfl) fun e => ?_⟩
        rw [e]
        exact (hidr u fun b hb => hi2 b (by simpa [Blk.ids] using mem_idss hu hb)).symm
      · exact hb
      · exact hb
    · obtain ⟨o, ho, hb⟩ := hs.cc.hr.1 b k h1 hd
      refine ⟨o, ?_, BR_congr (fun b' hb' => (e2 b' ?_).symm) hb⟩
      · rw [e2 b (hnf b k h1), hi.old _ (hs.cc.live_lt h1 hd) (keep b k h1 hd h2)]; exact ho
      · have := hs.wf.hs b k h1 b' hb'; omega
  · rcases look b k h1 with ⟨b1, k1, g1, rfl, rfl⟩ | ⟨g1, g2⟩ <;> rcases look b' k' h2 with ⟨b2, k2, f1, rfl, rfl⟩ | ⟨f1, f2⟩
    · rw [e1 b1 (hid1 b1 k1 g1).1, e1 b2 (hid1 b2 k2 f1).1] at he
      rw [hr.2 b1 b2 k1 k2 g1 f1 (kd d1) (kd d2) (by rwa [wrt_ren, wrt_ren] at hw12) he]
    · rw [e1 b1 (hid1 b1 k1 g1).1, e2 b' (hnf b' k' f1)] at he
      exact absurd he (apart b1 k1 b' k' g1 (kd d1) f1 d2 f2 (by rwa [wrt_ren] at hw12))
    · rw [e2 b (hnf b k g1), e1 b2 (hid1 b2 k2 f1).1] at he
      exact absurd he.symm (apart b2 k2 b k f1 (kd d2) g1 d1 g2 (by rw [wrt_ren] at hw12; exact hw12.symm))
    · rw [e2 b (hnf b k g1), e2 b' (hnf b' k' f1)] at he
      exact hs.cc.hr.2 b b' k k' g1 f1 d1 d2 hw12 he
  · rw [e2 b]
    · exact hs.cc.inv.fix b hb
    · intro h; exact (hs.wf.fresh b h.1 (by omega)).2 hb
  · rcases look b k hl with ⟨b1, k1, h1, rfl, rfl⟩ | ⟨h1, h2⟩
    · rw [e1 b1 (hid1 b1 k1 h1).1]
      rcases hi.own b1 k1 h1 (kd hd) (by rwa [wrt_ren] at hwk) with ⟨d, hd0, hd1⟩ | hge
      · obtain ⟨k', hk', hd', hw'⟩ := holdw d hd0
        rw [hd1]; exact hs.cc.inv.own _ _ hk' hd' hw'
      · exact .inr (Nat.le_trans hs.cc.inv.size hge)
    · rw [e2 b (hnf b k h1)]; exact hs.cc.inv.own b k h1 hd hwk
  · rw [hi.old i (Nat.lt_of_lt_of_le hil hs.cc.inv.size), hs.cc.inv.old i hil hid]
    intro d hd0 he
    obtain ⟨k', hk', hd', hw'⟩ := holdw d hd0
    rcases hs.cc.inv.own _ _ hk' hd' hw' with ⟨d', h1, h2⟩ | hge
    · exact hid d' h1 (h2.symm.trans he)
    · have : ρ (σ d) = i := he
      omega
  · rw [e]
    congr 1
    refine rv_congr v fun b hb => (e2 b ?_).symm
    have := hs.wf.fs t v hv b hb; omega
  · have h1' : s.n + M ≤ b := h1
    obtain ⟨h3, h4⟩ := hs.wf.fresh b (by omega) h2
    refine ⟨?_, h4⟩
    cases hl : lkB (after H0 σ M s H1).H b with
    | none => rfl
    | some k =>
      rcases look b k hl with ⟨b1, k1, g1, rfl, rfl⟩ | ⟨g1, _⟩
      · have := hscb b1 (hid1 b1 k1 g1).1; omega
      · rw [g1] at h3; cases h3
  · have := hs.wf.fs t v hv b hb
    show b < s.n + M ∨ 1000 ≤ b
    omega
  · show b' < s.n + M ∨ 1000 ≤ b'
    rcases look b k hl with ⟨b1, k1, g1, rfl, rfl⟩ | ⟨g1, _⟩
    · cases k1 <;> simp only [Blk.ren, Blk.ids] at hb' <;> first | (simp at hb'; done) | skip
      rename_i t l
      have key : ∀ (l : List V), (∀ b ∈ idss l, b ∈ ids H0 ∨ b < M) → ∀ b' ∈ idss (rens (σ' H0 σ s.n) l), b' < s.n + M ∨ 1000 ≤ b' := by
        intro l hl' b' hb'
        obtain ⟨b, hb, rfl⟩ := mem_idss_rens hb'
        exact hscb b (hl' b hb)
      exact key l (fun b hb => (hid1 b1 _ g1).2 b (by simpa [Blk.ids] using hb)) b' hb'
    · have := hs.wf.hs b k g1 b' hb'; omega
  · refine sc_iff.2 fun b hb => ?_
    obtain ⟨b1, hb1, rfl⟩ := mem_ids_ren hb
    exact hscb b1 (hsr b1 hb1)
/-! ### the rules -/
/-- a call by a contract; what it leaves is told by its ending -/
theorem OW_callv {ops : Array Oper} {dst : Option Tmp} {ty : TypeId} {pos : String} {af : Array Edge} {rest : List Oper} {op : Op} {f : Nat} {vs args0 : List V} {gl' : List (Nat × Nat)} {H0 : Hp} {R : V → Hp → Prop}
    (run : ∀ ρ0 ρ a w, GR c.gl c.D ρ0 → (∀ b ∈ c.D, ρ b = ρ0 b) → FR c ρ s.F a → (execOp a.eval ⟨dst, op, ty, pos, af, none⟩).run c.P w = .ok (.enter f (rvs ρ vs).toArray) w)
    (con : Con c.P gl' f args0 H0 R) (σ : Nat → Nat) (M : Nat) (hargs : vs = rens σ args0) (hfit : Fits c s σ gl' H0) (hM : Nat.ble (s.n + M) 1000 = true) (hN : okDst c.N dst = true)
    (h : ∀ r H1, R r H1 → scM H0 M r H1 = true ∧ OW c ops Q rest ((after H0 σ M s H1).put dst (ren (σ' H0 σ s.n) r))) : OW c ops Q (⟨dst, op, ty, pos, af, none⟩ :: rest) s := by
  intro ρ0 w0 hgr ρ a w hs
  have hM' : s.n + M ≤ 1000 := Nat.le_of_ble_eq_true hM
  refine wpList_plain rfl fun K hK => ?_
  unfold Oper.wp
  rw [run ρ0 ρ a w hgr hs.cc.inv.fix hs.fr]
  simp only [Oper.upon]
  obtain ⟨hpre, hgl⟩ := hfit.pre hgr hs.cc
  have hc := con.2 _ w hpre hgl
  rw [hargs, rvs_rens]
  refine hc.mono ?_
  rintro e w' ⟨r, H1, ρ1, hR, rfl, hr1, hi1⟩
  obtain ⟨hsc, hk⟩ := h r H1 hR
  obtain ⟨ρ', hs', hv, hscv, _⟩ := hs.called hfit hM' hsc hr1 hi1
  exact hK _ _ (hk ρ0 w0 hgr ρ' _ w' (hs'.put dst _ _ (okDst_lt hN) (.inr hv.symm) hscv))
theorem OW_call {ops : Array Oper} {dst : Option Tmp} {ty : TypeId} {pos : String} {af : Array Edge} {rest : List Oper} {f : Nat} {xs : List Operand} {ats : Array TypeId} {vs args0 : List V} {gl' : List (Nat × Nat)} {H0 : Hp} {R : V → Hp → Prop}
    (con : Con c.P gl' f args0 H0 R) (σ : List (Nat × Nat)) (M : Nat) (hx : evs c s.F xs = some vs) (hargs : vs = rens (ap σ) args0) (hfit : Fits c s (ap σ) gl' H0) (hM : Nat.ble (s.n + M) 1000 = true) (hN : okDst c.N dst = true)
    (h : ∀ r H1, R r H1 → scM H0 M r H1 = true ∧ OW c ops Q rest ((after H0 (ap σ) M s H1).put dst (ren (σ' H0 (ap σ) s.n) r))) :
    OW c ops Q (⟨dst, .call ⟨.value (.func f), xs.toArray, ats⟩, ty, pos, af, none⟩ :: rest) s :=
  OW_callv (fun _ _ _ _ hg hfix hf => run_call rfl con.1 hg hfix hf hx) con (ap σ) M hargs hfit hM hN h
/-- a contract of a function that leaves the heap as it was, and answers r -/
def ConQ (P : Program) (gl : List (Nat × Nat)) (f : Nat) (args : List V) (H : Hp) (r : V) : Prop := Con P gl f args H fun r' H' => r' = r ∧ H' = H
theorem BR_ren' {ρ τ : Nat → Nat} {k : Blk} {o : Obj} (h : BR (fun b => ρ (τ b)) k o) : BR ρ (k.ren τ) o := by
  cases k <;> simp only [Blk.ren, BR] at h ⊢
  · exact h
  · obtain ⟨xs, hl, hx, ho⟩ := h
    refine ⟨xs, by simpa [rens_eq_map] using hl, fun i v hv => ?_, ho⟩
    rw [rens_eq_map] at hv
    simp only [List.getElem?_map, Option.map_eq_some_iff] at hv
    obtain ⟨u, hu, rfl⟩ := hv
    obtain ⟨x, hx1, hx2⟩ := hx i u hu
    exact ⟨x, hx1, hx2.imp (fun e => by subst e; rfl) fun e => by rw [e, rv_ren]⟩
  · exact h
  · exact h
/-- the blocks name no ids but those of the heap -/
def closedB (H : Hp) : Bool := H.all fun x => x.2.ids.all fun b => (ids H).contains b
theorem calls_keep {f : Nat} {args0 : List V} {gl' : List (Nat × Nat)} {H H0 : Hp} {r : V} {F : Fr} {n : Nat} (con : ConQ c.P gl' f args0 H0 r) (σ : Nat → Nat) (hfit : Fits c ⟨F, H, n⟩ σ gl' H0) (hr : (r.ids.all fun b => (ids H0).contains b) = true) (hcl : closedB H0 = true)
    {ρ0 ρ : Nat → Nat} {w0 w : World} (hgr : GR c.gl c.D ρ0) (hw : CC c ρ0 w0 ρ H w) : Calls c.P f (rvs (fun b => ρ (σ b)) args0).toArray w fun e w' => e = .returned (rv ρ (ren σ r)) ∧ CC c ρ0 w0 ρ H w' := by
  obtain ⟨hpre, hgl⟩ := hfit.pre hgr hw
  have hc := con.2 _ w hpre hgl
  refine hc.mono ?_
  rintro e w' ⟨r', H1, ρ1, ⟨rfl, rfl⟩, rfl, hr1, hi1⟩
  simp only [List.all_eq_true, List.contains_iff_mem] at hr
  have hold : ∀ b ∈ ids H1, ∃ k, lkB H (σ b) = some k ∧ k ≠ .dead := fun b hb => by
    obtain ⟨k, hk⟩ := mem_ids_of hb
    exact ⟨_, vH_lk hfit.hp hk, ren_dead (live_of hfit.live hk)⟩
  have holdw : ∀ d ∈ wids H1, ∃ k, lkB H (σ d) = some k ∧ k ≠ .dead ∧ wrt k = true := fun d hd => by
    obtain ⟨k, hk, hw⟩ := wids_mem hd
    exact ⟨_, vH_mem hfit.hp hk, ren_dead (live_ne (List.all_eq_true.1 hfit.live _ hk)), by rw [wrt_ren]; exact hw⟩
  refine ⟨?_, ⟨⟨fun b k hl hd => ?_, hw.hr.2⟩, hw.inv.fix, hw.inv.own, hi1.os.trans hw.inv.os, hi1.tape.trans hw.inv.tape, hi1.out.trans hw.inv.out, Nat.le_trans hw.inv.drw hi1.drw, Nat.le_trans hw.inv.size hi1.size, fun i hil hid => ?_⟩⟩
  · congr 1
    rw [rv_ren]
    exact rv_congr _ fun b hb => hi1.fix b (hr b hb)
  · by_cases hb : ∃ b1 ∈ ids H1, σ b1 = b
    · obtain ⟨b1, hb1, rfl⟩ := hb
      obtain ⟨k1, hk1⟩ := mem_ids_of hb1
      have hk : k = k1.ren σ := by have := vH_lk hfit.hp hk1; rw [hl] at this; injection this
      have hd1 : k1 ≠ .dead := live_of hfit.live hk1
      obtain ⟨o, ho, hbr⟩ := hr1.1 b1 k1 hk1 hd1
      rw [hi1.fix b1 hb1] at ho
      simp only [closedB, List.all_eq_true, List.contains_iff_mem] at hcl
      refine ⟨o, ho, ?_⟩
      rw [hk]
      exact BR_ren' (BR_congr (fun b hb => hi1.fix b (hcl _ (lkB_mem hk1) b hb)) hbr)
    · obtain ⟨o, ho, hbr⟩ := hw.hr.1 b k hl hd
      refine ⟨o, ?_, hbr⟩
      rw [hi1.old _ (hw.live_lt hl hd)]
      · exact ho
      · intro d hd0 he
        obtain ⟨k', hk', hd', hw'⟩ := holdw d hd0
        exact hb ⟨d, wids_ids hd0, hw.hr.2 _ _ _ _ hk' hl hd' hd (.inl hw') he⟩
  · rw [hi1.old i (Nat.lt_of_lt_of_le hil hw.inv.size), hw.inv.old i hil hid]
    intro d hd0 he
    obtain ⟨k', hk', hd', hw'⟩ := holdw d hd0
    rcases hw.inv.own _ _ hk' hd' hw' with ⟨d', h1, h2⟩ | hge
    · exact hid d' h1 (h2.symm.trans he)
    · have : ρ (σ d) = i := he
      omega
theorem QOp_callv {dst : Option Tmp} {ty : TypeId} {pos : String} {af : Array Edge} {g : Option (Nat × Bool)} {op : Op} {f : Nat} {vs args0 : List V} {gl' : List (Nat × Nat)} {H0 : Hp} {r : V}
    (run : ∀ ρ0 ρ a w, GR c.gl c.D ρ0 → (∀ b ∈ c.D, ρ b = ρ0 b) → FR c ρ s.F a → (execOp a.eval ⟨dst, op, ty, pos, af, g⟩).run c.P w = .ok (.enter f (rvs ρ vs).toArray) w)
    (con : ConQ c.P gl' f args0 H0 r) (σ : Nat → Nat) (hargs : vs = rens σ args0) (hfit : Fits c s σ gl' H0) (hr : (r.ids.all fun b => (ids H0).contains b) = true) (hcl : closedB H0 = true) :
    QOp c ⟨dst, op, ty, pos, af, g⟩ s (ren σ r) := by
  intro ρ0 w0 hgr ρ a hf hfix w hw
  unfold Oper.quietAt
  rw [run ρ0 ρ a w hgr hfix hf]
  refine ⟨rfl, ?_⟩
  rw [hargs, rvs_rens]
  exact calls_keep con σ hfit hr hcl hgr hw
theorem Q_call {dst : Option Tmp} {ty : TypeId} {pos : String} {af : Array Edge} {g : Option (Nat × Bool)} {f : Nat} {xs : List Operand} {ats : Array TypeId} {vs args0 : List V} {gl' : List (Nat × Nat)} {H0 : Hp} {r : V}
    (con : ConQ c.P gl' f args0 H0 r) (σ : List (Nat × Nat)) (hx : evs c s.F xs = some vs) (hargs : vs = rens (ap σ) args0) (hfit : Fits c s (ap σ) gl' H0) (hr : (r.ids.all fun b => (ids H0).contains b) = true) (hcl : closedB H0 = true) :
    QOp c ⟨dst, .call ⟨.value (.func f), xs.toArray, ats⟩, ty, pos, af, g⟩ s (ren (ap σ) r) :=
  QOp_callv (fun _ _ _ _ hg hfix hf => run_call rfl con.1 hg hfix hf hx) con (ap σ) hargs hfit hr hcl
theorem Q_callf {dst : Option Tmp} {ty : TypeId} {pos : String} {af : Array Edge} {g : Option (Nat × Bool)} {f : Nat} {x : Operand} {xs : List Operand} {ats : Array TypeId} {fst caps vs args0 : List V} {gl' : List (Nat × Nat)} {H0 : Hp} {r : V}
    (con : ConQ c.P gl' f args0 H0 r) (σ : List (Nat × Nat)) (hv : ev c s.F x = some (.func f fst caps)) (hx : evs c s.F xs = some vs) (hargs : fst ++ vs ++ caps = rens (ap σ) args0) (hfit : Fits c s (ap σ) gl' H0) (hr : (r.ids.all fun b => (ids H0).contains b) = true) (hcl : closedB H0 = true) :
    QOp c ⟨dst, .call ⟨.value x, xs.toArray, ats⟩, ty, pos, af, g⟩ s (ren (ap σ) r) :=
  QOp_callv (fun _ _ _ _ hg hfix hf => run_callv rfl con.1 hg hfix hf hv hx) con (ap σ) hargs hfit hr hcl
/-- a function of plain values: no heap at all -/
theorem Q_call0 {dst : Option Tmp} {ty : TypeId} {pos : String} {af : Array Edge} {g : Option (Nat × Bool)} {f : Nat} {xs : List Operand} {ats : Array TypeId} {vs : List V} {r : V}
    (con : ConQ c.P [] f vs [] r) (hx : evs c s.F xs = some vs) (hids : idss vs = []) (hr : r.ids = []) :
    QOp c ⟨dst, .call ⟨.value (.func f), xs.toArray, ats⟩, ty, pos, af, g⟩ s r := by
  have := Q_call (c := c) (s := s) (dst := dst) (ty := ty) (pos := pos) (af := af) (g := g) (ats := ats) con [] hx (rens_id _ _ (fun b hb => by rw [hids] at hb; simp at hb)).symm ⟨trivial, rfl, by simp [ids], by simp⟩ (by simp [hr]) rfl
  rwa [ren_id _ r (fun b hb => by rw [hr] at hb; simp at hb)] at this
theorem Fits.mk' {l : List (Nat × Nat)} {gl' : List (Nat × Nat)} {H0 : Hp} (h1 : vH (ap l) s.H H0) (h2 : allLive H0 = true) (h3 : injB (ap l) (ids H0) = true) (h4 : ∀ x ∈ gl', x.2 ∈ ids H0 ∧ (x.1, ap l x.2) ∈ c.gl) : Fits c s (ap l) gl' H0 :=
  ⟨h1, h2, injB_iff h3, h4⟩
/-- one package variable among the blocks -/
theorem glOk {l : List (Nat × Nat)} {H0 : Hp} {gl : List (Nat × Nat)} {g b : Nat} (h1 : ((ids H0).elem b) = true) (h2 : ap l b = b) (h3 : gl = [(g, b)]) : ∀ x ∈ [(g, b)], x.2 ∈ ids H0 ∧ (x.1, ap l x.2) ∈ gl := by
  intro x hx
  rw [List.mem_singleton] at hx
  subst hx
  rw [h3]
  exact ⟨by simpa using h1, by simp [h2]⟩
/-! ### the end of a function that leaves the heap as it was -/
theorem exitQ {rs : List ResultVar} {r0 : V} {H0 : Hp} {e : Exit} {vs : List V} (he : e = .normal ∨ e = .ret) (n' : Nat) (hvs : RVs c s rs vs) (hr : resV vs = r0) (hn : nb r0 = true) (hH : vH (ap []) s.H H0) (hwf : wfB c.D ⟨[(0, r0)], H0, n'⟩ = true)
    (hinj : injB (ap []) (ids H0) = true) : exitP c rs (fun r' H' => r' = r0 ∧ H' = H0) e s :=
  ⟨he, vs, r0, H0, n', hvs, ⟨ap [], fun _ _ => rfl, ⟨by rw [show ren (ap []) r0 = r0 from ren_id _ _ (fun _ _ => rfl), ← hr]; rfl, trivial⟩, hH, injB_iff hinj, wf_of hwf⟩, hn, rfl, rfl⟩
end
theorem tN {K : S → Prop} {Q : Post} {s : S} (h : K s) : thenP K Q .normal s := h
theorem tR {K : S → Prop} {Q : Post} {s : S} (h : Q .ret s) : thenP K Q .ret s := h
theorem tE {K : S → Prop} {Q : Post} {s : S} {i : Nat} (h : Q (.exit i) s) : thenP K Q (.exit i) s := h
theorem bN {Q : Post} {s : S} {id : Nat} (h : Q .normal s) : inBlockP id Q .normal s := h
theorem bR {Q : Post} {s : S} {id : Nat} (h : Q .ret s) : inBlockP id Q .ret s := h
theorem bE {Q : Post} {s : S} {id : Nat} (h : Q .normal s) : inBlockP id Q (.exit id) s := by simp only [inBlockP, if_true]; exact h
theorem bX {Q : Post} {s : S} {id i : Nat} (hi : Nat.beq i id = false) (h : Q (.exit i) s) : inBlockP id Q (.exit i) s := by
  have : i ≠ id := fun e => by subst e; simp at hi
  simp only [inBlockP, if_neg this]; exact h
end Go.Proofs.Ytoiolpgmilobnaa
namespace Go.Proofs.Ytoiolpgmilobnaa
section
variable {c : Cx} {Q : Post} {F : Fr} {H : Hp} {n : Nat} {ops : Array Oper} {rest : List Oper} {d : Nat} {dst : Option Nat} {op : Op} {ty : TypeId} {pos : String} {af : Array Edge} {v u : V} {K : S → Prop} {k0 : Blk}
theorem oQ (hq : QOp c ⟨some d, op, ty, pos, af, none⟩ ⟨F, H, n⟩ v) (hN : Nat.blt d c.N = true) (hsc : sc n v.ids = true) (h : OW c ops Q rest ⟨(d, v) :: F, H, n⟩) : OW c ops Q (⟨some d, op, ty, pos, af, none⟩ :: rest) ⟨F, H, n⟩ :=
  OW_q hq rfl hN hsc h
theorem qQ (hq : QOp c ⟨some d, op, ty, pos, af, none⟩ ⟨F, H, n⟩ v) (hN : Nat.blt d c.N = true) (hsc : sc n v.ids = true) (h : QW c ops K rest ⟨(d, v) :: F, H, n⟩) : QW c ops K (⟨some d, op, ty, pos, af, none⟩ :: rest) ⟨F, H, n⟩ :=
  QW_q hq rfl hN hsc h
theorem ogT {j e : Nat} {want : Bool} (hd : (ops[j]?).bind (·.dst) = some e) (hb : lkV F e = some v) (hv : v = .bool want) (h : OW c ops Q (⟨dst, op, ty, pos, af, none⟩ :: rest) ⟨F, H, n⟩) : OW c ops Q (⟨dst, op, ty, pos, af, some (j, want)⟩ :: rest) ⟨F, H, n⟩ := OW_gT hd hb hv h
theorem og1 {j e : Nat} (hd : (ops[j]?).bind (·.dst) = some e) (hb : lkV F e = some v) (hv : v = .bool false) (hN : Nat.blt d c.N = true) (h : OW c ops Q rest ⟨(d, .bot) :: F, H, n⟩) : OW c ops Q (⟨some d, op, ty, pos, af, some (j, true)⟩ :: rest) ⟨F, H, n⟩ := OW_gS1 hd hb hv hN h
theorem og0 {j e : Nat} (hd : (ops[j]?).bind (·.dst) = some e) (hb : lkV F e = some v) (hv : v = .bool true) (hN : Nat.blt d c.N = true) (h : OW c ops Q rest ⟨(d, .bot) :: F, H, n⟩) : OW c ops Q (⟨some d, op, ty, pos, af, some (j, false)⟩ :: rest) ⟨F, H, n⟩ := OW_gS0 hd hb hv hN h
theorem qg1 {j e : Nat} (hd : (ops[j]?).bind (·.dst) = some e) (hb : lkV F e = some v) (hv : v = .bool false) (hN : Nat.blt d c.N = true) (h : QW c ops K rest ⟨(d, .bot) :: F, H, n⟩) : QW c ops K (⟨some d, op, ty, pos, af, some (j, true)⟩ :: rest) ⟨F, H, n⟩ := QW_gS1 hd hb hv hN h
theorem qg0 {j e : Nat} (hd : (ops[j]?).bind (·.dst) = some e) (hb : lkV F e = some v) (hv : v = .bool true) (hN : Nat.blt d c.N = true) (h : QW c ops K rest ⟨(d, .bot) :: F, H, n⟩) : QW c ops K (⟨some d, op, ty, pos, af, some (j, false)⟩ :: rest) ⟨F, H, n⟩ := QW_gS0 hd hb hv hN h
/-- a guard that is not decided parts the way -/
theorem ogP1 {j e : Nat} {b : Bool} (hd : (ops[j]?).bind (·.dst) = some e) (hb : lkV F e = some (.bool b)) (hN : Nat.blt d c.N = true)
    (h1 : b = true → OW c ops Q (⟨some d, op, ty, pos, af, none⟩ :: rest) ⟨(e, .bool true) :: F, H, n⟩) (h0 : b = false → OW c ops Q rest ⟨(d, .bot) :: (e, .bool false) :: F, H, n⟩) : OW c ops Q (⟨some d, op, ty, pos, af, some (j, true)⟩ :: rest) ⟨F, H, n⟩ := OW_guard hd hb hN h1 h0
theorem ogP0 {j e : Nat} {b : Bool} (hd : (ops[j]?).bind (·.dst) = some e) (hb : lkV F e = some (.bool b)) (hN : Nat.blt d c.N = true)
    (h1 : b = false → OW c ops Q (⟨some d, op, ty, pos, af, none⟩ :: rest) ⟨(e, .bool false) :: F, H, n⟩) (h0 : b = true → OW c ops Q rest ⟨(d, .bot) :: (e, .bool true) :: F, H, n⟩) : OW c ops Q (⟨some d, op, ty, pos, af, some (j, false)⟩ :: rest) ⟨F, H, n⟩ := OW_guard hd hb hN h1 h0
theorem oBox {t : TypeId} {x : Operand} (hx : ev c F x = some v) (ho : one v = true) (hk : mkBlk t v = k0) (hN : Nat.blt d c.N = true) (hn : Nat.blt n 1000 = true) (hsc : sc n k0.ids = true) (h : OW c ops Q rest ⟨(d, .ptr n 0) :: F, (n, k0) :: H, n + 1⟩) :
    OW c ops Q (⟨some d, .box t x, ty, pos, af, none⟩ :: rest) ⟨F, H, n⟩ := by
  subst hk
  exact OW_box hx ho hN hn hsc (by simp [sc, Nat.blt_eq]) h
theorem oAlloc {t : TypeId} {i : TI} (ht : lkT c.T t = some i) (hz : i.z = some v) (ho : one v = true) (hk : mkBlk t v = k0) (hN : Nat.blt d c.N = true) (hn : Nat.blt n 1000 = true) (hsc : sc n k0.ids = true) (h : OW c ops Q rest ⟨(d, .ptr n 0) :: F, (n, k0) :: H, n + 1⟩) :
    OW c ops Q (⟨some d, .alloc t, ty, pos, af, none⟩ :: rest) ⟨F, H, n⟩ := by
  subst hk
  exact OW_alloc ht hz ho hN hn hsc (by simp [sc, Nat.blt_eq]) h
theorem oBsl {t : TypeId} {ps : List (Nat × Operand)} {vs : List (Nat × V)} {zl r : List Int} {i ie : TI} {e len sz : Nat} (ht : lkT c.T t = some i) (hd : i.d = .slice e) (he : lkT c.T e = some ie) (hs : ie.size = sz)
    (hz : ie.z = some (.int 0) ∧ sz = 1 ∨ ie.z = some (.arr zl) ∧ zl = List.replicate sz 0 ∧ 0 < sz) (hp : evp c F ps = some vs) (hr : fillI sz (List.replicate (len * sz) 0) vs = some r) (hok : okParts sz (len * sz) vs = true) (hlim : Nat.ble (len * sz) 16777216 = true)
    (hN : Nat.blt d c.N = true) (hn : Nat.blt n 1000 = true) (h : OW c ops Q rest ⟨(d, .slice n 0 len len) :: F, (n, .ints e r) :: H, n + 1⟩) : OW c ops Q (⟨some d, .buildSlice t len ps.toArray, ty, pos, af, none⟩ :: rest) ⟨F, H, n⟩ :=
  OW_bsl ht hd he hs hz hp hr hok (Nat.le_of_ble_eq_true hlim) hN hn (by simp [sc, Nat.blt_eq]) h
theorem oSt {t t' : TypeId} {x y : Operand} {i : TI} {b o : Nat} {m : Int} {l : List Int} (ht : lkT c.T t = some i) (hsz : i.size = 1) (hx : ev c F x = some (.ptr b o)) (hy : ev c F y = some (.int m)) (hb : lkB H b = some (.ints t' l)) (ho : o < l.length)
    (h : OW c ops Q rest ⟨F, (b, .ints t' (l.set o m)) :: H, n⟩) : OW c ops Q (⟨none, .store t x y, ty, pos, af, none⟩ :: rest) ⟨F, H, n⟩ := OW_st ht hsz hx hy hb ho rfl h
theorem oSta {t t' : TypeId} {x y : Operand} {i : TI} {b o : Nat} {m l : List Int} (ht : lkT c.T t = some i) (hx : ev c F x = some (.ptr b o)) (hy : ev c F y = some (.arr m)) (hb : lkB H b = some (.ints t' l)) (hsz : m.length = i.size) (ho : o + i.size ≤ l.length)
    (h : OW c ops Q rest ⟨F, (b, .ints t' (putI l o m)) :: H, n⟩) : OW c ops Q (⟨none, .store t x y, ty, pos, af, none⟩ :: rest) ⟨F, H, n⟩ := OW_sta ht hx hy hb hsz ho rfl h
theorem oStw {t t' : TypeId} {x y : Operand} {i : TI} {b : Nat} {m l : List Int} (ht : lkT c.T t = some i) (hx : ev c F x = some (.ptr b 0)) (hy : ev c F y = some (.arr m)) (hb : lkB H b = some (.ints t' l)) (hsz : m.length = i.size) (ho : l.length = i.size)
    (h : OW c ops Q rest ⟨F, (b, .ints t' m) :: H, n⟩) : OW c ops Q (⟨none, .store t x y, ty, pos, af, none⟩ :: rest) ⟨F, H, n⟩ := OW_stw ht hx hy hb hsz ho rfl h
theorem oStv {t t' : TypeId} {x y : Operand} {i : TI} {b o : Nat} {l l' : List V} (ht : lkT c.T t = some i) (hsz : i.size = 1) (hx : ev c F x = some (.ptr b o)) (hy : ev c F y = some v) (hb : lkB H b = some (.vals t' l)) (h1 : one v = true) (h2 : noAgg v = true) (ho : o < l.length)
    (hl : l.set o v = l') (hsc : sc n (idss l') = true) (h : OW c ops Q rest ⟨F, (b, .vals t' l') :: H, n⟩) : OW c ops Q (⟨none, .store t x y, ty, pos, af, none⟩ :: rest) ⟨F, H, n⟩ := by
  subst hl
  exact OW_stv ht hsz hx hy hb h1 h2 ho rfl hsc h
theorem oAppOwn {t t2 : TypeId} {ats : Array TypeId} {x y : Operand} {i i2 ie : TI} {e e2 sz b m k q by_ : Nat} {xs l : List Int}
    (hat : ats = #[t, t2]) (ht : lkT c.T t = some i) (hd : i.d = .slice e) (ht2 : lkT c.T t2 = some i2) (hd2 : i2.d = .slice e2) (he : lkT c.T e = some ie) (hz : ZI ie sz) (hby : ie.bytes = by_) (hb0 : Nat.blt 0 by_ = true)
    (hx : ev c F x = some (.slice b 0 m k)) (hy : ev c F y = some v) (hb : lkB H b = some (.ints e l)) (hv : IsSl H sz v q xs) (hroom : k * sz ≤ l.length) (hnk : m ≤ k) (hlim : (2 * (m + q) + 192) * by_ ≤ 281474976710656) (h63 : m + q ≤ 1000000000000)
    (hN : Nat.blt d c.N = true) (hn : Nat.blt n 1000 = true)
    (h : ∀ (k' : Nat) (spare : List Int), m + q ≤ k' → k' * sz ≤ (m + q) * sz + spare.length → OW c ops Q rest ⟨(d, .slice n 0 (m + q) k') :: F, (n, .ints e (l.take (m * sz) ++ xs ++ spare)) :: (b, .dead) :: H, n + 1⟩) :
    OW c ops Q (⟨some d, .call ⟨.builtin .append, #[x, y], ats⟩, ty, pos, af, none⟩ :: rest) ⟨F, H, n⟩ :=
  OW_app_own hat ht hd ht2 hd2 he hz hby (by simpa [Nat.blt_eq] using hb0) hx hy hb hv hroom hnk hlim h63 hN hn (by simp [sc, Nat.blt_eq]) h
theorem oClear {t : TypeId} {ats : Array TypeId} {x : Operand} {i ie : TI} {e sz b o m k t' : Nat} {l : List Int} (hat : ats = #[t]) (ht : lkT c.T t = some i) (hd : i.d = .slice e) (he : lkT c.T e = some ie) (hz : ZI ie sz) (hx : ev c F x = some (.slice b o m k)) (hb : lkB H b = some (.ints t' l)) (hroom : o + m * sz ≤ l.length)
    (h : OW c ops Q rest ⟨F, (b, .ints t' (putI l o (List.replicate (m * sz) 0))) :: H, n⟩) : OW c ops Q (⟨none, .call ⟨.builtin .clear, #[x], ats⟩, ty, pos, af, none⟩ :: rest) ⟨F, H, n⟩ := OW_clear hat ht hd he hz hx hb hroom rfl h
end
/-! ### variants that leave the terms short -/
def asN : V → Option Nat
  | .int (.ofNat n) => some n
  | _ => none
theorem asN_some {x : Option V} {j : Nat} (h : x.bind asN = some j) : x = some (.int j) := by
  cases x with
  | none => simp at h
  | some v =>
    simp only [Option.bind_some] at h
    unfold asN at h
    split at h
    · injection h with h; subst h; rfl
    · cases h
section
variable {c : Cx} {s : S} {dst : Option Tmp} {ty : TypeId} {pos : String} {af : Array Edge} {g : Option (Nat × Bool)} {x y : Operand} {t : TypeId} {i ie : TI} {e b o n k j : Nat}
theorem Q_ixs1 (ht : lkT c.T t = some i) (hd : i.d = .slice e) (he : lkT c.T e = some ie) (hs : ie.size = 1) (hx : ev c s.F x = some (.slice b o n k)) (hy : (ev c s.F y).bind asN = some j) (h : j < n) : QOp c ⟨dst, .indexAddr t x y, ty, pos, af, g⟩ s (.ptr b (o + j)) := by
  have := Q_ixs (c := c) (s := s) (dst := dst) (ty := ty) (pos := pos) (af := af) (g := g) ht hd he hx (asN_some hy) ⟨by omega, by omega⟩
  rwa [hs, Nat.mul_one, Int.toNat_natCast] at this
theorem Q_ixs0 (ht : lkT c.T t = some i) (hd : i.d = .slice e) (he : lkT c.T e = some ie) (hs : ie.size = 1) (hx : ev c s.F x = some (.slice b 0 n k)) (hy : (ev c s.F y).bind asN = some j) (h : j < n) : QOp c ⟨dst, .indexAddr t x y, ty, pos, af, g⟩ s (.ptr b j) := by
  have := Q_ixs1 (c := c) (s := s) (dst := dst) (ty := ty) (pos := pos) (af := af) (g := g) ht hd he hs hx hy h
  rwa [Nat.zero_add] at this
theorem Q_ixsz (sz : Nat) (ht : lkT c.T t = some i) (hd : i.d = .slice e) (he : lkT c.T e = some ie) (hs : ie.size = sz) (hx : ev c s.F x = some (.slice b o n k)) (hy : (ev c s.F y).bind asN = some j) (h : j < n) : QOp c ⟨dst, .indexAddr t x y, ty, pos, af, g⟩ s (.ptr b (o + j * sz)) := by
  have := Q_ixs (c := c) (s := s) (dst := dst) (ty := ty) (pos := pos) (af := af) (g := g) ht hd he hx (asN_some hy) ⟨by omega, by omega⟩
  rwa [hs, Int.toNat_natCast] at this
theorem Q_ixs0z (sz : Nat) (ht : lkT c.T t = some i) (hd : i.d = .slice e) (he : lkT c.T e = some ie) (hs : ie.size = sz) (hx : ev c s.F x = some (.slice b 0 n k)) (hy : (ev c s.F y).bind asN = some j) (h : j < n) : QOp c ⟨dst, .indexAddr t x y, ty, pos, af, g⟩ s (.ptr b (j * sz)) := by
  have := Q_ixsz (c := c) (s := s) (dst := dst) (ty := ty) (pos := pos) (af := af) (g := g) sz ht hd he hs hx hy h
  rwa [Nat.zero_add] at this
theorem Q_ixa1 (ht : lkT c.T t = some i) (hd : i.d = .array n e) (he : lkT c.T e = some ie) (hs : ie.size = 1) (hx : ev c s.F x = some (.ptr b o)) (hy : (ev c s.F y).bind asN = some j) (h : j < n) : QOp c ⟨dst, .indexAddr t x y, ty, pos, af, g⟩ s (.ptr b (o + j)) := by
  have := Q_ixa (c := c) (s := s) (dst := dst) (ty := ty) (pos := pos) (af := af) (g := g) ht hd he hx (asN_some hy) ⟨by omega, by omega⟩
  rwa [hs, Nat.mul_one, Int.toNat_natCast] at this
theorem Q_ixa0 (ht : lkT c.T t = some i) (hd : i.d = .array n e) (he : lkT c.T e = some ie) (hs : ie.size = 1) (hx : ev c s.F x = some (.ptr b 0)) (hy : (ev c s.F y).bind asN = some j) (h : j < n) : QOp c ⟨dst, .indexAddr t x y, ty, pos, af, g⟩ s (.ptr b j) := by
  have := Q_ixa1 (c := c) (s := s) (dst := dst) (ty := ty) (pos := pos) (af := af) (g := g) ht hd he hs hx hy h
  rwa [Nat.zero_add] at this
theorem Q_ixaz (sz : Nat) (ht : lkT c.T t = some i) (hd : i.d = .array n e) (he : lkT c.T e = some ie) (hs : ie.size = sz) (hx : ev c s.F x = some (.ptr b o)) (hy : (ev c s.F y).bind asN = some j) (h : j < n) : QOp c ⟨dst, .indexAddr t x y, ty, pos, af, g⟩ s (.ptr b (o + j * sz)) := by
  have := Q_ixa (c := c) (s := s) (dst := dst) (ty := ty) (pos := pos) (af := af) (g := g) ht hd he hx (asN_some hy) ⟨by omega, by omega⟩
  rwa [hs, Int.toNat_natCast] at this
theorem Q_ixa0z (sz : Nat) (ht : lkT c.T t = some i) (hd : i.d = .array n e) (he : lkT c.T e = some ie) (hs : ie.size = sz) (hx : ev c s.F x = some (.ptr b 0)) (hy : (ev c s.F y).bind asN = some j) (h : j < n) : QOp c ⟨dst, .indexAddr t x y, ty, pos, af, g⟩ s (.ptr b (j * sz)) := by
  have := Q_ixaz (c := c) (s := s) (dst := dst) (ty := ty) (pos := pos) (af := af) (g := g) sz ht hd he hs hx hy h
  rwa [Nat.zero_add] at this
/-- an element of an array value -/
theorem Q_index1 {l : List Int} (ht : lkT c.T t = some i) (hd : i.d = .array n e) (he : lkT c.T e = some ie) (hed : ie.d = .int .i64) (hes : ie.size = 1) (hx : ev c s.F x = some (.arr l)) (hy : (ev c s.F y).bind asN = some j) (h : j < n) (hl : j < l.length) :
    QOp c ⟨dst, .index t x y, ty, pos, af, g⟩ s (.int (l.getD j 0)) := by
  have := Q_index (c := c) (s := s) (dst := dst) (ty := ty) (pos := pos) (af := af) (g := g) ht hd he hed hes hx (asN_some hy) ⟨by omega, by omega⟩ (by omega)
  rwa [Int.toNat_natCast] at this
/-- a whole array cut -/
theorem Q_slaF (ht : lkT c.T t = some i) (hd : i.d = .array n e) (he : lkT c.T e = some ie) (hx : ev c s.F x = some (.ptr b o)) : QOp c ⟨dst, .slice t x none none none, ty, pos, af, g⟩ s (.slice b o n n) := by
  have := Q_sla (c := c) (s := s) (dst := dst) (ty := ty) (pos := pos) (af := af) (g := g) (lo := none) (hi := none) (mx := none) ht hd he hx rfl rfl rfl (by simp) ⟨Nat.zero_le _, Nat.le_refl _, Nat.le_refl _⟩
  simpa using this
/-- s[:h] -/
theorem Q_slsH {h : Nat} (ht : lkT c.T t = some i) (hd : i.d = .slice e) (he : lkT c.T e = some ie) (hx : ev c s.F x = some (.slice b o n k)) (hy : (ev c s.F y).bind asN = some h) (hb : h ≤ k) : QOp c ⟨dst, .slice t x none (some y) none, ty, pos, af, g⟩ s (.slice b o h k) := by
  have e2 := asN_some hy
  have := Q_sls (c := c) (s := s) (dst := dst) (ty := ty) (pos := pos) (af := af) (g := g) (lo := none) (hi := some y) (mx := none) (l := 0) (h := h) (m := k) ht hd he hx rfl (by simp only [bnd, e2]) rfl (by simp) ⟨Nat.zero_le _, hb, Nat.le_refl _⟩
  simpa using this
/-- s[l:] -/
theorem Q_slsL {l : Nat} (sz : Nat) (ht : lkT c.T t = some i) (hd : i.d = .slice e) (he : lkT c.T e = some ie) (hs : ie.size = sz) (hx : ev c s.F x = some (.slice b o n k)) (hy : (ev c s.F y).bind asN = some l) (hb : l ≤ n) (hnk : n ≤ k) :
    QOp c ⟨dst, .slice t x (some y) none none, ty, pos, af, g⟩ s (.slice b (if k = l then o else o + l * sz) (n - l) (k - l)) := by
  have e2 := asN_some hy
  have := Q_sls (c := c) (s := s) (dst := dst) (ty := ty) (pos := pos) (af := af) (g := g) (lo := some y) (hi := none) (mx := none) (l := l) (h := n) (m := k) ht hd he hx (by simp only [bnd, e2]) rfl rfl (by simp) ⟨hb, hnk, Nat.le_refl _⟩
  rwa [hs] at this
end
theorem vFn {τ : Nat → Nat} {F : Fr} : vF τ F [] := trivial
theorem vFc {τ : Nat → Nat} {F r : Fr} {t : Nat} {v : V} (h : lkV F t = some (ren τ v)) (hr : vF τ F r) : vF τ F ((t, v) :: r) := ⟨h, hr⟩
theorem vFs {τ : Nat → Nat} {F r : Fr} {t b b' n n' k : Nat} (h : lkV F t = some (.slice b' 0 n' k)) (hb : τ b = b') (hn : n' = n) (hr : vF τ F r) : vF τ F ((t, .slice b 0 n k) :: r) := by
  subst hb hn
  exact ⟨h, hr⟩
theorem vHn {τ : Nat → Nat} {H : Hp} : vH τ H [] := trivial
theorem vHc {τ : Nat → Nat} {H r : Hp} {b : Nat} {k : Blk} (h : lkB H (τ b) = some (k.ren τ)) (hr : vH τ H r) : vH τ H ((b, k) :: r) := ⟨h, hr⟩
/-- a function, its first frame written out -/
theorem conW {P : Program} {T : TT} (tok : TOK P T) {gl : List (Nat × Nat)} {f N : Nat} {fn : Func} {x : Code} {args : List V} {H : Hp} {R : V → Hp → Prop} {rs : List ResultVar} (F : Fr) (n : Nat) (D W : List Nat) (hf : P.funcs[f]? = some fn) (hb : fn.body = some x)
    (hname : (fn.name == "runtime.NumGoroutine") = false) (hN : fn.ntmps = N) (hrs : fn.results = rs.toArray) (hargs : Nat.ble args.length N = true) (hF : entF 0 args = F) (hD : ids H = D) (hW : wids H = W) (hwf : wfB D ⟨F, H, n⟩ = true)
    (h : CW ⟨P, T, tok, gl, N, D, W⟩ x (exitP ⟨P, T, tok, gl, N, D, W⟩ rs R) ⟨F, H, n⟩) : Con P gl f args H R := by
  subst hF hD hW
  exact con_of_cw tok hf hb hname hN hrs hargs hwf h
/-! ### short words for the walks -/
section
variable {c : Cx} {Q : Post} {F : Fr} {H : Hp} {n : Nat} {ops : Array Oper} {rest : List Oper} {d : Nat} {dst : Option Nat} {op : Op} {ty : TypeId} {pos : String} {af : Array Edge} {v : V} {K : S → Prop} {s : S}
theorem oM {x : Operand} (hx : ev c F x = some v) (h0 : (nb v && (Nat.blt d c.N && sc n v.ids)) = true) (h : OW c ops Q rest ⟨(d, v) :: F, H, n⟩) : OW c ops Q (⟨some d, .move x, ty, pos, af, none⟩ :: rest) ⟨F, H, n⟩ := by
  simp only [Bool.and_eq_true] at h0
  exact oQ (Q_move hx h0.1) h0.2.1 h0.2.2 h
theorem oA {x : Operand} (hx : ev c F x = some v) (h0 : (nb v && (Nat.blt d c.N && sc n v.ids)) = true) (h : OW c ops Q rest ⟨(d, v) :: F, H, n⟩) : OW c ops Q (⟨some d, .assign x, ty, pos, af, none⟩ :: rest) ⟨F, H, n⟩ := by
  simp only [Bool.and_eq_true] at h0
  exact oQ (Q_assign hx h0.1) h0.2.1 h0.2.2 h
theorem qM {x : Operand} (hx : ev c F x = some v) (h0 : (nb v && (Nat.blt d c.N && sc n v.ids)) = true) (h : QW c ops K rest ⟨(d, v) :: F, H, n⟩) : QW c ops K (⟨some d, .move x, ty, pos, af, none⟩ :: rest) ⟨F, H, n⟩ := by
  simp only [Bool.and_eq_true] at h0
  exact qQ (Q_move hx h0.1) h0.2.1 h0.2.2 h
theorem qA {x : Operand} (hx : ev c F x = some v) (h0 : (nb v && (Nat.blt d c.N && sc n v.ids)) = true) (h : QW c ops K rest ⟨(d, v) :: F, H, n⟩) : QW c ops K (⟨some d, .assign x, ty, pos, af, none⟩ :: rest) ⟨F, H, n⟩ := by
  simp only [Bool.and_eq_true] at h0
  exact qQ (Q_assign hx h0.1) h0.2.1 h0.2.2 h
theorem oN (h : K s) : OW c ops (thenP K Q) [] s := OW_nil h
theorem cR {id : Nat} {l : List Oper} {y : Code} (h : OW c l.toArray (thenP (CW c y Q) Q) l s) : CW c (.seq (.region id l.toArray false) y) Q s := CW_seq (CW_region h)
theorem cT {x : Operand} {p q : Code} {v : V} (hx : ev c s.F x = some v) (h1 : CW c p Q s) (hv : v = .bool true := by with_reducible rfl) : CW c (.cond x p q) Q s := CW_cond_t hx hv h1
theorem cF {x : Operand} {p q : Code} {v : V} (hx : ev c s.F x = some v) (h1 : CW c q Q s) (hv : v = .bool false := by with_reducible rfl) : CW c (.cond x p q) Q s := CW_cond_f hx hv h1
theorem oT {j e : Nat} {want : Bool} (hd : (ops[j]?).bind (·.dst) = some e) (hb : lkV F e = some v) (h : OW c ops Q (⟨dst, op, ty, pos, af, none⟩ :: rest) ⟨F, H, n⟩) (hv : v = .bool want := by with_reducible rfl) : OW c ops Q (⟨dst, op, ty, pos, af, some (j, want)⟩ :: rest) ⟨F, H, n⟩ := ogT hd hb hv h
theorem o1 {j e : Nat} (hd : (ops[j]?).bind (·.dst) = some e) (hb : lkV F e = some v) (hN : Nat.blt d c.N = true) (h : OW c ops Q rest ⟨(d, .bot) :: F, H, n⟩) (hv : v = .bool false := by with_reducible rfl) : OW c ops Q (⟨some d, op, ty, pos, af, some (j, true)⟩ :: rest) ⟨F, H, n⟩ := og1 hd hb hv hN h
theorem o0 {j e : Nat} (hd : (ops[j]?).bind (·.dst) = some e) (hb : lkV F e = some v) (hN : Nat.blt d c.N = true) (h : OW c ops Q rest ⟨(d, .bot) :: F, H, n⟩) (hv : v = .bool true := by with_reducible rfl) : OW c ops Q (⟨some d, op, ty, pos, af, some (j, false)⟩ :: rest) ⟨F, H, n⟩ := og0 hd hb hv hN h
theorem q1 {j e : Nat} (hd : (ops[j]?).bind (·.dst) = some e) (hb : lkV F e = some v) (hN : Nat.blt d c.N = true) (h : QW c ops K rest ⟨(d, .bot) :: F, H, n⟩) (hv : v = .bool false := by with_reducible rfl) : QW c ops K (⟨some d, op, ty, pos, af, some (j, true)⟩ :: rest) ⟨F, H, n⟩ := qg1 hd hb hv hN h
theorem q0 {j e : Nat} (hd : (ops[j]?).bind (·.dst) = some e) (hb : lkV F e = some v) (hN : Nat.blt d c.N = true) (h : QW c ops K rest ⟨(d, .bot) :: F, H, n⟩) (hv : v = .bool true := by with_reducible rfl) : QW c ops K (⟨some d, op, ty, pos, af, some (j, false)⟩ :: rest) ⟨F, H, n⟩ := qg0 hd hb hv hN h
end
theorem s1 {p : Prop} [Decidable p] : (decide p = true) = p := decide_eq_true_eq
theorem s2 {p : Prop} {_ : Decidable p} : decide p = false ↔ ¬p := decide_eq_false_iff_not
theorem s3 {α : Type _} [BEq α] [LawfulBEq α] {a b : α} : (a == b) = true ↔ a = b := beq_iff_eq
theorem s4 {α : Type _} [BEq α] [LawfulBEq α] {a b : α} : (a == b) = false ↔ a ≠ b := beq_eq_false_iff_ne
theorem s5 {α : Type _} [BEq α] [LawfulBEq α] {a b : α} : (a != b) = true ↔ a ≠ b := bne_iff_ne
theorem s6 {α : Type _} [BEq α] [LawfulBEq α] {a b : α} : (a != b) = false ↔ a = b := bne_eq_false_iff_eq
theorem s7 (b : Bool) : ((!b) = true) = (b = false) := Bool.not_eq_true' b
theorem s8 (b : Bool) : ((!b) = false) = (b = true) := Bool.not_eq_false' b
theorem s9 {a b : Int} : ¬a < b ↔ b ≤ a := Int.not_lt
theorem s10 {a b : Int} : ¬a ≤ b ↔ b < a := Int.not_le
theorem s11 {α : Sort _} (a b : α) : (a ≠ b) = ¬a = b := rfl
theorem s12 : (¬False) = True := not_false_eq_true
section
variable {c : Cx} {s : S} {Q : Post} {F : Fr} {H : Hp} {ops : Array Oper} {rest : List Oper} {dst : Option Tmp} {ty : TypeId} {pos : String} {af : Array Edge} {g : Option (Nat × Bool)} {x y : Operand} {t t' : TypeId} {i ie : TI} {e b o n k j : Nat}
theorem Is0 (ht : lkT c.T t = some i) (hd : i.d = .slice e) (he : lkT c.T e = some ie) (hs : ie.size = 1) (hx : ev c s.F x = some (.slice b 0 n k)) (hy : (ev c s.F y).bind asN = some j) (h : j < n := by first | omega | (dsimp only; omega) | (simp; omega) | (simp; done)) : QOp c ⟨dst, .indexAddr t x y, ty, pos, af, g⟩ s (.ptr b j) := Q_ixs0 ht hd he hs hx hy h
theorem Is1 (ht : lkT c.T t = some i) (hd : i.d = .slice e) (he : lkT c.T e = some ie) (hs : ie.size = 1) (hx : ev c s.F x = some (.slice b o n k)) (hy : (ev c s.F y).bind asN = some j) (h : j < n := by first | omega | (dsimp only; omega) | (simp; omega) | (simp; done)) : QOp c ⟨dst, .indexAddr t x y, ty, pos, af, g⟩ s (.ptr b (o + j)) := Q_ixs1 ht hd he hs hx hy h
theorem Ia0 (ht : lkT c.T t = some i) (hd : i.d = .array n e) (he : lkT c.T e = some ie) (hs : ie.size = 1) (hx : ev c s.F x = some (.ptr b 0)) (hy : (ev c s.F y).bind asN = some j) (h : j < n := by first | omega | (dsimp only; omega) | (simp; omega) | (simp; done)) : QOp c ⟨dst, .indexAddr t x y, ty, pos, af, g⟩ s (.ptr b j) := Q_ixa0 ht hd he hs hx hy h
theorem Ia1 (ht : lkT c.T t = some i) (hd : i.d = .array n e) (he : lkT c.T e = some ie) (hs : ie.size = 1) (hx : ev c s.F x = some (.ptr b o)) (hy : (ev c s.F y).bind asN = some j) (h : j < n := by first | omega | (dsimp only; omega) | (simp; omega) | (simp; done)) : QOp c ⟨dst, .indexAddr t x y, ty, pos, af, g⟩ s (.ptr b (o + j)) := Q_ixa1 ht hd he hs hx hy h
theorem Lw {l : List Int} (ht : lkT c.T t = some i) (hd : aggD i.d = true) (hx : ev c s.F x = some (.ptr b 0)) (hb : lkB s.H b = some (.ints t' l)) (h : l.length = i.size := by first | omega | (dsimp only; omega) | (simp; omega) | (simp; done)) : QOp c ⟨dst, .load t x, ty, pos, af, g⟩ s (.arr l) := Q_ldw ht hd hx hb h
theorem La {l : List Int} (ht : lkT c.T t = some i) (hd : aggD i.d = true) (hs : i.size = n) (hx : ev c s.F x = some (.ptr b o)) (hb : lkB s.H b = some (.ints t' l)) (h : o + n ≤ l.length := by first | omega | (dsimp only; omega) | (simp; omega) | (simp; done)) : QOp c ⟨dst, .load t x, ty, pos, af, g⟩ s (.arr ((l.drop o).take n)) := Q_lda ht hd hs hx hb h
theorem Ld {l : List Int} (ht : lkT c.T t = some i) (hd : i.d = .int .i64) (hx : ev c s.F x = some (.ptr b o)) (hb : lkB s.H b = some (.ints t' l)) (h : o < l.length := by first | omega | (dsimp only; omega) | (simp; omega) | (simp; done)) : QOp c ⟨dst, .load t x, ty, pos, af, g⟩ s (.int (l.getD o 0)) := Q_ld ht hd hx hb h
theorem oS {m : Int} {l : List Int} (ht : lkT c.T t = some i) (hsz : i.size = 1) (hx : ev c F x = some (.ptr b o)) (hy : ev c F y = some (.int m)) (hb : lkB H b = some (.ints t' l))
    (h : OW c ops Q rest ⟨F, (b, .ints t' (l.set o m)) :: H, n⟩) (ho : o < l.length := by first | omega | (dsimp only; omega) | (simp; omega) | (simp; done)) : OW c ops Q (⟨none, .store t x y, ty, pos, af, none⟩ :: rest) ⟨F, H, n⟩ := oSt ht hsz hx hy hb ho h
theorem oSa {m l : List Int} (ht : lkT c.T t = some i) (hx : ev c F x = some (.ptr b o)) (hy : ev c F y = some (.arr m)) (hb : lkB H b = some (.ints t' l))
    (h : OW c ops Q rest ⟨F, (b, .ints t' (putI l o m)) :: H, n⟩) (hsz : m.length = i.size := by first | omega | (dsimp only; omega) | (simp; omega) | (simp; done)) (ho : o + i.size ≤ l.length := by first | omega | (dsimp only; omega) | (simp; omega) | (simp; done)) : OW c ops Q (⟨none, .store t x y, ty, pos, af, none⟩ :: rest) ⟨F, H, n⟩ := oSta ht hx hy hb hsz ho h
theorem oSw {m l : List Int} (ht : lkT c.T t = some i) (hx : ev c F x = some (.ptr b 0)) (hy : ev c F y = some (.arr m)) (hb : lkB H b = some (.ints t' l))
    (h : OW c ops Q rest ⟨F, (b, .ints t' m) :: H, n⟩) (hsz : m.length = i.size := by first | omega | (dsimp only; omega) | (simp; omega) | (simp; done)) (ho : l.length = i.size := by first | omega | (dsimp only; omega) | (simp; omega) | (simp; done)) : OW c ops Q (⟨none, .store t x y, ty, pos, af, none⟩ :: rest) ⟨F, H, n⟩ := oStw ht hx hy hb hsz ho h
end
end Go.Proofs.Ytoiolpgmilobnaa
