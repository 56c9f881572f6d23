/- The engine, part B: the operations that leave the heap alone. -/
import Derived.Test.YtendffbpmpobnaaDoorEngA
import Derived.ChangeKeysEq
import Derived.Laws.StructEq
namespace Go.Proofs.YtendffbpmpobnaaDoor

def nb : V → Bool
  | .bot => false
  | _ => true
theorem ne_bot {v : V} (h : nb v = true) : v ≠ .bot := by rintro rfl; simp [nb] at h

/-- int64 wraparound -/
def wr (z : Int) : Int := IntKind.i64.wrap z
theorem wr_in {z : Int} (h : -9223372036854775808 ≤ z ∧ z ≤ 9223372036854775807) : wr z = z := by
  have e : (2 : Int) ^ 64 = 18446744073709551616 := by decide
  have e' : (2 : Int) ^ 63 = 9223372036854775808 := by decide
  simp only [wr, IntKind.wrap, IntKind.bits, IntKind.signed, e, Bool.true_and, ge_iff_le, decide_eq_true_eq, Nat.add_one_sub_one, e']
  split <;> omega

section
variable {c : Cx} {s : S} {dst : Option Tmp} {ty : TypeId} {pos : String} {af : Array Edge} {g : Option (Nat × Bool)}

theorem quiet_val {o : Oper} {a : Act} {C : World → Prop} {w : World} {x : Value} (h : (execOp a.eval o).run c.P w = .ok (.value x) w) : o.quietAt c.P a C w x := by
  unfold Oper.quietAt; rw [h]; exact ⟨rfl, rfl⟩

theorem Q_move {x : Operand} {v : V} (h : ev c s.F x = some v) (hv : nb v = true) : QOp c ⟨dst, .move x, ty, pos, af, g⟩ s v := by
  intro ρ0 w0 hg ρ a hf hfix w hw
  refine quiet_val ?_
  simp [execOp, ev_rv hg hfix hf h (ne_bot hv)]
theorem Q_assign {x : Operand} {v : V} (h : ev c s.F x = some v) (hv : nb v = true) : QOp c ⟨dst, .assign x, ty, pos, af, g⟩ s v := by
  intro ρ0 w0 hg ρ a hf hfix w hw
  refine quiet_val ?_
  simp [execOp, ev_rv hg hfix hf h (ne_bot hv)]
theorem Q_pick {x y z : Operand} {t : Bool} {v u : V} (hx : ev c s.F x = some (.bool t)) (hy : t = true → ev c s.F y = some u) (hz : t = false → ev c s.F z = some u) (hv : u = v) (hn : nb v = true) :
    QOp c ⟨dst, .pick x y z, ty, pos, af, g⟩ s v := by
  subst hv
  intro ρ0 w0 hg ρ a hf hfix w hw
  refine quiet_val ?_
  have ex := ev_rv hg hfix hf hx (by simp)
  cases t
  · simp [execOp, ex, rv, asBool, ev_rv hg hfix hf (hz rfl) (ne_bot hn)]
  · simp [execOp, ex, rv, asBool, ev_rv hg hfix hf (hy rfl) (ne_bot hn)]
theorem Q_pick_t {x y z : Operand} {v u : V} (hx : ev c s.F x = some u) (hu : u = .bool true) (hy : ev c s.F y = some v) (hn : nb v = true) : QOp c ⟨dst, .pick x y z, ty, pos, af, g⟩ s v :=
  Q_pick (hu ▸ hx) (fun _ => hy) (fun h => by simp at h) rfl hn
theorem Q_pick_f {x y z : Operand} {v u : V} (hx : ev c s.F x = some u) (hu : u = .bool false) (hz : ev c s.F z = some v) (hn : nb v = true) : QOp c ⟨dst, .pick x y z, ty, pos, af, g⟩ s v :=
  Q_pick (hu ▸ hx) (fun h => by simp at h) (fun _ => hz) rfl hn

def arith : BinOp → Int → Int → Option V
  | .add, a, b => some (.int (wr (a + b)))
  | .sub, a, b => some (.int (wr (a - b)))
  | .mul, a, b => some (.int (wr (a * b)))
  | .eql, a, b => some (.bool (a == b))
  | .neq, a, b => some (.bool (a != b))
  | .lss, a, b => some (.bool (decide (a < b)))
  | .leq, a, b => some (.bool (decide (a ≤ b)))
  | .gtr, a, b => some (.bool (decide (a > b)))
  | .geq, a, b => some (.bool (decide (a ≥ b)))
  | _, _, _ => none
theorem Q_bin {op : BinOp} {x y : Operand} {t t' : TypeId} {m n : Int} {v : V} (hx : ev c s.F x = some (.int m)) (hy : ev c s.F y = some (.int n)) (h : arith op m n = some v) :
    QOp c ⟨dst, .binOp op t x y t', ty, pos, af, g⟩ s v := by
  intro ρ0 w0 hg ρ a hf hfix w hw
  refine quiet_val ?_
  have ex := ev_rv hg hfix hf hx (by simp)
  have ey := ev_rv hg hfix hf hy (by simp)
  cases op <;> simp only [arith] at h <;> first | (cases h; done) | (injection h with h; subst h; simp [execOp, ex, ey, rv, eqGuard_at_int, binOp, Op.intArith, Op.intCmp, wr])
/-- sums, differences, products that stay in range -/
def arithU : BinOp → Int → Int → Option Int
  | .add, a, b => some (a + b)
  | .sub, a, b => some (a - b)
  | .mul, a, b => some (a * b)
  | _, _, _ => none
theorem Q_binu {op : BinOp} {x y : Operand} {t t' : TypeId} {m n z : Int} (hx : ev c s.F x = some (.int m)) (hy : ev c s.F y = some (.int n)) (h : arithU op m n = some z)
    (hr : -9223372036854775808 ≤ z ∧ z ≤ 9223372036854775807) : QOp c ⟨dst, .binOp op t x y t', ty, pos, af, g⟩ s (.int z) := by
  have e : arith op m n = some (.int (wr z)) := by
    cases op <;> simp only [arithU] at h <;> first | (cases h; done) | (injection h with h; subst h; rfl)
  rw [wr_in hr] at e
  exact Q_bin hx hy e
theorem Q_rem {x y : Operand} {t t' : TypeId} {m n : Int} (hx : ev c s.F x = some (.int m)) (hy : ev c s.F y = some (.int n)) (h : n ≠ 0) :
    QOp c ⟨dst, .binOp .rem t x y t', ty, pos, af, g⟩ s (.int (m.tmod n)) := by
  intro ρ0 w0 hg ρ a hf hfix w hw
  refine quiet_val ?_
  simp [execOp, ev_rv hg hfix hf hx (by simp), ev_rv hg hfix hf hy (by simp), rv, eqGuard_at_int, binOp, Op.intDiv, h]
theorem Q_quo {x y : Operand} {t t' : TypeId} {m n : Int} (hx : ev c s.F x = some (.int m)) (hy : ev c s.F y = some (.int n)) (h : n ≠ 0) :
    QOp c ⟨dst, .binOp .quo t x y t', ty, pos, af, g⟩ s (.int (wr (m.tdiv n))) := by
  intro ρ0 w0 hg ρ a hf hfix w hw
  refine quiet_val ?_
  simp [execOp, ev_rv hg hfix hf hx (by simp), ev_rv hg hfix hf hy (by simp), rv, eqGuard_at_int, binOp, Op.intDiv, h, wr]
theorem Q_shr {x y : Operand} {t t' : TypeId} {m n : Int} (hx : ev c s.F x = some (.int m)) (hy : ev c s.F y = some (.int n)) (h0 : 0 ≤ n) (h1 : n ≤ 63) :
    QOp c ⟨dst, .binOp .shr t x y t', ty, pos, af, g⟩ s (.int (m.fdiv (2 ^ n.toNat))) := by
  intro ρ0 w0 hg ρ a hf hfix w hw
  refine quiet_val ?_
  have : min n.toNat 64 = n.toNat := by omega
  simp [execOp, ev_rv hg hfix hf hx (by simp), ev_rv hg hfix hf hy (by simp), rv, eqGuard_at_int, binOp, Op.shift, IntKind.bits, this, show ¬ n < 0 by omega]
theorem Q_shl {x y : Operand} {t t' : TypeId} {m n : Int} (hx : ev c s.F x = some (.int m)) (hy : ev c s.F y = some (.int n)) (h0 : 0 ≤ n) (h1 : n ≤ 63) :
    QOp c ⟨dst, .binOp .shl t x y t', ty, pos, af, g⟩ s (.int (wr (m * 2 ^ n.toNat))) := by
  intro ρ0 w0 hg ρ a hf hfix w hw
  refine quiet_val ?_
  have : min n.toNat 64 = n.toNat := by omega
  simp [execOp, ev_rv hg hfix hf hx (by simp), ev_rv hg hfix hf hy (by simp), rv, eqGuard_at_int, binOp, Op.shift, IntKind.bits, this, show ¬ n < 0 by omega, wr]
def bitsI : BinOp → Int → Int → Option Int
  | .and, a, b => some (wr (BitVec.ofInt 64 a &&& BitVec.ofInt 64 b).toNat)
  | .or, a, b => some (wr (BitVec.ofInt 64 a ||| BitVec.ofInt 64 b).toNat)
  | .xor, a, b => some (wr (BitVec.ofInt 64 a ^^^ BitVec.ofInt 64 b).toNat)
  | _, _, _ => none
theorem Q_bits {op : BinOp} {x y : Operand} {t t' : TypeId} {m n z : Int} (hx : ev c s.F x = some (.int m)) (hy : ev c s.F y = some (.int n)) (h : bitsI op m n = some z) :
    QOp c ⟨dst, .binOp op t x y t', ty, pos, af, g⟩ s (.int z) := by
  intro ρ0 w0 hg ρ a hf hfix w hw
  refine quiet_val ?_
  have ex := ev_rv hg hfix hf hx (by simp)
  have ey := ev_rv hg hfix hf hy (by simp)
  cases op <;> simp only [bitsI] at h <;> first | (cases h; done) | (injection h with h; subst h; simp only [execOp, ex, ey, rv, eqGuard_at_int, Sem.run_bind, Sem.run_pure, Result.andThen_ok]; rfl)
/-- '==', '!=' on bools -/
def boolB : BinOp → Bool → Bool → Option Bool
  | .eql, a, b => some (a == b)
  | .neq, a, b => some (a != b)
  | _, _, _ => none
theorem run_eqBool {P : Program} {t : TypeId} (hu : P.underlying t = some .bool) (d : Nat) (m n : Bool) (w : World) : (Op.equalIn (d + 1) t (.bool m) (.bool n)).run P w = .ok (m == n) w := by
  simp [Op.equalIn, run_underlying hu]
theorem Q_boolb {op : BinOp} {x y : Operand} {t t' : TypeId} {m n b : Bool} {i : TI} (ht : lkT c.T t = some i) (hd : i.d = .bool) (hx : ev c s.F x = some (.bool m)) (hy : ev c s.F y = some (.bool n)) (h : boolB op m n = some b) :
    QOp c ⟨dst, .binOp op t x y t', ty, pos, af, g⟩ s (.bool b) := by
  intro ρ0 w0 hg ρ a hf hfix w hw
  refine quiet_val ?_
  have ex := ev_rv hg hfix hf hx (by simp)
  have ey := ev_rv hg hfix hf hy (by simp)
  have hu := (c.tok t i ht).1
  rw [hd] at hu
  cases op <;> simp only [boolB] at h <;> first | (cases h; done) | (injection h with h; subst h; simp only [execOp, ex, ey, rv, eqGuard_at_bool, binOp, Op.equal, Op.maxDepth, Sem.run_bind, Sem.run_pure, Result.andThen_ok, run_eqBool hu 9999]; try rfl)

theorem run_sizeOf' {P : Program} {T : TT} (tok : TOK P T) {t : Nat} {i : TI} (h : lkT T t = some i) (w : World) : (sizeOf t).run P w = .ok i.size w := by
  obtain ⟨_, ⟨j, hj, hs, _⟩, _⟩ := tok t i h
  simp [sizeOf, typeInfo, hj, hs]
theorem cellsOf_tok {P : Program} {T : TT} (tok : TOK P T) {t : Nat} {i : TI} (h : lkT T t = some i) : P.cellsOf t = i.size := by
  obtain ⟨_, ⟨j, hj, hs, _⟩, _⟩ := tok t i h
  simp [Program.cellsOf, hj, hs]
def aggD : TypeDesc → Bool
  | .struct _ => true
  | .array _ _ => true
  | _ => false
theorem run_isAgg' {P : Program} {T : TT} (tok : TOK P T) {t : Nat} {i : TI} (h : lkT T t = some i) (w : World) :
    (isAgg t).run P w = .ok (aggD i.d) w := by
  have hu := (tok t i h).1
  simp only [isAgg, Sem.run_bind, run_underlying hu, Result.andThen_ok]
  cases i.d <;> simp [aggD]

/-- '==' on two arrays of int64 numbers -/
theorem run_eqInts {P : Program} {T : TT} (tok : TOK P T) {e : Nat} {ie : TI} (he : lkT T e = some ie) (hed : ie.d = .int .i64) (hes : ie.size = 1) (l m : List Int) (hlm : l.length = m.length) (d : Nat) (w : World) :
    ∀ (n k : Nat), k + n = l.length → (Op.eqItems (d + 1) e 1 (icells l) (icells m) (List.range' k n)).run P w = .ok (decide (l.drop k = m.drop k)) w
  | 0, k, h => by
    have h1 : l.drop k = [] := List.drop_eq_nil_of_le (by omega)
    have h2 : m.drop k = [] := List.drop_eq_nil_of_le (by omega)
    simp [Op.eqItems, h1, h2]
  | n + 1, k, h => by
    have ih := run_eqInts tok he hed hes l m hlm d w n (k + 1) (by omega)
    have hu := (tok e ie he).1
    rw [hed] at hu
    have hag : (isAgg e).run P w = .ok false w := by rw [run_isAgg' tok he, hed]; rfl
    have hl : l[k]? = some l[k] := List.getElem?_eq_getElem (by omega)
    have hm : m[k]? = some m[k] := List.getElem?_eq_getElem (by omega)
    have hdl : l.drop k = l[k] :: l.drop (k + 1) := List.drop_eq_getElem_cons (by omega)
    have hdm : m.drop k = m[k] :: m.drop (k + 1) := List.drop_eq_getElem_cons (by omega)
    generalize l[k] = u at *
    generalize m[k] = v at *
    have p1 : (part e (icells l) (k * 1)).run P w = .ok (.int .i64 u) w := by simp [part, hag, icells, hl]
    have p2 : (part e (icells m) (k * 1)).run P w = .ok (.int .i64 v) w := by simp [part, hag, icells, hm]
    have p3 : (Op.equalIn (d + 1) e (.int .i64 u) (.int .i64 v)).run P w = .ok (u == v) w := by simp [Op.equalIn, run_underlying hu]
    simp only [List.range'_succ, Op.eqItems, Sem.run_bind, p1, p2, p3, Result.andThen_ok]
    by_cases e' : u = v
    · simp only [e', BEq.rfl, Bool.not_true, Bool.false_eq_true, if_false, ih]
      congr 1
      simp [hdl, hdm, e']
    · have e2 : (u == v) = false := by simpa using e'
      simp only [e2, Bool.not_false, if_true, Sem.run_pure]
      congr 1
      simp [hdl, hdm, e']
theorem run_eqArr {P : Program} {T : TT} (tok : TOK P T) {t e n : Nat} {it ie : TI} (ht : lkT T t = some it) (htd : it.d = .array n e) (he : lkT T e = some ie) (hed : ie.d = .int .i64) (hes : ie.size = 1)
    (l m : List Int) (hl : l.length = n) (hm : m.length = n) (w : World) : (Op.equalIn 10000 t (.agg (icells l)) (.agg (icells m))).run P w = .ok (decide (l = m)) w := by
  obtain ⟨hu, _⟩ := tok t it ht
  rw [htd] at hu
  obtain ⟨_, ⟨j, hj, hs, _⟩, _⟩ := tok e ie he
  rw [run_equalIn_array w 9999 _ _ hu hj, cellsOf_tok tok he, hes, List.range_eq_range']
  have := run_eqInts tok he hed hes l m (by omega) 9998 w n 0 (by omega)
  simpa using this
theorem Q_arrb {op : BinOp} {x y : Operand} {t t' e n : TypeId} {l m : List Int} {b : Bool} {it ie : TI} (ht : lkT c.T t = some it) (htd : it.d = .array n e) (htg : it.g = true) (he : lkT c.T e = some ie) (hed : ie.d = .int .i64) (hes : ie.size = 1)
    (hx : ev c s.F x = some (.arr l)) (hy : ev c s.F y = some (.arr m)) (h : boolB op (decide (l = m)) true = some b) (hl : l.length = n) (hm : m.length = n) :
    QOp c ⟨dst, .binOp op t x y t', ty, pos, af, g⟩ s (.bool b) := by
  intro ρ0 w0 hg ρ a hf hfix w hw
  refine quiet_val ?_
  have ex := ev_rv hg hfix hf hx (by simp)
  have ey := ev_rv hg hfix hf hy (by simp)
  have hgd := (c.tok t it ht).2.2 htg
  have hr := run_eqArr c.tok ht htd he hed hes l m hl hm w
  simp only [icells] at hr
  cases op <;> simp only [boolB] at h <;> first | (cases h; done) | skip
  · injection h with h; subst h
    simp only [execOp, ex, ey, rv, Sem.run_bind, run_eqGuard_agg w _ _ _ _ _ _ hgd, Result.andThen_ok, run_eql_struct, hr, Sem.run_pure, beq_true]
  · injection h with h; subst h
    simp only [execOp, ex, ey, rv, Sem.run_bind, run_eqGuard_agg w _ _ _ _ _ _ hgd, Result.andThen_ok, run_neq_struct, hr, Sem.run_pure]
    cases decide (l = m) <;> rfl

theorem Q_neg {x : Operand} {t : TypeId} {n : Int} (hx : ev c s.F x = some (.int n)) : QOp c ⟨dst, .unOp .neg t x, ty, pos, af, g⟩ s (.int (wr (0 - n))) := by
  intro ρ0 w0 hg ρ a hf hfix w hw
  refine quiet_val ?_
  simp [execOp, ev_rv hg hfix hf hx (by simp), rv, Op.unary, Op.intArith, wr]
theorem Q_negu {x : Operand} {t : TypeId} {n : Int} (hx : ev c s.F x = some (.int n)) (hr : -9223372036854775808 ≤ 0 - n ∧ 0 - n ≤ 9223372036854775807) : QOp c ⟨dst, .unOp .neg t x, ty, pos, af, g⟩ s (.int (-n)) := by
  have h := Q_neg (c := c) (s := s) (dst := dst) (ty := ty) (pos := pos) (af := af) (g := g) (t := t) hx
  rw [wr_in hr, Int.zero_sub] at h
  exact h
theorem Q_not {x : Operand} {t : TypeId} {b : Bool} (hx : ev c s.F x = some (.bool b)) : QOp c ⟨dst, .unOp .not t x, ty, pos, af, g⟩ s (.bool (!b)) := by
  intro ρ0 w0 hg ρ a hf hfix w hw
  refine quiet_val ?_
  simp [execOp, ev_rv hg hfix hf hx (by simp), rv, Op.unary]
/-- int to int64 -/
theorem Q_conv {x : Operand} {t t' : TypeId} {n : Int} {i i' : TI} (ht : lkT c.T t = some i) (ht' : lkT c.T t' = some i') (hd : i'.d = .int .i64) (hx : ev c s.F x = some (.int n)) (hr : -9223372036854775808 ≤ n ∧ n ≤ 9223372036854775807) :
    QOp c ⟨dst, .convert t t' x, ty, pos, af, g⟩ s (.int n) := by
  intro ρ0 w0 hg ρ a hf hfix w hw
  refine quiet_val ?_
  have hu := (c.tok t i ht).1
  have hu' := (c.tok t' i' ht').1
  rw [hd] at hu'
  have e : IntKind.i64.wrap n = n := wr_in hr
  have hc : (convert t t' (.int .i64 n)).run c.P w = .ok (.int .i64 n) w := by
    unfold convert
    simp only [Sem.run_bind, run_underlying hu, run_underlying hu', Result.andThen_ok]
    simp [Conv.intToInt, e]
  simp [execOp, ev_rv hg hfix hf hx (by simp), rv, hc]
/-- a conversion between array (or slice) types of one underlying type never is an operation of its own; a tuple's part is -/
theorem Q_extract {x : Operand} {k : Nat} {vs : List V} {v : V} (hx : ev c s.F x = some (.tuple vs)) (h : vs[k]? = some v) : QOp c ⟨dst, .extract x k, ty, pos, af, g⟩ s v := by
  intro ρ0 w0 hg ρ a hf hfix w hw
  refine quiet_val ?_
  have : (rvs ρ vs)[k]? = some (rv ρ v) := by rw [rvs_eq_map]; simp [h]
  simp [execOp, ev_rv hg hfix hf hx (by simp), rv, Instr.extract, this]

def evs (c : Cx) (F : Fr) : List Operand → Option (List V)
  | [] => some []
  | x :: r => match ev c F x with
    | none => none
    | some v => match nb v with
      | false => none
      | true => match evs c F r with
        | none => none
        | some vs => some (v :: vs)
theorem evs_rv {xs : List Operand} {vs : List V} {ρ0 ρ : Nat → Nat} {a : Act} (hg : GR c.gl c.D ρ0) (hfix : ∀ b ∈ c.D, ρ b = ρ0 b) (hf : FR c ρ s.F a) (h : evs c s.F xs = some vs) :
    xs.map a.eval = rvs ρ vs := by
  induction xs generalizing vs with
  | nil => simp only [evs] at h; injection h with h; subst h; rfl
  | cons x r ih =>
    simp only [evs] at h
    split at h
    · cases h
    · rename_i v hv
      split at h
      · cases h
      · rename_i hnb
        split at h
        · cases h
        · rename_i us hus
          injection h with h; subst h
          simp [rvs, ih hus, ev_rv hg hfix hf hv (ne_bot hnb)]
theorem Q_makeFunc {f : Nat} {first caps : List Operand} {us vs : List V} (h1 : evs c s.F first = some us) (h2 : evs c s.F caps = some vs) :
    QOp c ⟨dst, .makeFunc (.func f) first.toArray caps.toArray, ty, pos, af, g⟩ s (.func f us vs) := by
  intro ρ0 w0 hg ρ a hf hfix w hw
  refine quiet_val ?_
  simp [execOp, Instr.makeFunc, rv, evs_rv hg hfix hf h1, evs_rv hg hfix hf h2]

/-! #### len, cap -/
theorem Q_len {x : Operand} {t : TypeId} {ats : Array TypeId} {i : TI} {e b o n k : Nat} (hat : ats = #[t]) (ht : lkT c.T t = some i) (hd : i.d = .slice e) (hx : ev c s.F x = some (.slice b o n k)) :
    QOp c ⟨dst, .call ⟨.builtin .len, #[x], ats⟩, ty, pos, af, g⟩ s (.int n) := by
  subst hat
  intro ρ0 w0 hg ρ a hf hfix w hw
  refine quiet_val ?_
  have hu := (c.tok t i ht).1
  rw [hd] at hu
  simp [execOp, resolve, invoke, builtin, Builtin.len_, run_underlying hu, ev_rv hg hfix hf hx (by simp), rv, goInt]
theorem Q_len0 {x : Operand} {t : TypeId} {ats : Array TypeId} {i : TI} {e : Nat} (hat : ats = #[t]) (ht : lkT c.T t = some i) (hd : i.d = .slice e) (hx : ev c s.F x = some .nilsl) :
    QOp c ⟨dst, .call ⟨.builtin .len, #[x], ats⟩, ty, pos, af, g⟩ s (.int 0) := by
  subst hat
  intro ρ0 w0 hg ρ a hf hfix w hw
  refine quiet_val ?_
  have hu := (c.tok t i ht).1
  rw [hd] at hu
  simp [execOp, resolve, invoke, builtin, Builtin.len_, run_underlying hu, ev_rv hg hfix hf hx (by simp), rv, goInt]
theorem Q_lena {x : Operand} {t : TypeId} {ats : Array TypeId} {i : TI} {e n : Nat} {v : V} (hat : ats = #[t]) (ht : lkT c.T t = some i) (hd : i.d = .array n e) (_hx : ev c s.F x = some v) :
    QOp c ⟨dst, .call ⟨.builtin .len, #[x], ats⟩, ty, pos, af, g⟩ s (.int n) := by
  subst hat
  intro ρ0 w0 hg ρ a hf hfix w hw
  refine quiet_val ?_
  have hu := (c.tok t i ht).1
  rw [hd] at hu
  simp [execOp, resolve, invoke, builtin, Builtin.len_, run_underlying hu, rv, goInt]
theorem Q_cap {x : Operand} {t : TypeId} {ats : Array TypeId} {i : TI} {e b o n k : Nat} (hat : ats = #[t]) (ht : lkT c.T t = some i) (hd : i.d = .slice e) (hx : ev c s.F x = some (.slice b o n k)) :
    QOp c ⟨dst, .call ⟨.builtin .cap, #[x], ats⟩, ty, pos, af, g⟩ s (.int k) := by
  subst hat
  intro ρ0 w0 hg ρ a hf hfix w hw
  refine quiet_val ?_
  have hu := (c.tok t i ht).1
  rw [hd] at hu
  simp [execOp, resolve, invoke, builtin, Builtin.cap_, run_underlying hu, ev_rv hg hfix hf hx (by simp), rv, goInt]

/-! #### addresses -/
theorem add_none (b o n : Nat) : Addr.add ⟨b, o, none⟩ n = ⟨b, o + n, none⟩ := Addr.add_lit b o n
theorem Q_ixs {x y : Operand} {t : TypeId} {i ie : TI} {e b o n k : Nat} {j : Int} (ht : lkT c.T t = some i) (hd : i.d = .slice e) (he : lkT c.T e = some ie) (hx : ev c s.F x = some (.slice b o n k)) (hy : ev c s.F y = some (.int j))
    (h : 0 ≤ j ∧ j < n) : QOp c ⟨dst, .indexAddr t x y, ty, pos, af, g⟩ s (.ptr b (o + j.toNat * ie.size)) := by
  intro ρ0 w0 hg ρ a hf hfix w hw
  refine quiet_val ?_
  have hu := (c.tok t i ht).1
  rw [hd] at hu
  simp [execOp, Instr.indexAt, asIntOf, run_underlying hu, ev_rv hg hfix hf hx (by simp), ev_rv hg hfix hf hy (by simp), rv, h, run_sizeOf' c.tok he, add_none]
theorem Q_ixa {x y : Operand} {t : TypeId} {i ie : TI} {e n b o : Nat} {j : Int} (ht : lkT c.T t = some i) (hd : i.d = .array n e) (he : lkT c.T e = some ie) (hx : ev c s.F x = some (.ptr b o)) (hy : ev c s.F y = some (.int j))
    (h : 0 ≤ j ∧ j < n) : QOp c ⟨dst, .indexAddr t x y, ty, pos, af, g⟩ s (.ptr b (o + j.toNat * ie.size)) := by
  intro ρ0 w0 hg ρ a hf hfix w hw
  refine quiet_val ?_
  have hu := (c.tok t i ht).1
  rw [hd] at hu
  simp [execOp, Instr.indexAt, Instr.sureAddr, asIntOf, run_underlying hu, ev_rv hg hfix hf hx (by simp), ev_rv hg hfix hf hy (by simp), rv, h, run_sizeOf' c.tok he, add_none]

/-! #### cuts -/
def bnd (c : Cx) (F : Fr) (d : Nat) : Option Operand → Option Nat
  | none => some d
  | some x => match ev c F x with
    | some (.int (.ofNat n)) => some n
    | _ => none
theorem bnd_some {F : Fr} {d n : Nat} {o : Option Operand} (h : bnd c F d o = some n) : (o = none ∧ n = d) ∨ ∃ x, o = some x ∧ ev c F x = some (.int n) := by
  cases o with
  | none => simp only [bnd] at h; injection h with h; exact .inl ⟨rfl, h.symm⟩
  | some x =>
    simp only [bnd] at h
    split at h
    · rename_i m hm; injection h with h; subst h; exact .inr ⟨x, rfl, hm⟩
    · cases h
theorem run_bound {P : Program} {w : World} {n y : Nat} {code : BoundsCode} (h : n ≤ y) : (Instr.sliceBound (.int .i64 n) y code).run P w = .ok n w := by
  simp [Instr.sliceBound, asIntOf, h]
theorem run_bounds {ρ0 ρ : Nat → Nat} {a : Act} {lo hi mx : Option Operand} {l h m len cap : Nat} {isS : Bool} {w : World} (hg : GR c.gl c.D ρ0) (hfix : ∀ b ∈ c.D, ρ b = ρ0 b) (hf : FR c ρ s.F a)
    (hl : bnd c s.F 0 lo = some l) (hh : bnd c s.F len hi = some h) (hm : bnd c s.F cap mx = some m) (hmx : mx.isSome = true → hi.isSome = true) (h1 : l ≤ h) (h2 : h ≤ m) (h3 : m ≤ cap) :
    (Instr.sliceBounds isS len cap (lo.map a.eval) (hi.map a.eval) (mx.map a.eval)).run c.P w = .ok (l, h, m) w := by
  have key : ∀ {x : Operand} {n : Nat}, ev c s.F x = some (.int n) → a.eval x = .int .i64 n := fun hx => by rw [ev_rv hg hfix hf hx (by simp)]; rfl
  rcases bnd_some hm with ⟨rfl, rfl⟩ | ⟨xm, rfl, em⟩ <;> rcases bnd_some hh with ⟨rfl, rfl⟩ | ⟨xh, rfl, eh⟩ <;> rcases bnd_some hl with ⟨rfl, rfl⟩ | ⟨xl, rfl, el⟩
  all_goals
    clear hl hh hm
    try have el' := key el
    try have eh' := key eh
    try have em' := key em
    clear key
    first
    | (simp at hmx; done)
    | (clear hmx; simp [Instr.sliceBounds, *, run_bound]; done)
    | (clear hmx; simp [Instr.sliceBounds, *, run_bound h1, run_bound h2, run_bound h3])
theorem Q_sls {x : Operand} {t : TypeId} {lo hi mx : Option Operand} {i ie : TI} {e b o n k l h m : Nat} (ht : lkT c.T t = some i) (hd : i.d = .slice e) (he : lkT c.T e = some ie) (hx : ev c s.F x = some (.slice b o n k))
    (hl : bnd c s.F 0 lo = some l) (hh : bnd c s.F n hi = some h) (hm : bnd c s.F k mx = some m) (hmx : (mx.isSome = true → hi.isSome = true)) (hb : l ≤ h ∧ h ≤ m ∧ m ≤ k) :
    QOp c ⟨dst, .slice t x lo hi mx, ty, pos, af, g⟩ s (.slice b (if m = l then o else o + l * ie.size) (h - l) (m - l)) := by
  intro ρ0 w0 hg ρ a hf hfix w hw
  refine quiet_val ?_
  have hu := (c.tok t i ht).1
  rw [hd] at hu
  have hr := run_bounds (w := w) (isS := true) hg hfix hf hl hh hm hmx hb.1 hb.2.1 hb.2.2
  by_cases e' : m = l
  · simp [execOp, Instr.sliceAt, Instr.slice, run_underlying hu, ev_rv hg hfix hf hx (by simp), rv, hr, run_sizeOf' c.tok he, e']
  · simp [execOp, Instr.sliceAt, Instr.slice, run_underlying hu, ev_rv hg hfix hf hx (by simp), rv, hr, run_sizeOf' c.tok he, e', add_none]
theorem Q_sla {x : Operand} {t : TypeId} {lo hi mx : Option Operand} {i ie : TI} {e b o n l h m : Nat} (ht : lkT c.T t = some i) (hd : i.d = .array n e) (he : lkT c.T e = some ie) (hx : ev c s.F x = some (.ptr b o))
    (hl : bnd c s.F 0 lo = some l) (hh : bnd c s.F n hi = some h) (hm : bnd c s.F n mx = some m) (hmx : (mx.isSome = true → hi.isSome = true)) (hb : l ≤ h ∧ h ≤ m ∧ m ≤ n) :
    QOp c ⟨dst, .slice t x lo hi mx, ty, pos, af, g⟩ s (.slice b (if m = l then o else o + l * ie.size) (h - l) (m - l)) := by
  intro ρ0 w0 hg ρ a hf hfix w hw
  refine quiet_val ?_
  have hu := (c.tok t i ht).1
  rw [hd] at hu
  have hr := run_bounds (w := w) (isS := false) hg hfix hf hl hh hm hmx hb.1 hb.2.1 hb.2.2
  by_cases e' : m = l
  · simp [execOp, Instr.sliceAt, Instr.sureAddr, run_underlying hu, ev_rv hg hfix hf hx (by simp), rv, hr, run_sizeOf' c.tok he, e']
  · simp [execOp, Instr.sliceAt, Instr.sureAddr, run_underlying hu, ev_rv hg hfix hf hx (by simp), rv, hr, run_sizeOf' c.tok he, e', add_none]
/-- a nil slice cut anywhere is nil -/
theorem Q_sl0 {x : Operand} {t : TypeId} {lo hi mx : Option Operand} {i ie : TI} {e : Nat} (ht : lkT c.T t = some i) (hd : i.d = .slice e) (he : lkT c.T e = some ie) (hx : ev c s.F x = some .nilsl)
    (hl : bnd c s.F 0 lo = some 0) (hh : bnd c s.F 0 hi = some 0) (hm : bnd c s.F 0 mx = some 0) (hmx : (mx.isSome = true → hi.isSome = true)) :
    QOp c ⟨dst, .slice t x lo hi mx, ty, pos, af, g⟩ s .nilsl := by
  intro ρ0 w0 hg ρ a hf hfix w hw
  refine quiet_val ?_
  have hu := (c.tok t i ht).1
  rw [hd] at hu
  have hr := run_bounds (w := w) (isS := true) hg hfix hf hl hh hm hmx (Nat.le_refl 0) (Nat.le_refl 0) (Nat.le_refl 0)
  simp [execOp, Instr.sliceAt, Instr.slice, run_underlying hu, ev_rv hg hfix hf hx (by simp), rv, hr, run_sizeOf' c.tok he]
theorem Q_s2a {x : Operand} {t : TypeId} {i : TI} {e b o n k m : Nat} (ht : lkT c.T t = some i) (hd : i.d = .array m e) (hx : ev c s.F x = some (.slice b o n k)) (hb : m ≤ n) :
    QOp c ⟨dst, .sliceToArrayPointer t x, ty, pos, af, g⟩ s (.ptr b o) := by
  intro ρ0 w0 hg ρ a hf hfix w hw
  refine quiet_val ?_
  have hu := (c.tok t i ht).1
  rw [hd] at hu
  simp [execOp, Instr.arrayAt, run_underlying hu, ev_rv hg hfix hf hx (by simp), rv, show ¬ n < m by omega]
/-- a checked pointer -/
theorem Q_nilCheck {x : Operand} {b o : Nat} (hx : ev c s.F x = some (.ptr b o)) : QOp c ⟨dst, .nilCheck x, ty, pos, af, g⟩ s (.ptr b o) := by
  intro ρ0 w0 hg ρ a hf hfix w hw
  refine quiet_val ?_
  simp [execOp, ev_rv hg hfix hf hx (by simp), rv]

/-! #### loads -/
theorem cell_ints {ρ0 ρ : Nat → Nat} {w0 w : World} {H : Hp} {b o t : Nat} {l : List Int} (hw : CC c ρ0 w0 ρ H w) (hb : lkB H b = some (.ints t l)) : w.cell? ⟨ρ b, o, none⟩ = (l[o]?).map (Value.int .i64) := by
  obtain ⟨ob, h1, h2⟩ := hw.hr.1 b _ hb (by simp)
  simp only [BR] at h2
  subst h2
  simp [World.cell?, h1, icells]
theorem load_run {P : Program} {w : World} {a : Addr} {v : Value} (h : w.cell? a = some v) : (load a).run P w = .ok v w := by simp [h]
/-- one number -/
theorem Q_ld {x : Operand} {t t' : TypeId} {i : TI} {b o : Nat} {l : List Int} (ht : lkT c.T t = some i) (hd : i.d = .int .i64) (hx : ev c s.F x = some (.ptr b o)) (hb : lkB s.H b = some (.ints t' l)) (h : o < l.length) :
    QOp c ⟨dst, .load t x, ty, pos, af, g⟩ s (.int (l.getD o 0)) := by
  intro ρ0 w0 hg ρ a hf hfix w hw
  refine quiet_val ?_
  have hag : (isAgg t).run c.P w = .ok false w := by rw [run_isAgg' c.tok ht, hd]; try rfl
  have hc : w.cell? ⟨ρ b, o, none⟩ = some (.int .i64 (l.getD o 0)) := by rw [cell_ints hw hb]; simp [List.getD, List.getElem?_eq_getElem h]
  simp [execOp, Instr.loadAt, Instr.sureAddr, loadVar, hag, ev_rv hg hfix hf hx (by simp), rv, hc]
theorem run_loadInts {ρ0 ρ : Nat → Nat} {w0 w : World} {H : Hp} {b o n t t' : Nat} {l : List Int} {i : TI} (hw : CC c ρ0 w0 ρ H w) (hb : lkB H b = some (.ints t' l)) (ht : lkT c.T t = some i)
    (hd : aggD i.d = true) (hs : i.size = n) (h : o + n ≤ l.length) : (loadVar t ⟨ρ b, o, none⟩).run c.P w = .ok (.agg (icells ((l.drop o).take n))) w := by
  have hag : (isAgg t).run c.P w = .ok true w := by rw [run_isAgg' c.tok ht, hd]; try rfl
  have hlen : ((l.drop o).take n).length = n := by simp; omega
  have hl := run_loadCells_list (P := c.P) w ⟨ρ b, o, none⟩ (((l.drop o).take n).map (Value.int .i64)) (fun j v hv => by
    rw [add_none, cell_ints hw hb]
    simp only [List.getElem?_map, Option.map_eq_some_iff] at hv ⊢
    obtain ⟨z, hz, rfl⟩ := hv
    refine ⟨z, ?_, rfl⟩
    rw [List.getElem?_take] at hz
    split at hz
    · simpa [List.getElem?_drop] using hz
    · cases hz)
  rw [List.length_map, hlen] at hl
  simp [loadVar, hag, run_sizeOf' c.tok ht, hs, hl, icells]
/-- an array of numbers, in the midst of a block -/
theorem Q_lda {x : Operand} {t t' : TypeId} {i : TI} {b o n : Nat} {l : List Int} (ht : lkT c.T t = some i) (hd : aggD i.d = true) (hs : i.size = n) (hx : ev c s.F x = some (.ptr b o)) (hb : lkB s.H b = some (.ints t' l))
    (h : o + n ≤ l.length) : QOp c ⟨dst, .load t x, ty, pos, af, g⟩ s (.arr ((l.drop o).take n)) := by
  intro ρ0 w0 hg ρ a hf hfix w hw
  refine quiet_val ?_
  have := run_loadInts hw hb ht hd hs h
  simp only [icells] at this
  simp [execOp, Instr.loadAt, Instr.sureAddr, ev_rv hg hfix hf hx (by simp), rv, this]
/-- a whole block of numbers -/
theorem Q_ldw {x : Operand} {t t' : TypeId} {i : TI} {b : Nat} {l : List Int} (ht : lkT c.T t = some i) (hd : aggD i.d = true) (hx : ev c s.F x = some (.ptr b 0)) (hb : lkB s.H b = some (.ints t' l))
    (h : l.length = i.size) : QOp c ⟨dst, .load t x, ty, pos, af, g⟩ s (.arr l) := by
  have := Q_lda (c := c) (s := s) (dst := dst) (ty := ty) (pos := pos) (af := af) (g := g) (o := 0) ht hd rfl hx hb (by omega)
  rw [List.drop_zero, ← h, List.take_length] at this
  exact this
theorem cell_vals {ρ0 ρ : Nat → Nat} {w0 w : World} {H : Hp} {b o t : Nat} {l : List V} {v : V} (hw : CC c ρ0 w0 ρ H w) (hb : lkB H b = some (.vals t l)) (h : l[o]? = some v) (hn : nb v = true) : w.cell? ⟨ρ b, o, none⟩ = some (rv ρ v) := by
  obtain ⟨ob, h1, h2⟩ := hw.hr.1 b _ hb (by simp)
  simp only [BR] at h2
  obtain ⟨xs, hl, hx, rfl⟩ := h2
  obtain ⟨x, hx1, hx2⟩ := hx o v h
  rcases hx2 with e | e
  · exact absurd e (ne_bot hn)
  · simp [World.cell?, h1, hx1, e]
/-- one cell that is no number -/
theorem Q_ldv {x : Operand} {t t' : TypeId} {i : TI} {b o : Nat} {l : List V} {v : V} (ht : lkT c.T t = some i) (hd : aggD i.d = false) (hx : ev c s.F x = some (.ptr b o)) (hb : lkB s.H b = some (.vals t' l))
    (h : l[o]? = some v) (hn : nb v = true) : QOp c ⟨dst, .load t x, ty, pos, af, g⟩ s v := by
  intro ρ0 w0 hg ρ a hf hfix w hw
  refine quiet_val ?_
  have hag : (isAgg t).run c.P w = .ok false w := by rw [run_isAgg' c.tok ht, hd]; try rfl
  simp [execOp, Instr.loadAt, Instr.sureAddr, loadVar, hag, ev_rv hg hfix hf hx (by simp), rv, cell_vals hw hb h hn]
theorem cell_ro {ρ0 ρ : Nat → Nat} {w0 w : World} {H : Hp} {b o0 i : Nat} {l : List Int} (hw : CC c ρ0 w0 ρ H w) (hb : lkB H b = some (.ro o0 l)) (h : i < l.length) : w.cell? ⟨ρ b, o0 + i, none⟩ = some (.int .i64 (l.getD i 0)) := by
  obtain ⟨ob, h1, h2⟩ := hw.hr.1 b _ hb (by simp)
  simp only [BR] at h2
  obtain ⟨cs, t, fr, rfl, hc⟩ := h2
  have := hc i (l.getD i 0) (by simp [List.getD, List.getElem?_eq_getElem h])
  simp [World.cell?, h1, this]
/-- a number of a row that is only read -/
theorem Q_ldr {x : Operand} {t : TypeId} {i : TI} {b o o0 j : Nat} {l : List Int} (ht : lkT c.T t = some i) (hd : i.d = .int .i64) (hx : ev c s.F x = some (.ptr b o)) (hb : lkB s.H b = some (.ro o0 l)) (ho : o = o0 + j) (h : j < l.length) :
    QOp c ⟨dst, .load t x, ty, pos, af, g⟩ s (.int (l.getD j 0)) := by
  subst ho
  intro ρ0 w0 hg ρ a hf hfix w hw
  refine quiet_val ?_
  have hag : (isAgg t).run c.P w = .ok false w := by rw [run_isAgg' c.tok ht, hd]; try rfl
  simp [execOp, Instr.loadAt, Instr.sureAddr, loadVar, hag, ev_rv hg hfix hf hx (by simp), rv, cell_ro hw hb h]
/-- an array of numbers of a row that is only read -/
theorem Q_ldra {x : Operand} {t : TypeId} {i : TI} {b o o0 j n : Nat} {l : List Int} (ht : lkT c.T t = some i) (hd : aggD i.d = true) (hs : i.size = n) (hx : ev c s.F x = some (.ptr b o)) (hb : lkB s.H b = some (.ro o0 l)) (ho : o = o0 + j) (h : j + n ≤ l.length) :
    QOp c ⟨dst, .load t x, ty, pos, af, g⟩ s (.arr ((l.drop j).take n)) := by
  subst ho
  intro ρ0 w0 hg ρ a hf hfix w hw
  refine quiet_val ?_
  have hag : (isAgg t).run c.P w = .ok true w := by rw [run_isAgg' c.tok ht, hd]; try rfl
  have hlen : ((l.drop j).take n).length = n := by simp; omega
  have hl := run_loadCells_list (P := c.P) w ⟨ρ b, o0 + j, none⟩ (((l.drop j).take n).map (Value.int .i64)) (fun q v hv => by
    rw [add_none, Nat.add_assoc]
    simp only [List.getElem?_map, Option.map_eq_some_iff] at hv
    obtain ⟨z, hz, rfl⟩ := hv
    rw [List.getElem?_take] at hz
    split at hz
    · rw [cell_ro hw hb (by omega)]
      rw [List.getElem?_drop] at hz
      simp [List.getD, hz]
    · cases hz)
  rw [List.length_map, hlen] at hl
  have : (loadVar t ⟨ρ b, o0 + j, none⟩).run c.P w = .ok (.agg (icells ((l.drop j).take n))) w := by
    simp only [loadVar, Sem.run_bind, hag, Result.andThen_ok, run_sizeOf' c.tok ht, hs, hl, Sem.run_pure, if_true]
    rfl
  simp only [icells] at this
  simp [execOp, Instr.loadAt, Instr.sureAddr, ev_rv hg hfix hf hx (by simp), rv, this]
/-- an element of an array value -/
theorem Q_index {x y : Operand} {t : TypeId} {i ie : TI} {e n : Nat} {j : Int} {l : List Int} (ht : lkT c.T t = some i) (hd : i.d = .array n e) (he : lkT c.T e = some ie) (hed : ie.d = .int .i64) (hes : ie.size = 1) (hx : ev c s.F x = some (.arr l)) (hy : ev c s.F y = some (.int j))
    (h : 0 ≤ j ∧ j < n) (hl : j < l.length) : QOp c ⟨dst, .index t x y, ty, pos, af, g⟩ s (.int (l.getD j.toNat 0)) := by
  intro ρ0 w0 hg ρ a hf hfix w hw
  refine quiet_val ?_
  have hu := (c.tok t i ht).1
  rw [hd] at hu
  have hag : (isAgg e).run c.P w = .ok false w := by rw [run_isAgg' c.tok he, hed]; try rfl
  have hl' : l[j.toNat]? = some (l.getD j.toNat 0) := by
    have : j.toNat < l.length := by omega
    simp [List.getD, List.getElem?_eq_getElem this]
  generalize l.getD j.toNat 0 = z at *
  simp [execOp, Instr.index, asIntOf, run_underlying hu, ev_rv hg hfix hf hx (by simp), ev_rv hg hfix hf hy (by simp), rv, h, run_sizeOf' c.tok he, hes, part, hag, hl']
theorem Q_indexa {x y : Operand} {t : TypeId} {i ie : TI} {e n k : Nat} {j : Int} {l : List Int} (ht : lkT c.T t = some i) (hd : i.d = .array n e) (he : lkT c.T e = some ie) (hed : aggD ie.d = true) (hes : ie.size = k) (hx : ev c s.F x = some (.arr l)) (hy : ev c s.F y = some (.int j))
    (h : 0 ≤ j ∧ j < n) : QOp c ⟨dst, .index t x y, ty, pos, af, g⟩ s (.arr ((l.drop (j.toNat * k)).take k)) := by
  intro ρ0 w0 hg ρ a hf hfix w hw
  refine quiet_val ?_
  have hu := (c.tok t i ht).1
  rw [hd] at hu
  have hag : (isAgg e).run c.P w = .ok true w := by rw [run_isAgg' c.tok he, hed]; try rfl
  simp [execOp, Instr.index, asIntOf, run_underlying hu, ev_rv hg hfix hf hx (by simp), ev_rv hg hfix hf hy (by simp), rv, h, run_sizeOf' c.tok he, hes, part, hag]

/-! #### literals of arrays of numbers -/
def putI (l : List Int) (o : Nat) : List Int → List Int
  | [] => l
  | x :: r => putI (l.set o x) (o + 1) r
def fillI (sz : Nat) : List Int → List (Nat × V) → Option (List Int)
  | z, [] => some z
  | z, (i, .int n) :: r => match Nat.beq sz 1 with
    | true => fillI sz (z.set i n) r
    | false => none
  | z, (i, .arr m) :: r => fillI sz (putI z (i * sz) m) r
  | _, _ => none
def evp (c : Cx) (F : Fr) : List (Nat × Operand) → Option (List (Nat × V))
  | [] => some []
  | (i, x) :: r => match ev c F x with
    | none => none
    | some v => match nb v with
      | false => none
      | true => match evp c F r with
        | none => none
        | some vs => some ((i, v) :: vs)
end
end Go.Proofs.YtendffbpmpobnaaDoor
