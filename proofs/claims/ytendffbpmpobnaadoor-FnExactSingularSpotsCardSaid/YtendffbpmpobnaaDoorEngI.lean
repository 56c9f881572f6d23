/- The engine, part I: more rules over states written out: append to an own row, the exit with a changed heap, loads of known numbers. -/
import Derived.Test.YtendffbpmpobnaaDoorEngG
namespace Go.Proofs.YtendffbpmpobnaaDoor
section
variable {c : Cx} {Q : Post} {F : Fr} {H : Hp} {n : Nat} {ops : Array Oper} {rest : List Oper} {d : Nat} {ty : TypeId} {pos : String} {af : Array Edge}
/-- append to a row of the call's own: the told part A, what is put behind it -/
theorem oApp {t t2 : TypeId} {ats : Array TypeId} {x y : Operand} {i i2 ie : TI} {e e2 sz b b' m k q q' by_ t' : Nat} {A sp xl : List Int}
    (hat : ats = #[t, t2]) (ht : lkT c.T t = some i) (hd : i.d = .slice e) (ht2 : lkT c.T t2 = some i2) (hd2 : i2.d = .slice e2) (he : lkT c.T e = some ie) (hz : ZI ie sz) (hby : ie.bytes = by_) (hb0 : Nat.blt 0 by_ = true)
    (hx : ev c F x = some (.slice b 0 m k)) (hy : ev c F y = some (.slice b' 0 q q')) (hb : lkB H b = some (.ints e (A ++ sp))) (hb' : lkB H b' = some (.ints t' xl)) (hA : A.length = m * sz) (hxl : xl.length = q * sz) (hroom : k * sz ≤ m * sz + sp.length) (hnk : m ≤ k)
    (hlim : (2 * (m + q) + 192) * by_ ≤ 281474976710656) (h63 : m + q ≤ 1000000000000) (hN : Nat.blt d c.N = true) (hn : Nat.blt n 1000 = true)
    (h : ∀ (k' : Nat) (sp' : List Int), m + q ≤ k' → k' * sz ≤ (m + q) * sz + sp'.length → OW c ops Q rest ⟨(d, .slice n 0 (m + q) k') :: F, (n, .ints e ((A ++ xl) ++ sp')) :: (b, .dead) :: H, n + 1⟩) :
    OW c ops Q (⟨some d, .call ⟨.builtin .append, #[x, y], ats⟩, ty, pos, af, none⟩ :: rest) ⟨F, H, n⟩ := by
  have hv : IsSl H sz (.slice b' 0 q q') q xl := by
    have := IsSl.mk (sz := sz) (k := q') hb' (show 0 + q * sz ≤ xl.length by omega)
    rwa [List.drop_zero, ← hxl, List.take_length] at this
  refine oAppOwn hat ht hd ht2 hd2 he hz hby hb0 hx hy hb hv (by rw [List.length_append, hA]; exact hroom) hnk hlim h63 hN hn fun k' spare h1 h2 => ?_
  have e1 : (A ++ sp).take (m * sz) = A := by rw [← hA]; simp
  rw [e1]
  exact h k' spare h1 h2
theorem putI_all {l : List Int} {sz : Nat} (h : l.length = sz) : putI (List.replicate sz 0) 0 l = l := by
  have key : ∀ (m z pre : List Int), z.length = m.length → putI (pre ++ z) pre.length m = pre ++ m := by
    intro m
    induction m with
    | nil => intro z pre h; simp [putI, List.eq_nil_of_length_eq_zero h]
    | cons x m ih =>
      intro z pre h
      match z, h with
      | y :: z, h =>
        have := ih z (pre ++ [x]) (by simpa using h)
        simp only [List.length_append, List.length_cons, List.length_nil, Nat.zero_add, List.append_assoc, List.cons_append, List.nil_append] at this
        simp only [putI]
        refine Eq.trans ?_ this
        congr 1
        simp
  have := key l (List.replicate sz 0) [] (by simp [h])
  simpa using this
/-- a slice of one array -/
theorem oBsl1 {t : TypeId} {ps : List (Nat × Operand)} {l : List Int} {i ie : TI} {e sz : Nat} (hl : l.length = sz) (ht : lkT c.T t = some i) (hd : i.d = .slice e) (he : lkT c.T e = some ie) (hs : ie.size = sz) (hz : ie.z = some (.arr (List.replicate sz 0))) (h0 : Nat.blt 0 sz = true)
    (hp : evp c F ps = some [(0, .arr l)]) (hlim : Nat.ble sz 16777216 = true) (hN : Nat.blt d c.N = true) (hn : Nat.blt n 1000 = true) (h : OW c ops Q rest ⟨(d, .slice n 0 1 1) :: F, (n, .ints e l) :: H, n + 1⟩) : OW c ops Q (⟨some d, .buildSlice t 1 ps.toArray, ty, pos, af, none⟩ :: rest) ⟨F, H, n⟩ := by
  have e1 : fillI sz (List.replicate (1 * sz) 0) [(0, V.arr l)] = some l := by simp only [fillI, Nat.one_mul, Nat.zero_mul, putI_all hl]
  exact oBsl ht hd he hs (.inr ⟨hz, rfl, by simpa [Nat.blt_eq] using h0⟩) hp e1 (by simp [okParts, hl]) (by simpa using hlim) hN hn h
theorem putI_two {l m : List Int} {sz : Nat} (hl : l.length = sz) (hm : m.length = sz) : putI (putI (List.replicate (2 * sz) 0) 0 l) (1 * sz) m = l ++ m := by
  have key : ∀ (m z pre post : List Int), z.length = m.length → putI (pre ++ (z ++ post)) pre.length m = pre ++ (m ++ post) := by
    intro m
    induction m with
    | nil => intro z pre post h; simp [putI, List.eq_nil_of_length_eq_zero h]
    | cons x m ih =>
      intro z pre post h
      match z, h with
      | y :: z, h =>
        have := ih z (pre ++ [x]) post (by simpa using h)
        simp only [List.length_append, List.length_cons, List.length_nil, Nat.zero_add, List.append_assoc, List.cons_append, List.nil_append] at this
        simp only [putI, List.cons_append]
        refine Eq.trans ?_ this
        congr 1
        simp
  have e1 : List.replicate (2 * sz) (0 : Int) = [] ++ (List.replicate sz 0 ++ List.replicate sz 0) := by simp [Nat.two_mul]
  have h1 := key l (List.replicate sz 0) [] (List.replicate sz 0) (by simp [hl])
  have h2 := key m (List.replicate sz 0) l [] (by simp [hm])
  simp only [List.length_nil, List.nil_append, List.append_nil] at h1 h2
  rw [e1, List.nil_append, h1, Nat.one_mul, ← hl]
  rw [← hl] at h2
  exact h2
/-- a slice of two arrays -/
theorem oBsl2 {t : TypeId} {ps : List (Nat × Operand)} {l m : List Int} {i ie : TI} {e sz : Nat} (hl : l.length = sz) (hm : m.length = sz) (ht : lkT c.T t = some i) (hd : i.d = .slice e) (he : lkT c.T e = some ie) (hs : ie.size = sz) (hz : ie.z = some (.arr (List.replicate sz 0))) (h0 : Nat.blt 0 sz = true)
    (hp : evp c F ps = some [(0, .arr l), (1, .arr m)]) (hlim : Nat.ble (2 * sz) 16777216 = true) (hN : Nat.blt d c.N = true) (hn : Nat.blt n 1000 = true) (h : OW c ops Q rest ⟨(d, .slice n 0 2 2) :: F, (n, .ints e (l ++ m)) :: H, n + 1⟩) : OW c ops Q (⟨some d, .buildSlice t 2 ps.toArray, ty, pos, af, none⟩ :: rest) ⟨F, H, n⟩ := by
  have e1 : fillI sz (List.replicate (2 * sz) 0) [(0, V.arr l), (1, V.arr m)] = some (l ++ m) := by simp only [fillI, Nat.zero_mul, putI_two hl hm]
  exact oBsl ht hd he hs (.inr ⟨hz, rfl, by simpa [Nat.blt_eq] using h0⟩) hp e1 (by simp [okParts, hl, hm]; omega) hlim hN hn h
/-- one number of a written out list -/
theorem Q_ldc {s : S} {dst : Option Tmp} {g : Option (Nat × Bool)} {x : Operand} {t t' : TypeId} {i : TI} {b o : Nat} {l : List Int} {m : Int} (ht : lkT c.T t = some i) (hd : i.d = .int .i64) (hx : ev c s.F x = some (.ptr b o)) (hb : lkB s.H b = some (.ints t' l)) (h : l[o]? = some m) :
    QOp c ⟨dst, .load t x, ty, pos, af, g⟩ s (.int m) := by
  have hl : o < l.length := by
    rcases Nat.lt_or_ge o l.length with h' | h'
    · exact h'
    · rw [List.getElem?_eq_none h'] at h; cases h
  have := Q_ld (c := c) (s := s) (dst := dst) (ty := ty) (pos := pos) (af := af) (g := g) ht hd hx hb hl
  rwa [show l.getD o 0 = m by simp [List.getD, h]] at this
/-- the end of a function whose heap has turned -/
theorem exitH {s : S} {rs : List ResultVar} {R : V → Hp → Prop} {r0 : V} {H0 : Hp} {e : Exit} {vs : List V} (he : e = .normal ∨ e = .ret) (l : List (Nat × Nat)) (n' : Nat) (hvs : RVs c s rs vs) (hr : resV vs = ren (ap l) r0) (hn : nb r0 = true)
    (hD : (c.D.all fun d => Nat.beq (ap l d) d) = true) (hH : vH (ap l) s.H H0) (hwf : wfB c.D ⟨[(0, r0)], H0, n'⟩ = true) (hinj : injB (ap l) (ids H0) = true) (hR : R r0 H0) : exitP c rs R e s :=
  ⟨he, vs, r0, H0, n', hvs, View.mk' l hD hwf hinj ⟨by rw [← hr]; rfl, trivial⟩ hH, hn, hR⟩
/-- a call by a contract, the outcome written out -/
theorem oCall {f : Nat} {xs : List Operand} {ats : Array TypeId} {vs args0 : List V} {gl' : List (Nat × Nat)} {H0 : Hp} {R : V → Hp → Prop}
    (con : Con c.P gl' f args0 H0 R) (σ : List (Nat × Nat)) (M : Nat) (hx : evs c F xs = some vs) (hargs : vs = rens (ap σ) args0) (hfit : Fits c ⟨F, H, n⟩ (ap σ) gl' H0) (hM : Nat.ble (n + M) 1000 = true) (hN : Nat.blt d c.N = true)
    (h : ∀ r H1, R r H1 → ∃ v' Hn, scM H0 M r H1 = true ∧ ren (σ' H0 (ap σ) n) r = v' ∧ (H1.map fun x => (σ' H0 (ap σ) n x.1, x.2.ren (σ' H0 (ap σ) n))) = Hn ∧ OW c ops Q rest ⟨(d, v') :: F, Hn ++ H, n + M⟩) :
    OW c ops Q (⟨some d, .call ⟨.value (.func f), xs.toArray, ats⟩, ty, pos, af, none⟩ :: rest) ⟨F, H, n⟩ := by
  refine OW_call con σ M hx hargs hfit hM hN fun r H1 hR => ?_
  obtain ⟨v', Hn, h1, rfl, rfl, h2⟩ := h r H1 hR
  exact ⟨h1, h2⟩
/-- the same, no answer wanted -/
theorem oCall' {f : Nat} {xs : List Operand} {ats : Array TypeId} {vs args0 : List V} {gl' : List (Nat × Nat)} {H0 : Hp} {R : V → Hp → Prop}
    (con : Con c.P gl' f args0 H0 R) (σ : List (Nat × Nat)) (M : Nat) (hx : evs c F xs = some vs) (hargs : vs = rens (ap σ) args0) (hfit : Fits c ⟨F, H, n⟩ (ap σ) gl' H0) (hM : Nat.ble (n + M) 1000 = true)
    (h : ∀ r H1, R r H1 → ∃ Hn, scM H0 M r H1 = true ∧ (H1.map fun x => (σ' H0 (ap σ) n x.1, x.2.ren (σ' H0 (ap σ) n))) = Hn ∧ OW c ops Q rest ⟨F, Hn ++ H, n + M⟩) :
    OW c ops Q (⟨none, .call ⟨.value (.func f), xs.toArray, ats⟩, ty, pos, af, none⟩ :: rest) ⟨F, H, n⟩ := by
  refine OW_call con σ M hx hargs hfit hM rfl fun r H1 hR => ?_
  obtain ⟨Hn, h1, rfl, h2⟩ := h r H1 hR
  exact ⟨h1, h2⟩
end
theorem mul_bds {a b A B : Int} (h0 : -A ≤ a) (h1 : a ≤ A) (h2 : -B ≤ b) (h3 : b ≤ B) : -(A * B) ≤ a * b ∧ a * b ≤ A * B := by
  have hA : 0 ≤ A := by omega
  have hB : 0 ≤ B := by omega
  have e : (a * b).natAbs ≤ (A * B).natAbs := by
    rw [Int.natAbs_mul, Int.natAbs_mul]
    exact Nat.mul_le_mul (by omega) (by omega)
  have : 0 ≤ A * B := Int.mul_nonneg hA hB
  omega
section
variable {c : Cx} {Q : Post} {F : Fr} {H : Hp} {n : Nat} {ops : Array Oper} {rest : List Oper} {d : Nat} {ty : TypeId} {pos : String} {af : Array Edge} {K : S → Prop} {t t' : TypeId} {x y : Operand} {m k : Int}
/-- a product that stays in range, under a name of its own -/
theorem oMul (A B : Int) (hx : ev c F x = some (.int m)) (hy : ev c F y = some (.int k)) (ha : -A ≤ m ∧ m ≤ A) (hb : -B ≤ k ∧ k ≤ B) (hAB : A * B ≤ 9223372036854775807) (hN : Nat.blt d c.N = true)
    (h : ∀ z, z = m * k → -(A * B) ≤ z → z ≤ A * B → OW c ops Q rest ⟨(d, .int z) :: F, H, n⟩) : OW c ops Q (⟨some d, .binOp .mul t x y t', ty, pos, af, none⟩ :: rest) ⟨F, H, n⟩ := by
  have hm := mul_bds ha.1 ha.2 hb.1 hb.2
  exact oQ (Q_binu hx hy rfl (by omega)) hN rfl (h _ rfl hm.1 hm.2)
theorem qMul (A B : Int) (hx : ev c F x = some (.int m)) (hy : ev c F y = some (.int k)) (ha : -A ≤ m ∧ m ≤ A) (hb : -B ≤ k ∧ k ≤ B) (hAB : A * B ≤ 9223372036854775807) (hN : Nat.blt d c.N = true)
    (h : ∀ z, z = m * k → -(A * B) ≤ z → z ≤ A * B → QW c ops K rest ⟨(d, .int z) :: F, H, n⟩) : QW c ops K (⟨some d, .binOp .mul t x y t', ty, pos, af, none⟩ :: rest) ⟨F, H, n⟩ := by
  have hm := mul_bds ha.1 ha.2 hb.1 hb.2
  exact qQ (Q_binu hx hy rfl (by omega)) hN rfl (h _ rfl hm.1 hm.2)
theorem oRem (hx : ev c F x = some (.int m)) (hy : ev c F y = some (.int k)) (hk : 0 < k) (hN : Nat.blt d c.N = true)
    (h : ∀ z, z = m.tmod k → -k < z → z < k → OW c ops Q rest ⟨(d, .int z) :: F, H, n⟩) : OW c ops Q (⟨some d, .binOp .rem t x y t', ty, pos, af, none⟩ :: rest) ⟨F, H, n⟩ := by
  have h1 := Int.tmod_lt_of_pos m hk
  have h2 := Int.lt_tmod_of_pos m hk
  exact oQ (Q_rem hx hy (by omega)) hN rfl (h _ rfl h2 h1)
theorem qRem (hx : ev c F x = some (.int m)) (hy : ev c F y = some (.int k)) (hk : 0 < k) (hN : Nat.blt d c.N = true)
    (h : ∀ z, z = m.tmod k → -k < z → z < k → QW c ops K rest ⟨(d, .int z) :: F, H, n⟩) : QW c ops K (⟨some d, .binOp .rem t x y t', ty, pos, af, none⟩ :: rest) ⟨F, H, n⟩ := by
  have h1 := Int.tmod_lt_of_pos m hk
  have h2 := Int.lt_tmod_of_pos m hk
  exact qQ (Q_rem hx hy (by omega)) hN rfl (h _ rfl h2 h1)
theorem mulN_bds {a b A B : Int} (h0 : 0 ≤ a) (h1 : a ≤ A) (h2 : 0 ≤ b) (h3 : b ≤ B) : 0 ≤ a * b ∧ a * b ≤ A * B :=
  ⟨Int.mul_nonneg h0 h2, Int.mul_le_mul h1 h3 h2 (Int.le_trans h0 h1)⟩
theorem oMulN (A B : Int) (hx : ev c F x = some (.int m)) (hy : ev c F y = some (.int k)) (ha : 0 ≤ m ∧ m ≤ A) (hb : 0 ≤ k ∧ k ≤ B) (hAB : A * B ≤ 9223372036854775807) (hN : Nat.blt d c.N = true)
    (h : ∀ z, z = m * k → 0 ≤ z → z ≤ A * B → OW c ops Q rest ⟨(d, .int z) :: F, H, n⟩) : OW c ops Q (⟨some d, .binOp .mul t x y t', ty, pos, af, none⟩ :: rest) ⟨F, H, n⟩ := by
  have hm := mulN_bds ha.1 ha.2 hb.1 hb.2
  exact oQ (Q_binu hx hy rfl (by omega)) hN rfl (h _ rfl hm.1 hm.2)
theorem qMulN (A B : Int) (hx : ev c F x = some (.int m)) (hy : ev c F y = some (.int k)) (ha : 0 ≤ m ∧ m ≤ A) (hb : 0 ≤ k ∧ k ≤ B) (hAB : A * B ≤ 9223372036854775807) (hN : Nat.blt d c.N = true)
    (h : ∀ z, z = m * k → 0 ≤ z → z ≤ A * B → QW c ops K rest ⟨(d, .int z) :: F, H, n⟩) : QW c ops K (⟨some d, .binOp .mul t x y t', ty, pos, af, none⟩ :: rest) ⟨F, H, n⟩ := by
  have hm := mulN_bds ha.1 ha.2 hb.1 hb.2
  exact qQ (Q_binu hx hy rfl (by omega)) hN rfl (h _ rfl hm.1 hm.2)
theorem oRemN (hx : ev c F x = some (.int m)) (hy : ev c F y = some (.int k)) (h0 : 0 ≤ m) (hk : 0 < k) (hN : Nat.blt d c.N = true)
    (h : ∀ z, z = m % k → 0 ≤ z → z < k → OW c ops Q rest ⟨(d, .int z) :: F, H, n⟩) : OW c ops Q (⟨some d, .binOp .rem t x y t', ty, pos, af, none⟩ :: rest) ⟨F, H, n⟩ := by
  have h1 := Int.emod_nonneg m (show k ≠ 0 by omega)
  have h2 := Int.emod_lt_of_pos m hk
  exact oQ (Q_rem hx hy (by omega)) hN rfl (h _ (Int.tmod_eq_emod_of_nonneg h0) (by rw [Int.tmod_eq_emod_of_nonneg h0]; exact h1) (by rw [Int.tmod_eq_emod_of_nonneg h0]; exact h2))
theorem qRemN (hx : ev c F x = some (.int m)) (hy : ev c F y = some (.int k)) (h0 : 0 ≤ m) (hk : 0 < k) (hN : Nat.blt d c.N = true)
    (h : ∀ z, z = m % k → 0 ≤ z → z < k → QW c ops K rest ⟨(d, .int z) :: F, H, n⟩) : QW c ops K (⟨some d, .binOp .rem t x y t', ty, pos, af, none⟩ :: rest) ⟨F, H, n⟩ := by
  have h1 := Int.emod_nonneg m (show k ≠ 0 by omega)
  have h2 := Int.emod_lt_of_pos m hk
  exact qQ (Q_rem hx hy (by omega)) hN rfl (h _ (Int.tmod_eq_emod_of_nonneg h0) (by rw [Int.tmod_eq_emod_of_nonneg h0]; exact h1) (by rw [Int.tmod_eq_emod_of_nonneg h0]; exact h2))
theorem Q_nmul {dst : Option Tmp} {s : S} {g : Option (Nat × Bool)} {a b : Nat} (hx : ev c s.F x = some (.int (a : Int))) (hy : ev c s.F y = some (.int (b : Int))) (h : a * b ≤ 4611686018427387904) : QOp c ⟨dst, .binOp .mul t x y t', ty, pos, af, g⟩ s (.int ((a * b : Nat) : Int)) :=
  Q_binu hx hy (congrArg some (Int.natCast_mul a b).symm) (by omega)
theorem Q_nadd {dst : Option Tmp} {s : S} {g : Option (Nat × Bool)} {a b : Nat} (hx : ev c s.F x = some (.int (a : Int))) (hy : ev c s.F y = some (.int (b : Int))) (h : a + b ≤ 4611686018427387904) : QOp c ⟨dst, .binOp .add t x y t', ty, pos, af, g⟩ s (.int ((a + b : Nat) : Int)) :=
  Q_binu hx hy (congrArg some (Int.natCast_add a b).symm) (by omega)
theorem Q_nrem {dst : Option Tmp} {s : S} {g : Option (Nat × Bool)} {a b : Nat} (hx : ev c s.F x = some (.int (a : Int))) (hy : ev c s.F y = some (.int (b : Int))) (h : b ≠ 0) : QOp c ⟨dst, .binOp .rem t x y t', ty, pos, af, g⟩ s (.int ((a % b : Nat) : Int)) := by
  have := Q_rem (c := c) (s := s) (dst := dst) (ty := ty) (pos := pos) (af := af) (g := g) (t := t) (t' := t') hx hy (by omega)
  rwa [Int.tmod_eq_emod_of_nonneg (by omega), ← Int.natCast_emod] at this
theorem Q_nquo {dst : Option Tmp} {s : S} {g : Option (Nat × Bool)} {a b : Nat} (hx : ev c s.F x = some (.int (a : Int))) (hy : ev c s.F y = some (.int (b : Int))) (h : b ≠ 0) (ha : a ≤ 4611686018427387904) : QOp c ⟨dst, .binOp .quo t x y t', ty, pos, af, g⟩ s (.int ((a / b : Nat) : Int)) := by
  have := Q_quo (c := c) (s := s) (dst := dst) (ty := ty) (pos := pos) (af := af) (g := g) (t := t) (t' := t') hx hy (by omega)
  have key : ∀ q : Nat, q ≤ a → wr (q : Int) = (q : Int) := fun q hq => wr_in (by omega)
  rwa [Int.tdiv_eq_ediv_of_nonneg (by omega), ← Int.natCast_ediv, key _ (Nat.div_le_self a b)] at this
/-- a number gets a name -/
theorem oName {e : Int} {l : List Oper} (h : ∀ z, z = e → OW c ops Q l ⟨(d, .int z) :: F, H, n⟩) : OW c ops Q l ⟨(d, .int e) :: F, H, n⟩ := h _ rfl
theorem qName {e : Int} {l : List Oper} (h : ∀ z, z = e → QW c ops K l ⟨(d, .int z) :: F, H, n⟩) : QW c ops K l ⟨(d, .int e) :: F, H, n⟩ := h _ rfl
end
theorem emod_bd {z x p : Int} (hz : z = x % p) (hp : 0 < p) : 0 ≤ z ∧ z < p := by
  subst hz
  exact ⟨Int.emod_nonneg x (by omega), Int.emod_lt_of_pos x hp⟩
/-- the numbers of a product stay small -/
theorem mul_bd {a b A B : Int} (h0 : 0 ≤ a) (h1 : a ≤ A) (h2 : 0 ≤ b) (h3 : b ≤ B) : 0 ≤ a * b ∧ a * b ≤ A * B :=
  ⟨Int.mul_nonneg h0 h2, Int.mul_le_mul h1 h3 h2 (Int.le_trans h0 h1)⟩
theorem mul_rng {a b p : Int} (h0 : 0 ≤ a) (h1 : a < p) (h2 : 0 ≤ b) (h3 : b < p) (hp : p ≤ 1000000) : -9223372036854775808 ≤ a * b ∧ a * b ≤ 9223372036854775807 := by
  have := mul_bd h0 (show a ≤ 1000000 by omega) h2 (show b ≤ 1000000 by omega)
  omega
end Go.Proofs.YtendffbpmpobnaaDoor
