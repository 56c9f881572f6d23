/- The engine, part G: the rules over states written out. -/
import Derived.Test.YtendffbpmpobnaaDoorEngF
namespace Go.Proofs.YtendffbpmpobnaaDoor
section
variable {c : Cx} {Q : Post} {F : Fr} {H : Hp} {n : Nat} {ops : Array Oper} {rest : List Oper} {d : Nat} {dst : Option Nat} {op : Op} {ty : TypeId} {pos : String} {af : Array Edge} {v u : V} {K : S → Prop} {k0 : Blk}
theorem oQ (hq : QOp c ⟨some d, op, ty, pos, af, none⟩ ⟨F, H, n⟩ v) (hN : Nat.blt d c.N = true) (hsc : sc n v.ids = true) (h : OW c ops Q rest ⟨(d, v) :: F, H, n⟩) : OW c ops Q (⟨some d, op, ty, pos, af, none⟩ :: rest) ⟨F, H, n⟩ :=
  OW_q hq rfl hN hsc h
theorem qQ (hq : QOp c ⟨some d, op, ty, pos, af, none⟩ ⟨F, H, n⟩ v) (hN : Nat.blt d c.N = true) (hsc : sc n v.ids = true) (h : QW c ops K rest ⟨(d, v) :: F, H, n⟩) : QW c ops K (⟨some d, op, ty, pos, af, none⟩ :: rest) ⟨F, H, n⟩ :=
  QW_q hq rfl hN hsc h
theorem ogT {j e : Nat} {want : Bool} (hd : (ops[j]?).bind (·.dst) = some e) (hb : lkV F e = some v) (hv : v = .bool want) (h : OW c ops Q (⟨dst, op, ty, pos, af, none⟩ :: rest) ⟨F, H, n⟩) : OW c ops Q (⟨dst, op, ty, pos, af, some (j, want)⟩ :: rest) ⟨F, H, n⟩ := OW_gT hd hb hv h
theorem qgT {j e : Nat} {want : Bool} (hd : (ops[j]?).bind (·.dst) = some e) (hb : lkV F e = some v) (hv : v = .bool want) (h : QW c ops K (⟨dst, op, ty, pos, af, none⟩ :: rest) ⟨F, H, n⟩) : QW c ops K (⟨dst, op, ty, pos, af, some (j, want)⟩ :: rest) ⟨F, H, n⟩ := QW_gT hd hb hv h
theorem og1 {j e : Nat} (hd : (ops[j]?).bind (·.dst) = some e) (hb : lkV F e = some v) (hv : v = .bool false) (hN : Nat.blt d c.N = true) (h : OW c ops Q rest ⟨(d, .bot) :: F, H, n⟩) : OW c ops Q (⟨some d, op, ty, pos, af, some (j, true)⟩ :: rest) ⟨F, H, n⟩ := OW_gS1 hd hb hv hN h
theorem og0 {j e : Nat} (hd : (ops[j]?).bind (·.dst) = some e) (hb : lkV F e = some v) (hv : v = .bool true) (hN : Nat.blt d c.N = true) (h : OW c ops Q rest ⟨(d, .bot) :: F, H, n⟩) : OW c ops Q (⟨some d, op, ty, pos, af, some (j, false)⟩ :: rest) ⟨F, H, n⟩ := OW_gS0 hd hb hv hN h
theorem qg1 {j e : Nat} (hd : (ops[j]?).bind (·.dst) = some e) (hb : lkV F e = some v) (hv : v = .bool false) (hN : Nat.blt d c.N = true) (h : QW c ops K rest ⟨(d, .bot) :: F, H, n⟩) : QW c ops K (⟨some d, op, ty, pos, af, some (j, true)⟩ :: rest) ⟨F, H, n⟩ := QW_gS1 hd hb hv hN h
theorem qg0 {j e : Nat} (hd : (ops[j]?).bind (·.dst) = some e) (hb : lkV F e = some v) (hv : v = .bool true) (hN : Nat.blt d c.N = true) (h : QW c ops K rest ⟨(d, .bot) :: F, H, n⟩) : QW c ops K (⟨some d, op, ty, pos, af, some (j, false)⟩ :: rest) ⟨F, H, n⟩ := QW_gS0 hd hb hv hN h
/-- a guard that is not decided parts the way -/
theorem ogP1 {j e : Nat} {b : Bool} (hd : (ops[j]?).bind (·.dst) = some e) (hb : lkV F e = some (.bool b)) (hN : Nat.blt d c.N = true)
    (h1 : b = true → OW c ops Q (⟨some d, op, ty, pos, af, none⟩ :: rest) ⟨(e, .bool true) :: F, H, n⟩) (h0 : b = false → OW c ops Q rest ⟨(d, .bot) :: (e, .bool false) :: F, H, n⟩) : OW c ops Q (⟨some d, op, ty, pos, af, some (j, true)⟩ :: rest) ⟨F, H, n⟩ := OW_guard hd hb hN h1 h0
theorem ogP0 {j e : Nat} {b : Bool} (hd : (ops[j]?).bind (·.dst) = some e) (hb : lkV F e = some (.bool b)) (hN : Nat.blt d c.N = true)
    (h1 : b = false → OW c ops Q (⟨some d, op, ty, pos, af, none⟩ :: rest) ⟨(e, .bool false) :: F, H, n⟩) (h0 : b = true → OW c ops Q rest ⟨(d, .bot) :: (e, .bool true) :: F, H, n⟩) : OW c ops Q (⟨some d, op, ty, pos, af, some (j, false)⟩ :: rest) ⟨F, H, n⟩ := OW_guard hd hb hN h1 h0
theorem qgP1 {j e : Nat} {b : Bool} (hd : (ops[j]?).bind (·.dst) = some e) (hb : lkV F e = some (.bool b)) (hN : Nat.blt d c.N = true)
    (h1 : b = true → QW c ops K (⟨some d, op, ty, pos, af, none⟩ :: rest) ⟨(e, .bool true) :: F, H, n⟩) (h0 : b = false → QW c ops K rest ⟨(d, .bot) :: (e, .bool false) :: F, H, n⟩) : QW c ops K (⟨some d, op, ty, pos, af, some (j, true)⟩ :: rest) ⟨F, H, n⟩ := QW_guard hd hb hN h1 h0
theorem qgP0 {j e : Nat} {b : Bool} (hd : (ops[j]?).bind (·.dst) = some e) (hb : lkV F e = some (.bool b)) (hN : Nat.blt d c.N = true)
    (h1 : b = false → QW c ops K (⟨some d, op, ty, pos, af, none⟩ :: rest) ⟨(e, .bool false) :: F, H, n⟩) (h0 : b = true → QW c ops K rest ⟨(d, .bot) :: (e, .bool true) :: F, H, n⟩) : QW c ops K (⟨some d, op, ty, pos, af, some (j, false)⟩ :: rest) ⟨F, H, n⟩ := QW_guard hd hb hN h1 h0
theorem oBox {t : TypeId} {x : Operand} (hx : ev c F x = some v) (ho : one v = true) (hk : mkBlk t v = k0) (hN : Nat.blt d c.N = true) (hn : Nat.blt n 1000 = true) (hsc : sc n k0.ids = true) (h : OW c ops Q rest ⟨(d, .ptr n 0) :: F, (n, k0) :: H, n + 1⟩) :
    OW c ops Q (⟨some d, .box t x, ty, pos, af, none⟩ :: rest) ⟨F, H, n⟩ := by
  subst hk
  exact OW_box hx ho hN hn hsc (by simp [sc, Nat.blt_eq]) h
theorem oAlloc {t : TypeId} {i : TI} (ht : lkT c.T t = some i) (hz : i.z = some v) (ho : one v = true) (hk : mkBlk t v = k0) (hN : Nat.blt d c.N = true) (hn : Nat.blt n 1000 = true) (hsc : sc n k0.ids = true) (h : OW c ops Q rest ⟨(d, .ptr n 0) :: F, (n, k0) :: H, n + 1⟩) :
    OW c ops Q (⟨some d, .alloc t, ty, pos, af, none⟩ :: rest) ⟨F, H, n⟩ := by
  subst hk
  exact OW_alloc ht hz ho hN hn hsc (by simp [sc, Nat.blt_eq]) h
theorem oBsl {t : TypeId} {ps : List (Nat × Operand)} {vs : List (Nat × V)} {zl r : List Int} {i ie : TI} {e len sz : Nat} (ht : lkT c.T t = some i) (hd : i.d = .slice e) (he : lkT c.T e = some ie) (hs : ie.size = sz)
    (hz : ie.z = some (.int 0) ∧ sz = 1 ∨ ie.z = some (.arr zl) ∧ zl = List.replicate sz 0 ∧ 0 < sz) (hp : evp c F ps = some vs) (hr : fillI sz (List.replicate (len * sz) 0) vs = some r) (hok : okParts sz (len * sz) vs = true) (hlim : Nat.ble (len * sz) 16777216 = true)
    (hN : Nat.blt d c.N = true) (hn : Nat.blt n 1000 = true) (h : OW c ops Q rest ⟨(d, .slice n 0 len len) :: F, (n, .ints e r) :: H, n + 1⟩) : OW c ops Q (⟨some d, .buildSlice t len ps.toArray, ty, pos, af, none⟩ :: rest) ⟨F, H, n⟩ :=
  OW_bsl ht hd he hs hz hp hr hok (Nat.le_of_ble_eq_true hlim) hN hn (by simp [sc, Nat.blt_eq]) h
theorem oSt {t t' : TypeId} {x y : Operand} {i : TI} {b o : Nat} {m : Int} {l : List Int} (ht : lkT c.T t = some i) (hsz : i.size = 1) (hx : ev c F x = some (.ptr b o)) (hy : ev c F y = some (.int m)) (hb : lkB H b = some (.ints t' l)) (ho : o < l.length)
    (h : OW c ops Q rest ⟨F, (b, .ints t' (l.set o m)) :: H, n⟩) : OW c ops Q (⟨none, .store t x y, ty, pos, af, none⟩ :: rest) ⟨F, H, n⟩ := OW_st ht hsz hx hy hb ho rfl h
theorem oSta {t t' : TypeId} {x y : Operand} {i : TI} {b o : Nat} {m l : List Int} (ht : lkT c.T t = some i) (hx : ev c F x = some (.ptr b o)) (hy : ev c F y = some (.arr m)) (hb : lkB H b = some (.ints t' l)) (hsz : m.length = i.size) (ho : o + i.size ≤ l.length)
    (h : OW c ops Q rest ⟨F, (b, .ints t' (putI l o m)) :: H, n⟩) : OW c ops Q (⟨none, .store t x y, ty, pos, af, none⟩ :: rest) ⟨F, H, n⟩ := OW_sta ht hx hy hb hsz ho rfl h
theorem oStw {t t' : TypeId} {x y : Operand} {i : TI} {b : Nat} {m l : List Int} (ht : lkT c.T t = some i) (hx : ev c F x = some (.ptr b 0)) (hy : ev c F y = some (.arr m)) (hb : lkB H b = some (.ints t' l)) (hsz : m.length = i.size) (ho : l.length = i.size)
    (h : OW c ops Q rest ⟨F, (b, .ints t' m) :: H, n⟩) : OW c ops Q (⟨none, .store t x y, ty, pos, af, none⟩ :: rest) ⟨F, H, n⟩ := OW_stw ht hx hy hb hsz ho rfl h
theorem oStv {t t' : TypeId} {x y : Operand} {i : TI} {b o : Nat} {l l' : List V} (ht : lkT c.T t = some i) (hsz : i.size = 1) (hx : ev c F x = some (.ptr b o)) (hy : ev c F y = some v) (hb : lkB H b = some (.vals t' l)) (h1 : one v = true) (h2 : noAgg v = true) (ho : o < l.length)
    (hl : l.set o v = l') (hsc : sc n (idss l') = true) (h : OW c ops Q rest ⟨F, (b, .vals t' l') :: H, n⟩) : OW c ops Q (⟨none, .store t x y, ty, pos, af, none⟩ :: rest) ⟨F, H, n⟩ := by
  subst hl
  exact OW_stv ht hsz hx hy hb h1 h2 ho rfl hsc h
theorem oMk {t : TypeId} {x y : Operand} {i ie : TI} {e sz by_ m k : Nat} (ht : lkT c.T t = some i) (hd : i.d = .slice e) (he : lkT c.T e = some ie) (hz : ZI ie sz) (hby : ie.bytes = by_) (hx : ev c F x = some (.int m)) (hy : ev c F y = some (.int k)) (hmk : m ≤ k) (hlim : k * by_ ≤ 281474976710656) (hk : k ≤ 1000000000000)
    (hN : Nat.blt d c.N = true) (hn : Nat.blt n 1000 = true) (h : OW c ops Q rest ⟨(d, .slice n 0 m k) :: F, (n, .ints e (List.replicate (k * sz) 0)) :: H, n + 1⟩) : OW c ops Q (⟨some d, .makeSlice t x y, ty, pos, af, none⟩ :: rest) ⟨F, H, n⟩ :=
  OW_mk ht hd he hz hby hx hy hmk hlim hk hN hn (by simp [sc, Nat.blt_eq]) h
theorem oAppFit {t t2 : TypeId} {ats : Array TypeId} {x y : Operand} {i i2 ie : TI} {e e2 sz b o m k q t' : Nat} {xs l : List Int}
    (hat : ats = #[t, t2]) (ht : lkT c.T t = some i) (hd : i.d = .slice e) (ht2 : lkT c.T t2 = some i2) (hd2 : i2.d = .slice e2) (he : lkT c.T e = some ie) (hsz : ie.size = sz)
    (hx : ev c F x = some (.slice b o m k)) (hy : ev c F y = some v) (hb : lkB H b = some (.ints t' l)) (hv : IsSl H sz v q xs) (hfit : m + q ≤ k) (hroom : o + (m + q) * sz ≤ l.length) (hN : Nat.blt d c.N = true) (hsc : sc n [b] = true)
    (h : OW c ops Q rest ⟨(d, .slice b o (m + q) k) :: F, (b, .ints t' (putI l (o + m * sz) xs)) :: H, n⟩) : OW c ops Q (⟨some d, .call ⟨.builtin .append, #[x, y], ats⟩, ty, pos, af, none⟩ :: rest) ⟨F, H, n⟩ :=
  OW_app_fit hat ht hd ht2 hd2 he hsz hx hy hb hv hfit hroom hN hsc h
theorem oAppOwn {t t2 : TypeId} {ats : Array TypeId} {x y : Operand} {i i2 ie : TI} {e e2 sz b m k q by_ : Nat} {xs l : List Int}
    (hat : ats = #[t, t2]) (ht : lkT c.T t = some i) (hd : i.d = .slice e) (ht2 : lkT c.T t2 = some i2) (hd2 : i2.d = .slice e2) (he : lkT c.T e = some ie) (hz : ZI ie sz) (hby : ie.bytes = by_) (hb0 : Nat.blt 0 by_ = true)
    (hx : ev c F x = some (.slice b 0 m k)) (hy : ev c F y = some v) (hb : lkB H b = some (.ints e l)) (hv : IsSl H sz v q xs) (hroom : k * sz ≤ l.length) (hnk : m ≤ k) (hlim : (2 * (m + q) + 192) * by_ ≤ 281474976710656) (h63 : m + q ≤ 1000000000000)
    (hN : Nat.blt d c.N = true) (hn : Nat.blt n 1000 = true)
    (h : ∀ (k' : Nat) (spare : List Int), m + q ≤ k' → k' * sz ≤ (m + q) * sz + spare.length → OW c ops Q rest ⟨(d, .slice n 0 (m + q) k') :: F, (n, .ints e (l.take (m * sz) ++ xs ++ spare)) :: (b, .dead) :: H, n + 1⟩) :
    OW c ops Q (⟨some d, .call ⟨.builtin .append, #[x, y], ats⟩, ty, pos, af, none⟩ :: rest) ⟨F, H, n⟩ :=
  OW_app_own hat ht hd ht2 hd2 he hz hby (by simpa [Nat.blt_eq] using hb0) hx hy hb hv hroom hnk hlim h63 hN hn (by simp [sc, Nat.blt_eq]) h
theorem oAppNew {t t2 : TypeId} {ats : Array TypeId} {x y : Operand} {i i2 ie : TI} {e e2 sz m k q by_ : Nat} {ys xs : List Int}
    (hat : ats = #[t, t2]) (ht : lkT c.T t = some i) (hd : i.d = .slice e) (ht2 : lkT c.T t2 = some i2) (hd2 : i2.d = .slice e2) (he : lkT c.T e = some ie) (hz : ZI ie sz) (hby : ie.bytes = by_) (hb0 : Nat.blt 0 by_ = true)
    (hx : ev c F x = some u) (hy : ev c F y = some v) (hu : IsSl H sz u m ys) (huv : (∃ b o, u = .slice b o m k) ∨ u = .nilsl ∧ k = 0) (hv : IsSl H sz v q xs) (hfit : ¬ m + q ≤ k) (hlim : (2 * (m + q) + 192) * by_ ≤ 281474976710656) (h63 : m + q ≤ 1000000000000)
    (hN : Nat.blt d c.N = true) (hn : Nat.blt n 1000 = true)
    (h : ∀ (k' : Nat) (spare : List Int), m + q ≤ k' → k' * sz ≤ (m + q) * sz + spare.length → OW c ops Q rest ⟨(d, .slice n 0 (m + q) k') :: F, (n, .ints e (ys ++ xs ++ spare)) :: H, n + 1⟩) :
    OW c ops Q (⟨some d, .call ⟨.builtin .append, #[x, y], ats⟩, ty, pos, af, none⟩ :: rest) ⟨F, H, n⟩ :=
  OW_app_new hat ht hd ht2 hd2 he hz hby (by simpa [Nat.blt_eq] using hb0) hx hy hu huv hv hfit hlim h63 hN hn (by simp [sc, Nat.blt_eq]) h
theorem oClear {t : TypeId} {ats : Array TypeId} {x : Operand} {i ie : TI} {e sz b o m k t' : Nat} {l : List Int} (hat : ats = #[t]) (ht : lkT c.T t = some i) (hd : i.d = .slice e) (he : lkT c.T e = some ie) (hz : ZI ie sz) (hx : ev c F x = some (.slice b o m k)) (hb : lkB H b = some (.ints t' l)) (hroom : o + m * sz ≤ l.length)
    (h : OW c ops Q rest ⟨F, (b, .ints t' (putI l o (List.replicate (m * sz) 0))) :: H, n⟩) : OW c ops Q (⟨none, .call ⟨.builtin .clear, #[x], ats⟩, ty, pos, af, none⟩ :: rest) ⟨F, H, n⟩ := OW_clear hat ht hd he hz hx hb hroom rfl h
theorem oCopy {t t2 : TypeId} {ats : Array TypeId} {x y : Operand} {i ie : TI} {e sz b o m k q t' : Nat} {xs l : List Int} (hat : ats = #[t, t2]) (ht : lkT c.T t = some i) (hd : i.d = .slice e) (he : lkT c.T e = some ie) (hsz : ie.size = sz) (hx : ev c F x = some (.slice b o m k)) (hy : ev c F y = some v) (hb : lkB H b = some (.ints t' l)) (hv : IsSl H sz v q xs) (hroom : o + m * sz ≤ l.length)
    (hN : okDst c.N dst = true) (h : OW c ops Q rest (S.put ⟨F, (b, .ints t' (putI l o (xs.take (min q m * sz)))) :: H, n⟩ dst (.int (min q m : Nat)))) : OW c ops Q (⟨dst, .call ⟨.builtin .copy, #[x, y], ats⟩, ty, pos, af, none⟩ :: rest) ⟨F, H, n⟩ := OW_copy hat ht hd he hsz hx hy hb hv hroom hN h
end
/-! ### variants that leave the terms short -/
def asN : V → Option Nat
  | .int (.ofNat n) => some n
  | _ => none
theorem asN_some {x : Option V} {j : Nat} (h : x.bind asN = some j) : x = some (.int j) := by
  cases x with
  | none => simp at h
  | some v =>
    simp only [Option.bind_some] at h
    unfold asN at h
    split at h
    · injection h with h; subst h; rfl
    · cases h
section
variable {c : Cx} {s : S} {dst : Option Tmp} {ty : TypeId} {pos : String} {af : Array Edge} {g : Option (Nat × Bool)} {x y : Operand} {t : TypeId} {i ie : TI} {e b o n k j : Nat}
theorem Q_ixs1 (ht : lkT c.T t = some i) (hd : i.d = .slice e) (he : lkT c.T e = some ie) (hs : ie.size = 1) (hx : ev c s.F x = some (.slice b o n k)) (hy : (ev c s.F y).bind asN = some j) (h : j < n) : QOp c ⟨dst, .indexAddr t x y, ty, pos, af, g⟩ s (.ptr b (o + j)) := by
  have := Q_ixs (c := c) (s := s) (dst := dst) (ty := ty) (pos := pos) (af := af) (g := g) ht hd he hx (asN_some hy) ⟨by omega, by omega⟩
  rwa [hs, Nat.mul_one, Int.toNat_natCast] at this
theorem Q_ixs0 (ht : lkT c.T t = some i) (hd : i.d = .slice e) (he : lkT c.T e = some ie) (hs : ie.size = 1) (hx : ev c s.F x = some (.slice b 0 n k)) (hy : (ev c s.F y).bind asN = some j) (h : j < n) : QOp c ⟨dst, .indexAddr t x y, ty, pos, af, g⟩ s (.ptr b j) := by
  have := Q_ixs1 (c := c) (s := s) (dst := dst) (ty := ty) (pos := pos) (af := af) (g := g) ht hd he hs hx hy h
  rwa [Nat.zero_add] at this
theorem Q_ixsz (sz : Nat) (ht : lkT c.T t = some i) (hd : i.d = .slice e) (he : lkT c.T e = some ie) (hs : ie.size = sz) (hx : ev c s.F x = some (.slice b o n k)) (hy : (ev c s.F y).bind asN = some j) (h : j < n) : QOp c ⟨dst, .indexAddr t x y, ty, pos, af, g⟩ s (.ptr b (o + j * sz)) := by
  have := Q_ixs (c := c) (s := s) (dst := dst) (ty := ty) (pos := pos) (af := af) (g := g) ht hd he hx (asN_some hy) ⟨by omega, by omega⟩
  rwa [hs, Int.toNat_natCast] at this
theorem Q_ixs0z (sz : Nat) (ht : lkT c.T t = some i) (hd : i.d = .slice e) (he : lkT c.T e = some ie) (hs : ie.size = sz) (hx : ev c s.F x = some (.slice b 0 n k)) (hy : (ev c s.F y).bind asN = some j) (h : j < n) : QOp c ⟨dst, .indexAddr t x y, ty, pos, af, g⟩ s (.ptr b (j * sz)) := by
  have := Q_ixsz (c := c) (s := s) (dst := dst) (ty := ty) (pos := pos) (af := af) (g := g) sz ht hd he hs hx hy h
  rwa [Nat.zero_add] at this
theorem Q_ixa1 (ht : lkT c.T t = some i) (hd : i.d = .array n e) (he : lkT c.T e = some ie) (hs : ie.size = 1) (hx : ev c s.F x = some (.ptr b o)) (hy : (ev c s.F y).bind asN = some j) (h : j < n) : QOp c ⟨dst, .indexAddr t x y, ty, pos, af, g⟩ s (.ptr b (o + j)) := by
  have := Q_ixa (c := c) (s := s) (dst := dst) (ty := ty) (pos := pos) (af := af) (g := g) ht hd he hx (asN_some hy) ⟨by omega, by omega⟩
  rwa [hs, Nat.mul_one, Int.toNat_natCast] at this
theorem Q_ixa0 (ht : lkT c.T t = some i) (hd : i.d = .array n e) (he : lkT c.T e = some ie) (hs : ie.size = 1) (hx : ev c s.F x = some (.ptr b 0)) (hy : (ev c s.F y).bind asN = some j) (h : j < n) : QOp c ⟨dst, .indexAddr t x y, ty, pos, af, g⟩ s (.ptr b j) := by
  have := Q_ixa1 (c := c) (s := s) (dst := dst) (ty := ty) (pos := pos) (af := af) (g := g) ht hd he hs hx hy h
  rwa [Nat.zero_add] at this
theorem Q_ixaz (sz : Nat) (ht : lkT c.T t = some i) (hd : i.d = .array n e) (he : lkT c.T e = some ie) (hs : ie.size = sz) (hx : ev c s.F x = some (.ptr b o)) (hy : (ev c s.F y).bind asN = some j) (h : j < n) : QOp c ⟨dst, .indexAddr t x y, ty, pos, af, g⟩ s (.ptr b (o + j * sz)) := by
  have := Q_ixa (c := c) (s := s) (dst := dst) (ty := ty) (pos := pos) (af := af) (g := g) ht hd he hx (asN_some hy) ⟨by omega, by omega⟩
  rwa [hs, Int.toNat_natCast] at this
theorem Q_ixa0z (sz : Nat) (ht : lkT c.T t = some i) (hd : i.d = .array n e) (he : lkT c.T e = some ie) (hs : ie.size = sz) (hx : ev c s.F x = some (.ptr b 0)) (hy : (ev c s.F y).bind asN = some j) (h : j < n) : QOp c ⟨dst, .indexAddr t x y, ty, pos, af, g⟩ s (.ptr b (j * sz)) := by
  have := Q_ixaz (c := c) (s := s) (dst := dst) (ty := ty) (pos := pos) (af := af) (g := g) sz ht hd he hs hx hy h
  rwa [Nat.zero_add] at this
/-- an element of an array value -/
theorem Q_index1 {l : List Int} (ht : lkT c.T t = some i) (hd : i.d = .array n e) (he : lkT c.T e = some ie) (hed : ie.d = .int .i64) (hes : ie.size = 1) (hx : ev c s.F x = some (.arr l)) (hy : (ev c s.F y).bind asN = some j) (h : j < n) (hl : j < l.length) :
    QOp c ⟨dst, .index t x y, ty, pos, af, g⟩ s (.int (l.getD j 0)) := by
  have := Q_index (c := c) (s := s) (dst := dst) (ty := ty) (pos := pos) (af := af) (g := g) ht hd he hed hes hx (asN_some hy) ⟨by omega, by omega⟩ (by omega)
  rwa [Int.toNat_natCast] at this
theorem Q_indexz (sz : Nat) {l : List Int} (ht : lkT c.T t = some i) (hd : i.d = .array n e) (he : lkT c.T e = some ie) (hed : aggD ie.d = true) (hes : ie.size = sz) (hx : ev c s.F x = some (.arr l)) (hy : (ev c s.F y).bind asN = some j) (h : j < n) :
    QOp c ⟨dst, .index t x y, ty, pos, af, g⟩ s (.arr ((l.drop (j * sz)).take sz)) := by
  have := Q_indexa (c := c) (s := s) (dst := dst) (ty := ty) (pos := pos) (af := af) (g := g) ht hd he hed hes hx (asN_some hy) ⟨by omega, by omega⟩
  rwa [Int.toNat_natCast] at this
/-- a whole array cut -/
theorem Q_slaF (ht : lkT c.T t = some i) (hd : i.d = .array n e) (he : lkT c.T e = some ie) (hx : ev c s.F x = some (.ptr b o)) : QOp c ⟨dst, .slice t x none none none, ty, pos, af, g⟩ s (.slice b o n n) := by
  have := Q_sla (c := c) (s := s) (dst := dst) (ty := ty) (pos := pos) (af := af) (g := g) (lo := none) (hi := none) (mx := none) ht hd he hx rfl rfl rfl (by simp) ⟨Nat.zero_le _, Nat.le_refl _, Nat.le_refl _⟩
  simpa using this
/-- s[:h] -/
theorem Q_slsH {h : Nat} (ht : lkT c.T t = some i) (hd : i.d = .slice e) (he : lkT c.T e = some ie) (hx : ev c s.F x = some (.slice b o n k)) (hy : (ev c s.F y).bind asN = some h) (hb : h ≤ k) : QOp c ⟨dst, .slice t x none (some y) none, ty, pos, af, g⟩ s (.slice b o h k) := by
  have e2 := asN_some hy
  have := Q_sls (c := c) (s := s) (dst := dst) (ty := ty) (pos := pos) (af := af) (g := g) (lo := none) (hi := some y) (mx := none) (l := 0) (h := h) (m := k) ht hd he hx rfl (by simp only [bnd, e2]) rfl (by simp) ⟨Nat.zero_le _, hb, Nat.le_refl _⟩
  simpa using this
/-- s[l:] -/
theorem Q_slsL {l : Nat} (sz : Nat) (ht : lkT c.T t = some i) (hd : i.d = .slice e) (he : lkT c.T e = some ie) (hs : ie.size = sz) (hx : ev c s.F x = some (.slice b o n k)) (hy : (ev c s.F y).bind asN = some l) (hb : l ≤ n) (hnk : n ≤ k) :
    QOp c ⟨dst, .slice t x (some y) none none, ty, pos, af, g⟩ s (.slice b (if k = l then o else o + l * sz) (n - l) (k - l)) := by
  have e2 := asN_some hy
  have := Q_sls (c := c) (s := s) (dst := dst) (ty := ty) (pos := pos) (af := af) (g := g) (lo := some y) (hi := none) (mx := none) (l := l) (h := n) (m := k) ht hd he hx (by simp only [bnd, e2]) rfl rfl (by simp) ⟨hb, hnk, Nat.le_refl _⟩
  rwa [hs] at this
end
theorem vFn {τ : Nat → Nat} {F : Fr} : vF τ F [] := trivial
theorem vFc {τ : Nat → Nat} {F r : Fr} {t : Nat} {v : V} (h : lkV F t = some (ren τ v)) (hr : vF τ F r) : vF τ F ((t, v) :: r) := ⟨h, hr⟩
theorem vFs {τ : Nat → Nat} {F r : Fr} {t b b' n n' k : Nat} (h : lkV F t = some (.slice b' 0 n' k)) (hb : τ b = b') (hn : n' = n) (hr : vF τ F r) : vF τ F ((t, .slice b 0 n k) :: r) := by
  subst hb hn
  exact ⟨h, hr⟩
theorem vHn {τ : Nat → Nat} {H : Hp} : vH τ H [] := trivial
theorem vHc {τ : Nat → Nat} {H r : Hp} {b : Nat} {k : Blk} (h : lkB H (τ b) = some (k.ren τ)) (hr : vH τ H r) : vH τ H ((b, k) :: r) := ⟨h, hr⟩
/-- a function, its first frame written out -/
theorem conW {P : Program} {T : TT} (tok : TOK P T) {gl : List (Nat × Nat)} {f N : Nat} {fn : Func} {x : Code} {args : List V} {H : Hp} {R : V → Hp → Prop} {rs : List ResultVar} (F : Fr) (n : Nat) (D W : List Nat) (hf : P.funcs[f]? = some fn) (hb : fn.body = some x)
    (hname : (fn.name == "runtime.NumGoroutine") = false) (hN : fn.ntmps = N) (hrs : fn.results = rs.toArray) (hargs : Nat.ble args.length N = true) (hF : entF 0 args = F) (hD : ids H = D) (hW : wids H = W) (hwf : wfB D ⟨F, H, n⟩ = true)
    (h : CW ⟨P, T, tok, gl, N, D, W⟩ x (exitP ⟨P, T, tok, gl, N, D, W⟩ rs R) ⟨F, H, n⟩) : Con P gl f args H R := by
  subst hF hD hW
  exact con_of_cw tok hf hb hname hN hrs hargs hwf h
/-! ### short words for the walks -/
section
variable {c : Cx} {Q : Post} {F : Fr} {H : Hp} {n : Nat} {ops : Array Oper} {rest : List Oper} {d : Nat} {dst : Option Nat} {op : Op} {ty : TypeId} {pos : String} {af : Array Edge} {v : V} {K : S → Prop} {s : S}
theorem oM {x : Operand} (hx : ev c F x = some v) (h0 : (nb v && (Nat.blt d c.N && sc n v.ids)) = true) (h : OW c ops Q rest ⟨(d, v) :: F, H, n⟩) : OW c ops Q (⟨some d, .move x, ty, pos, af, none⟩ :: rest) ⟨F, H, n⟩ := by
  simp only [Bool.and_eq_true] at h0
  exact oQ (Q_move hx h0.1) h0.2.1 h0.2.2 h
theorem oA {x : Operand} (hx : ev c F x = some v) (h0 : (nb v && (Nat.blt d c.N && sc n v.ids)) = true) (h : OW c ops Q rest ⟨(d, v) :: F, H, n⟩) : OW c ops Q (⟨some d, .assign x, ty, pos, af, none⟩ :: rest) ⟨F, H, n⟩ := by
  simp only [Bool.and_eq_true] at h0
  exact oQ (Q_assign hx h0.1) h0.2.1 h0.2.2 h
theorem qM {x : Operand} (hx : ev c F x = some v) (h0 : (nb v && (Nat.blt d c.N && sc n v.ids)) = true) (h : QW c ops K rest ⟨(d, v) :: F, H, n⟩) : QW c ops K (⟨some d, .move x, ty, pos, af, none⟩ :: rest) ⟨F, H, n⟩ := by
  simp only [Bool.and_eq_true] at h0
  exact qQ (Q_move hx h0.1) h0.2.1 h0.2.2 h
theorem qA {x : Operand} (hx : ev c F x = some v) (h0 : (nb v && (Nat.blt d c.N && sc n v.ids)) = true) (h : QW c ops K rest ⟨(d, v) :: F, H, n⟩) : QW c ops K (⟨some d, .assign x, ty, pos, af, none⟩ :: rest) ⟨F, H, n⟩ := by
  simp only [Bool.and_eq_true] at h0
  exact qQ (Q_assign hx h0.1) h0.2.1 h0.2.2 h
theorem oN (h : K s) : OW c ops (thenP K Q) [] s := OW_nil h
theorem cR {id : Nat} {l : List Oper} {y : Code} (h : OW c l.toArray (thenP (CW c y Q) Q) l s) : CW c (.seq (.region id l.toArray false) y) Q s := CW_seq (CW_region h)
theorem cT {x : Operand} {p q : Code} {v : V} (hx : ev c s.F x = some v) (h1 : CW c p Q s) (hv : v = .bool true := by with_reducible rfl) : CW c (.cond x p q) Q s := CW_cond_t hx hv h1
theorem cF {x : Operand} {p q : Code} {v : V} (hx : ev c s.F x = some v) (h1 : CW c q Q s) (hv : v = .bool false := by with_reducible rfl) : CW c (.cond x p q) Q s := CW_cond_f hx hv h1
theorem oT {j e : Nat} {want : Bool} (hd : (ops[j]?).bind (·.dst) = some e) (hb : lkV F e = some v) (h : OW c ops Q (⟨dst, op, ty, pos, af, none⟩ :: rest) ⟨F, H, n⟩) (hv : v = .bool want := by with_reducible rfl) : OW c ops Q (⟨dst, op, ty, pos, af, some (j, want)⟩ :: rest) ⟨F, H, n⟩ := ogT hd hb hv h
theorem o1 {j e : Nat} (hd : (ops[j]?).bind (·.dst) = some e) (hb : lkV F e = some v) (hN : Nat.blt d c.N = true) (h : OW c ops Q rest ⟨(d, .bot) :: F, H, n⟩) (hv : v = .bool false := by with_reducible rfl) : OW c ops Q (⟨some d, op, ty, pos, af, some (j, true)⟩ :: rest) ⟨F, H, n⟩ := og1 hd hb hv hN h
theorem o0 {j e : Nat} (hd : (ops[j]?).bind (·.dst) = some e) (hb : lkV F e = some v) (hN : Nat.blt d c.N = true) (h : OW c ops Q rest ⟨(d, .bot) :: F, H, n⟩) (hv : v = .bool true := by with_reducible rfl) : OW c ops Q (⟨some d, op, ty, pos, af, some (j, false)⟩ :: rest) ⟨F, H, n⟩ := og0 hd hb hv hN h
theorem qT {j e : Nat} {want : Bool} (hd : (ops[j]?).bind (·.dst) = some e) (hb : lkV F e = some v) (h : QW c ops K (⟨dst, op, ty, pos, af, none⟩ :: rest) ⟨F, H, n⟩) (hv : v = .bool want := by with_reducible rfl) : QW c ops K (⟨dst, op, ty, pos, af, some (j, want)⟩ :: rest) ⟨F, H, n⟩ := qgT hd hb hv h
theorem q1 {j e : Nat} (hd : (ops[j]?).bind (·.dst) = some e) (hb : lkV F e = some v) (hN : Nat.blt d c.N = true) (h : QW c ops K rest ⟨(d, .bot) :: F, H, n⟩) (hv : v = .bool false := by with_reducible rfl) : QW c ops K (⟨some d, op, ty, pos, af, some (j, true)⟩ :: rest) ⟨F, H, n⟩ := qg1 hd hb hv hN h
theorem q0 {j e : Nat} (hd : (ops[j]?).bind (·.dst) = some e) (hb : lkV F e = some v) (hN : Nat.blt d c.N = true) (h : QW c ops K rest ⟨(d, .bot) :: F, H, n⟩) (hv : v = .bool true := by with_reducible rfl) : QW c ops K (⟨some d, op, ty, pos, af, some (j, false)⟩ :: rest) ⟨F, H, n⟩ := qg0 hd hb hv hN h
end
theorem s1 {p : Prop} [Decidable p] : (decide p = true) = p := decide_eq_true_eq
theorem s2 {p : Prop} {_ : Decidable p} : decide p = false ↔ ¬p := decide_eq_false_iff_not
theorem s3 {α : Type _} [BEq α] [LawfulBEq α] {a b : α} : (a == b) = true ↔ a = b := beq_iff_eq
theorem s4 {α : Type _} [BEq α] [LawfulBEq α] {a b : α} : (a == b) = false ↔ a ≠ b := beq_eq_false_iff_ne
theorem s5 {α : Type _} [BEq α] [LawfulBEq α] {a b : α} : (a != b) = true ↔ a ≠ b := bne_iff_ne
theorem s6 {α : Type _} [BEq α] [LawfulBEq α] {a b : α} : (a != b) = false ↔ a = b := bne_eq_false_iff_eq
theorem s7 (b : Bool) : ((!b) = true) = (b = false) := Bool.not_eq_true' b
theorem s8 (b : Bool) : ((!b) = false) = (b = true) := Bool.not_eq_false' b
theorem s9 {a b : Int} : ¬a < b ↔ b ≤ a := Int.not_lt
theorem s10 {a b : Int} : ¬a ≤ b ↔ b < a := Int.not_le
theorem s11 {α : Sort _} (a b : α) : (a ≠ b) = ¬a = b := rfl
theorem s12 : (¬False) = True := not_false_eq_true
section
variable {c : Cx} {s : S} {Q : Post} {F : Fr} {H : Hp} {ops : Array Oper} {rest : List Oper} {dst : Option Tmp} {ty : TypeId} {pos : String} {af : Array Edge} {g : Option (Nat × Bool)} {x y : Operand} {t t' : TypeId} {i ie : TI} {e b o n k j : Nat}
theorem Is0 (ht : lkT c.T t = some i) (hd : i.d = .slice e) (he : lkT c.T e = some ie) (hs : ie.size = 1) (hx : ev c s.F x = some (.slice b 0 n k)) (hy : (ev c s.F y).bind asN = some j) (h : j < n := by first | omega | (dsimp only; omega) | (simp; omega) | (simp; done)) : QOp c ⟨dst, .indexAddr t x y, ty, pos, af, g⟩ s (.ptr b j) := Q_ixs0 ht hd he hs hx hy h
theorem Is1 (ht : lkT c.T t = some i) (hd : i.d = .slice e) (he : lkT c.T e = some ie) (hs : ie.size = 1) (hx : ev c s.F x = some (.slice b o n k)) (hy : (ev c s.F y).bind asN = some j) (h : j < n := by first | omega | (dsimp only; omega) | (simp; omega) | (simp; done)) : QOp c ⟨dst, .indexAddr t x y, ty, pos, af, g⟩ s (.ptr b (o + j)) := Q_ixs1 ht hd he hs hx hy h
theorem Ia0 (ht : lkT c.T t = some i) (hd : i.d = .array n e) (he : lkT c.T e = some ie) (hs : ie.size = 1) (hx : ev c s.F x = some (.ptr b 0)) (hy : (ev c s.F y).bind asN = some j) (h : j < n := by first | omega | (dsimp only; omega) | (simp; omega) | (simp; done)) : QOp c ⟨dst, .indexAddr t x y, ty, pos, af, g⟩ s (.ptr b j) := Q_ixa0 ht hd he hs hx hy h
theorem Ia1 (ht : lkT c.T t = some i) (hd : i.d = .array n e) (he : lkT c.T e = some ie) (hs : ie.size = 1) (hx : ev c s.F x = some (.ptr b o)) (hy : (ev c s.F y).bind asN = some j) (h : j < n := by first | omega | (dsimp only; omega) | (simp; omega) | (simp; done)) : QOp c ⟨dst, .indexAddr t x y, ty, pos, af, g⟩ s (.ptr b (o + j)) := Q_ixa1 ht hd he hs hx hy h
theorem Lw {l : List Int} (ht : lkT c.T t = some i) (hd : aggD i.d = true) (hx : ev c s.F x = some (.ptr b 0)) (hb : lkB s.H b = some (.ints t' l)) (h : l.length = i.size := by first | omega | (dsimp only; omega) | (simp; omega) | (simp; done)) : QOp c ⟨dst, .load t x, ty, pos, af, g⟩ s (.arr l) := Q_ldw ht hd hx hb h
theorem La {l : List Int} (ht : lkT c.T t = some i) (hd : aggD i.d = true) (hs : i.size = n) (hx : ev c s.F x = some (.ptr b o)) (hb : lkB s.H b = some (.ints t' l)) (h : o + n ≤ l.length := by first | omega | (dsimp only; omega) | (simp; omega) | (simp; done)) : QOp c ⟨dst, .load t x, ty, pos, af, g⟩ s (.arr ((l.drop o).take n)) := Q_lda ht hd hs hx hb h
theorem Ld {l : List Int} (ht : lkT c.T t = some i) (hd : i.d = .int .i64) (hx : ev c s.F x = some (.ptr b o)) (hb : lkB s.H b = some (.ints t' l)) (h : o < l.length := by first | omega | (dsimp only; omega) | (simp; omega) | (simp; done)) : QOp c ⟨dst, .load t x, ty, pos, af, g⟩ s (.int (l.getD o 0)) := Q_ld ht hd hx hb h
theorem oS {m : Int} {l : List Int} (ht : lkT c.T t = some i) (hsz : i.size = 1) (hx : ev c F x = some (.ptr b o)) (hy : ev c F y = some (.int m)) (hb : lkB H b = some (.ints t' l))
    (h : OW c ops Q rest ⟨F, (b, .ints t' (l.set o m)) :: H, n⟩) (ho : o < l.length := by first | omega | (dsimp only; omega) | (simp; omega) | (simp; done)) : OW c ops Q (⟨none, .store t x y, ty, pos, af, none⟩ :: rest) ⟨F, H, n⟩ := oSt ht hsz hx hy hb ho h
theorem oSa {m l : List Int} (ht : lkT c.T t = some i) (hx : ev c F x = some (.ptr b o)) (hy : ev c F y = some (.arr m)) (hb : lkB H b = some (.ints t' l))
    (h : OW c ops Q rest ⟨F, (b, .ints t' (putI l o m)) :: H, n⟩) (hsz : m.length = i.size := by first | omega | (dsimp only; omega) | (simp; omega) | (simp; done)) (ho : o + i.size ≤ l.length := by first | omega | (dsimp only; omega) | (simp; omega) | (simp; done)) : OW c ops Q (⟨none, .store t x y, ty, pos, af, none⟩ :: rest) ⟨F, H, n⟩ := oSta ht hx hy hb hsz ho h
theorem oSw {m l : List Int} (ht : lkT c.T t = some i) (hx : ev c F x = some (.ptr b 0)) (hy : ev c F y = some (.arr m)) (hb : lkB H b = some (.ints t' l))
    (h : OW c ops Q rest ⟨F, (b, .ints t' m) :: H, n⟩) (hsz : m.length = i.size := by first | omega | (dsimp only; omega) | (simp; omega) | (simp; done)) (ho : l.length = i.size := by first | omega | (dsimp only; omega) | (simp; omega) | (simp; done)) : OW c ops Q (⟨none, .store t x y, ty, pos, af, none⟩ :: rest) ⟨F, H, n⟩ := oStw ht hx hy hb hsz ho h
end
end Go.Proofs.YtendffbpmpobnaaDoor
