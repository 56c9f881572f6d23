/- The engine, part L: rows of rows. -/
import Derived.Test.YtendffbpmpobnaaDoorEngJ
import Derived.LoopN
namespace Go.Proofs.YtendffbpmpobnaaDoor
set_option linter.unusedVariables false
section
variable {c : Cx} {s : S} {Q : Post}
def okPV (len : Nat) (ps : List (Nat × V)) : Bool := ps.all fun p => noAgg p.2 && Nat.blt p.1 len
/-- a slice of values of one cell, written out -/
theorem nr_bslv {dst : Option Tmp} {ty t : TypeId} {pos : String} {af : Array Edge} {ps : List (Nat × Operand)} {vs : List (Nat × V)} {z0 : V} {r : List V} {i ie : TI} {e len : Nat} (ht : lkT c.T t = some i) (hd : i.d = .slice e) (he : lkT c.T e = some ie) (hs : ie.size = 1) (hz : ie.z = some z0) (hz1 : (one z0 && noAgg z0) = true)
    (hp : evp c s.F ps = some vs) (hr : fillV (List.replicate len z0) vs = some r) (hok : okPV len vs = true) (hlim : len ≤ 16777216) : NewRun c s ⟨dst, .buildSlice t len ps.toArray, ty, pos, af, none⟩ (.vals e r) (.slice s.n 0 len len) := by
  intro ρ0 ρ a w0 w hg hfix hf hw hwf
  refine ⟨.cells (rvs ρ r).toArray e, w.alloc (.cells (rvs ρ r).toArray e), BR_vals_self, rfl, ⟨rfl, rfl, rfl, Nat.le_refl _⟩, ?_⟩
  have hu := (c.tok t i ht).1
  rw [hd] at hu
  obtain ⟨_, ⟨j, hj, _, _, hz'⟩, _⟩ := c.tok e ie he
  obtain ⟨hzz, hzi⟩ := hz' z0 hz
  have hzr : rv (fun b => b) z0 = rv ρ z0 := rv_congr z0 (fun b hb => by rw [hzi] at hb; simp at hb)
  rw [hzr] at hzz
  simp only [Bool.and_eq_true] at hz1
  have hcz : (rv ρ z0).cells = #[rv ρ z0] := cells_one' hz1.1 hz1.2
  have hlim' : ¬ 2 ^ 24 < len * 1 := by omega
  have hok' : ∀ p ∈ vs, noAgg p.2 = true ∧ p.1 < len := fun p hp => by
    have := List.all_eq_true.1 hok p hp
    simpa [Nat.blt_eq] using this
  have hfill := fill_vals (ρ := ρ) vs _ r hr (fun p hp => (hok' p hp).1) (fun p hp => by rw [List.length_replicate]; exact (hok' p hp).2)
  rw [← evp_rv hg hfix hf hp] at hfill
  have hcells : (Array.range (len * 1)).map (fun k => (#[rv ρ z0] : Array Value)[k % (#[rv ρ z0] : Array Value).size]!) = (rvs ρ (List.replicate len z0)).toArray := by
    apply Array.ext'
    simp [rvs_eq_map, List.map_const', Nat.mod_one]
  have hr1 : (Instr.buildSlice t len (ps.toArray.map fun p => (p.1, a.eval p.2))).run c.P w = .ok (.slice (some ⟨w.heap.size, 0, none⟩) len len) (w.alloc (.cells (rvs ρ r).toArray e)) := by
    unfold Instr.buildSlice
    simp only [Sem.run_bind, run_underlying hu, Result.andThen_ok, run_sizeOf' c.tok he, hs, if_neg hlim']
    by_cases hl : len * 1 = 0
    · have hl0 : len = 0 := by omega
      subst hl0
      simp only [Nat.zero_mul, if_true, Sem.run_bind, Sem.run_pure, Result.andThen_ok]
      simp only [List.replicate_zero, rvs, Nat.mul_one] at hfill
      have hz0 : ∀ f : Nat → Value, (Array.range (0 * 1)).map f = #[] := fun f => by simp
      simp only [Nat.zero_mul] at hz0
      simp [hz0, hfill, newRow]
    · simp only [if_neg hl, zeroValue, typeInfo, Sem.run_bind, run_program, Result.andThen_ok, hj, Sem.run_pure, hzz, hcz]
      rw [hcells]
      simp only [Nat.mul_one] at hfill
      simp [hfill, newRow]
  simp only [execOp, Sem.run_bind]
  rw [hr1]
  simp [rv, up]
end
/-- a loop of at most n rounds -/
def RW (c : Cx) (x : Code) (Q : Post) (n : Nat) (s : S) : Prop := ∀ ρ0 w0, GR c.gl c.D ρ0 → ∀ ρ a w, St c ρ0 w0 ρ s a w → Code.rounds c.P x (Lift c ρ0 w0 Q) n a w
theorem RW_succ {c : Cx} {x : Code} {Q : Post} {n : Nat} {s : S} (h : CW c x (thenP (RW c x Q n) Q) s) : RW c x Q (n + 1) s := by
  intro ρ0 w0 hg ρ a w hs
  refine Code.wp_mono ?_ (h ρ0 w0 hg ρ a w hs)
  rintro e a' w' ⟨s', ρ', hq, hs'⟩
  cases e <;> first | exact hq ρ0 w0 hg ρ' a' w' hs' | exact ⟨s', ρ', hq, hs'⟩
theorem CW_rounds {c : Cx} {x : Code} {Q : Post} {s : S} (n : Nat) (h : RW c x Q n s) : CW c (.loop x) Q s := fun ρ0 w0 hg ρ a w hs => wp_loop_rounds n (h ρ0 w0 hg ρ a w hs)
/-- a loop whose first round stands apart -/
theorem CW_loop1 {c : Cx} {Q : Post} {s : S} {ι : Type} (ok : ι → Prop) (I : ι → S) (μ : ι → Nat) (M : Nat) (s0 : S) {body : Code} (hv : View c s0 s) (first : CW c body (thenP (fun s' => ∃ j, ok j ∧ μ j < M ∧ View c (I j) s') Q) s0)
    (round : ∀ i, ok i → CW c body (thenP (fun s' => ∃ j, ok j ∧ μ j < μ i ∧ View c (I j) s') Q) (I i)) : CW c (.loop body) Q s := by
  refine CW_loop (ι := Option ι) (fun x => ∀ i, x = some i → ok i) (fun x => match x with | none => s0 | some i => I i) (fun x => match x with | none => M | some i => μ i) none (fun i h => by cases h) hv ?_
  rintro (_ | i) hok
  · refine CW_mono ?_ first
    intro e s' hq
    cases e with
    | normal => obtain ⟨j, h1, h2, h3⟩ := hq; exact ⟨some j, fun i h => by cases h; exact h1, h2, h3⟩
    | _ => exact hq
  · refine CW_mono ?_ (round i (hok i rfl))
    intro e s' hq
    cases e with
    | normal => obtain ⟨j, h1, h2, h3⟩ := hq; exact ⟨some j, fun i h => by cases h; exact h1, h2, h3⟩
    | _ => exact hq
section
variable {c : Cx} {Q : Post} {F : Fr} {H : Hp} {n : Nat} {ops : Array Oper} {rest : List Oper} {tl : Nat → Bool} {m : Nat} {listed : Array Bool} {d : Nat} {ty : TypeId} {pos : String} {af : Array Edge}
theorem oBslv {t : TypeId} {ps : List (Nat × Operand)} {vs : List (Nat × V)} {z0 : V} {r : List V} {i ie : TI} {e len : Nat} (ht : lkT c.T t = some i) (hd : i.d = .slice e) (he : lkT c.T e = some ie) (hs : ie.size = 1) (hz : ie.z = some z0) (hz1 : (one z0 && noAgg z0) = true)
    (hp : evp c F ps = some vs) (hr : fillV (List.replicate len z0) vs = some r) (hok : okPV len vs = true) (hlim : Nat.ble len 16777216 = true) (hN : Nat.blt d c.N = true) (hn : Nat.blt n 1000 = true) (hk : sc n (idss r) = true)
    (h : OW c ops Q rest ⟨(d, .slice n 0 len len) :: F, (n, .vals e r) :: H, n + 1⟩) : OW c ops Q (⟨some d, .buildSlice t len ps.toArray, ty, pos, af, none⟩ :: rest) ⟨F, H, n⟩ :=
  OW_new (k := .vals e r) (v := .slice n 0 len len) rfl hN hn hk (by simp [sc, V.ids, Nat.blt_eq]) (nr_bslv ht hd he hs hz hz1 hp hr hok (Nat.le_of_ble_eq_true hlim)) h
theorem gBslv {i0 : Nat} {t : TypeId} {ps : List (Nat × Operand)} {vs : List (Nat × V)} {z0 : V} {r : List V} {i ie : TI} {e len : Nat} (hi : ops[i0]? = some ⟨some d, .buildSlice t len ps.toArray, ty, pos, af, none⟩) (htl : tl i0 = false) (ht : lkT c.T t = some i) (hd : i.d = .slice e) (he : lkT c.T e = some ie) (hs : ie.size = 1) (hz : ie.z = some z0) (hz1 : (one z0 && noAgg z0) = true)
    (hp : evp c F ps = some vs) (hr : fillV (List.replicate len z0) vs = some r) (hok : okPV len vs = true) (hlim : Nat.ble len 16777216 = true) (hN : Nat.blt d c.N = true) (hn : Nat.blt n 1000 = true) (hk : sc n (idss r) = true)
    (h : AW c ops tl Q m (listed.setIfInBounds i0 true) ⟨(d, .slice n 0 len len) :: F, (n, .vals e r) :: H, n + 1⟩) : GStep c ops tl Q m listed ⟨F, H, n⟩ i0 :=
  ⟨_, _, hi, rfl, htl, GOp_new (k := .vals e r) (v := .slice n 0 len len) hN hn hk (by simp [sc, V.ids, Nat.blt_eq]) (nr_bslv ht hd he hs hz hz1 hp hr hok (Nat.le_of_ble_eq_true hlim)), fun s' e => by subst e; exact h⟩
end
end Go.Proofs.YtendffbpmpobnaaDoor
