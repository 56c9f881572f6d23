/- What the last text of OrderOnCubic needs, part 4: contracts of functions and plain mathematics. No conditions beyond those each theorem states. -/
import Derived.Deep.Slices
import Derived.Lib.LaidTab
import Derived.OpenVars
import Derived.LaidMore
import Derived.Test.YtcklfkblhmlbbaaDoorBOrderOnCubicC
namespace Go.Proofs.YtcklfkblhmlbbaaDoor
open Go.RowKit
theorem calls_lawG {P : Program} {gl : List (Nat × Nat)} {f : Nat} {args : List V} {H : Hp} {b : Bool} (con : ConQ P gl f args H (.bool b)) (hW : wids H = []) {ρ : Nat → Nat} {W : World} (hr : HR ρ H W) (hg : GR gl (ids H) ρ) :
    Calls P f (rvs ρ args).toArray W fun e W' => e = .returned (.bool b) ∧ Below W.heap.size W W' := by
  refine (con.2 ρ W hr hg).mono ?_
  rintro e W' ⟨r, H', ρ', ⟨rfl, rfl⟩, rfl, hr', hi⟩
  refine ⟨rfl, hi.os, hi.tape, hi.out, hi.size, fun k hk => hi.old k hk ?_⟩
  rw [hW]
  simp
theorem chunks_eq {α : Type} {m : Nat} : ∀ (rows : List (List α)) (cs : List α), (∀ r ∈ rows, r.length = m) → cs.length = rows.length * m → (∀ (i : Nat) (r : List α), rows[i]? = some r → (cs.drop (i * m)).take m = r) → cs = rows.flatten
  | [], cs, _, hl, _ => by
    rw [List.length_nil, Nat.zero_mul] at hl
    rw [List.length_eq_zero_iff.1 hl]; rfl
  | r :: rows, cs, h, hl, hc => by
    have h0 := hc 0 r rfl
    rw [Nat.zero_mul, List.drop_zero] at h0
    rw [List.length_cons, Nat.add_mul, Nat.one_mul] at hl
    have ih := chunks_eq rows (cs.drop m) (fun x hx => h x (List.mem_cons_of_mem _ hx)) (by rw [List.length_drop]; omega) (fun i x hx => by
      have := hc (i + 1) x hx
      rwa [Nat.add_mul, Nat.one_mul, Nat.add_comm, ← List.drop_drop] at this)
    rw [List.flatten_cons, ← ih, ← h0, List.take_append_drop]
/-- a table of rows of integers, as data -/
def tab2 {H : Type} (rows : List (List Int)) : DataW H := .agg (rows.map fun r => Lib.tabData .i64 r)
theorem cells_of_tab2 {H : Type} {enc : TypeId × Value → H} {P : Program} {w : World} {base : Nat} {sp : Nat → Bool} {held : Bool} {fuel : Nat} {t e i : TypeId} {n m : Nat} {cs : List Value} {rows : List (List Int)} {p : List MemPlace}
    (ht : P.underlying t = some (.array n e)) (he : P.underlying e = some (.array m i)) (hi : P.underlying i = some (.int .i64)) (hci : P.cellsOf i = 1) (hce : P.cellsOf e = m) (hct : P.cellsOf t = n * m)
    (h : DataW.trod enc P w base sp held fuel t cs = some (tab2 rows, p)) (hr : rows.length = n) (hrm : ∀ r ∈ rows, r.length = m) : cs = rows.flatten.map (Value.int .i64) := by
  obtain ⟨xs, k, rfl, hx, hl, hn, hel⟩ := DataW.trod_array ht h
  have hx1 : rows.map (fun r => (Lib.tabData .i64 r : DataW H)) = xs.map (·.1) := by
    have := congrArg Prod.fst hx
    simpa [tab2] using this
  have hmap : rows.flatten.map (Value.int .i64) = (rows.map fun r => r.map (Value.int .i64)).flatten := by rw [List.map_flatten]
  rw [hmap]
  refine chunks_eq (m := m) _ cs (fun r hr' => ?_) (by rw [hl, hct, List.length_map, hr]) fun j r hj => ?_
  · obtain ⟨r0, h0, rfl⟩ := List.mem_map.1 hr'
    rw [List.length_map]; exact hrm r0 h0
  · rw [List.getElem?_map, Option.map_eq_some_iff] at hj
    obtain ⟨r0, h0, rfl⟩ := hj
    have hjn : j < n := by rw [← hr]; exact (List.getElem?_eq_some_iff.1 h0).1
    have h1 := hel j hjn
    rw [hce] at h1
    have h2 : (xs.map (·.1))[j]? = some (Lib.tabData .i64 r0) := by rw [← hx1, List.getElem?_map, h0]; rfl
    rw [List.getElem?_map, Option.map_eq_some_iff] at h2
    obtain ⟨x, hxj, hx0⟩ := h2
    rw [hxj] at h1
    obtain ⟨d, pp⟩ := x
    simp only at hx0
    subst hx0
    exact Lib.cells_of_tab he hi hci hce h1
theorem HR_two {ρ : Nat → Nat} {W : World} {H : Hp} {g b : Nat} {l : List Int} (h : HR ρ H W) (hw : wids H = []) (hg : ρ b = g) (hc : ∃ t fr, W.heap[g]? = some (.cells (l.map (Value.int .i64)).toArray t fr)) : HR ρ ((b, .ro 0 l) :: H) W := by
  refine HR_ro h hw ?_
  obtain ⟨t, fr, hc⟩ := hc
  refine ⟨_, t, fr, by rw [hg]; exact hc, fun i n hi => ?_⟩
  simp [hi]
end Go.Proofs.YtcklfkblhmlbbaaDoor
