/- What the last text of MoebiusOf needs, part 3: contracts of functions and plain mathematics. No conditions beyond those each theorem states. -/
import Derived.WalkKit
import Derived.ProofKit
import Derived.OpenShut
import Derived.ChangeOld
import Derived.Below
import Derived.Carry
import Derived.SizedLaws
import Derived.Test.YtchikadcicecoaaBMoebiusOfB
namespace Go.Proofs.Ytchikadcicecoaa
open Go.RowKit
theorem calls_law {P : Program} {f : Nat} {args : List V} {H : Hp} {b : Bool} (con : ConQ P [] f args H (.bool b)) (hW : wids H = []) {ρ : Nat → Nat} {W : World} (hr : HR ρ H W) :
    Calls P f (rvs ρ args).toArray W fun e W' => e = .returned (.bool b) ∧ Below W.heap.size W W' := by
  refine (con.2 ρ W hr (fun x hx => by simp at hx)).mono ?_
  rintro e W' ⟨r, H', ρ', ⟨rfl, rfl⟩, rfl, hr', hi⟩
  refine ⟨rfl, hi.os, hi.tape, hi.out, hi.size, fun k hk => hi.old k hk ?_⟩
  rw [hW]
  simp
theorem HR_nil {ρ : Nat → Nat} {W : World} : HR ρ [] W := ⟨fun _ _ h => by simp [lkB] at h, fun _ _ _ _ h => by simp [lkB] at h⟩
open Go.ChangeShapes in
/-- a row of numbers among the arguments -/
theorem open_slice64 {H : Type} {enc : TypeId × Value → H} {P : Program} {W : World} {r : Reach} {base t e len cap : Nat} {a : Option Addr} {d : DataW H} {ps : List MemPlace} (hu : P.underlying t = some (.slice e)) (he : P.underlying e = some (.int .i64)) (hc : P.cellsOf e = 1)
    (hv : Value.okWide P W r base t (.slice a len cap)) (hd : DataW.Trod enc P W 0 (fun _ => true) true t (.slice a len cap) d ps) :
    (a = none ∧ len = 0 ∧ cap = 0) ∨ ∃ (b o : Nat) (l : List Int), a = some ⟨b, o, none⟩ ∧ l.length = len ∧ ∃ cs t fr, W.heap[b]? = some (.cells cs t fr) ∧ ∀ (i : Nat) (n : Int), l[i]? = some n → cs[o + i]? = some (.int .i64 n) := by
  obtain ⟨fuel, hf⟩ := hd
  rcases open_ints hu he hc hf with ⟨hcs, _⟩ | ⟨x, l, c, zs, hcs, _, hl, hm, hz, _, hcell, hwz⟩
  · simp [Value.cells] at hcs
    exact .inl ⟨hcs.1, hcs.2.1, hcs.2.2⟩
  · simp [Value.cells] at hcs
    obtain ⟨rfl, rfl, rfl⟩ := hcs
    right
    simp only [Value.okWide, hu, Cell.okWide, Cell.ok] at hv
    obtain ⟨_, _, _, hspot, row, cells, hsh, _⟩ := hv
    obtain ⟨b, o, s⟩ := x
    simp only at hspot hsh
    subst hspot
    have hzl : zs.length = cap := by simpa using hz
    refine ⟨b, o, zs.take len, rfl, by simp; omega, ?_⟩
    simp only [World.shape?] at hsh
    split at hsh
    · rename_i cs t0 fr hh
      refine ⟨cs, t0, fr, hh, fun i n hi => ?_⟩
      rw [List.getElem?_take] at hi
      split at hi
      · have hil : i < zs.length := by omega
        have := hcell i hil
        have e1 : zs.getD i 0 = n := by simp [List.getD, hi]
        rw [e1] at this
        rw [add_none] at this
        simpa [World.cell?, hh] using this
      · cases hi
    · cases hsh
theorem HR_ro {ρ : Nat → Nat} {H : Hp} {W : World} {b o : Nat} {l : List Int} (h : HR ρ H W) (hw : wids H = []) (hb : ∃ cs t fr, W.heap[ρ b]? = some (.cells cs t fr) ∧ ∀ (i : Nat) (n : Int), l[i]? = some n → cs[o + i]? = some (.int .i64 n)) : HR ρ ((b, .ro o l) :: H) W := by
  have hro : ∀ b1 k1, lkB ((b, .ro o l) :: H) b1 = some k1 → wrt k1 = false := by
    intro b1 k1 hl
    rw [lkB_cons] at hl
    split at hl
    · injection hl with hl; subst hl; rfl
    · cases hk : wrt k1 with
      | false => rfl
      | true =>
        have hm : (b1, k1) ∈ H.filter (fun x => wrt x.2) := List.mem_filter.2 ⟨lkB_mem hl, hk⟩
        have : b1 ∈ wids H := List.mem_map.2 ⟨_, hm, rfl⟩
        rw [hw] at this
        cases this
  refine ⟨fun b1 k1 hl hd => ?_, fun b1 b2 k1 k2 h1 h2 _ _ hw12 _ => ?_⟩
  · rw [lkB_cons] at hl
    split at hl
    · rename_i e; subst e; injection hl with hl; subst hl
      obtain ⟨cs, t, fr, hh, hc⟩ := hb
      exact ⟨_, hh, cs, t, fr, rfl, hc⟩
    · exact h.1 b1 k1 hl hd
  · rw [hro _ _ h1, hro _ _ h2] at hw12
    simp at hw12
end Go.Proofs.Ytchikadcicecoaa
