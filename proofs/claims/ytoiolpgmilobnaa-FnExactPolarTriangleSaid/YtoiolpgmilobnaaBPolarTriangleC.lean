/- What the last text of PolarTriangle needs, part 3: contracts of functions and plain mathematics. No conditions beyond those each theorem states. -/
import Derived.WalkKit
import Derived.ProofKit
import Derived.OpenShut
import Derived.ChangeOld
import Derived.Below
import Derived.Carry
import Derived.SizedLaws
import Derived.Test.YtoiolpgmilobnaaBPolarTriangleB
namespace Go.Proofs.Ytoiolpgmilobnaa
open Go.RowKit
theorem calls_law {P : Program} {f : Nat} {args : List V} {H : Hp} {b : Bool} (con : ConQ P [] f args H (.bool b)) (hW : wids H = []) {ρ : Nat → Nat} {W : World} (hr : HR ρ H W) :
    Calls P f (rvs ρ args).toArray W fun e W' => e = .returned (.bool b) ∧ Below W.heap.size W W' := by
  refine (con.2 ρ W hr (fun x hx => by simp at hx)).mono ?_
  rintro e W' ⟨r, H', ρ', ⟨rfl, rfl⟩, rfl, hr', hi⟩
  refine ⟨rfl, hi.os, hi.tape, hi.out, hi.size, fun k hk => hi.old k hk ?_⟩
  rw [hW]
  simp
theorem HR_nil {ρ : Nat → Nat} {W : World} : HR ρ [] W := ⟨fun _ _ h => by simp [lkB] at h, fun _ _ _ _ h => by simp [lkB] at h⟩
/-- an array of numbers among the arguments -/
theorem open_arr64 {P : Program} {w : World} {r : Reach} {base t m : Nat} {v : Value} {n e : Nat} {ts : List TypeId} (hu : P.underlying t = some (.array n e)) (hct : P.cellTypes P.depth t = some ts) (hcs : P.cellsOf t = m)
    (hts : (ts.all fun u => match P.underlying u with | some (.int .i64) => true | _ => false) = true) (h : Value.okWide P w r base t v) : ∃ l : List Int, v = rv (fun b => b) (.arr l) ∧ l.length = m ∧ ∀ z ∈ l, -9223372036854775808 ≤ z ∧ z ≤ 9223372036854775807 := by
  simp only [Value.okWide, hu] at h
  obtain ⟨cs, rfl, hsz, ts', hts', _, hc⟩ := h
  rw [hct] at hts'
  injection hts' with hts'
  subst hts'
  have key : ∀ (xs : List Value) , (∀ x ∈ xs, ∃ z : Int, x = .int .i64 z ∧ -9223372036854775808 ≤ z ∧ z ≤ 9223372036854775807) → ∃ l : List Int, xs = l.map (Value.int .i64) ∧ ∀ z ∈ l, -9223372036854775808 ≤ z ∧ z ≤ 9223372036854775807 := by
    intro xs
    induction xs with
    | nil => intro _; exact ⟨[], rfl, by simp⟩
    | cons x r ih =>
      intro hx
      obtain ⟨z, rfl, hz⟩ := hx x (by simp)
      obtain ⟨l, rfl, hl⟩ := ih fun y hy => hx y (by simp [hy])
      exact ⟨z :: l, rfl, by simpa using ⟨hz, hl⟩⟩
  obtain ⟨l, hl, hz⟩ := key cs.toList fun x hx => by
    obtain ⟨i, hi⟩ := List.getElem?_of_mem hx
    obtain ⟨u, hu1, hu2⟩ := hc i x (by simpa using hi)
    have := List.all_eq_true.1 hts u (List.mem_of_getElem? hu1)
    simp only [Cell.okWide, Cell.ok] at hu2
    split at this
    · rename_i hu3
      rw [hu3] at hu2
      cases x <;> simp at hu2
      rename_i k z
      obtain ⟨rfl, h1, h2⟩ := hu2
      exact ⟨z, rfl, h1, h2⟩
    · cases this
  refine ⟨l, ?_, ?_, hz⟩
  · have : cs = (l.map (Value.int .i64)).toArray := by rw [← hl]
    rw [this]; rfl
  · rw [← hcs, ← hsz]
    have := congrArg List.length hl
    simpa using this.symm
end Go.Proofs.Ytoiolpgmilobnaa
