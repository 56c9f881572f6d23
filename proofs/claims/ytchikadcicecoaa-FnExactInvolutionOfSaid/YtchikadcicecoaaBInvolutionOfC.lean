/- What the last text of InvolutionOf needs, part 3: contracts of functions and plain mathematics. No conditions beyond those each theorem states. -/
import Derived.WalkKit
import Derived.ProofKit
import Derived.OpenShut
import Derived.ChangeOld
import Derived.Below
import Derived.Carry
import Derived.SizedLaws
import Derived.Test.YtchikadcicecoaaBInvolutionOfB
namespace Go.Proofs.Ytchikadcicecoaa
open Go.RowKit
theorem calls_law {P : Program} {f : Nat} {args : List V} {H : Hp} {b : Bool} (con : ConQ P [] f args H (.bool b)) (hW : wids H = []) {ρ : Nat → Nat} {W : World} (hr : HR ρ H W) :
    Calls P f (rvs ρ args).toArray W fun e W' => e = .returned (.bool b) ∧ Below W.heap.size W W' := by
  refine (con.2 ρ W hr (fun x hx => by simp at hx)).mono ?_
  rintro e W' ⟨r, H', ρ', ⟨rfl, rfl⟩, rfl, hr', hi⟩
  refine ⟨rfl, hi.os, hi.tape, hi.out, hi.size, fun k hk => hi.old k hk ?_⟩
  rw [hW]
  simp
theorem HR_nil {ρ : Nat → Nat} {W : World} : HR ρ [] W := ⟨fun _ _ h => by simp [lkB] at h, fun _ _ _ _ h => by simp [lkB] at h⟩
end Go.Proofs.Ytchikadcicecoaa
