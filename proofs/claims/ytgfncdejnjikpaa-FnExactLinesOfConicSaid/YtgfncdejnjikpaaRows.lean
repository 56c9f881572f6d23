/-
  No cell of these rows narrows 'for every input' (looked for: loops, veiled, ifaces, maps, wideKeys, modest, calm, conditions, laid).
  DERIVED. THE GIVEN ROWS OF THIS SEAT. 12 by the template 'for every input the law returns true; each argument reads behind the call as it read before'; 0 by the template 'total and deterministic' (their statements: YtgfncdejnjikpaaTotals.lean).
  GIVEN WITH THE SEED: the statements are not yours to turn. If you find one false, say at which input.
  Laid BY PROGRAM, IN A SANDBOX (cutbox-rows.mjs): the forced cells as the released guide's own fill.sh prints them over the translation ade8b6646e18e807… (all of the seat's roots in one cut). By AI agents, Wed Nov 11 2026. No macro, syntax, notation, axiom, sorry.
-/
import Derived.Test.YtgfncdejnjikpaaChecked
import GoSem.Claim
import GoSem.ClaimJoined
import GoSem.ClaimMapViews
import Derived.JoinedTies
import Derived.KernelRfl
namespace Go.Proofs.Ytgfncdejnjikpaa
/- THE CELL 'sum', in the pinned program and in every row, IS THE sha256 OF THE DUMP (.gsa) THAT YtgfncdejnjikpaaProg.lean LOADS. Nothing in Lean hashes anything: it is a label: what it is worth is what the hold of that sum in a sandbox is worth. -/
noncomputable def Try.pinned : Pinned := { name := "ytgfncdejnjikpaa", sum := "ade8b6646e18e8077fe6ad21d15c44e9b7bb1009f85be227dfdcb30278b3d1d1", checked := Try.checked }
namespace Rows
def none {H : Type} : Left H := { results := [], args := [] }

/-- 'laws.FnExactCubicByFive': WHATEVER THE INPUT: true; the input reads as it did. -/
def fnExactCubicByFiveSpec : ChangeSpec := { name := "fnExactCubicByFive", fn := fun _ => fun
  | [d1, d2] => { results := [.lit (.bool true)], args := [d1, d2] }
  | _ => none }
def fnExactCubicByFiveRow : OpenClaim := { program := "ytgfncdejnjikpaa", sum := "ade8b6646e18e8077fe6ad21d15c44e9b7bb1009f85be227dfdcb30278b3d1d1", func := "loop.example/g01310/laws.FnExactCubicByFive", spec := "fnExactCubicByFive", apart := false }
def FnExactCubicByFiveSaid : Prop := fnExactCubicByFiveRow.holds Try.pinned (OpenSpec.ofChange fnExactCubicByFiveSpec)

/-- ITS FALSE NEIGHBOUR: 'it returns false'. Refute it at one input. -/
def fnExactCubicByFiveWrong : ChangeSpec := { name := "fnExactCubicByFive", fn := fun _ => fun
  | [d1, d2] => { results := [.lit (.bool false)], args := [d1, d2] }
  | _ => none }
def FnExactCubicByFiveWrongFalsely : Prop := fnExactCubicByFiveRow.holds Try.pinned (OpenSpec.ofChange fnExactCubicByFiveWrong)

/-- 'laws.FnExactMoebiusAt': WHATEVER THE INPUT: true; the input reads as it did. -/
def fnExactMoebiusAtSpec : ChangeSpec := { name := "fnExactMoebiusAt", fn := fun _ => fun
  | [d1, d2, d3] => { results := [.lit (.bool true)], args := [d1, d2, d3] }
  | _ => none }
def fnExactMoebiusAtRow : OpenClaim := { program := "ytgfncdejnjikpaa", sum := "ade8b6646e18e8077fe6ad21d15c44e9b7bb1009f85be227dfdcb30278b3d1d1", func := "loop.example/g01310/laws.FnExactMoebiusAt", spec := "fnExactMoebiusAt", unfollowed := true, recurses := true, apart := false }
def FnExactMoebiusAtSaid : Prop := fnExactMoebiusAtRow.holds Try.pinned (OpenSpec.ofChange fnExactMoebiusAtSpec)

/-- ITS FALSE NEIGHBOUR: 'it returns false'. Refute it at one input. -/
def fnExactMoebiusAtWrong : ChangeSpec := { name := "fnExactMoebiusAt", fn := fun _ => fun
  | [d1, d2, d3] => { results := [.lit (.bool false)], args := [d1, d2, d3] }
  | _ => none }
def FnExactMoebiusAtWrongFalsely : Prop := fnExactMoebiusAtRow.holds Try.pinned (OpenSpec.ofChange fnExactMoebiusAtWrong)

/-- 'laws.FnExactInvolutionOf': WHATEVER THE INPUT: true; the input reads as it did. -/
def fnExactInvolutionOfSpec : ChangeSpec := { name := "fnExactInvolutionOf", fn := fun _ => fun
  | [d1, d2, d3, d4, d5] => { results := [.lit (.bool true)], args := [d1, d2, d3, d4, d5] }
  | _ => none }
def fnExactInvolutionOfRow : OpenClaim := { program := "ytgfncdejnjikpaa", sum := "ade8b6646e18e8077fe6ad21d15c44e9b7bb1009f85be227dfdcb30278b3d1d1", func := "loop.example/g01310/laws.FnExactInvolutionOf", spec := "fnExactInvolutionOf", unfollowed := true, recurses := true, apart := false }
def FnExactInvolutionOfSaid : Prop := fnExactInvolutionOfRow.holds Try.pinned (OpenSpec.ofChange fnExactInvolutionOfSpec)

/-- ITS FALSE NEIGHBOUR: 'it returns false'. Refute it at one input. -/
def fnExactInvolutionOfWrong : ChangeSpec := { name := "fnExactInvolutionOf", fn := fun _ => fun
  | [d1, d2, d3, d4, d5] => { results := [.lit (.bool false)], args := [d1, d2, d3, d4, d5] }
  | _ => none }
def FnExactInvolutionOfWrongFalsely : Prop := fnExactInvolutionOfRow.holds Try.pinned (OpenSpec.ofChange fnExactInvolutionOfWrong)

/-- 'laws.FnExactFixedPlaces': WHATEVER THE INPUT: true; the input reads as it did. -/
def fnExactFixedPlacesSpec : ChangeSpec := { name := "fnExactFixedPlaces", fn := fun _ => fun
  | [d1, d2] => { results := [.lit (.bool true)], args := [d1, d2] }
  | _ => none }
def fnExactFixedPlacesRow : OpenClaim := { program := "ytgfncdejnjikpaa", sum := "ade8b6646e18e8077fe6ad21d15c44e9b7bb1009f85be227dfdcb30278b3d1d1", func := "loop.example/g01310/laws.FnExactFixedPlaces", spec := "fnExactFixedPlaces", unfollowed := true, recurses := true, apart := false }
def FnExactFixedPlacesSaid : Prop := fnExactFixedPlacesRow.holds Try.pinned (OpenSpec.ofChange fnExactFixedPlacesSpec)

/-- ITS FALSE NEIGHBOUR: 'it returns false'. Refute it at one input. -/
def fnExactFixedPlacesWrong : ChangeSpec := { name := "fnExactFixedPlaces", fn := fun _ => fun
  | [d1, d2] => { results := [.lit (.bool false)], args := [d1, d2] }
  | _ => none }
def FnExactFixedPlacesWrongFalsely : Prop := fnExactFixedPlacesRow.holds Try.pinned (OpenSpec.ofChange fnExactFixedPlacesWrong)

/-- 'laws.FnExactIsSet': WHATEVER THE INPUT: true; the input reads as it did. -/
def fnExactIsSetSpec : ChangeSpec := { name := "fnExactIsSet", fn := fun _ => fun
  | [d1, d2] => { results := [.lit (.bool true)], args := [d1, d2] }
  | _ => none }
def fnExactIsSetRow : OpenClaim := { program := "ytgfncdejnjikpaa", sum := "ade8b6646e18e8077fe6ad21d15c44e9b7bb1009f85be227dfdcb30278b3d1d1", func := "loop.example/g01310/laws.FnExactIsSet", spec := "fnExactIsSet", unfollowed := true, recurses := true, apart := false }
def FnExactIsSetSaid : Prop := fnExactIsSetRow.holds Try.pinned (OpenSpec.ofChange fnExactIsSetSpec)

/-- ITS FALSE NEIGHBOUR: 'it returns false'. Refute it at one input. -/
def fnExactIsSetWrong : ChangeSpec := { name := "fnExactIsSet", fn := fun _ => fun
  | [d1, d2] => { results := [.lit (.bool false)], args := [d1, d2] }
  | _ => none }
def FnExactIsSetWrongFalsely : Prop := fnExactIsSetRow.holds Try.pinned (OpenSpec.ofChange fnExactIsSetWrong)

/-- 'laws.FnExactPointsOfConic': WHATEVER THE INPUT: true; the input reads as it did. -/
def fnExactPointsOfConicSpec : ChangeSpec := { name := "fnExactPointsOfConic", fn := fun _ => fun
  | [d1, d2] => { results := [.lit (.bool true)], args := [d1, d2] }
  | _ => none }
def fnExactPointsOfConicRow : OpenClaim := { program := "ytgfncdejnjikpaa", sum := "ade8b6646e18e8077fe6ad21d15c44e9b7bb1009f85be227dfdcb30278b3d1d1", func := "loop.example/g01310/laws.FnExactPointsOfConic", spec := "fnExactPointsOfConic", unfollowed := true, recurses := true, apart := false }
def FnExactPointsOfConicSaid : Prop := fnExactPointsOfConicRow.holds Try.pinned (OpenSpec.ofChange fnExactPointsOfConicSpec)

/-- ITS FALSE NEIGHBOUR: 'it returns false'. Refute it at one input. -/
def fnExactPointsOfConicWrong : ChangeSpec := { name := "fnExactPointsOfConic", fn := fun _ => fun
  | [d1, d2] => { results := [.lit (.bool false)], args := [d1, d2] }
  | _ => none }
def FnExactPointsOfConicWrongFalsely : Prop := fnExactPointsOfConicRow.holds Try.pinned (OpenSpec.ofChange fnExactPointsOfConicWrong)

/-- 'laws.FnExactTangentAt': WHATEVER THE INPUT: true; the input reads as it did. -/
def fnExactTangentAtSpec : ChangeSpec := { name := "fnExactTangentAt", fn := fun _ => fun
  | [d1, d2, d3] => { results := [.lit (.bool true)], args := [d1, d2, d3] }
  | _ => none }
def fnExactTangentAtRow : OpenClaim := { program := "ytgfncdejnjikpaa", sum := "ade8b6646e18e8077fe6ad21d15c44e9b7bb1009f85be227dfdcb30278b3d1d1", func := "loop.example/g01310/laws.FnExactTangentAt", spec := "fnExactTangentAt", unfollowed := true, recurses := true, apart := false }
def FnExactTangentAtSaid : Prop := fnExactTangentAtRow.holds Try.pinned (OpenSpec.ofChange fnExactTangentAtSpec)

/-- ITS FALSE NEIGHBOUR: 'it returns false'. Refute it at one input. -/
def fnExactTangentAtWrong : ChangeSpec := { name := "fnExactTangentAt", fn := fun _ => fun
  | [d1, d2, d3] => { results := [.lit (.bool false)], args := [d1, d2, d3] }
  | _ => none }
def FnExactTangentAtWrongFalsely : Prop := fnExactTangentAtRow.holds Try.pinned (OpenSpec.ofChange fnExactTangentAtWrong)

/-- 'laws.FnExactLinesOfConic': WHATEVER THE INPUT: true; the input reads as it did. -/
def fnExactLinesOfConicSpec : ChangeSpec := { name := "fnExactLinesOfConic", fn := fun _ => fun
  | [d1, d2] => { results := [.lit (.bool true)], args := [d1, d2] }
  | _ => none }
def fnExactLinesOfConicRow : OpenClaim := { program := "ytgfncdejnjikpaa", sum := "ade8b6646e18e8077fe6ad21d15c44e9b7bb1009f85be227dfdcb30278b3d1d1", func := "loop.example/g01310/laws.FnExactLinesOfConic", spec := "fnExactLinesOfConic", unfollowed := true, recurses := true, apart := false }
def FnExactLinesOfConicSaid : Prop := fnExactLinesOfConicRow.holds Try.pinned (OpenSpec.ofChange fnExactLinesOfConicSpec)

/-- ITS FALSE NEIGHBOUR: 'it returns false'. Refute it at one input. -/
def fnExactLinesOfConicWrong : ChangeSpec := { name := "fnExactLinesOfConic", fn := fun _ => fun
  | [d1, d2] => { results := [.lit (.bool false)], args := [d1, d2] }
  | _ => none }
def FnExactLinesOfConicWrongFalsely : Prop := fnExactLinesOfConicRow.holds Try.pinned (OpenSpec.ofChange fnExactLinesOfConicWrong)

/-- 'laws.FnExactMemberThrough': WHATEVER THE INPUT: true; the input reads as it did. -/
def fnExactMemberThroughSpec : ChangeSpec := { name := "fnExactMemberThrough", fn := fun _ => fun
  | [d1, d2, d3, d4] => { results := [.lit (.bool true)], args := [d1, d2, d3, d4] }
  | _ => none }
def fnExactMemberThroughRow : OpenClaim := { program := "ytgfncdejnjikpaa", sum := "ade8b6646e18e8077fe6ad21d15c44e9b7bb1009f85be227dfdcb30278b3d1d1", func := "loop.example/g01310/laws.FnExactMemberThrough", spec := "fnExactMemberThrough", unfollowed := true, recurses := true, apart := false }
def FnExactMemberThroughSaid : Prop := fnExactMemberThroughRow.holds Try.pinned (OpenSpec.ofChange fnExactMemberThroughSpec)

/-- ITS FALSE NEIGHBOUR: 'it returns false'. Refute it at one input. -/
def fnExactMemberThroughWrong : ChangeSpec := { name := "fnExactMemberThrough", fn := fun _ => fun
  | [d1, d2, d3, d4] => { results := [.lit (.bool false)], args := [d1, d2, d3, d4] }
  | _ => none }
def FnExactMemberThroughWrongFalsely : Prop := fnExactMemberThroughRow.holds Try.pinned (OpenSpec.ofChange fnExactMemberThroughWrong)

/-- 'laws.FnExactMoebiusOf': WHATEVER THE INPUT: true; the input reads as it did. -/
def fnExactMoebiusOfSpec : ChangeSpec := { name := "fnExactMoebiusOf", fn := fun _ => fun
  | [d1, d2, d3] => { results := [.lit (.bool true)], args := [d1, d2, d3] }
  | _ => none }
def fnExactMoebiusOfRow : OpenClaim := { program := "ytgfncdejnjikpaa", sum := "ade8b6646e18e8077fe6ad21d15c44e9b7bb1009f85be227dfdcb30278b3d1d1", func := "loop.example/g01310/laws.FnExactMoebiusOf", spec := "fnExactMoebiusOf", unfollowed := true, recurses := true, apart := false }
def FnExactMoebiusOfSaid : Prop := fnExactMoebiusOfRow.holds Try.pinned (OpenSpec.ofChange fnExactMoebiusOfSpec)

/-- ITS FALSE NEIGHBOUR: 'it returns false'. Refute it at one input. -/
def fnExactMoebiusOfWrong : ChangeSpec := { name := "fnExactMoebiusOf", fn := fun _ => fun
  | [d1, d2, d3] => { results := [.lit (.bool false)], args := [d1, d2, d3] }
  | _ => none }
def FnExactMoebiusOfWrongFalsely : Prop := fnExactMoebiusOfRow.holds Try.pinned (OpenSpec.ofChange fnExactMoebiusOfWrong)

/-- 'laws.FnExactMeetConic': WHATEVER THE INPUT: true; the input reads as it did. -/
def fnExactMeetConicSpec : ChangeSpec := { name := "fnExactMeetConic", fn := fun _ => fun
  | [d1, d2, d3] => { results := [.lit (.bool true)], args := [d1, d2, d3] }
  | _ => none }
def fnExactMeetConicRow : OpenClaim := { program := "ytgfncdejnjikpaa", sum := "ade8b6646e18e8077fe6ad21d15c44e9b7bb1009f85be227dfdcb30278b3d1d1", func := "loop.example/g01310/laws.FnExactMeetConic", spec := "fnExactMeetConic", unfollowed := true, recurses := true, apart := false }
def FnExactMeetConicSaid : Prop := fnExactMeetConicRow.holds Try.pinned (OpenSpec.ofChange fnExactMeetConicSpec)

/-- ITS FALSE NEIGHBOUR: 'it returns false'. Refute it at one input. -/
def fnExactMeetConicWrong : ChangeSpec := { name := "fnExactMeetConic", fn := fun _ => fun
  | [d1, d2, d3] => { results := [.lit (.bool false)], args := [d1, d2, d3] }
  | _ => none }
def FnExactMeetConicWrongFalsely : Prop := fnExactMeetConicRow.holds Try.pinned (OpenSpec.ofChange fnExactMeetConicWrong)

/-- 'laws.FnExactBasePoints': WHATEVER THE INPUT: true; the input reads as it did. -/
def fnExactBasePointsSpec : ChangeSpec := { name := "fnExactBasePoints", fn := fun _ => fun
  | [d1, d2, d3] => { results := [.lit (.bool true)], args := [d1, d2, d3] }
  | _ => none }
def fnExactBasePointsRow : OpenClaim := { program := "ytgfncdejnjikpaa", sum := "ade8b6646e18e8077fe6ad21d15c44e9b7bb1009f85be227dfdcb30278b3d1d1", func := "loop.example/g01310/laws.FnExactBasePoints", spec := "fnExactBasePoints", unfollowed := true, recurses := true, apart := false }
def FnExactBasePointsSaid : Prop := fnExactBasePointsRow.holds Try.pinned (OpenSpec.ofChange fnExactBasePointsSpec)

/-- ITS FALSE NEIGHBOUR: 'it returns false'. Refute it at one input. -/
def fnExactBasePointsWrong : ChangeSpec := { name := "fnExactBasePoints", fn := fun _ => fun
  | [d1, d2, d3] => { results := [.lit (.bool false)], args := [d1, d2, d3] }
  | _ => none }
def FnExactBasePointsWrongFalsely : Prop := fnExactBasePointsRow.holds Try.pinned (OpenSpec.ofChange fnExactBasePointsWrong)

/- THE SECOND FORM. 'bulk': how many values and letters a reading holds, each counted each time it is reached (what is shared counts as often as it is met; a slice's spare places count too). A statement '..UptoSaid' is the law's where the arguments, and the package variables that the reading takes, are together of bulk at most 1048576: NARROWER than '..Said'. Prove '..Said' where nothing that the law and all that it calls make is longer than what came in: it says more and counts as full. Else prove '..UptoSaid'. A law counts once. -/
mutual
def uptoBulk {H : Type} : DataW H → Nat
  | .lit (.string bytes) => bytes.length + 1
  | .lit _ => 1
  | .nil => 1
  | .ptr d => uptoBulk d + 1
  | .slice elems spare => uptoBulkAll elems + uptoBulkAll spare + 1
  | .agg parts => uptoBulkAll parts + 1
  | .iface _ d => uptoBulk d + 1
  | .map entries => uptoBulkEntries entries + 1
  | .held _ => 1
def uptoBulkAll {H : Type} : List (DataW H) → Nat
  | [] => 0
  | d :: r => uptoBulk d + uptoBulkAll r
def uptoBulkEntries {H : Type} : List (Lit × DataW H) → Nat
  | [] => 0
  | x :: r => uptoBulkEntry x + uptoBulkEntries r
def uptoBulkEntry {H : Type} : Lit × DataW H → Nat
  | (.string bytes, d) => bytes.length + uptoBulk d + 1
  | (_, d) => uptoBulk d + 1
 end
def uptoSmall : (H : Type) → List (DataW H) → Bool := fun _ ds => decide (uptoBulkAll ds ≤ 1048576)
def OpenSpec.upto (s : _root_.Go.ChangeSpec) : _root_.Go.OpenSpec := { _root_.Go.OpenSpec.ofChange s with cond := some uptoSmall }

/-- 'laws.FnExactCubicByFive', WHERE WHAT IT READS IS OF BULK AT MOST 1048576: true; the input reads as it did. -/
def fnExactCubicByFiveUptoRow : OpenClaim := { program := "ytgfncdejnjikpaa", sum := "ade8b6646e18e8077fe6ad21d15c44e9b7bb1009f85be227dfdcb30278b3d1d1", func := "loop.example/g01310/laws.FnExactCubicByFive", spec := "fnExactCubicByFive", apart := false, narrowed := true }
def FnExactCubicByFiveUptoSaid : Prop := fnExactCubicByFiveUptoRow.holds Try.pinned (OpenSpec.upto fnExactCubicByFiveSpec)

/-- 'laws.FnExactMoebiusAt', WHERE WHAT IT READS IS OF BULK AT MOST 1048576: true; the input reads as it did. -/
def fnExactMoebiusAtUptoRow : OpenClaim := { program := "ytgfncdejnjikpaa", sum := "ade8b6646e18e8077fe6ad21d15c44e9b7bb1009f85be227dfdcb30278b3d1d1", func := "loop.example/g01310/laws.FnExactMoebiusAt", spec := "fnExactMoebiusAt", unfollowed := true, recurses := true, apart := false, narrowed := true }
def FnExactMoebiusAtUptoSaid : Prop := fnExactMoebiusAtUptoRow.holds Try.pinned (OpenSpec.upto fnExactMoebiusAtSpec)

/-- 'laws.FnExactInvolutionOf', WHERE WHAT IT READS IS OF BULK AT MOST 1048576: true; the input reads as it did. -/
def fnExactInvolutionOfUptoRow : OpenClaim := { program := "ytgfncdejnjikpaa", sum := "ade8b6646e18e8077fe6ad21d15c44e9b7bb1009f85be227dfdcb30278b3d1d1", func := "loop.example/g01310/laws.FnExactInvolutionOf", spec := "fnExactInvolutionOf", unfollowed := true, recurses := true, apart := false, narrowed := true }
def FnExactInvolutionOfUptoSaid : Prop := fnExactInvolutionOfUptoRow.holds Try.pinned (OpenSpec.upto fnExactInvolutionOfSpec)

/-- 'laws.FnExactFixedPlaces', WHERE WHAT IT READS IS OF BULK AT MOST 1048576: true; the input reads as it did. -/
def fnExactFixedPlacesUptoRow : OpenClaim := { program := "ytgfncdejnjikpaa", sum := "ade8b6646e18e8077fe6ad21d15c44e9b7bb1009f85be227dfdcb30278b3d1d1", func := "loop.example/g01310/laws.FnExactFixedPlaces", spec := "fnExactFixedPlaces", unfollowed := true, recurses := true, apart := false, narrowed := true }
def FnExactFixedPlacesUptoSaid : Prop := fnExactFixedPlacesUptoRow.holds Try.pinned (OpenSpec.upto fnExactFixedPlacesSpec)

/-- 'laws.FnExactIsSet', WHERE WHAT IT READS IS OF BULK AT MOST 1048576: true; the input reads as it did. -/
def fnExactIsSetUptoRow : OpenClaim := { program := "ytgfncdejnjikpaa", sum := "ade8b6646e18e8077fe6ad21d15c44e9b7bb1009f85be227dfdcb30278b3d1d1", func := "loop.example/g01310/laws.FnExactIsSet", spec := "fnExactIsSet", unfollowed := true, recurses := true, apart := false, narrowed := true }
def FnExactIsSetUptoSaid : Prop := fnExactIsSetUptoRow.holds Try.pinned (OpenSpec.upto fnExactIsSetSpec)

/-- 'laws.FnExactPointsOfConic', WHERE WHAT IT READS IS OF BULK AT MOST 1048576: true; the input reads as it did. -/
def fnExactPointsOfConicUptoRow : OpenClaim := { program := "ytgfncdejnjikpaa", sum := "ade8b6646e18e8077fe6ad21d15c44e9b7bb1009f85be227dfdcb30278b3d1d1", func := "loop.example/g01310/laws.FnExactPointsOfConic", spec := "fnExactPointsOfConic", unfollowed := true, recurses := true, apart := false, narrowed := true }
def FnExactPointsOfConicUptoSaid : Prop := fnExactPointsOfConicUptoRow.holds Try.pinned (OpenSpec.upto fnExactPointsOfConicSpec)

/-- 'laws.FnExactTangentAt', WHERE WHAT IT READS IS OF BULK AT MOST 1048576: true; the input reads as it did. -/
def fnExactTangentAtUptoRow : OpenClaim := { program := "ytgfncdejnjikpaa", sum := "ade8b6646e18e8077fe6ad21d15c44e9b7bb1009f85be227dfdcb30278b3d1d1", func := "loop.example/g01310/laws.FnExactTangentAt", spec := "fnExactTangentAt", unfollowed := true, recurses := true, apart := false, narrowed := true }
def FnExactTangentAtUptoSaid : Prop := fnExactTangentAtUptoRow.holds Try.pinned (OpenSpec.upto fnExactTangentAtSpec)

/-- 'laws.FnExactLinesOfConic', WHERE WHAT IT READS IS OF BULK AT MOST 1048576: true; the input reads as it did. -/
def fnExactLinesOfConicUptoRow : OpenClaim := { program := "ytgfncdejnjikpaa", sum := "ade8b6646e18e8077fe6ad21d15c44e9b7bb1009f85be227dfdcb30278b3d1d1", func := "loop.example/g01310/laws.FnExactLinesOfConic", spec := "fnExactLinesOfConic", unfollowed := true, recurses := true, apart := false, narrowed := true }
def FnExactLinesOfConicUptoSaid : Prop := fnExactLinesOfConicUptoRow.holds Try.pinned (OpenSpec.upto fnExactLinesOfConicSpec)

/-- 'laws.FnExactMemberThrough', WHERE WHAT IT READS IS OF BULK AT MOST 1048576: true; the input reads as it did. -/
def fnExactMemberThroughUptoRow : OpenClaim := { program := "ytgfncdejnjikpaa", sum := "ade8b6646e18e8077fe6ad21d15c44e9b7bb1009f85be227dfdcb30278b3d1d1", func := "loop.example/g01310/laws.FnExactMemberThrough", spec := "fnExactMemberThrough", unfollowed := true, recurses := true, apart := false, narrowed := true }
def FnExactMemberThroughUptoSaid : Prop := fnExactMemberThroughUptoRow.holds Try.pinned (OpenSpec.upto fnExactMemberThroughSpec)

/-- 'laws.FnExactMoebiusOf', WHERE WHAT IT READS IS OF BULK AT MOST 1048576: true; the input reads as it did. -/
def fnExactMoebiusOfUptoRow : OpenClaim := { program := "ytgfncdejnjikpaa", sum := "ade8b6646e18e8077fe6ad21d15c44e9b7bb1009f85be227dfdcb30278b3d1d1", func := "loop.example/g01310/laws.FnExactMoebiusOf", spec := "fnExactMoebiusOf", unfollowed := true, recurses := true, apart := false, narrowed := true }
def FnExactMoebiusOfUptoSaid : Prop := fnExactMoebiusOfUptoRow.holds Try.pinned (OpenSpec.upto fnExactMoebiusOfSpec)

/-- 'laws.FnExactMeetConic', WHERE WHAT IT READS IS OF BULK AT MOST 1048576: true; the input reads as it did. -/
def fnExactMeetConicUptoRow : OpenClaim := { program := "ytgfncdejnjikpaa", sum := "ade8b6646e18e8077fe6ad21d15c44e9b7bb1009f85be227dfdcb30278b3d1d1", func := "loop.example/g01310/laws.FnExactMeetConic", spec := "fnExactMeetConic", unfollowed := true, recurses := true, apart := false, narrowed := true }
def FnExactMeetConicUptoSaid : Prop := fnExactMeetConicUptoRow.holds Try.pinned (OpenSpec.upto fnExactMeetConicSpec)

/-- 'laws.FnExactBasePoints', WHERE WHAT IT READS IS OF BULK AT MOST 1048576: true; the input reads as it did. -/
def fnExactBasePointsUptoRow : OpenClaim := { program := "ytgfncdejnjikpaa", sum := "ade8b6646e18e8077fe6ad21d15c44e9b7bb1009f85be227dfdcb30278b3d1d1", func := "loop.example/g01310/laws.FnExactBasePoints", spec := "fnExactBasePoints", unfollowed := true, recurses := true, apart := false, narrowed := true }
def FnExactBasePointsUptoSaid : Prop := fnExactBasePointsUptoRow.holds Try.pinned (OpenSpec.upto fnExactBasePointsSpec)

end Rows
end Go.Proofs.Ytgfncdejnjikpaa
