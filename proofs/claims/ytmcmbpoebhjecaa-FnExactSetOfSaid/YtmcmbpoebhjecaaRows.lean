/-
  No cell of these rows narrows 'for every input' (looked for: loops, veiled, ifaces, maps, wideKeys, modest, calm, conditions, laid).
  DERIVED. THE GIVEN ROWS OF THIS SEAT. 12 by the template 'for every input the law returns true; each argument reads behind the call as it read before'; 0 by the template 'total and deterministic' (their statements: YtmcmbpoebhjecaaTotals.lean).
  GIVEN WITH THE SEED: the statements are not yours to turn. If you find one false, say at which input.
  Laid BY PROGRAM, IN A SANDBOX (cutbox-rows.mjs): the forced cells as the released guide's own fill.sh prints them over the translation c80a5aba57a42805… (all of the seat's roots in one cut). By AI agents, Wed Nov 11 2026. No macro, syntax, notation, axiom, sorry.
-/
import Derived.Test.YtmcmbpoebhjecaaChecked
import GoSem.Claim
import GoSem.ClaimJoined
import GoSem.ClaimMapViews
import Derived.JoinedTies
import Derived.KernelRfl
namespace Go.Proofs.Ytmcmbpoebhjecaa
/- THE CELL 'sum', in the pinned program and in every row, IS THE sha256 OF THE DUMP (.gsa) THAT YtmcmbpoebhjecaaProg.lean LOADS. Nothing in Lean hashes anything: it is a label: what it is worth is what the hold of that sum in a sandbox is worth. -/
noncomputable def Try.pinned : Pinned := { name := "ytmcmbpoebhjecaa", sum := "c80a5aba57a42805f69fa144ba293a0b185875252cfa4cdfa0725aaaf726814d", checked := Try.checked }
namespace Rows
def none {H : Type} : Left H := { results := [], args := [] }

/-- 'laws.FnExactCompleteArc': WHATEVER THE INPUT: true; the input reads as it did. -/
def fnExactCompleteArcSpec : ChangeSpec := { name := "fnExactCompleteArc", fn := fun _ => fun
  | [d1, d2] => { results := [.lit (.bool true)], args := [d1, d2] }
  | _ => none }
def fnExactCompleteArcRow : OpenClaim := { program := "ytmcmbpoebhjecaa", sum := "c80a5aba57a42805f69fa144ba293a0b185875252cfa4cdfa0725aaaf726814d", func := "loop.example/g01310/laws.FnExactCompleteArc", spec := "fnExactCompleteArc", unfollowed := true, recurses := true, plainKeys := false, apart := false }
def FnExactCompleteArcSaid : Prop := fnExactCompleteArcRow.holds Try.pinned (OpenSpec.ofChange fnExactCompleteArcSpec)

/-- ITS FALSE NEIGHBOUR: 'it returns false'. Refute it at one input. -/
def fnExactCompleteArcWrong : ChangeSpec := { name := "fnExactCompleteArc", fn := fun _ => fun
  | [d1, d2] => { results := [.lit (.bool false)], args := [d1, d2] }
  | _ => none }
def FnExactCompleteArcWrongFalsely : Prop := fnExactCompleteArcRow.holds Try.pinned (OpenSpec.ofChange fnExactCompleteArcWrong)

/-- 'laws.FnExactIsArc': WHATEVER THE INPUT: true; the input reads as it did. -/
def fnExactIsArcSpec : ChangeSpec := { name := "fnExactIsArc", fn := fun _ => fun
  | [d1, d2] => { results := [.lit (.bool true)], args := [d1, d2] }
  | _ => none }
def fnExactIsArcRow : OpenClaim := { program := "ytmcmbpoebhjecaa", sum := "c80a5aba57a42805f69fa144ba293a0b185875252cfa4cdfa0725aaaf726814d", func := "loop.example/g01310/laws.FnExactIsArc", spec := "fnExactIsArc", unfollowed := true, recurses := true, plainKeys := false, apart := false }
def FnExactIsArcSaid : Prop := fnExactIsArcRow.holds Try.pinned (OpenSpec.ofChange fnExactIsArcSpec)

/-- ITS FALSE NEIGHBOUR: 'it returns false'. Refute it at one input. -/
def fnExactIsArcWrong : ChangeSpec := { name := "fnExactIsArc", fn := fun _ => fun
  | [d1, d2] => { results := [.lit (.bool false)], args := [d1, d2] }
  | _ => none }
def FnExactIsArcWrongFalsely : Prop := fnExactIsArcRow.holds Try.pinned (OpenSpec.ofChange fnExactIsArcWrong)

/-- 'laws.FnExactIsBlocking': WHATEVER THE INPUT: true; the input reads as it did. -/
def fnExactIsBlockingSpec : ChangeSpec := { name := "fnExactIsBlocking", fn := fun _ => fun
  | [d1, d2] => { results := [.lit (.bool true)], args := [d1, d2] }
  | _ => none }
def fnExactIsBlockingRow : OpenClaim := { program := "ytmcmbpoebhjecaa", sum := "c80a5aba57a42805f69fa144ba293a0b185875252cfa4cdfa0725aaaf726814d", func := "loop.example/g01310/laws.FnExactIsBlocking", spec := "fnExactIsBlocking", unfollowed := true, recurses := true, plainKeys := false, apart := false }
def FnExactIsBlockingSaid : Prop := fnExactIsBlockingRow.holds Try.pinned (OpenSpec.ofChange fnExactIsBlockingSpec)

/-- ITS FALSE NEIGHBOUR: 'it returns false'. Refute it at one input. -/
def fnExactIsBlockingWrong : ChangeSpec := { name := "fnExactIsBlocking", fn := fun _ => fun
  | [d1, d2] => { results := [.lit (.bool false)], args := [d1, d2] }
  | _ => none }
def FnExactIsBlockingWrongFalsely : Prop := fnExactIsBlockingRow.holds Try.pinned (OpenSpec.ofChange fnExactIsBlockingWrong)

/-- 'laws.FnExactSecantNumbers': WHATEVER THE INPUT: true; the input reads as it did. -/
def fnExactSecantNumbersSpec : ChangeSpec := { name := "fnExactSecantNumbers", fn := fun _ => fun
  | [d1, d2] => { results := [.lit (.bool true)], args := [d1, d2] }
  | _ => none }
def fnExactSecantNumbersRow : OpenClaim := { program := "ytmcmbpoebhjecaa", sum := "c80a5aba57a42805f69fa144ba293a0b185875252cfa4cdfa0725aaaf726814d", func := "loop.example/g01310/laws.FnExactSecantNumbers", spec := "fnExactSecantNumbers", unfollowed := true, recurses := true, plainKeys := false, apart := false }
def FnExactSecantNumbersSaid : Prop := fnExactSecantNumbersRow.holds Try.pinned (OpenSpec.ofChange fnExactSecantNumbersSpec)

/-- ITS FALSE NEIGHBOUR: 'it returns false'. Refute it at one input. -/
def fnExactSecantNumbersWrong : ChangeSpec := { name := "fnExactSecantNumbers", fn := fun _ => fun
  | [d1, d2] => { results := [.lit (.bool false)], args := [d1, d2] }
  | _ => none }
def FnExactSecantNumbersWrongFalsely : Prop := fnExactSecantNumbersRow.holds Try.pinned (OpenSpec.ofChange fnExactSecantNumbersWrong)

/-- 'laws.FnExactTangentsOfSet': WHATEVER THE INPUT: true; the input reads as it did. -/
def fnExactTangentsOfSetSpec : ChangeSpec := { name := "fnExactTangentsOfSet", fn := fun _ => fun
  | [d1, d2] => { results := [.lit (.bool true)], args := [d1, d2] }
  | _ => none }
def fnExactTangentsOfSetRow : OpenClaim := { program := "ytmcmbpoebhjecaa", sum := "c80a5aba57a42805f69fa144ba293a0b185875252cfa4cdfa0725aaaf726814d", func := "loop.example/g01310/laws.FnExactTangentsOfSet", spec := "fnExactTangentsOfSet", unfollowed := true, recurses := true, plainKeys := false, apart := false }
def FnExactTangentsOfSetSaid : Prop := fnExactTangentsOfSetRow.holds Try.pinned (OpenSpec.ofChange fnExactTangentsOfSetSpec)

/-- ITS FALSE NEIGHBOUR: 'it returns false'. Refute it at one input. -/
def fnExactTangentsOfSetWrong : ChangeSpec := { name := "fnExactTangentsOfSet", fn := fun _ => fun
  | [d1, d2] => { results := [.lit (.bool false)], args := [d1, d2] }
  | _ => none }
def FnExactTangentsOfSetWrongFalsely : Prop := fnExactTangentsOfSetRow.holds Try.pinned (OpenSpec.ofChange fnExactTangentsOfSetWrong)

/-- 'laws.FnExactIsLeastBlocking': WHATEVER THE INPUT: true; the input reads as it did. -/
def fnExactIsLeastBlockingSpec : ChangeSpec := { name := "fnExactIsLeastBlocking", fn := fun _ => fun
  | [d1, d2] => { results := [.lit (.bool true)], args := [d1, d2] }
  | _ => none }
def fnExactIsLeastBlockingRow : OpenClaim := { program := "ytmcmbpoebhjecaa", sum := "c80a5aba57a42805f69fa144ba293a0b185875252cfa4cdfa0725aaaf726814d", func := "loop.example/g01310/laws.FnExactIsLeastBlocking", spec := "fnExactIsLeastBlocking", unfollowed := true, recurses := true, plainKeys := false, apart := false }
def FnExactIsLeastBlockingSaid : Prop := fnExactIsLeastBlockingRow.holds Try.pinned (OpenSpec.ofChange fnExactIsLeastBlockingSpec)

/-- ITS FALSE NEIGHBOUR: 'it returns false'. Refute it at one input. -/
def fnExactIsLeastBlockingWrong : ChangeSpec := { name := "fnExactIsLeastBlocking", fn := fun _ => fun
  | [d1, d2] => { results := [.lit (.bool false)], args := [d1, d2] }
  | _ => none }
def FnExactIsLeastBlockingWrongFalsely : Prop := fnExactIsLeastBlockingRow.holds Try.pinned (OpenSpec.ofChange fnExactIsLeastBlockingWrong)

/-- 'laws.FnExactThinBlocking': WHATEVER THE INPUT: true; the input reads as it did. -/
def fnExactThinBlockingSpec : ChangeSpec := { name := "fnExactThinBlocking", fn := fun _ => fun
  | [d1, d2] => { results := [.lit (.bool true)], args := [d1, d2] }
  | _ => none }
def fnExactThinBlockingRow : OpenClaim := { program := "ytmcmbpoebhjecaa", sum := "c80a5aba57a42805f69fa144ba293a0b185875252cfa4cdfa0725aaaf726814d", func := "loop.example/g01310/laws.FnExactThinBlocking", spec := "fnExactThinBlocking", unfollowed := true, recurses := true, plainKeys := false, apart := false }
def FnExactThinBlockingSaid : Prop := fnExactThinBlockingRow.holds Try.pinned (OpenSpec.ofChange fnExactThinBlockingSpec)

/-- ITS FALSE NEIGHBOUR: 'it returns false'. Refute it at one input. -/
def fnExactThinBlockingWrong : ChangeSpec := { name := "fnExactThinBlocking", fn := fun _ => fun
  | [d1, d2] => { results := [.lit (.bool false)], args := [d1, d2] }
  | _ => none }
def FnExactThinBlockingWrongFalsely : Prop := fnExactThinBlockingRow.holds Try.pinned (OpenSpec.ofChange fnExactThinBlockingWrong)

/-- 'laws.FnExactIsCompleteArc': WHATEVER THE INPUT: true; the input reads as it did. -/
def fnExactIsCompleteArcSpec : ChangeSpec := { name := "fnExactIsCompleteArc", fn := fun _ => fun
  | [d1, d2] => { results := [.lit (.bool true)], args := [d1, d2] }
  | _ => none }
def fnExactIsCompleteArcRow : OpenClaim := { program := "ytmcmbpoebhjecaa", sum := "c80a5aba57a42805f69fa144ba293a0b185875252cfa4cdfa0725aaaf726814d", func := "loop.example/g01310/laws.FnExactIsCompleteArc", spec := "fnExactIsCompleteArc", unfollowed := true, recurses := true, plainKeys := false, apart := false }
def FnExactIsCompleteArcSaid : Prop := fnExactIsCompleteArcRow.holds Try.pinned (OpenSpec.ofChange fnExactIsCompleteArcSpec)

/-- ITS FALSE NEIGHBOUR: 'it returns false'. Refute it at one input. -/
def fnExactIsCompleteArcWrong : ChangeSpec := { name := "fnExactIsCompleteArc", fn := fun _ => fun
  | [d1, d2] => { results := [.lit (.bool false)], args := [d1, d2] }
  | _ => none }
def FnExactIsCompleteArcWrongFalsely : Prop := fnExactIsCompleteArcRow.holds Try.pinned (OpenSpec.ofChange fnExactIsCompleteArcWrong)

/-- 'laws.FnExactFreePoints': WHATEVER THE INPUT: true; the input reads as it did. -/
def fnExactFreePointsSpec : ChangeSpec := { name := "fnExactFreePoints", fn := fun _ => fun
  | [d1, d2] => { results := [.lit (.bool true)], args := [d1, d2] }
  | _ => none }
def fnExactFreePointsRow : OpenClaim := { program := "ytmcmbpoebhjecaa", sum := "c80a5aba57a42805f69fa144ba293a0b185875252cfa4cdfa0725aaaf726814d", func := "loop.example/g01310/laws.FnExactFreePoints", spec := "fnExactFreePoints", unfollowed := true, recurses := true, plainKeys := false, apart := false }
def FnExactFreePointsSaid : Prop := fnExactFreePointsRow.holds Try.pinned (OpenSpec.ofChange fnExactFreePointsSpec)

/-- ITS FALSE NEIGHBOUR: 'it returns false'. Refute it at one input. -/
def fnExactFreePointsWrong : ChangeSpec := { name := "fnExactFreePoints", fn := fun _ => fun
  | [d1, d2] => { results := [.lit (.bool false)], args := [d1, d2] }
  | _ => none }
def FnExactFreePointsWrongFalsely : Prop := fnExactFreePointsRow.holds Try.pinned (OpenSpec.ofChange fnExactFreePointsWrong)

/-- 'laws.FnExactSetOf': WHATEVER THE INPUT: true; the input reads as it did. -/
def fnExactSetOfSpec : ChangeSpec := { name := "fnExactSetOf", fn := fun _ => fun
  | [d1, d2] => { results := [.lit (.bool true)], args := [d1, d2] }
  | _ => none }
def fnExactSetOfRow : OpenClaim := { program := "ytmcmbpoebhjecaa", sum := "c80a5aba57a42805f69fa144ba293a0b185875252cfa4cdfa0725aaaf726814d", func := "loop.example/g01310/laws.FnExactSetOf", spec := "fnExactSetOf", unfollowed := true, recurses := true, plainKeys := false, apart := false }
def FnExactSetOfSaid : Prop := fnExactSetOfRow.holds Try.pinned (OpenSpec.ofChange fnExactSetOfSpec)

/-- ITS FALSE NEIGHBOUR: 'it returns false'. Refute it at one input. -/
def fnExactSetOfWrong : ChangeSpec := { name := "fnExactSetOf", fn := fun _ => fun
  | [d1, d2] => { results := [.lit (.bool false)], args := [d1, d2] }
  | _ => none }
def FnExactSetOfWrongFalsely : Prop := fnExactSetOfRow.holds Try.pinned (OpenSpec.ofChange fnExactSetOfWrong)

/-- 'laws.FnExactGreedyArc': WHATEVER THE INPUT: true; the input reads as it did. -/
def fnExactGreedyArcSpec : ChangeSpec := { name := "fnExactGreedyArc", fn := fun _ => fun
  | [d1, d2] => { results := [.lit (.bool true)], args := [d1, d2] }
  | _ => none }
def fnExactGreedyArcRow : OpenClaim := { program := "ytmcmbpoebhjecaa", sum := "c80a5aba57a42805f69fa144ba293a0b185875252cfa4cdfa0725aaaf726814d", func := "loop.example/g01310/laws.FnExactGreedyArc", spec := "fnExactGreedyArc", unfollowed := true, recurses := true, plainKeys := false, apart := false }
def FnExactGreedyArcSaid : Prop := fnExactGreedyArcRow.holds Try.pinned (OpenSpec.ofChange fnExactGreedyArcSpec)

/-- ITS FALSE NEIGHBOUR: 'it returns false'. Refute it at one input. -/
def fnExactGreedyArcWrong : ChangeSpec := { name := "fnExactGreedyArc", fn := fun _ => fun
  | [d1, d2] => { results := [.lit (.bool false)], args := [d1, d2] }
  | _ => none }
def FnExactGreedyArcWrongFalsely : Prop := fnExactGreedyArcRow.holds Try.pinned (OpenSpec.ofChange fnExactGreedyArcWrong)

/-- 'laws.FnExactHullOfSet': WHATEVER THE INPUT: true; the input reads as it did. -/
def fnExactHullOfSetSpec : ChangeSpec := { name := "fnExactHullOfSet", fn := fun _ => fun
  | [d1, d2] => { results := [.lit (.bool true)], args := [d1, d2] }
  | _ => none }
def fnExactHullOfSetRow : OpenClaim := { program := "ytmcmbpoebhjecaa", sum := "c80a5aba57a42805f69fa144ba293a0b185875252cfa4cdfa0725aaaf726814d", func := "loop.example/g01310/laws.FnExactHullOfSet", spec := "fnExactHullOfSet", unfollowed := true, recurses := true, plainKeys := false, apart := false }
def FnExactHullOfSetSaid : Prop := fnExactHullOfSetRow.holds Try.pinned (OpenSpec.ofChange fnExactHullOfSetSpec)

/-- ITS FALSE NEIGHBOUR: 'it returns false'. Refute it at one input. -/
def fnExactHullOfSetWrong : ChangeSpec := { name := "fnExactHullOfSet", fn := fun _ => fun
  | [d1, d2] => { results := [.lit (.bool false)], args := [d1, d2] }
  | _ => none }
def FnExactHullOfSetWrongFalsely : Prop := fnExactHullOfSetRow.holds Try.pinned (OpenSpec.ofChange fnExactHullOfSetWrong)

/- THE SECOND FORM. 'bulk': how many values and letters a reading holds, each counted each time it is reached (what is shared counts as often as it is met; a slice's spare places count too). A statement '..UptoSaid' is the law's where the arguments, and the package variables that the reading takes, are together of bulk at most 1048576: NARROWER than '..Said'. Prove '..Said' where nothing that the law and all that it calls make is longer than what came in: it says more and counts as full. Else prove '..UptoSaid'. A law counts once. -/
mutual
def uptoBulk {H : Type} : DataW H → Nat
  | .lit (.string bytes) => bytes.length + 1
  | .lit _ => 1
  | .nil => 1
  | .ptr d => uptoBulk d + 1
  | .slice elems spare => uptoBulkAll elems + uptoBulkAll spare + 1
  | .agg parts => uptoBulkAll parts + 1
  | .iface _ d => uptoBulk d + 1
  | .map entries => uptoBulkEntries entries + 1
  | .held _ => 1
def uptoBulkAll {H : Type} : List (DataW H) → Nat
  | [] => 0
  | d :: r => uptoBulk d + uptoBulkAll r
def uptoBulkEntries {H : Type} : List (Lit × DataW H) → Nat
  | [] => 0
  | x :: r => uptoBulkEntry x + uptoBulkEntries r
def uptoBulkEntry {H : Type} : Lit × DataW H → Nat
  | (.string bytes, d) => bytes.length + uptoBulk d + 1
  | (_, d) => uptoBulk d + 1
 end
def uptoSmall : (H : Type) → List (DataW H) → Bool := fun _ ds => decide (uptoBulkAll ds ≤ 1048576)
def OpenSpec.upto (s : _root_.Go.ChangeSpec) : _root_.Go.OpenSpec := { _root_.Go.OpenSpec.ofChange s with cond := some uptoSmall }

/-- 'laws.FnExactCompleteArc', WHERE WHAT IT READS IS OF BULK AT MOST 1048576: true; the input reads as it did. -/
def fnExactCompleteArcUptoRow : OpenClaim := { program := "ytmcmbpoebhjecaa", sum := "c80a5aba57a42805f69fa144ba293a0b185875252cfa4cdfa0725aaaf726814d", func := "loop.example/g01310/laws.FnExactCompleteArc", spec := "fnExactCompleteArc", unfollowed := true, recurses := true, plainKeys := false, apart := false, narrowed := true }
def FnExactCompleteArcUptoSaid : Prop := fnExactCompleteArcUptoRow.holds Try.pinned (OpenSpec.upto fnExactCompleteArcSpec)

/-- 'laws.FnExactIsArc', WHERE WHAT IT READS IS OF BULK AT MOST 1048576: true; the input reads as it did. -/
def fnExactIsArcUptoRow : OpenClaim := { program := "ytmcmbpoebhjecaa", sum := "c80a5aba57a42805f69fa144ba293a0b185875252cfa4cdfa0725aaaf726814d", func := "loop.example/g01310/laws.FnExactIsArc", spec := "fnExactIsArc", unfollowed := true, recurses := true, plainKeys := false, apart := false, narrowed := true }
def FnExactIsArcUptoSaid : Prop := fnExactIsArcUptoRow.holds Try.pinned (OpenSpec.upto fnExactIsArcSpec)

/-- 'laws.FnExactIsBlocking', WHERE WHAT IT READS IS OF BULK AT MOST 1048576: true; the input reads as it did. -/
def fnExactIsBlockingUptoRow : OpenClaim := { program := "ytmcmbpoebhjecaa", sum := "c80a5aba57a42805f69fa144ba293a0b185875252cfa4cdfa0725aaaf726814d", func := "loop.example/g01310/laws.FnExactIsBlocking", spec := "fnExactIsBlocking", unfollowed := true, recurses := true, plainKeys := false, apart := false, narrowed := true }
def FnExactIsBlockingUptoSaid : Prop := fnExactIsBlockingUptoRow.holds Try.pinned (OpenSpec.upto fnExactIsBlockingSpec)

/-- 'laws.FnExactSecantNumbers', WHERE WHAT IT READS IS OF BULK AT MOST 1048576: true; the input reads as it did. -/
def fnExactSecantNumbersUptoRow : OpenClaim := { program := "ytmcmbpoebhjecaa", sum := "c80a5aba57a42805f69fa144ba293a0b185875252cfa4cdfa0725aaaf726814d", func := "loop.example/g01310/laws.FnExactSecantNumbers", spec := "fnExactSecantNumbers", unfollowed := true, recurses := true, plainKeys := false, apart := false, narrowed := true }
def FnExactSecantNumbersUptoSaid : Prop := fnExactSecantNumbersUptoRow.holds Try.pinned (OpenSpec.upto fnExactSecantNumbersSpec)

/-- 'laws.FnExactTangentsOfSet', WHERE WHAT IT READS IS OF BULK AT MOST 1048576: true; the input reads as it did. -/
def fnExactTangentsOfSetUptoRow : OpenClaim := { program := "ytmcmbpoebhjecaa", sum := "c80a5aba57a42805f69fa144ba293a0b185875252cfa4cdfa0725aaaf726814d", func := "loop.example/g01310/laws.FnExactTangentsOfSet", spec := "fnExactTangentsOfSet", unfollowed := true, recurses := true, plainKeys := false, apart := false, narrowed := true }
def FnExactTangentsOfSetUptoSaid : Prop := fnExactTangentsOfSetUptoRow.holds Try.pinned (OpenSpec.upto fnExactTangentsOfSetSpec)

/-- 'laws.FnExactIsLeastBlocking', WHERE WHAT IT READS IS OF BULK AT MOST 1048576: true; the input reads as it did. -/
def fnExactIsLeastBlockingUptoRow : OpenClaim := { program := "ytmcmbpoebhjecaa", sum := "c80a5aba57a42805f69fa144ba293a0b185875252cfa4cdfa0725aaaf726814d", func := "loop.example/g01310/laws.FnExactIsLeastBlocking", spec := "fnExactIsLeastBlocking", unfollowed := true, recurses := true, plainKeys := false, apart := false, narrowed := true }
def FnExactIsLeastBlockingUptoSaid : Prop := fnExactIsLeastBlockingUptoRow.holds Try.pinned (OpenSpec.upto fnExactIsLeastBlockingSpec)

/-- 'laws.FnExactThinBlocking', WHERE WHAT IT READS IS OF BULK AT MOST 1048576: true; the input reads as it did. -/
def fnExactThinBlockingUptoRow : OpenClaim := { program := "ytmcmbpoebhjecaa", sum := "c80a5aba57a42805f69fa144ba293a0b185875252cfa4cdfa0725aaaf726814d", func := "loop.example/g01310/laws.FnExactThinBlocking", spec := "fnExactThinBlocking", unfollowed := true, recurses := true, plainKeys := false, apart := false, narrowed := true }
def FnExactThinBlockingUptoSaid : Prop := fnExactThinBlockingUptoRow.holds Try.pinned (OpenSpec.upto fnExactThinBlockingSpec)

/-- 'laws.FnExactIsCompleteArc', WHERE WHAT IT READS IS OF BULK AT MOST 1048576: true; the input reads as it did. -/
def fnExactIsCompleteArcUptoRow : OpenClaim := { program := "ytmcmbpoebhjecaa", sum := "c80a5aba57a42805f69fa144ba293a0b185875252cfa4cdfa0725aaaf726814d", func := "loop.example/g01310/laws.FnExactIsCompleteArc", spec := "fnExactIsCompleteArc", unfollowed := true, recurses := true, plainKeys := false, apart := false, narrowed := true }
def FnExactIsCompleteArcUptoSaid : Prop := fnExactIsCompleteArcUptoRow.holds Try.pinned (OpenSpec.upto fnExactIsCompleteArcSpec)

/-- 'laws.FnExactFreePoints', WHERE WHAT IT READS IS OF BULK AT MOST 1048576: true; the input reads as it did. -/
def fnExactFreePointsUptoRow : OpenClaim := { program := "ytmcmbpoebhjecaa", sum := "c80a5aba57a42805f69fa144ba293a0b185875252cfa4cdfa0725aaaf726814d", func := "loop.example/g01310/laws.FnExactFreePoints", spec := "fnExactFreePoints", unfollowed := true, recurses := true, plainKeys := false, apart := false, narrowed := true }
def FnExactFreePointsUptoSaid : Prop := fnExactFreePointsUptoRow.holds Try.pinned (OpenSpec.upto fnExactFreePointsSpec)

/-- 'laws.FnExactSetOf', WHERE WHAT IT READS IS OF BULK AT MOST 1048576: true; the input reads as it did. -/
def fnExactSetOfUptoRow : OpenClaim := { program := "ytmcmbpoebhjecaa", sum := "c80a5aba57a42805f69fa144ba293a0b185875252cfa4cdfa0725aaaf726814d", func := "loop.example/g01310/laws.FnExactSetOf", spec := "fnExactSetOf", unfollowed := true, recurses := true, plainKeys := false, apart := false, narrowed := true }
def FnExactSetOfUptoSaid : Prop := fnExactSetOfUptoRow.holds Try.pinned (OpenSpec.upto fnExactSetOfSpec)

/-- 'laws.FnExactGreedyArc', WHERE WHAT IT READS IS OF BULK AT MOST 1048576: true; the input reads as it did. -/
def fnExactGreedyArcUptoRow : OpenClaim := { program := "ytmcmbpoebhjecaa", sum := "c80a5aba57a42805f69fa144ba293a0b185875252cfa4cdfa0725aaaf726814d", func := "loop.example/g01310/laws.FnExactGreedyArc", spec := "fnExactGreedyArc", unfollowed := true, recurses := true, plainKeys := false, apart := false, narrowed := true }
def FnExactGreedyArcUptoSaid : Prop := fnExactGreedyArcUptoRow.holds Try.pinned (OpenSpec.upto fnExactGreedyArcSpec)

/-- 'laws.FnExactHullOfSet', WHERE WHAT IT READS IS OF BULK AT MOST 1048576: true; the input reads as it did. -/
def fnExactHullOfSetUptoRow : OpenClaim := { program := "ytmcmbpoebhjecaa", sum := "c80a5aba57a42805f69fa144ba293a0b185875252cfa4cdfa0725aaaf726814d", func := "loop.example/g01310/laws.FnExactHullOfSet", spec := "fnExactHullOfSet", unfollowed := true, recurses := true, plainKeys := false, apart := false, narrowed := true }
def FnExactHullOfSetUptoSaid : Prop := fnExactHullOfSetUptoRow.holds Try.pinned (OpenSpec.upto fnExactHullOfSetSpec)

end Rows
end Go.Proofs.Ytmcmbpoebhjecaa
