/-
  No cell of these rows narrows 'for every input' (looked for: loops, veiled, ifaces, maps, wideKeys, modest, calm, conditions, laid).
  DERIVED. THE GIVEN ROWS OF THIS SEAT. 8 by the template 'for every input the law returns true; each argument reads behind the call as it read before'; 0 by the template 'total and deterministic' (their statements: YtoiolpgmilobnaaTotals.lean).
  GIVEN WITH THE SEED: the statements are not yours to turn. If you find one false, say at which input.
  Laid BY PROGRAM, IN A SANDBOX (cutbox-rows.mjs): the forced cells as the released guide's own fill.sh prints them over the translation 08cfde9bbdfd8861… (all of the seat's roots in one cut). By AI agents, Wed Nov 11 2026. No macro, syntax, notation, axiom, sorry.
-/
import Derived.Test.YtoiolpgmilobnaaChecked
import GoSem.Claim
import GoSem.ClaimJoined
import GoSem.ClaimMapViews
import Derived.JoinedTies
import Derived.KernelRfl
namespace Go.Proofs.Ytoiolpgmilobnaa
/- THE CELL 'sum', in the pinned program and in every row, IS THE sha256 OF THE DUMP (.gsa) THAT YtoiolpgmilobnaaProg.lean LOADS. Nothing in Lean hashes anything: it is a label: what it is worth is what the hold of that sum in a sandbox is worth. -/
noncomputable def Try.pinned : Pinned := { name := "ytoiolpgmilobnaa", sum := "08cfde9bbdfd88618874129d63273f833efb98b7593ba2a9fe836561726a09e4", checked := Try.checked }
namespace Rows
def none {H : Type} : Left H := { results := [], args := [] }

/-- 'laws.FnExactKindOfConic': WHATEVER THE INPUT: true; the input reads as it did. -/
def fnExactKindOfConicSpec : ChangeSpec := { name := "fnExactKindOfConic", fn := fun _ => fun
  | [d1, d2] => { results := [.lit (.bool true)], args := [d1, d2] }
  | _ => none }
def fnExactKindOfConicRow : OpenClaim := { program := "ytoiolpgmilobnaa", sum := "08cfde9bbdfd88618874129d63273f833efb98b7593ba2a9fe836561726a09e4", func := "loop.example/g01310/laws.FnExactKindOfConic", spec := "fnExactKindOfConic", unfollowed := true, recurses := true, plainKeys := false, apart := false }
def FnExactKindOfConicSaid : Prop := fnExactKindOfConicRow.holds Try.pinned (OpenSpec.ofChange fnExactKindOfConicSpec)

/-- ITS FALSE NEIGHBOUR: 'it returns false'. Refute it at one input. -/
def fnExactKindOfConicWrong : ChangeSpec := { name := "fnExactKindOfConic", fn := fun _ => fun
  | [d1, d2] => { results := [.lit (.bool false)], args := [d1, d2] }
  | _ => none }
def FnExactKindOfConicWrongFalsely : Prop := fnExactKindOfConicRow.holds Try.pinned (OpenSpec.ofChange fnExactKindOfConicWrong)

/-- 'laws.FnExactDualConic': WHATEVER THE INPUT: true; the input reads as it did. -/
def fnExactDualConicSpec : ChangeSpec := { name := "fnExactDualConic", fn := fun _ => fun
  | [d1, d2] => { results := [.lit (.bool true)], args := [d1, d2] }
  | _ => none }
def fnExactDualConicRow : OpenClaim := { program := "ytoiolpgmilobnaa", sum := "08cfde9bbdfd88618874129d63273f833efb98b7593ba2a9fe836561726a09e4", func := "loop.example/g01310/laws.FnExactDualConic", spec := "fnExactDualConic", unfollowed := true, recurses := true, plainKeys := false, apart := false }
def FnExactDualConicSaid : Prop := fnExactDualConicRow.holds Try.pinned (OpenSpec.ofChange fnExactDualConicSpec)

/-- ITS FALSE NEIGHBOUR: 'it returns false'. Refute it at one input. -/
def fnExactDualConicWrong : ChangeSpec := { name := "fnExactDualConic", fn := fun _ => fun
  | [d1, d2] => { results := [.lit (.bool false)], args := [d1, d2] }
  | _ => none }
def FnExactDualConicWrongFalsely : Prop := fnExactDualConicRow.holds Try.pinned (OpenSpec.ofChange fnExactDualConicWrong)

/-- 'laws.FnExactPoleOf': WHATEVER THE INPUT: true; the input reads as it did. -/
def fnExactPoleOfSpec : ChangeSpec := { name := "fnExactPoleOf", fn := fun _ => fun
  | [d1, d2, d3] => { results := [.lit (.bool true)], args := [d1, d2, d3] }
  | _ => none }
def fnExactPoleOfRow : OpenClaim := { program := "ytoiolpgmilobnaa", sum := "08cfde9bbdfd88618874129d63273f833efb98b7593ba2a9fe836561726a09e4", func := "loop.example/g01310/laws.FnExactPoleOf", spec := "fnExactPoleOf", unfollowed := true, recurses := true, plainKeys := false, apart := false }
def FnExactPoleOfSaid : Prop := fnExactPoleOfRow.holds Try.pinned (OpenSpec.ofChange fnExactPoleOfSpec)

/-- ITS FALSE NEIGHBOUR: 'it returns false'. Refute it at one input. -/
def fnExactPoleOfWrong : ChangeSpec := { name := "fnExactPoleOf", fn := fun _ => fun
  | [d1, d2, d3] => { results := [.lit (.bool false)], args := [d1, d2, d3] }
  | _ => none }
def FnExactPoleOfWrongFalsely : Prop := fnExactPoleOfRow.holds Try.pinned (OpenSpec.ofChange fnExactPoleOfWrong)

/-- 'laws.FnExactPolarTriangle': WHATEVER THE INPUT: true; the input reads as it did. -/
def fnExactPolarTriangleSpec : ChangeSpec := { name := "fnExactPolarTriangle", fn := fun _ => fun
  | [d1, d2, d3] => { results := [.lit (.bool true)], args := [d1, d2, d3] }
  | _ => none }
def fnExactPolarTriangleRow : OpenClaim := { program := "ytoiolpgmilobnaa", sum := "08cfde9bbdfd88618874129d63273f833efb98b7593ba2a9fe836561726a09e4", func := "loop.example/g01310/laws.FnExactPolarTriangle", spec := "fnExactPolarTriangle", unfollowed := true, recurses := true, plainKeys := false, apart := false }
def FnExactPolarTriangleSaid : Prop := fnExactPolarTriangleRow.holds Try.pinned (OpenSpec.ofChange fnExactPolarTriangleSpec)

/-- ITS FALSE NEIGHBOUR: 'it returns false'. Refute it at one input. -/
def fnExactPolarTriangleWrong : ChangeSpec := { name := "fnExactPolarTriangle", fn := fun _ => fun
  | [d1, d2, d3] => { results := [.lit (.bool false)], args := [d1, d2, d3] }
  | _ => none }
def FnExactPolarTriangleWrongFalsely : Prop := fnExactPolarTriangleRow.holds Try.pinned (OpenSpec.ofChange fnExactPolarTriangleWrong)

/-- 'laws.FnExactPascalLine': WHATEVER THE INPUT: true; the input reads as it did. -/
def fnExactPascalLineSpec : ChangeSpec := { name := "fnExactPascalLine", fn := fun _ => fun
  | [d1, d2, d3] => { results := [.lit (.bool true)], args := [d1, d2, d3] }
  | _ => none }
def fnExactPascalLineRow : OpenClaim := { program := "ytoiolpgmilobnaa", sum := "08cfde9bbdfd88618874129d63273f833efb98b7593ba2a9fe836561726a09e4", func := "loop.example/g01310/laws.FnExactPascalLine", spec := "fnExactPascalLine", unfollowed := true, recurses := true, plainKeys := false, apart := false }
def FnExactPascalLineSaid : Prop := fnExactPascalLineRow.holds Try.pinned (OpenSpec.ofChange fnExactPascalLineSpec)

/-- ITS FALSE NEIGHBOUR: 'it returns false'. Refute it at one input. -/
def fnExactPascalLineWrong : ChangeSpec := { name := "fnExactPascalLine", fn := fun _ => fun
  | [d1, d2, d3] => { results := [.lit (.bool false)], args := [d1, d2, d3] }
  | _ => none }
def FnExactPascalLineWrongFalsely : Prop := fnExactPascalLineRow.holds Try.pinned (OpenSpec.ofChange fnExactPascalLineWrong)

/-- 'laws.FnExactCoordinateOf': WHATEVER THE INPUT: true; the input reads as it did. -/
def fnExactCoordinateOfSpec : ChangeSpec := { name := "fnExactCoordinateOf", fn := fun _ => fun
  | [d1, d2, d3, d4] => { results := [.lit (.bool true)], args := [d1, d2, d3, d4] }
  | _ => none }
def fnExactCoordinateOfRow : OpenClaim := { program := "ytoiolpgmilobnaa", sum := "08cfde9bbdfd88618874129d63273f833efb98b7593ba2a9fe836561726a09e4", func := "loop.example/g01310/laws.FnExactCoordinateOf", spec := "fnExactCoordinateOf", unfollowed := true, recurses := true, plainKeys := false, apart := false }
def FnExactCoordinateOfSaid : Prop := fnExactCoordinateOfRow.holds Try.pinned (OpenSpec.ofChange fnExactCoordinateOfSpec)

/-- ITS FALSE NEIGHBOUR: 'it returns false'. Refute it at one input. -/
def fnExactCoordinateOfWrong : ChangeSpec := { name := "fnExactCoordinateOf", fn := fun _ => fun
  | [d1, d2, d3, d4] => { results := [.lit (.bool false)], args := [d1, d2, d3, d4] }
  | _ => none }
def FnExactCoordinateOfWrongFalsely : Prop := fnExactCoordinateOfRow.holds Try.pinned (OpenSpec.ofChange fnExactCoordinateOfWrong)

/-- 'laws.FnExactBrianchonPoint': WHATEVER THE INPUT: true; the input reads as it did. -/
def fnExactBrianchonPointSpec : ChangeSpec := { name := "fnExactBrianchonPoint", fn := fun _ => fun
  | [d1, d2, d3] => { results := [.lit (.bool true)], args := [d1, d2, d3] }
  | _ => none }
def fnExactBrianchonPointRow : OpenClaim := { program := "ytoiolpgmilobnaa", sum := "08cfde9bbdfd88618874129d63273f833efb98b7593ba2a9fe836561726a09e4", func := "loop.example/g01310/laws.FnExactBrianchonPoint", spec := "fnExactBrianchonPoint", unfollowed := true, recurses := true, plainKeys := false, apart := false }
def FnExactBrianchonPointSaid : Prop := fnExactBrianchonPointRow.holds Try.pinned (OpenSpec.ofChange fnExactBrianchonPointSpec)

/-- ITS FALSE NEIGHBOUR: 'it returns false'. Refute it at one input. -/
def fnExactBrianchonPointWrong : ChangeSpec := { name := "fnExactBrianchonPoint", fn := fun _ => fun
  | [d1, d2, d3] => { results := [.lit (.bool false)], args := [d1, d2, d3] }
  | _ => none }
def FnExactBrianchonPointWrongFalsely : Prop := fnExactBrianchonPointRow.holds Try.pinned (OpenSpec.ofChange fnExactBrianchonPointWrong)

/-- 'laws.FnExactHullOfSet': WHATEVER THE INPUT: true; the input reads as it did. -/
def fnExactHullOfSetSpec : ChangeSpec := { name := "fnExactHullOfSet", fn := fun _ => fun
  | [d1, d2] => { results := [.lit (.bool true)], args := [d1, d2] }
  | _ => none }
def fnExactHullOfSetRow : OpenClaim := { program := "ytoiolpgmilobnaa", sum := "08cfde9bbdfd88618874129d63273f833efb98b7593ba2a9fe836561726a09e4", func := "loop.example/g01310/laws.FnExactHullOfSet", spec := "fnExactHullOfSet", unfollowed := true, recurses := true, plainKeys := false, apart := false }
def FnExactHullOfSetSaid : Prop := fnExactHullOfSetRow.holds Try.pinned (OpenSpec.ofChange fnExactHullOfSetSpec)

/-- ITS FALSE NEIGHBOUR: 'it returns false'. Refute it at one input. -/
def fnExactHullOfSetWrong : ChangeSpec := { name := "fnExactHullOfSet", fn := fun _ => fun
  | [d1, d2] => { results := [.lit (.bool false)], args := [d1, d2] }
  | _ => none }
def FnExactHullOfSetWrongFalsely : Prop := fnExactHullOfSetRow.holds Try.pinned (OpenSpec.ofChange fnExactHullOfSetWrong)

/- THE SECOND FORM. 'bulk': how many values and letters a reading holds, each counted each time it is reached (what is shared counts as often as it is met; a slice's spare places count too). A statement '..UptoSaid' is the law's where the arguments, and the package variables that the reading takes, are together of bulk at most 1048576: NARROWER than '..Said'. Prove '..Said' where nothing that the law and all that it calls make is longer than what came in: it says more and counts as full. Else prove '..UptoSaid'. A law counts once. -/
mutual
def uptoBulk {H : Type} : DataW H → Nat
  | .lit (.string bytes) => bytes.length + 1
  | .lit _ => 1
  | .nil => 1
  | .ptr d => uptoBulk d + 1
  | .slice elems spare => uptoBulkAll elems + uptoBulkAll spare + 1
  | .agg parts => uptoBulkAll parts + 1
  | .iface _ d => uptoBulk d + 1
  | .map entries => uptoBulkEntries entries + 1
  | .held _ => 1
def uptoBulkAll {H : Type} : List (DataW H) → Nat
  | [] => 0
  | d :: r => uptoBulk d + uptoBulkAll r
def uptoBulkEntries {H : Type} : List (Lit × DataW H) → Nat
  | [] => 0
  | x :: r => uptoBulkEntry x + uptoBulkEntries r
def uptoBulkEntry {H : Type} : Lit × DataW H → Nat
  | (.string bytes, d) => bytes.length + uptoBulk d + 1
  | (_, d) => uptoBulk d + 1
 end
def uptoSmall : (H : Type) → List (DataW H) → Bool := fun _ ds => decide (uptoBulkAll ds ≤ 1048576)
def OpenSpec.upto (s : _root_.Go.ChangeSpec) : _root_.Go.OpenSpec := { _root_.Go.OpenSpec.ofChange s with cond := some uptoSmall }

/-- 'laws.FnExactKindOfConic', WHERE WHAT IT READS IS OF BULK AT MOST 1048576: true; the input reads as it did. -/
def fnExactKindOfConicUptoRow : OpenClaim := { program := "ytoiolpgmilobnaa", sum := "08cfde9bbdfd88618874129d63273f833efb98b7593ba2a9fe836561726a09e4", func := "loop.example/g01310/laws.FnExactKindOfConic", spec := "fnExactKindOfConic", unfollowed := true, recurses := true, plainKeys := false, apart := false, narrowed := true }
def FnExactKindOfConicUptoSaid : Prop := fnExactKindOfConicUptoRow.holds Try.pinned (OpenSpec.upto fnExactKindOfConicSpec)

/-- 'laws.FnExactDualConic', WHERE WHAT IT READS IS OF BULK AT MOST 1048576: true; the input reads as it did. -/
def fnExactDualConicUptoRow : OpenClaim := { program := "ytoiolpgmilobnaa", sum := "08cfde9bbdfd88618874129d63273f833efb98b7593ba2a9fe836561726a09e4", func := "loop.example/g01310/laws.FnExactDualConic", spec := "fnExactDualConic", unfollowed := true, recurses := true, plainKeys := false, apart := false, narrowed := true }
def FnExactDualConicUptoSaid : Prop := fnExactDualConicUptoRow.holds Try.pinned (OpenSpec.upto fnExactDualConicSpec)

/-- 'laws.FnExactPoleOf', WHERE WHAT IT READS IS OF BULK AT MOST 1048576: true; the input reads as it did. -/
def fnExactPoleOfUptoRow : OpenClaim := { program := "ytoiolpgmilobnaa", sum := "08cfde9bbdfd88618874129d63273f833efb98b7593ba2a9fe836561726a09e4", func := "loop.example/g01310/laws.FnExactPoleOf", spec := "fnExactPoleOf", unfollowed := true, recurses := true, plainKeys := false, apart := false, narrowed := true }
def FnExactPoleOfUptoSaid : Prop := fnExactPoleOfUptoRow.holds Try.pinned (OpenSpec.upto fnExactPoleOfSpec)

/-- 'laws.FnExactPolarTriangle', WHERE WHAT IT READS IS OF BULK AT MOST 1048576: true; the input reads as it did. -/
def fnExactPolarTriangleUptoRow : OpenClaim := { program := "ytoiolpgmilobnaa", sum := "08cfde9bbdfd88618874129d63273f833efb98b7593ba2a9fe836561726a09e4", func := "loop.example/g01310/laws.FnExactPolarTriangle", spec := "fnExactPolarTriangle", unfollowed := true, recurses := true, plainKeys := false, apart := false, narrowed := true }
def FnExactPolarTriangleUptoSaid : Prop := fnExactPolarTriangleUptoRow.holds Try.pinned (OpenSpec.upto fnExactPolarTriangleSpec)

/-- 'laws.FnExactPascalLine', WHERE WHAT IT READS IS OF BULK AT MOST 1048576: true; the input reads as it did. -/
def fnExactPascalLineUptoRow : OpenClaim := { program := "ytoiolpgmilobnaa", sum := "08cfde9bbdfd88618874129d63273f833efb98b7593ba2a9fe836561726a09e4", func := "loop.example/g01310/laws.FnExactPascalLine", spec := "fnExactPascalLine", unfollowed := true, recurses := true, plainKeys := false, apart := false, narrowed := true }
def FnExactPascalLineUptoSaid : Prop := fnExactPascalLineUptoRow.holds Try.pinned (OpenSpec.upto fnExactPascalLineSpec)

/-- 'laws.FnExactCoordinateOf', WHERE WHAT IT READS IS OF BULK AT MOST 1048576: true; the input reads as it did. -/
def fnExactCoordinateOfUptoRow : OpenClaim := { program := "ytoiolpgmilobnaa", sum := "08cfde9bbdfd88618874129d63273f833efb98b7593ba2a9fe836561726a09e4", func := "loop.example/g01310/laws.FnExactCoordinateOf", spec := "fnExactCoordinateOf", unfollowed := true, recurses := true, plainKeys := false, apart := false, narrowed := true }
def FnExactCoordinateOfUptoSaid : Prop := fnExactCoordinateOfUptoRow.holds Try.pinned (OpenSpec.upto fnExactCoordinateOfSpec)

/-- 'laws.FnExactBrianchonPoint', WHERE WHAT IT READS IS OF BULK AT MOST 1048576: true; the input reads as it did. -/
def fnExactBrianchonPointUptoRow : OpenClaim := { program := "ytoiolpgmilobnaa", sum := "08cfde9bbdfd88618874129d63273f833efb98b7593ba2a9fe836561726a09e4", func := "loop.example/g01310/laws.FnExactBrianchonPoint", spec := "fnExactBrianchonPoint", unfollowed := true, recurses := true, plainKeys := false, apart := false, narrowed := true }
def FnExactBrianchonPointUptoSaid : Prop := fnExactBrianchonPointUptoRow.holds Try.pinned (OpenSpec.upto fnExactBrianchonPointSpec)

/-- 'laws.FnExactHullOfSet', WHERE WHAT IT READS IS OF BULK AT MOST 1048576: true; the input reads as it did. -/
def fnExactHullOfSetUptoRow : OpenClaim := { program := "ytoiolpgmilobnaa", sum := "08cfde9bbdfd88618874129d63273f833efb98b7593ba2a9fe836561726a09e4", func := "loop.example/g01310/laws.FnExactHullOfSet", spec := "fnExactHullOfSet", unfollowed := true, recurses := true, plainKeys := false, apart := false, narrowed := true }
def FnExactHullOfSetUptoSaid : Prop := fnExactHullOfSetUptoRow.holds Try.pinned (OpenSpec.upto fnExactHullOfSetSpec)

end Rows
end Go.Proofs.Ytoiolpgmilobnaa
