/-
  NARROWER THAN 'FOR EVERY INPUT', by the rows' own cells (each row's printed sentence says how): FnExactIsOnQuadric: laid · FnExactCountSpots: laid · FnExactSpotsOfQuadric: laid · FnExactPolarPlane: laid · FnExactSingularSpots: laid · FnExactRankOfQuadric: laid · FnExactSectionOfQuadric: laid · FnExactQuadricsThrough: laid · FnExactQuadricOfLines: laid.
  DERIVED. THE GIVEN ROWS OF THIS SEAT. 9 by the template 'for every input the law returns true; each argument reads behind the call as it read before'; 0 by the template 'total and deterministic' (their statements: YtendffbpmpobnaaDoorTotals.lean).
  GIVEN WITH THE SEED: the statements are not yours to turn. If you find one false, say at which input.
  Laid BY PROGRAM, IN A SANDBOX (cutbox-rows.mjs): the forced cells as the released guide's own fill.sh prints them over the translation 5122c83b8974972c… (all of the seat's roots in one cut). By AI agents, Wed Nov 11 2026. No macro, syntax, notation, axiom, sorry.
-/
import Derived.Test.YtendffbpmpobnaaDoorChecked
import GoSem.Claim
import GoSem.ClaimJoined
import GoSem.ClaimMapViews
import Derived.JoinedTies
import Derived.KernelRfl
namespace Go.Proofs.YtendffbpmpobnaaDoor
/- THE CELL 'sum', in the pinned program and in every row, IS THE sha256 OF THE DUMP (.gsa) THAT YtendffbpmpobnaaDoorProg.lean LOADS. Nothing in Lean hashes anything: it is a label: what it is worth is what the hold of that sum in a sandbox is worth. -/
noncomputable def Tryd.pinned : Pinned := { name := "ytendffbpmpobnaadoor", sum := "5122c83b8974972cde9fc7631eddbca0da4b98bc53c4b3111f30bef84bcc4b45", checked := Tryd.checked }
namespace Rows
def none {H : Type} : Left H := { results := [], args := [] }

/- WHAT THE LISTED PACKAGE-LEVEL VARIABLES READ AS WHEN THE CALL BEGINS. Each datum BY PROGRAM (the guide's laid-datum.mjs) off the statement by which the dump's own 'gosem.cut.vars' lays the variable. In a bare row this is a premise. The card (YtendffbpmpobnaaDoorCards.lean) ties it to the program's text. -/
def laid_loop_example_g01310_impl_squares {H : Type} : DataW H := .agg [.agg [.lit (.int .i64 0), .lit (.int .i64 0)], .agg [.lit (.int .i64 0), .lit (.int .i64 1)], .agg [.lit (.int .i64 0), .lit (.int .i64 2)], .agg [.lit (.int .i64 0), .lit (.int .i64 3)], .agg [.lit (.int .i64 1), .lit (.int .i64 1)], .agg [.lit (.int .i64 1), .lit (.int .i64 2)], .agg [.lit (.int .i64 1), .lit (.int .i64 3)], .agg [.lit (.int .i64 2), .lit (.int .i64 2)], .agg [.lit (.int .i64 2), .lit (.int .i64 3)], .agg [.lit (.int .i64 3), .lit (.int .i64 3)]]

/-- 'laws.FnExactIsOnQuadric': WHATEVER THE INPUT: true; the input reads as it did. -/
def fnExactIsOnQuadricSpec : ChangeSpec := { name := "fnExactIsOnQuadric", vars := ["loop.example/g01310/impl.squares"], fn := fun _ => fun
  | [d1, d2, d3, g1] => { results := [.lit (.bool true)], args := [d1, d2, d3], vars := [g1] }
  | _ => none }
def fnExactIsOnQuadricRow : OpenClaim := { program := "ytendffbpmpobnaadoor", sum := "5122c83b8974972cde9fc7631eddbca0da4b98bc53c4b3111f30bef84bcc4b45", func := "loop.example/g01310/laws.FnExactIsOnQuadric", spec := "fnExactIsOnQuadric", unfollowed := true, recurses := true, named := ["loop.example/g01310/impl.squares"], apart := false, laid := [("loop.example/g01310/impl.squares", laid_loop_example_g01310_impl_squares)] }
def FnExactIsOnQuadricSaid : Prop := fnExactIsOnQuadricRow.holds Tryd.pinned (OpenSpec.ofChange fnExactIsOnQuadricSpec)

/-- ITS FALSE NEIGHBOUR: 'it returns false'. Refute it at one input. -/
def fnExactIsOnQuadricWrong : ChangeSpec := { name := "fnExactIsOnQuadric", vars := ["loop.example/g01310/impl.squares"], fn := fun _ => fun
  | [d1, d2, d3, g1] => { results := [.lit (.bool false)], args := [d1, d2, d3], vars := [g1] }
  | _ => none }
def FnExactIsOnQuadricWrongFalsely : Prop := fnExactIsOnQuadricRow.holds Tryd.pinned (OpenSpec.ofChange fnExactIsOnQuadricWrong)

/-- 'laws.FnExactCountSpots': WHATEVER THE INPUT: true; the input reads as it did. -/
def fnExactCountSpotsSpec : ChangeSpec := { name := "fnExactCountSpots", vars := ["loop.example/g01310/impl.squares"], fn := fun _ => fun
  | [d1, d2, g1] => { results := [.lit (.bool true)], args := [d1, d2], vars := [g1] }
  | _ => none }
def fnExactCountSpotsRow : OpenClaim := { program := "ytendffbpmpobnaadoor", sum := "5122c83b8974972cde9fc7631eddbca0da4b98bc53c4b3111f30bef84bcc4b45", func := "loop.example/g01310/laws.FnExactCountSpots", spec := "fnExactCountSpots", unfollowed := true, recurses := true, named := ["loop.example/g01310/impl.squares"], apart := false, laid := [("loop.example/g01310/impl.squares", laid_loop_example_g01310_impl_squares)] }
def FnExactCountSpotsSaid : Prop := fnExactCountSpotsRow.holds Tryd.pinned (OpenSpec.ofChange fnExactCountSpotsSpec)

/-- ITS FALSE NEIGHBOUR: 'it returns false'. Refute it at one input. -/
def fnExactCountSpotsWrong : ChangeSpec := { name := "fnExactCountSpots", vars := ["loop.example/g01310/impl.squares"], fn := fun _ => fun
  | [d1, d2, g1] => { results := [.lit (.bool false)], args := [d1, d2], vars := [g1] }
  | _ => none }
def FnExactCountSpotsWrongFalsely : Prop := fnExactCountSpotsRow.holds Tryd.pinned (OpenSpec.ofChange fnExactCountSpotsWrong)

/-- 'laws.FnExactSpotsOfQuadric': WHATEVER THE INPUT: true; the input reads as it did. -/
def fnExactSpotsOfQuadricSpec : ChangeSpec := { name := "fnExactSpotsOfQuadric", vars := ["loop.example/g01310/impl.squares"], fn := fun _ => fun
  | [d1, d2, g1] => { results := [.lit (.bool true)], args := [d1, d2], vars := [g1] }
  | _ => none }
def fnExactSpotsOfQuadricRow : OpenClaim := { program := "ytendffbpmpobnaadoor", sum := "5122c83b8974972cde9fc7631eddbca0da4b98bc53c4b3111f30bef84bcc4b45", func := "loop.example/g01310/laws.FnExactSpotsOfQuadric", spec := "fnExactSpotsOfQuadric", unfollowed := true, recurses := true, named := ["loop.example/g01310/impl.squares"], apart := false, laid := [("loop.example/g01310/impl.squares", laid_loop_example_g01310_impl_squares)] }
def FnExactSpotsOfQuadricSaid : Prop := fnExactSpotsOfQuadricRow.holds Tryd.pinned (OpenSpec.ofChange fnExactSpotsOfQuadricSpec)

/-- ITS FALSE NEIGHBOUR: 'it returns false'. Refute it at one input. -/
def fnExactSpotsOfQuadricWrong : ChangeSpec := { name := "fnExactSpotsOfQuadric", vars := ["loop.example/g01310/impl.squares"], fn := fun _ => fun
  | [d1, d2, g1] => { results := [.lit (.bool false)], args := [d1, d2], vars := [g1] }
  | _ => none }
def FnExactSpotsOfQuadricWrongFalsely : Prop := fnExactSpotsOfQuadricRow.holds Tryd.pinned (OpenSpec.ofChange fnExactSpotsOfQuadricWrong)

/-- 'laws.FnExactPolarPlane': WHATEVER THE INPUT: true; the input reads as it did. -/
def fnExactPolarPlaneSpec : ChangeSpec := { name := "fnExactPolarPlane", vars := ["loop.example/g01310/impl.squares"], fn := fun _ => fun
  | [d1, d2, d3, g1] => { results := [.lit (.bool true)], args := [d1, d2, d3], vars := [g1] }
  | _ => none }
def fnExactPolarPlaneRow : OpenClaim := { program := "ytendffbpmpobnaadoor", sum := "5122c83b8974972cde9fc7631eddbca0da4b98bc53c4b3111f30bef84bcc4b45", func := "loop.example/g01310/laws.FnExactPolarPlane", spec := "fnExactPolarPlane", unfollowed := true, recurses := true, named := ["loop.example/g01310/impl.squares"], apart := false, laid := [("loop.example/g01310/impl.squares", laid_loop_example_g01310_impl_squares)] }
def FnExactPolarPlaneSaid : Prop := fnExactPolarPlaneRow.holds Tryd.pinned (OpenSpec.ofChange fnExactPolarPlaneSpec)

/-- ITS FALSE NEIGHBOUR: 'it returns false'. Refute it at one input. -/
def fnExactPolarPlaneWrong : ChangeSpec := { name := "fnExactPolarPlane", vars := ["loop.example/g01310/impl.squares"], fn := fun _ => fun
  | [d1, d2, d3, g1] => { results := [.lit (.bool false)], args := [d1, d2, d3], vars := [g1] }
  | _ => none }
def FnExactPolarPlaneWrongFalsely : Prop := fnExactPolarPlaneRow.holds Tryd.pinned (OpenSpec.ofChange fnExactPolarPlaneWrong)

/-- 'laws.FnExactSingularSpots': WHATEVER THE INPUT: true; the input reads as it did. -/
def fnExactSingularSpotsSpec : ChangeSpec := { name := "fnExactSingularSpots", vars := ["loop.example/g01310/impl.squares"], fn := fun _ => fun
  | [d1, d2, g1] => { results := [.lit (.bool true)], args := [d1, d2], vars := [g1] }
  | _ => none }
def fnExactSingularSpotsRow : OpenClaim := { program := "ytendffbpmpobnaadoor", sum := "5122c83b8974972cde9fc7631eddbca0da4b98bc53c4b3111f30bef84bcc4b45", func := "loop.example/g01310/laws.FnExactSingularSpots", spec := "fnExactSingularSpots", unfollowed := true, recurses := true, named := ["loop.example/g01310/impl.squares"], apart := false, laid := [("loop.example/g01310/impl.squares", laid_loop_example_g01310_impl_squares)] }
def FnExactSingularSpotsSaid : Prop := fnExactSingularSpotsRow.holds Tryd.pinned (OpenSpec.ofChange fnExactSingularSpotsSpec)

/-- ITS FALSE NEIGHBOUR: 'it returns false'. Refute it at one input. -/
def fnExactSingularSpotsWrong : ChangeSpec := { name := "fnExactSingularSpots", vars := ["loop.example/g01310/impl.squares"], fn := fun _ => fun
  | [d1, d2, g1] => { results := [.lit (.bool false)], args := [d1, d2], vars := [g1] }
  | _ => none }
def FnExactSingularSpotsWrongFalsely : Prop := fnExactSingularSpotsRow.holds Tryd.pinned (OpenSpec.ofChange fnExactSingularSpotsWrong)

/-- 'laws.FnExactRankOfQuadric': WHATEVER THE INPUT: true; the input reads as it did. -/
def fnExactRankOfQuadricSpec : ChangeSpec := { name := "fnExactRankOfQuadric", vars := ["loop.example/g01310/impl.squares"], fn := fun _ => fun
  | [d1, d2, g1] => { results := [.lit (.bool true)], args := [d1, d2], vars := [g1] }
  | _ => none }
def fnExactRankOfQuadricRow : OpenClaim := { program := "ytendffbpmpobnaadoor", sum := "5122c83b8974972cde9fc7631eddbca0da4b98bc53c4b3111f30bef84bcc4b45", func := "loop.example/g01310/laws.FnExactRankOfQuadric", spec := "fnExactRankOfQuadric", unfollowed := true, recurses := true, named := ["loop.example/g01310/impl.squares"], apart := false, laid := [("loop.example/g01310/impl.squares", laid_loop_example_g01310_impl_squares)] }
def FnExactRankOfQuadricSaid : Prop := fnExactRankOfQuadricRow.holds Tryd.pinned (OpenSpec.ofChange fnExactRankOfQuadricSpec)

/-- ITS FALSE NEIGHBOUR: 'it returns false'. Refute it at one input. -/
def fnExactRankOfQuadricWrong : ChangeSpec := { name := "fnExactRankOfQuadric", vars := ["loop.example/g01310/impl.squares"], fn := fun _ => fun
  | [d1, d2, g1] => { results := [.lit (.bool false)], args := [d1, d2], vars := [g1] }
  | _ => none }
def FnExactRankOfQuadricWrongFalsely : Prop := fnExactRankOfQuadricRow.holds Tryd.pinned (OpenSpec.ofChange fnExactRankOfQuadricWrong)

/-- 'laws.FnExactSectionOfQuadric': WHATEVER THE INPUT: true; the input reads as it did. -/
def fnExactSectionOfQuadricSpec : ChangeSpec := { name := "fnExactSectionOfQuadric", vars := ["loop.example/g01310/impl.squares"], fn := fun _ => fun
  | [d1, d2, d3, g1] => { results := [.lit (.bool true)], args := [d1, d2, d3], vars := [g1] }
  | _ => none }
def fnExactSectionOfQuadricRow : OpenClaim := { program := "ytendffbpmpobnaadoor", sum := "5122c83b8974972cde9fc7631eddbca0da4b98bc53c4b3111f30bef84bcc4b45", func := "loop.example/g01310/laws.FnExactSectionOfQuadric", spec := "fnExactSectionOfQuadric", unfollowed := true, recurses := true, named := ["loop.example/g01310/impl.squares"], apart := false, laid := [("loop.example/g01310/impl.squares", laid_loop_example_g01310_impl_squares)] }
def FnExactSectionOfQuadricSaid : Prop := fnExactSectionOfQuadricRow.holds Tryd.pinned (OpenSpec.ofChange fnExactSectionOfQuadricSpec)

/-- ITS FALSE NEIGHBOUR: 'it returns false'. Refute it at one input. -/
def fnExactSectionOfQuadricWrong : ChangeSpec := { name := "fnExactSectionOfQuadric", vars := ["loop.example/g01310/impl.squares"], fn := fun _ => fun
  | [d1, d2, d3, g1] => { results := [.lit (.bool false)], args := [d1, d2, d3], vars := [g1] }
  | _ => none }
def FnExactSectionOfQuadricWrongFalsely : Prop := fnExactSectionOfQuadricRow.holds Tryd.pinned (OpenSpec.ofChange fnExactSectionOfQuadricWrong)

/-- 'laws.FnExactQuadricsThrough': WHATEVER THE INPUT: true; the input reads as it did. -/
def fnExactQuadricsThroughSpec : ChangeSpec := { name := "fnExactQuadricsThrough", vars := ["loop.example/g01310/impl.squares"], fn := fun _ => fun
  | [d1, d2, g1] => { results := [.lit (.bool true)], args := [d1, d2], vars := [g1] }
  | _ => none }
def fnExactQuadricsThroughRow : OpenClaim := { program := "ytendffbpmpobnaadoor", sum := "5122c83b8974972cde9fc7631eddbca0da4b98bc53c4b3111f30bef84bcc4b45", func := "loop.example/g01310/laws.FnExactQuadricsThrough", spec := "fnExactQuadricsThrough", unfollowed := true, recurses := true, named := ["loop.example/g01310/impl.squares"], apart := false, laid := [("loop.example/g01310/impl.squares", laid_loop_example_g01310_impl_squares)] }
def FnExactQuadricsThroughSaid : Prop := fnExactQuadricsThroughRow.holds Tryd.pinned (OpenSpec.ofChange fnExactQuadricsThroughSpec)

/-- ITS FALSE NEIGHBOUR: 'it returns false'. Refute it at one input. -/
def fnExactQuadricsThroughWrong : ChangeSpec := { name := "fnExactQuadricsThrough", vars := ["loop.example/g01310/impl.squares"], fn := fun _ => fun
  | [d1, d2, g1] => { results := [.lit (.bool false)], args := [d1, d2], vars := [g1] }
  | _ => none }
def FnExactQuadricsThroughWrongFalsely : Prop := fnExactQuadricsThroughRow.holds Tryd.pinned (OpenSpec.ofChange fnExactQuadricsThroughWrong)

/-- 'laws.FnExactQuadricOfLines': WHATEVER THE INPUT: true; the input reads as it did. -/
def fnExactQuadricOfLinesSpec : ChangeSpec := { name := "fnExactQuadricOfLines", vars := ["loop.example/g01310/impl.squares"], fn := fun _ => fun
  | [d1, d2, g1] => { results := [.lit (.bool true)], args := [d1, d2], vars := [g1] }
  | _ => none }
def fnExactQuadricOfLinesRow : OpenClaim := { program := "ytendffbpmpobnaadoor", sum := "5122c83b8974972cde9fc7631eddbca0da4b98bc53c4b3111f30bef84bcc4b45", func := "loop.example/g01310/laws.FnExactQuadricOfLines", spec := "fnExactQuadricOfLines", unfollowed := true, recurses := true, named := ["loop.example/g01310/impl.squares"], apart := false, laid := [("loop.example/g01310/impl.squares", laid_loop_example_g01310_impl_squares)] }
def FnExactQuadricOfLinesSaid : Prop := fnExactQuadricOfLinesRow.holds Tryd.pinned (OpenSpec.ofChange fnExactQuadricOfLinesSpec)

/-- ITS FALSE NEIGHBOUR: 'it returns false'. Refute it at one input. -/
def fnExactQuadricOfLinesWrong : ChangeSpec := { name := "fnExactQuadricOfLines", vars := ["loop.example/g01310/impl.squares"], fn := fun _ => fun
  | [d1, d2, g1] => { results := [.lit (.bool false)], args := [d1, d2], vars := [g1] }
  | _ => none }
def FnExactQuadricOfLinesWrongFalsely : Prop := fnExactQuadricOfLinesRow.holds Tryd.pinned (OpenSpec.ofChange fnExactQuadricOfLinesWrong)

/- THE SECOND FORM. 'bulk': how many values and letters a reading holds, each counted each time it is reached (what is shared counts as often as it is met; a slice's spare places count too). A statement '..UptoSaid' is the law's where the arguments, and the package variables that the reading takes, are together of bulk at most 1048576: NARROWER than '..Said'. Prove '..Said' where nothing that the law and all that it calls make is longer than what came in: it says more and counts as full. Else prove '..UptoSaid'. A law counts once. -/
mutual
def uptoBulk {H : Type} : DataW H → Nat
  | .lit (.string bytes) => bytes.length + 1
  | .lit _ => 1
  | .nil => 1
  | .ptr d => uptoBulk d + 1
  | .slice elems spare => uptoBulkAll elems + uptoBulkAll spare + 1
  | .agg parts => uptoBulkAll parts + 1
  | .iface _ d => uptoBulk d + 1
  | .map entries => uptoBulkEntries entries + 1
  | .held _ => 1
def uptoBulkAll {H : Type} : List (DataW H) → Nat
  | [] => 0
  | d :: r => uptoBulk d + uptoBulkAll r
def uptoBulkEntries {H : Type} : List (Lit × DataW H) → Nat
  | [] => 0
  | x :: r => uptoBulkEntry x + uptoBulkEntries r
def uptoBulkEntry {H : Type} : Lit × DataW H → Nat
  | (.string bytes, d) => bytes.length + uptoBulk d + 1
  | (_, d) => uptoBulk d + 1
 end
def uptoSmall : (H : Type) → List (DataW H) → Bool := fun _ ds => decide (uptoBulkAll ds ≤ 1048576)
def OpenSpec.upto (s : _root_.Go.ChangeSpec) : _root_.Go.OpenSpec := { _root_.Go.OpenSpec.ofChange s with cond := some uptoSmall }

/-- 'laws.FnExactIsOnQuadric', WHERE WHAT IT READS IS OF BULK AT MOST 1048576: true; the input reads as it did. -/
def fnExactIsOnQuadricUptoRow : OpenClaim := { program := "ytendffbpmpobnaadoor", sum := "5122c83b8974972cde9fc7631eddbca0da4b98bc53c4b3111f30bef84bcc4b45", func := "loop.example/g01310/laws.FnExactIsOnQuadric", spec := "fnExactIsOnQuadric", unfollowed := true, recurses := true, named := ["loop.example/g01310/impl.squares"], apart := false, laid := [("loop.example/g01310/impl.squares", laid_loop_example_g01310_impl_squares)], narrowed := true }
def FnExactIsOnQuadricUptoSaid : Prop := fnExactIsOnQuadricUptoRow.holds Tryd.pinned (OpenSpec.upto fnExactIsOnQuadricSpec)

/-- 'laws.FnExactCountSpots', WHERE WHAT IT READS IS OF BULK AT MOST 1048576: true; the input reads as it did. -/
def fnExactCountSpotsUptoRow : OpenClaim := { program := "ytendffbpmpobnaadoor", sum := "5122c83b8974972cde9fc7631eddbca0da4b98bc53c4b3111f30bef84bcc4b45", func := "loop.example/g01310/laws.FnExactCountSpots", spec := "fnExactCountSpots", unfollowed := true, recurses := true, named := ["loop.example/g01310/impl.squares"], apart := false, laid := [("loop.example/g01310/impl.squares", laid_loop_example_g01310_impl_squares)], narrowed := true }
def FnExactCountSpotsUptoSaid : Prop := fnExactCountSpotsUptoRow.holds Tryd.pinned (OpenSpec.upto fnExactCountSpotsSpec)

/-- 'laws.FnExactSpotsOfQuadric', WHERE WHAT IT READS IS OF BULK AT MOST 1048576: true; the input reads as it did. -/
def fnExactSpotsOfQuadricUptoRow : OpenClaim := { program := "ytendffbpmpobnaadoor", sum := "5122c83b8974972cde9fc7631eddbca0da4b98bc53c4b3111f30bef84bcc4b45", func := "loop.example/g01310/laws.FnExactSpotsOfQuadric", spec := "fnExactSpotsOfQuadric", unfollowed := true, recurses := true, named := ["loop.example/g01310/impl.squares"], apart := false, laid := [("loop.example/g01310/impl.squares", laid_loop_example_g01310_impl_squares)], narrowed := true }
def FnExactSpotsOfQuadricUptoSaid : Prop := fnExactSpotsOfQuadricUptoRow.holds Tryd.pinned (OpenSpec.upto fnExactSpotsOfQuadricSpec)

/-- 'laws.FnExactPolarPlane', WHERE WHAT IT READS IS OF BULK AT MOST 1048576: true; the input reads as it did. -/
def fnExactPolarPlaneUptoRow : OpenClaim := { program := "ytendffbpmpobnaadoor", sum := "5122c83b8974972cde9fc7631eddbca0da4b98bc53c4b3111f30bef84bcc4b45", func := "loop.example/g01310/laws.FnExactPolarPlane", spec := "fnExactPolarPlane", unfollowed := true, recurses := true, named := ["loop.example/g01310/impl.squares"], apart := false, laid := [("loop.example/g01310/impl.squares", laid_loop_example_g01310_impl_squares)], narrowed := true }
def FnExactPolarPlaneUptoSaid : Prop := fnExactPolarPlaneUptoRow.holds Tryd.pinned (OpenSpec.upto fnExactPolarPlaneSpec)

/-- 'laws.FnExactSingularSpots', WHERE WHAT IT READS IS OF BULK AT MOST 1048576: true; the input reads as it did. -/
def fnExactSingularSpotsUptoRow : OpenClaim := { program := "ytendffbpmpobnaadoor", sum := "5122c83b8974972cde9fc7631eddbca0da4b98bc53c4b3111f30bef84bcc4b45", func := "loop.example/g01310/laws.FnExactSingularSpots", spec := "fnExactSingularSpots", unfollowed := true, recurses := true, named := ["loop.example/g01310/impl.squares"], apart := false, laid := [("loop.example/g01310/impl.squares", laid_loop_example_g01310_impl_squares)], narrowed := true }
def FnExactSingularSpotsUptoSaid : Prop := fnExactSingularSpotsUptoRow.holds Tryd.pinned (OpenSpec.upto fnExactSingularSpotsSpec)

/-- 'laws.FnExactRankOfQuadric', WHERE WHAT IT READS IS OF BULK AT MOST 1048576: true; the input reads as it did. -/
def fnExactRankOfQuadricUptoRow : OpenClaim := { program := "ytendffbpmpobnaadoor", sum := "5122c83b8974972cde9fc7631eddbca0da4b98bc53c4b3111f30bef84bcc4b45", func := "loop.example/g01310/laws.FnExactRankOfQuadric", spec := "fnExactRankOfQuadric", unfollowed := true, recurses := true, named := ["loop.example/g01310/impl.squares"], apart := false, laid := [("loop.example/g01310/impl.squares", laid_loop_example_g01310_impl_squares)], narrowed := true }
def FnExactRankOfQuadricUptoSaid : Prop := fnExactRankOfQuadricUptoRow.holds Tryd.pinned (OpenSpec.upto fnExactRankOfQuadricSpec)

/-- 'laws.FnExactSectionOfQuadric', WHERE WHAT IT READS IS OF BULK AT MOST 1048576: true; the input reads as it did. -/
def fnExactSectionOfQuadricUptoRow : OpenClaim := { program := "ytendffbpmpobnaadoor", sum := "5122c83b8974972cde9fc7631eddbca0da4b98bc53c4b3111f30bef84bcc4b45", func := "loop.example/g01310/laws.FnExactSectionOfQuadric", spec := "fnExactSectionOfQuadric", unfollowed := true, recurses := true, named := ["loop.example/g01310/impl.squares"], apart := false, laid := [("loop.example/g01310/impl.squares", laid_loop_example_g01310_impl_squares)], narrowed := true }
def FnExactSectionOfQuadricUptoSaid : Prop := fnExactSectionOfQuadricUptoRow.holds Tryd.pinned (OpenSpec.upto fnExactSectionOfQuadricSpec)

/-- 'laws.FnExactQuadricsThrough', WHERE WHAT IT READS IS OF BULK AT MOST 1048576: true; the input reads as it did. -/
def fnExactQuadricsThroughUptoRow : OpenClaim := { program := "ytendffbpmpobnaadoor", sum := "5122c83b8974972cde9fc7631eddbca0da4b98bc53c4b3111f30bef84bcc4b45", func := "loop.example/g01310/laws.FnExactQuadricsThrough", spec := "fnExactQuadricsThrough", unfollowed := true, recurses := true, named := ["loop.example/g01310/impl.squares"], apart := false, laid := [("loop.example/g01310/impl.squares", laid_loop_example_g01310_impl_squares)], narrowed := true }
def FnExactQuadricsThroughUptoSaid : Prop := fnExactQuadricsThroughUptoRow.holds Tryd.pinned (OpenSpec.upto fnExactQuadricsThroughSpec)

/-- 'laws.FnExactQuadricOfLines', WHERE WHAT IT READS IS OF BULK AT MOST 1048576: true; the input reads as it did. -/
def fnExactQuadricOfLinesUptoRow : OpenClaim := { program := "ytendffbpmpobnaadoor", sum := "5122c83b8974972cde9fc7631eddbca0da4b98bc53c4b3111f30bef84bcc4b45", func := "loop.example/g01310/laws.FnExactQuadricOfLines", spec := "fnExactQuadricOfLines", unfollowed := true, recurses := true, named := ["loop.example/g01310/impl.squares"], apart := false, laid := [("loop.example/g01310/impl.squares", laid_loop_example_g01310_impl_squares)], narrowed := true }
def FnExactQuadricOfLinesUptoSaid : Prop := fnExactQuadricOfLinesUptoRow.holds Tryd.pinned (OpenSpec.upto fnExactQuadricOfLinesSpec)

end Rows
end Go.Proofs.YtendffbpmpobnaaDoor
