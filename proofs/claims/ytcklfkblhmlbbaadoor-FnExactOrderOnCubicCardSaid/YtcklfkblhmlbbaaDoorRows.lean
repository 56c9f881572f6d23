/-
  NARROWER THAN 'FOR EVERY INPUT', by the rows' own cells (each row's printed sentence says how): FnExactTangentOfCubic: laid · FnExactPointsOfCubic: laid · FnExactSingularPoints: laid · FnExactMultiplicitiesOn: laid · FnExactFlexesOf: laid · FnExactThirdPoint: laid · FnExactOppositeOnCubic: laid · FnExactAddOnCubic: laid · FnExactOrderOnCubic: laid · FnExactImageOfCubic: laid.
  DERIVED. THE GIVEN ROWS OF THIS SEAT. 10 by the template 'for every input the law returns true; each argument reads behind the call as it read before'; 0 by the template 'total and deterministic' (their statements: YtcklfkblhmlbbaaDoorTotals.lean).
  GIVEN WITH THE SEED: the statements are not yours to turn. If you find one false, say at which input.
  Laid BY PROGRAM, IN A SANDBOX (cutbox-rows.mjs): the forced cells as the released guide's own fill.sh prints them over the translation f5c9d50ea649e077… (all of the seat's roots in one cut). By AI agents, Wed Nov 11 2026. No macro, syntax, notation, axiom, sorry.
-/
import Derived.Test.YtcklfkblhmlbbaaDoorChecked
import GoSem.Claim
import GoSem.ClaimJoined
import GoSem.ClaimMapViews
import Derived.JoinedTies
import Derived.KernelRfl
namespace Go.Proofs.YtcklfkblhmlbbaaDoor
/- THE CELL 'sum', in the pinned program and in every row, IS THE sha256 OF THE DUMP (.gsa) THAT YtcklfkblhmlbbaaDoorProg.lean LOADS. Nothing in Lean hashes anything: it is a label: what it is worth is what the hold of that sum in a sandbox is worth. -/
noncomputable def Tryd.pinned : Pinned := { name := "ytcklfkblhmlbbaadoor", sum := "f5c9d50ea649e0773e83e7ddb4d6fb312ae064008342ddd65d43e41e4ede63ac", checked := Tryd.checked }
namespace Rows
def none {H : Type} : Left H := { results := [], args := [] }

/- WHAT THE LISTED PACKAGE-LEVEL VARIABLES READ AS WHEN THE CALL BEGINS. Each datum BY PROGRAM (the guide's laid-datum.mjs) off the statement by which the dump's own 'gosem.cut.vars' lays the variable. In a bare row this is a premise. The card (YtcklfkblhmlbbaaDoorCards.lean) ties it to the program's text. -/
def laid_loop_example_g01310_impl_products {H : Type} : DataW H := .agg [.agg [.lit (.int .i64 0), .lit (.int .i64 0), .lit (.int .i64 0)], .agg [.lit (.int .i64 0), .lit (.int .i64 0), .lit (.int .i64 1)], .agg [.lit (.int .i64 0), .lit (.int .i64 0), .lit (.int .i64 2)], .agg [.lit (.int .i64 0), .lit (.int .i64 1), .lit (.int .i64 1)], .agg [.lit (.int .i64 0), .lit (.int .i64 1), .lit (.int .i64 2)], .agg [.lit (.int .i64 0), .lit (.int .i64 2), .lit (.int .i64 2)], .agg [.lit (.int .i64 1), .lit (.int .i64 1), .lit (.int .i64 1)], .agg [.lit (.int .i64 1), .lit (.int .i64 1), .lit (.int .i64 2)], .agg [.lit (.int .i64 1), .lit (.int .i64 2), .lit (.int .i64 2)], .agg [.lit (.int .i64 2), .lit (.int .i64 2), .lit (.int .i64 2)]]

/-- 'laws.FnExactTangentOfCubic': WHATEVER THE INPUT: true; the input reads as it did. -/
def fnExactTangentOfCubicSpec : ChangeSpec := { name := "fnExactTangentOfCubic", vars := ["loop.example/g01310/impl.products"], fn := fun _ => fun
  | [d1, d2, d3, g1] => { results := [.lit (.bool true)], args := [d1, d2, d3], vars := [g1] }
  | _ => none }
def fnExactTangentOfCubicRow : OpenClaim := { program := "ytcklfkblhmlbbaadoor", sum := "f5c9d50ea649e0773e83e7ddb4d6fb312ae064008342ddd65d43e41e4ede63ac", func := "loop.example/g01310/laws.FnExactTangentOfCubic", spec := "fnExactTangentOfCubic", unfollowed := true, recurses := true, named := ["loop.example/g01310/impl.products"], apart := false, laid := [("loop.example/g01310/impl.products", laid_loop_example_g01310_impl_products)] }
def FnExactTangentOfCubicSaid : Prop := fnExactTangentOfCubicRow.holds Tryd.pinned (OpenSpec.ofChange fnExactTangentOfCubicSpec)

/-- ITS FALSE NEIGHBOUR: 'it returns false'. Refute it at one input. -/
def fnExactTangentOfCubicWrong : ChangeSpec := { name := "fnExactTangentOfCubic", vars := ["loop.example/g01310/impl.products"], fn := fun _ => fun
  | [d1, d2, d3, g1] => { results := [.lit (.bool false)], args := [d1, d2, d3], vars := [g1] }
  | _ => none }
def FnExactTangentOfCubicWrongFalsely : Prop := fnExactTangentOfCubicRow.holds Tryd.pinned (OpenSpec.ofChange fnExactTangentOfCubicWrong)

/-- 'laws.FnExactPointsOfCubic': WHATEVER THE INPUT: true; the input reads as it did. -/
def fnExactPointsOfCubicSpec : ChangeSpec := { name := "fnExactPointsOfCubic", vars := ["loop.example/g01310/impl.products"], fn := fun _ => fun
  | [d1, d2, g1] => { results := [.lit (.bool true)], args := [d1, d2], vars := [g1] }
  | _ => none }
def fnExactPointsOfCubicRow : OpenClaim := { program := "ytcklfkblhmlbbaadoor", sum := "f5c9d50ea649e0773e83e7ddb4d6fb312ae064008342ddd65d43e41e4ede63ac", func := "loop.example/g01310/laws.FnExactPointsOfCubic", spec := "fnExactPointsOfCubic", unfollowed := true, recurses := true, named := ["loop.example/g01310/impl.products"], apart := false, laid := [("loop.example/g01310/impl.products", laid_loop_example_g01310_impl_products)] }
def FnExactPointsOfCubicSaid : Prop := fnExactPointsOfCubicRow.holds Tryd.pinned (OpenSpec.ofChange fnExactPointsOfCubicSpec)

/-- ITS FALSE NEIGHBOUR: 'it returns false'. Refute it at one input. -/
def fnExactPointsOfCubicWrong : ChangeSpec := { name := "fnExactPointsOfCubic", vars := ["loop.example/g01310/impl.products"], fn := fun _ => fun
  | [d1, d2, g1] => { results := [.lit (.bool false)], args := [d1, d2], vars := [g1] }
  | _ => none }
def FnExactPointsOfCubicWrongFalsely : Prop := fnExactPointsOfCubicRow.holds Tryd.pinned (OpenSpec.ofChange fnExactPointsOfCubicWrong)

/-- 'laws.FnExactSingularPoints': WHATEVER THE INPUT: true; the input reads as it did. -/
def fnExactSingularPointsSpec : ChangeSpec := { name := "fnExactSingularPoints", vars := ["loop.example/g01310/impl.products"], fn := fun _ => fun
  | [d1, d2, g1] => { results := [.lit (.bool true)], args := [d1, d2], vars := [g1] }
  | _ => none }
def fnExactSingularPointsRow : OpenClaim := { program := "ytcklfkblhmlbbaadoor", sum := "f5c9d50ea649e0773e83e7ddb4d6fb312ae064008342ddd65d43e41e4ede63ac", func := "loop.example/g01310/laws.FnExactSingularPoints", spec := "fnExactSingularPoints", unfollowed := true, recurses := true, named := ["loop.example/g01310/impl.products"], apart := false, laid := [("loop.example/g01310/impl.products", laid_loop_example_g01310_impl_products)] }
def FnExactSingularPointsSaid : Prop := fnExactSingularPointsRow.holds Tryd.pinned (OpenSpec.ofChange fnExactSingularPointsSpec)

/-- ITS FALSE NEIGHBOUR: 'it returns false'. Refute it at one input. -/
def fnExactSingularPointsWrong : ChangeSpec := { name := "fnExactSingularPoints", vars := ["loop.example/g01310/impl.products"], fn := fun _ => fun
  | [d1, d2, g1] => { results := [.lit (.bool false)], args := [d1, d2], vars := [g1] }
  | _ => none }
def FnExactSingularPointsWrongFalsely : Prop := fnExactSingularPointsRow.holds Tryd.pinned (OpenSpec.ofChange fnExactSingularPointsWrong)

/-- 'laws.FnExactMultiplicitiesOn': WHATEVER THE INPUT: true; the input reads as it did. -/
def fnExactMultiplicitiesOnSpec : ChangeSpec := { name := "fnExactMultiplicitiesOn", vars := ["loop.example/g01310/impl.products"], fn := fun _ => fun
  | [d1, d2, d3, g1] => { results := [.lit (.bool true)], args := [d1, d2, d3], vars := [g1] }
  | _ => none }
def fnExactMultiplicitiesOnRow : OpenClaim := { program := "ytcklfkblhmlbbaadoor", sum := "f5c9d50ea649e0773e83e7ddb4d6fb312ae064008342ddd65d43e41e4ede63ac", func := "loop.example/g01310/laws.FnExactMultiplicitiesOn", spec := "fnExactMultiplicitiesOn", unfollowed := true, recurses := true, named := ["loop.example/g01310/impl.products"], apart := false, laid := [("loop.example/g01310/impl.products", laid_loop_example_g01310_impl_products)] }
def FnExactMultiplicitiesOnSaid : Prop := fnExactMultiplicitiesOnRow.holds Tryd.pinned (OpenSpec.ofChange fnExactMultiplicitiesOnSpec)

/-- ITS FALSE NEIGHBOUR: 'it returns false'. Refute it at one input. -/
def fnExactMultiplicitiesOnWrong : ChangeSpec := { name := "fnExactMultiplicitiesOn", vars := ["loop.example/g01310/impl.products"], fn := fun _ => fun
  | [d1, d2, d3, g1] => { results := [.lit (.bool false)], args := [d1, d2, d3], vars := [g1] }
  | _ => none }
def FnExactMultiplicitiesOnWrongFalsely : Prop := fnExactMultiplicitiesOnRow.holds Tryd.pinned (OpenSpec.ofChange fnExactMultiplicitiesOnWrong)

/-- 'laws.FnExactFlexesOf': WHATEVER THE INPUT: true; the input reads as it did. -/
def fnExactFlexesOfSpec : ChangeSpec := { name := "fnExactFlexesOf", vars := ["loop.example/g01310/impl.products"], fn := fun _ => fun
  | [d1, d2, g1] => { results := [.lit (.bool true)], args := [d1, d2], vars := [g1] }
  | _ => none }
def fnExactFlexesOfRow : OpenClaim := { program := "ytcklfkblhmlbbaadoor", sum := "f5c9d50ea649e0773e83e7ddb4d6fb312ae064008342ddd65d43e41e4ede63ac", func := "loop.example/g01310/laws.FnExactFlexesOf", spec := "fnExactFlexesOf", unfollowed := true, recurses := true, named := ["loop.example/g01310/impl.products"], apart := false, laid := [("loop.example/g01310/impl.products", laid_loop_example_g01310_impl_products)] }
def FnExactFlexesOfSaid : Prop := fnExactFlexesOfRow.holds Tryd.pinned (OpenSpec.ofChange fnExactFlexesOfSpec)

/-- ITS FALSE NEIGHBOUR: 'it returns false'. Refute it at one input. -/
def fnExactFlexesOfWrong : ChangeSpec := { name := "fnExactFlexesOf", vars := ["loop.example/g01310/impl.products"], fn := fun _ => fun
  | [d1, d2, g1] => { results := [.lit (.bool false)], args := [d1, d2], vars := [g1] }
  | _ => none }
def FnExactFlexesOfWrongFalsely : Prop := fnExactFlexesOfRow.holds Tryd.pinned (OpenSpec.ofChange fnExactFlexesOfWrong)

/-- 'laws.FnExactThirdPoint': WHATEVER THE INPUT: true; the input reads as it did. -/
def fnExactThirdPointSpec : ChangeSpec := { name := "fnExactThirdPoint", vars := ["loop.example/g01310/impl.products"], fn := fun _ => fun
  | [d1, d2, d3, d4, g1] => { results := [.lit (.bool true)], args := [d1, d2, d3, d4], vars := [g1] }
  | _ => none }
def fnExactThirdPointRow : OpenClaim := { program := "ytcklfkblhmlbbaadoor", sum := "f5c9d50ea649e0773e83e7ddb4d6fb312ae064008342ddd65d43e41e4ede63ac", func := "loop.example/g01310/laws.FnExactThirdPoint", spec := "fnExactThirdPoint", unfollowed := true, recurses := true, named := ["loop.example/g01310/impl.products"], apart := false, laid := [("loop.example/g01310/impl.products", laid_loop_example_g01310_impl_products)] }
def FnExactThirdPointSaid : Prop := fnExactThirdPointRow.holds Tryd.pinned (OpenSpec.ofChange fnExactThirdPointSpec)

/-- ITS FALSE NEIGHBOUR: 'it returns false'. Refute it at one input. -/
def fnExactThirdPointWrong : ChangeSpec := { name := "fnExactThirdPoint", vars := ["loop.example/g01310/impl.products"], fn := fun _ => fun
  | [d1, d2, d3, d4, g1] => { results := [.lit (.bool false)], args := [d1, d2, d3, d4], vars := [g1] }
  | _ => none }
def FnExactThirdPointWrongFalsely : Prop := fnExactThirdPointRow.holds Tryd.pinned (OpenSpec.ofChange fnExactThirdPointWrong)

/-- 'laws.FnExactOppositeOnCubic': WHATEVER THE INPUT: true; the input reads as it did. -/
def fnExactOppositeOnCubicSpec : ChangeSpec := { name := "fnExactOppositeOnCubic", vars := ["loop.example/g01310/impl.products"], fn := fun _ => fun
  | [d1, d2, d3, d4, g1] => { results := [.lit (.bool true)], args := [d1, d2, d3, d4], vars := [g1] }
  | _ => none }
def fnExactOppositeOnCubicRow : OpenClaim := { program := "ytcklfkblhmlbbaadoor", sum := "f5c9d50ea649e0773e83e7ddb4d6fb312ae064008342ddd65d43e41e4ede63ac", func := "loop.example/g01310/laws.FnExactOppositeOnCubic", spec := "fnExactOppositeOnCubic", unfollowed := true, recurses := true, named := ["loop.example/g01310/impl.products"], apart := false, laid := [("loop.example/g01310/impl.products", laid_loop_example_g01310_impl_products)] }
def FnExactOppositeOnCubicSaid : Prop := fnExactOppositeOnCubicRow.holds Tryd.pinned (OpenSpec.ofChange fnExactOppositeOnCubicSpec)

/-- ITS FALSE NEIGHBOUR: 'it returns false'. Refute it at one input. -/
def fnExactOppositeOnCubicWrong : ChangeSpec := { name := "fnExactOppositeOnCubic", vars := ["loop.example/g01310/impl.products"], fn := fun _ => fun
  | [d1, d2, d3, d4, g1] => { results := [.lit (.bool false)], args := [d1, d2, d3, d4], vars := [g1] }
  | _ => none }
def FnExactOppositeOnCubicWrongFalsely : Prop := fnExactOppositeOnCubicRow.holds Tryd.pinned (OpenSpec.ofChange fnExactOppositeOnCubicWrong)

/-- 'laws.FnExactAddOnCubic': WHATEVER THE INPUT: true; the input reads as it did. -/
def fnExactAddOnCubicSpec : ChangeSpec := { name := "fnExactAddOnCubic", vars := ["loop.example/g01310/impl.products"], fn := fun _ => fun
  | [d1, d2, d3, d4, d5, g1] => { results := [.lit (.bool true)], args := [d1, d2, d3, d4, d5], vars := [g1] }
  | _ => none }
def fnExactAddOnCubicRow : OpenClaim := { program := "ytcklfkblhmlbbaadoor", sum := "f5c9d50ea649e0773e83e7ddb4d6fb312ae064008342ddd65d43e41e4ede63ac", func := "loop.example/g01310/laws.FnExactAddOnCubic", spec := "fnExactAddOnCubic", unfollowed := true, recurses := true, named := ["loop.example/g01310/impl.products"], apart := false, laid := [("loop.example/g01310/impl.products", laid_loop_example_g01310_impl_products)] }
def FnExactAddOnCubicSaid : Prop := fnExactAddOnCubicRow.holds Tryd.pinned (OpenSpec.ofChange fnExactAddOnCubicSpec)

/-- ITS FALSE NEIGHBOUR: 'it returns false'. Refute it at one input. -/
def fnExactAddOnCubicWrong : ChangeSpec := { name := "fnExactAddOnCubic", vars := ["loop.example/g01310/impl.products"], fn := fun _ => fun
  | [d1, d2, d3, d4, d5, g1] => { results := [.lit (.bool false)], args := [d1, d2, d3, d4, d5], vars := [g1] }
  | _ => none }
def FnExactAddOnCubicWrongFalsely : Prop := fnExactAddOnCubicRow.holds Tryd.pinned (OpenSpec.ofChange fnExactAddOnCubicWrong)

/-- 'laws.FnExactOrderOnCubic': WHATEVER THE INPUT: true; the input reads as it did. -/
def fnExactOrderOnCubicSpec : ChangeSpec := { name := "fnExactOrderOnCubic", vars := ["loop.example/g01310/impl.products"], fn := fun _ => fun
  | [d1, d2, d3, d4, g1] => { results := [.lit (.bool true)], args := [d1, d2, d3, d4], vars := [g1] }
  | _ => none }
def fnExactOrderOnCubicRow : OpenClaim := { program := "ytcklfkblhmlbbaadoor", sum := "f5c9d50ea649e0773e83e7ddb4d6fb312ae064008342ddd65d43e41e4ede63ac", func := "loop.example/g01310/laws.FnExactOrderOnCubic", spec := "fnExactOrderOnCubic", unfollowed := true, recurses := true, named := ["loop.example/g01310/impl.products"], apart := false, laid := [("loop.example/g01310/impl.products", laid_loop_example_g01310_impl_products)] }
def FnExactOrderOnCubicSaid : Prop := fnExactOrderOnCubicRow.holds Tryd.pinned (OpenSpec.ofChange fnExactOrderOnCubicSpec)

/-- ITS FALSE NEIGHBOUR: 'it returns false'. Refute it at one input. -/
def fnExactOrderOnCubicWrong : ChangeSpec := { name := "fnExactOrderOnCubic", vars := ["loop.example/g01310/impl.products"], fn := fun _ => fun
  | [d1, d2, d3, d4, g1] => { results := [.lit (.bool false)], args := [d1, d2, d3, d4], vars := [g1] }
  | _ => none }
def FnExactOrderOnCubicWrongFalsely : Prop := fnExactOrderOnCubicRow.holds Tryd.pinned (OpenSpec.ofChange fnExactOrderOnCubicWrong)

/-- 'laws.FnExactImageOfCubic': WHATEVER THE INPUT: true; the input reads as it did. -/
def fnExactImageOfCubicSpec : ChangeSpec := { name := "fnExactImageOfCubic", vars := ["loop.example/g01310/impl.products"], fn := fun _ => fun
  | [d1, d2, d3, g1] => { results := [.lit (.bool true)], args := [d1, d2, d3], vars := [g1] }
  | _ => none }
def fnExactImageOfCubicRow : OpenClaim := { program := "ytcklfkblhmlbbaadoor", sum := "f5c9d50ea649e0773e83e7ddb4d6fb312ae064008342ddd65d43e41e4ede63ac", func := "loop.example/g01310/laws.FnExactImageOfCubic", spec := "fnExactImageOfCubic", unfollowed := true, recurses := true, named := ["loop.example/g01310/impl.products"], apart := false, laid := [("loop.example/g01310/impl.products", laid_loop_example_g01310_impl_products)] }
def FnExactImageOfCubicSaid : Prop := fnExactImageOfCubicRow.holds Tryd.pinned (OpenSpec.ofChange fnExactImageOfCubicSpec)

/-- ITS FALSE NEIGHBOUR: 'it returns false'. Refute it at one input. -/
def fnExactImageOfCubicWrong : ChangeSpec := { name := "fnExactImageOfCubic", vars := ["loop.example/g01310/impl.products"], fn := fun _ => fun
  | [d1, d2, d3, g1] => { results := [.lit (.bool false)], args := [d1, d2, d3], vars := [g1] }
  | _ => none }
def FnExactImageOfCubicWrongFalsely : Prop := fnExactImageOfCubicRow.holds Tryd.pinned (OpenSpec.ofChange fnExactImageOfCubicWrong)

/- THE SECOND FORM. 'bulk': how many values and letters a reading holds, each counted each time it is reached (what is shared counts as often as it is met; a slice's spare places count too). A statement '..UptoSaid' is the law's where the arguments, and the package variables that the reading takes, are together of bulk at most 1048576: NARROWER than '..Said'. Prove '..Said' where nothing that the law and all that it calls make is longer than what came in: it says more and counts as full. Else prove '..UptoSaid'. A law counts once. -/
mutual
def uptoBulk {H : Type} : DataW H → Nat
  | .lit (.string bytes) => bytes.length + 1
  | .lit _ => 1
  | .nil => 1
  | .ptr d => uptoBulk d + 1
  | .slice elems spare => uptoBulkAll elems + uptoBulkAll spare + 1
  | .agg parts => uptoBulkAll parts + 1
  | .iface _ d => uptoBulk d + 1
  | .map entries => uptoBulkEntries entries + 1
  | .held _ => 1
def uptoBulkAll {H : Type} : List (DataW H) → Nat
  | [] => 0
  | d :: r => uptoBulk d + uptoBulkAll r
def uptoBulkEntries {H : Type} : List (Lit × DataW H) → Nat
  | [] => 0
  | x :: r => uptoBulkEntry x + uptoBulkEntries r
def uptoBulkEntry {H : Type} : Lit × DataW H → Nat
  | (.string bytes, d) => bytes.length + uptoBulk d + 1
  | (_, d) => uptoBulk d + 1
 end
def uptoSmall : (H : Type) → List (DataW H) → Bool := fun _ ds => decide (uptoBulkAll ds ≤ 1048576)
def OpenSpec.upto (s : _root_.Go.ChangeSpec) : _root_.Go.OpenSpec := { _root_.Go.OpenSpec.ofChange s with cond := some uptoSmall }

/-- 'laws.FnExactTangentOfCubic', WHERE WHAT IT READS IS OF BULK AT MOST 1048576: true; the input reads as it did. -/
def fnExactTangentOfCubicUptoRow : OpenClaim := { program := "ytcklfkblhmlbbaadoor", sum := "f5c9d50ea649e0773e83e7ddb4d6fb312ae064008342ddd65d43e41e4ede63ac", func := "loop.example/g01310/laws.FnExactTangentOfCubic", spec := "fnExactTangentOfCubic", unfollowed := true, recurses := true, named := ["loop.example/g01310/impl.products"], apart := false, laid := [("loop.example/g01310/impl.products", laid_loop_example_g01310_impl_products)], narrowed := true }
def FnExactTangentOfCubicUptoSaid : Prop := fnExactTangentOfCubicUptoRow.holds Tryd.pinned (OpenSpec.upto fnExactTangentOfCubicSpec)

/-- 'laws.FnExactPointsOfCubic', WHERE WHAT IT READS IS OF BULK AT MOST 1048576: true; the input reads as it did. -/
def fnExactPointsOfCubicUptoRow : OpenClaim := { program := "ytcklfkblhmlbbaadoor", sum := "f5c9d50ea649e0773e83e7ddb4d6fb312ae064008342ddd65d43e41e4ede63ac", func := "loop.example/g01310/laws.FnExactPointsOfCubic", spec := "fnExactPointsOfCubic", unfollowed := true, recurses := true, named := ["loop.example/g01310/impl.products"], apart := false, laid := [("loop.example/g01310/impl.products", laid_loop_example_g01310_impl_products)], narrowed := true }
def FnExactPointsOfCubicUptoSaid : Prop := fnExactPointsOfCubicUptoRow.holds Tryd.pinned (OpenSpec.upto fnExactPointsOfCubicSpec)

/-- 'laws.FnExactSingularPoints', WHERE WHAT IT READS IS OF BULK AT MOST 1048576: true; the input reads as it did. -/
def fnExactSingularPointsUptoRow : OpenClaim := { program := "ytcklfkblhmlbbaadoor", sum := "f5c9d50ea649e0773e83e7ddb4d6fb312ae064008342ddd65d43e41e4ede63ac", func := "loop.example/g01310/laws.FnExactSingularPoints", spec := "fnExactSingularPoints", unfollowed := true, recurses := true, named := ["loop.example/g01310/impl.products"], apart := false, laid := [("loop.example/g01310/impl.products", laid_loop_example_g01310_impl_products)], narrowed := true }
def FnExactSingularPointsUptoSaid : Prop := fnExactSingularPointsUptoRow.holds Tryd.pinned (OpenSpec.upto fnExactSingularPointsSpec)

/-- 'laws.FnExactMultiplicitiesOn', WHERE WHAT IT READS IS OF BULK AT MOST 1048576: true; the input reads as it did. -/
def fnExactMultiplicitiesOnUptoRow : OpenClaim := { program := "ytcklfkblhmlbbaadoor", sum := "f5c9d50ea649e0773e83e7ddb4d6fb312ae064008342ddd65d43e41e4ede63ac", func := "loop.example/g01310/laws.FnExactMultiplicitiesOn", spec := "fnExactMultiplicitiesOn", unfollowed := true, recurses := true, named := ["loop.example/g01310/impl.products"], apart := false, laid := [("loop.example/g01310/impl.products", laid_loop_example_g01310_impl_products)], narrowed := true }
def FnExactMultiplicitiesOnUptoSaid : Prop := fnExactMultiplicitiesOnUptoRow.holds Tryd.pinned (OpenSpec.upto fnExactMultiplicitiesOnSpec)

/-- 'laws.FnExactFlexesOf', WHERE WHAT IT READS IS OF BULK AT MOST 1048576: true; the input reads as it did. -/
def fnExactFlexesOfUptoRow : OpenClaim := { program := "ytcklfkblhmlbbaadoor", sum := "f5c9d50ea649e0773e83e7ddb4d6fb312ae064008342ddd65d43e41e4ede63ac", func := "loop.example/g01310/laws.FnExactFlexesOf", spec := "fnExactFlexesOf", unfollowed := true, recurses := true, named := ["loop.example/g01310/impl.products"], apart := false, laid := [("loop.example/g01310/impl.products", laid_loop_example_g01310_impl_products)], narrowed := true }
def FnExactFlexesOfUptoSaid : Prop := fnExactFlexesOfUptoRow.holds Tryd.pinned (OpenSpec.upto fnExactFlexesOfSpec)

/-- 'laws.FnExactThirdPoint', WHERE WHAT IT READS IS OF BULK AT MOST 1048576: true; the input reads as it did. -/
def fnExactThirdPointUptoRow : OpenClaim := { program := "ytcklfkblhmlbbaadoor", sum := "f5c9d50ea649e0773e83e7ddb4d6fb312ae064008342ddd65d43e41e4ede63ac", func := "loop.example/g01310/laws.FnExactThirdPoint", spec := "fnExactThirdPoint", unfollowed := true, recurses := true, named := ["loop.example/g01310/impl.products"], apart := false, laid := [("loop.example/g01310/impl.products", laid_loop_example_g01310_impl_products)], narrowed := true }
def FnExactThirdPointUptoSaid : Prop := fnExactThirdPointUptoRow.holds Tryd.pinned (OpenSpec.upto fnExactThirdPointSpec)

/-- 'laws.FnExactOppositeOnCubic', WHERE WHAT IT READS IS OF BULK AT MOST 1048576: true; the input reads as it did. -/
def fnExactOppositeOnCubicUptoRow : OpenClaim := { program := "ytcklfkblhmlbbaadoor", sum := "f5c9d50ea649e0773e83e7ddb4d6fb312ae064008342ddd65d43e41e4ede63ac", func := "loop.example/g01310/laws.FnExactOppositeOnCubic", spec := "fnExactOppositeOnCubic", unfollowed := true, recurses := true, named := ["loop.example/g01310/impl.products"], apart := false, laid := [("loop.example/g01310/impl.products", laid_loop_example_g01310_impl_products)], narrowed := true }
def FnExactOppositeOnCubicUptoSaid : Prop := fnExactOppositeOnCubicUptoRow.holds Tryd.pinned (OpenSpec.upto fnExactOppositeOnCubicSpec)

/-- 'laws.FnExactAddOnCubic', WHERE WHAT IT READS IS OF BULK AT MOST 1048576: true; the input reads as it did. -/
def fnExactAddOnCubicUptoRow : OpenClaim := { program := "ytcklfkblhmlbbaadoor", sum := "f5c9d50ea649e0773e83e7ddb4d6fb312ae064008342ddd65d43e41e4ede63ac", func := "loop.example/g01310/laws.FnExactAddOnCubic", spec := "fnExactAddOnCubic", unfollowed := true, recurses := true, named := ["loop.example/g01310/impl.products"], apart := false, laid := [("loop.example/g01310/impl.products", laid_loop_example_g01310_impl_products)], narrowed := true }
def FnExactAddOnCubicUptoSaid : Prop := fnExactAddOnCubicUptoRow.holds Tryd.pinned (OpenSpec.upto fnExactAddOnCubicSpec)

/-- 'laws.FnExactOrderOnCubic', WHERE WHAT IT READS IS OF BULK AT MOST 1048576: true; the input reads as it did. -/
def fnExactOrderOnCubicUptoRow : OpenClaim := { program := "ytcklfkblhmlbbaadoor", sum := "f5c9d50ea649e0773e83e7ddb4d6fb312ae064008342ddd65d43e41e4ede63ac", func := "loop.example/g01310/laws.FnExactOrderOnCubic", spec := "fnExactOrderOnCubic", unfollowed := true, recurses := true, named := ["loop.example/g01310/impl.products"], apart := false, laid := [("loop.example/g01310/impl.products", laid_loop_example_g01310_impl_products)], narrowed := true }
def FnExactOrderOnCubicUptoSaid : Prop := fnExactOrderOnCubicUptoRow.holds Tryd.pinned (OpenSpec.upto fnExactOrderOnCubicSpec)

/-- 'laws.FnExactImageOfCubic', WHERE WHAT IT READS IS OF BULK AT MOST 1048576: true; the input reads as it did. -/
def fnExactImageOfCubicUptoRow : OpenClaim := { program := "ytcklfkblhmlbbaadoor", sum := "f5c9d50ea649e0773e83e7ddb4d6fb312ae064008342ddd65d43e41e4ede63ac", func := "loop.example/g01310/laws.FnExactImageOfCubic", spec := "fnExactImageOfCubic", unfollowed := true, recurses := true, named := ["loop.example/g01310/impl.products"], apart := false, laid := [("loop.example/g01310/impl.products", laid_loop_example_g01310_impl_products)], narrowed := true }
def FnExactImageOfCubicUptoSaid : Prop := fnExactImageOfCubicUptoRow.holds Tryd.pinned (OpenSpec.upto fnExactImageOfCubicSpec)

end Rows
end Go.Proofs.YtcklfkblhmlbbaaDoor
