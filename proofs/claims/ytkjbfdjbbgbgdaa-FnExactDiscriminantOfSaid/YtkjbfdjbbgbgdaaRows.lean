/-
  No cell of these rows narrows 'for every input' (looked for: loops, veiled, ifaces, maps, wideKeys, modest, calm, conditions, laid).
  DERIVED. THE GIVEN ROWS OF THIS SEAT. 6 by the template 'for every input the law returns true; each argument reads behind the call as it read before'; 0 by the template 'total and deterministic' (their statements: YtkjbfdjbbgbgdaaTotals.lean).
  GIVEN WITH THE SEED: the statements are not yours to turn. If you find one false, say at which input.
  Laid BY PROGRAM, IN A SANDBOX (cutbox-rows.mjs): the forced cells as the released guide's own fill.sh prints them over the translation f56eb7a91498010b… (all of the seat's roots in one cut). By AI agents, Wed Nov 11 2026. No macro, syntax, notation, axiom, sorry.
-/
import Derived.Test.YtkjbfdjbbgbgdaaChecked
import GoSem.Claim
import GoSem.ClaimJoined
import GoSem.ClaimMapViews
import Derived.JoinedTies
import Derived.KernelRfl
namespace Go.Proofs.Ytkjbfdjbbgbgdaa
/- THE CELL 'sum', in the pinned program and in every row, IS THE sha256 OF THE DUMP (.gsa) THAT YtkjbfdjbbgbgdaaProg.lean LOADS. Nothing in Lean hashes anything: it is a label: what it is worth is what the hold of that sum in a sandbox is worth. -/
noncomputable def Try.pinned : Pinned := { name := "ytkjbfdjbbgbgdaa", sum := "f56eb7a91498010bc61e5cd4f8661e6385a836f5f83f8ad1a4b31fcf650587c8", checked := Try.checked }
namespace Rows
def none {H : Type} : Left H := { results := [], args := [] }

/-- 'laws.FnExactIsQuadric': WHATEVER THE INPUT: true; the input reads as it did. -/
def fnExactIsQuadricSpec : ChangeSpec := { name := "fnExactIsQuadric", fn := fun _ => fun
  | [d1, d2] => { results := [.lit (.bool true)], args := [d1, d2] }
  | _ => none }
def fnExactIsQuadricRow : OpenClaim := { program := "ytkjbfdjbbgbgdaa", sum := "f56eb7a91498010bc61e5cd4f8661e6385a836f5f83f8ad1a4b31fcf650587c8", func := "loop.example/g01310/laws.FnExactIsQuadric", spec := "fnExactIsQuadric", apart := false }
def FnExactIsQuadricSaid : Prop := fnExactIsQuadricRow.holds Try.pinned (OpenSpec.ofChange fnExactIsQuadricSpec)

/-- ITS FALSE NEIGHBOUR: 'it returns false'. Refute it at one input. -/
def fnExactIsQuadricWrong : ChangeSpec := { name := "fnExactIsQuadric", fn := fun _ => fun
  | [d1, d2] => { results := [.lit (.bool false)], args := [d1, d2] }
  | _ => none }
def FnExactIsQuadricWrongFalsely : Prop := fnExactIsQuadricRow.holds Try.pinned (OpenSpec.ofChange fnExactIsQuadricWrong)

/-- 'laws.FnExactIsSpot': WHATEVER THE INPUT: true; the input reads as it did. -/
def fnExactIsSpotSpec : ChangeSpec := { name := "fnExactIsSpot", fn := fun _ => fun
  | [d1, d2] => { results := [.lit (.bool true)], args := [d1, d2] }
  | _ => none }
def fnExactIsSpotRow : OpenClaim := { program := "ytkjbfdjbbgbgdaa", sum := "f56eb7a91498010bc61e5cd4f8661e6385a836f5f83f8ad1a4b31fcf650587c8", func := "loop.example/g01310/laws.FnExactIsSpot", spec := "fnExactIsSpot", apart := false }
def FnExactIsSpotSaid : Prop := fnExactIsSpotRow.holds Try.pinned (OpenSpec.ofChange fnExactIsSpotSpec)

/-- ITS FALSE NEIGHBOUR: 'it returns false'. Refute it at one input. -/
def fnExactIsSpotWrong : ChangeSpec := { name := "fnExactIsSpot", fn := fun _ => fun
  | [d1, d2] => { results := [.lit (.bool false)], args := [d1, d2] }
  | _ => none }
def FnExactIsSpotWrongFalsely : Prop := fnExactIsSpotRow.holds Try.pinned (OpenSpec.ofChange fnExactIsSpotWrong)

/-- 'laws.FnExactIsCubic': WHATEVER THE INPUT: true; the input reads as it did. -/
def fnExactIsCubicSpec : ChangeSpec := { name := "fnExactIsCubic", fn := fun _ => fun
  | [d1, d2] => { results := [.lit (.bool true)], args := [d1, d2] }
  | _ => none }
def fnExactIsCubicRow : OpenClaim := { program := "ytkjbfdjbbgbgdaa", sum := "f56eb7a91498010bc61e5cd4f8661e6385a836f5f83f8ad1a4b31fcf650587c8", func := "loop.example/g01310/laws.FnExactIsCubic", spec := "fnExactIsCubic", apart := false }
def FnExactIsCubicSaid : Prop := fnExactIsCubicRow.holds Try.pinned (OpenSpec.ofChange fnExactIsCubicSpec)

/-- ITS FALSE NEIGHBOUR: 'it returns false'. Refute it at one input. -/
def fnExactIsCubicWrong : ChangeSpec := { name := "fnExactIsCubic", fn := fun _ => fun
  | [d1, d2] => { results := [.lit (.bool false)], args := [d1, d2] }
  | _ => none }
def FnExactIsCubicWrongFalsely : Prop := fnExactIsCubicRow.holds Try.pinned (OpenSpec.ofChange fnExactIsCubicWrong)

/-- 'laws.FnExactDiscriminantOf': WHATEVER THE INPUT: true; the input reads as it did. -/
def fnExactDiscriminantOfSpec : ChangeSpec := { name := "fnExactDiscriminantOf", fn := fun _ => fun
  | [d1, d2] => { results := [.lit (.bool true)], args := [d1, d2] }
  | _ => none }
def fnExactDiscriminantOfRow : OpenClaim := { program := "ytkjbfdjbbgbgdaa", sum := "f56eb7a91498010bc61e5cd4f8661e6385a836f5f83f8ad1a4b31fcf650587c8", func := "loop.example/g01310/laws.FnExactDiscriminantOf", spec := "fnExactDiscriminantOf", apart := false }
def FnExactDiscriminantOfSaid : Prop := fnExactDiscriminantOfRow.holds Try.pinned (OpenSpec.ofChange fnExactDiscriminantOfSpec)

/-- ITS FALSE NEIGHBOUR: 'it returns false'. Refute it at one input. -/
def fnExactDiscriminantOfWrong : ChangeSpec := { name := "fnExactDiscriminantOf", fn := fun _ => fun
  | [d1, d2] => { results := [.lit (.bool false)], args := [d1, d2] }
  | _ => none }
def FnExactDiscriminantOfWrongFalsely : Prop := fnExactDiscriminantOfRow.holds Try.pinned (OpenSpec.ofChange fnExactDiscriminantOfWrong)

/-- 'laws.FnExactCubicOf': WHATEVER THE INPUT: true; the input reads as it did. -/
def fnExactCubicOfSpec : ChangeSpec := { name := "fnExactCubicOf", fn := fun _ => fun
  | [d1, d2] => { results := [.lit (.bool true)], args := [d1, d2] }
  | _ => none }
def fnExactCubicOfRow : OpenClaim := { program := "ytkjbfdjbbgbgdaa", sum := "f56eb7a91498010bc61e5cd4f8661e6385a836f5f83f8ad1a4b31fcf650587c8", func := "loop.example/g01310/laws.FnExactCubicOf", spec := "fnExactCubicOf", apart := false }
def FnExactCubicOfSaid : Prop := fnExactCubicOfRow.holds Try.pinned (OpenSpec.ofChange fnExactCubicOfSpec)

/-- ITS FALSE NEIGHBOUR: 'it returns false'. Refute it at one input. -/
def fnExactCubicOfWrong : ChangeSpec := { name := "fnExactCubicOf", fn := fun _ => fun
  | [d1, d2] => { results := [.lit (.bool false)], args := [d1, d2] }
  | _ => none }
def FnExactCubicOfWrongFalsely : Prop := fnExactCubicOfRow.holds Try.pinned (OpenSpec.ofChange fnExactCubicOfWrong)

/-- 'laws.FnExactQuadricOf': WHATEVER THE INPUT: true; the input reads as it did. -/
def fnExactQuadricOfSpec : ChangeSpec := { name := "fnExactQuadricOf", fn := fun _ => fun
  | [d1, d2] => { results := [.lit (.bool true)], args := [d1, d2] }
  | _ => none }
def fnExactQuadricOfRow : OpenClaim := { program := "ytkjbfdjbbgbgdaa", sum := "f56eb7a91498010bc61e5cd4f8661e6385a836f5f83f8ad1a4b31fcf650587c8", func := "loop.example/g01310/laws.FnExactQuadricOf", spec := "fnExactQuadricOf", apart := false }
def FnExactQuadricOfSaid : Prop := fnExactQuadricOfRow.holds Try.pinned (OpenSpec.ofChange fnExactQuadricOfSpec)

/-- ITS FALSE NEIGHBOUR: 'it returns false'. Refute it at one input. -/
def fnExactQuadricOfWrong : ChangeSpec := { name := "fnExactQuadricOf", fn := fun _ => fun
  | [d1, d2] => { results := [.lit (.bool false)], args := [d1, d2] }
  | _ => none }
def FnExactQuadricOfWrongFalsely : Prop := fnExactQuadricOfRow.holds Try.pinned (OpenSpec.ofChange fnExactQuadricOfWrong)

/- THE SECOND FORM. 'bulk': how many values and letters a reading holds, each counted each time it is reached (what is shared counts as often as it is met; a slice's spare places count too). A statement '..UptoSaid' is the law's where the arguments, and the package variables that the reading takes, are together of bulk at most 1048576: NARROWER than '..Said'. Prove '..Said' where nothing that the law and all that it calls make is longer than what came in: it says more and counts as full. Else prove '..UptoSaid'. A law counts once. -/
mutual
def uptoBulk {H : Type} : DataW H → Nat
  | .lit (.string bytes) => bytes.length + 1
  | .lit _ => 1
  | .nil => 1
  | .ptr d => uptoBulk d + 1
  | .slice elems spare => uptoBulkAll elems + uptoBulkAll spare + 1
  | .agg parts => uptoBulkAll parts + 1
  | .iface _ d => uptoBulk d + 1
  | .map entries => uptoBulkEntries entries + 1
  | .held _ => 1
def uptoBulkAll {H : Type} : List (DataW H) → Nat
  | [] => 0
  | d :: r => uptoBulk d + uptoBulkAll r
def uptoBulkEntries {H : Type} : List (Lit × DataW H) → Nat
  | [] => 0
  | x :: r => uptoBulkEntry x + uptoBulkEntries r
def uptoBulkEntry {H : Type} : Lit × DataW H → Nat
  | (.string bytes, d) => bytes.length + uptoBulk d + 1
  | (_, d) => uptoBulk d + 1
 end
def uptoSmall : (H : Type) → List (DataW H) → Bool := fun _ ds => decide (uptoBulkAll ds ≤ 1048576)
def OpenSpec.upto (s : _root_.Go.ChangeSpec) : _root_.Go.OpenSpec := { _root_.Go.OpenSpec.ofChange s with cond := some uptoSmall }

/-- 'laws.FnExactIsQuadric', WHERE WHAT IT READS IS OF BULK AT MOST 1048576: true; the input reads as it did. -/
def fnExactIsQuadricUptoRow : OpenClaim := { program := "ytkjbfdjbbgbgdaa", sum := "f56eb7a91498010bc61e5cd4f8661e6385a836f5f83f8ad1a4b31fcf650587c8", func := "loop.example/g01310/laws.FnExactIsQuadric", spec := "fnExactIsQuadric", apart := false, narrowed := true }
def FnExactIsQuadricUptoSaid : Prop := fnExactIsQuadricUptoRow.holds Try.pinned (OpenSpec.upto fnExactIsQuadricSpec)

/-- 'laws.FnExactIsSpot', WHERE WHAT IT READS IS OF BULK AT MOST 1048576: true; the input reads as it did. -/
def fnExactIsSpotUptoRow : OpenClaim := { program := "ytkjbfdjbbgbgdaa", sum := "f56eb7a91498010bc61e5cd4f8661e6385a836f5f83f8ad1a4b31fcf650587c8", func := "loop.example/g01310/laws.FnExactIsSpot", spec := "fnExactIsSpot", apart := false, narrowed := true }
def FnExactIsSpotUptoSaid : Prop := fnExactIsSpotUptoRow.holds Try.pinned (OpenSpec.upto fnExactIsSpotSpec)

/-- 'laws.FnExactIsCubic', WHERE WHAT IT READS IS OF BULK AT MOST 1048576: true; the input reads as it did. -/
def fnExactIsCubicUptoRow : OpenClaim := { program := "ytkjbfdjbbgbgdaa", sum := "f56eb7a91498010bc61e5cd4f8661e6385a836f5f83f8ad1a4b31fcf650587c8", func := "loop.example/g01310/laws.FnExactIsCubic", spec := "fnExactIsCubic", apart := false, narrowed := true }
def FnExactIsCubicUptoSaid : Prop := fnExactIsCubicUptoRow.holds Try.pinned (OpenSpec.upto fnExactIsCubicSpec)

/-- 'laws.FnExactDiscriminantOf', WHERE WHAT IT READS IS OF BULK AT MOST 1048576: true; the input reads as it did. -/
def fnExactDiscriminantOfUptoRow : OpenClaim := { program := "ytkjbfdjbbgbgdaa", sum := "f56eb7a91498010bc61e5cd4f8661e6385a836f5f83f8ad1a4b31fcf650587c8", func := "loop.example/g01310/laws.FnExactDiscriminantOf", spec := "fnExactDiscriminantOf", apart := false, narrowed := true }
def FnExactDiscriminantOfUptoSaid : Prop := fnExactDiscriminantOfUptoRow.holds Try.pinned (OpenSpec.upto fnExactDiscriminantOfSpec)

/-- 'laws.FnExactCubicOf', WHERE WHAT IT READS IS OF BULK AT MOST 1048576: true; the input reads as it did. -/
def fnExactCubicOfUptoRow : OpenClaim := { program := "ytkjbfdjbbgbgdaa", sum := "f56eb7a91498010bc61e5cd4f8661e6385a836f5f83f8ad1a4b31fcf650587c8", func := "loop.example/g01310/laws.FnExactCubicOf", spec := "fnExactCubicOf", apart := false, narrowed := true }
def FnExactCubicOfUptoSaid : Prop := fnExactCubicOfUptoRow.holds Try.pinned (OpenSpec.upto fnExactCubicOfSpec)

/-- 'laws.FnExactQuadricOf', WHERE WHAT IT READS IS OF BULK AT MOST 1048576: true; the input reads as it did. -/
def fnExactQuadricOfUptoRow : OpenClaim := { program := "ytkjbfdjbbgbgdaa", sum := "f56eb7a91498010bc61e5cd4f8661e6385a836f5f83f8ad1a4b31fcf650587c8", func := "loop.example/g01310/laws.FnExactQuadricOf", spec := "fnExactQuadricOf", apart := false, narrowed := true }
def FnExactQuadricOfUptoSaid : Prop := fnExactQuadricOfUptoRow.holds Try.pinned (OpenSpec.upto fnExactQuadricOfSpec)

end Rows
end Go.Proofs.Ytkjbfdjbbgbgdaa
