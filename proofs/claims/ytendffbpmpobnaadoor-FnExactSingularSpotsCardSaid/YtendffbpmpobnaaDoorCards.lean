/-
  DERIVED. GIVEN WITH THE SEED: THE CARDS: each row of YtendffbpmpobnaaDoorRows.lean that lists a variable, with what it lists TIED to the program's text (the seventh form; the later family's looks); each row that meets fmt, with fmt's text TOLD by the authors' own Lean function (tested against real Go, not proved from fmt's source: count such statements apart). THE CARD IS WHAT COUNTS. Prove the row's statement (the work); the ties are given (YtendffbpmpobnaaDoorTie.lean); close each card by the builder's one call (the guide's Derived/Test/ToyasCard.lean, 'card_holds'). Laid BY PROGRAM, IN A SANDBOX (cutbox-door.mjs). By AI agents, Wed Nov 11 2026. No macro, syntax, notation, axiom, sorry.
-/
import Derived.Test.YtendffbpmpobnaaDoorRows
import GoSem.ClaimSeven
namespace Go.Proofs.YtendffbpmpobnaaDoor
namespace Rows

/-- THE TIED CARD OF 'laws.FnExactIsOnQuadric'. -/
def fnExactIsOnQuadricCard : Claim7 := { stood := { row := fnExactIsOnQuadricRow, standIns := [], harness := (true, "ca47ef68a44e07a00341c581f26b2d06e669dde4c940db7ff70ab22ae10a21c3"), looks := false }, kinds := [], alts := [], laidByText := true, laidKinds := [.data], laidTests := true, laidLooks := .later }
def FnExactIsOnQuadricCardSaid : Prop := Claim7.holds Tryd.pinned (.plain (OpenSpec.ofChange fnExactIsOnQuadricSpec)) fnExactIsOnQuadricCard

/-- THE TIED CARD OF 'laws.FnExactCountSpots'. -/
def fnExactCountSpotsCard : Claim7 := { stood := { row := fnExactCountSpotsRow, standIns := [], harness := (true, "ca47ef68a44e07a00341c581f26b2d06e669dde4c940db7ff70ab22ae10a21c3"), looks := false }, kinds := [], alts := [], laidByText := true, laidKinds := [.data], laidTests := true, laidLooks := .later }
def FnExactCountSpotsCardSaid : Prop := Claim7.holds Tryd.pinned (.plain (OpenSpec.ofChange fnExactCountSpotsSpec)) fnExactCountSpotsCard

/-- THE TIED CARD OF 'laws.FnExactSpotsOfQuadric'. -/
def fnExactSpotsOfQuadricCard : Claim7 := { stood := { row := fnExactSpotsOfQuadricRow, standIns := [], harness := (true, "ca47ef68a44e07a00341c581f26b2d06e669dde4c940db7ff70ab22ae10a21c3"), looks := false }, kinds := [], alts := [], laidByText := true, laidKinds := [.data], laidTests := true, laidLooks := .later }
def FnExactSpotsOfQuadricCardSaid : Prop := Claim7.holds Tryd.pinned (.plain (OpenSpec.ofChange fnExactSpotsOfQuadricSpec)) fnExactSpotsOfQuadricCard

/-- THE TIED CARD OF 'laws.FnExactPolarPlane'. -/
def fnExactPolarPlaneCard : Claim7 := { stood := { row := fnExactPolarPlaneRow, standIns := [], harness := (true, "ca47ef68a44e07a00341c581f26b2d06e669dde4c940db7ff70ab22ae10a21c3"), looks := false }, kinds := [], alts := [], laidByText := true, laidKinds := [.data], laidTests := true, laidLooks := .later }
def FnExactPolarPlaneCardSaid : Prop := Claim7.holds Tryd.pinned (.plain (OpenSpec.ofChange fnExactPolarPlaneSpec)) fnExactPolarPlaneCard

/-- THE TIED CARD OF 'laws.FnExactSingularSpots'. -/
def fnExactSingularSpotsCard : Claim7 := { stood := { row := fnExactSingularSpotsRow, standIns := [], harness := (true, "ca47ef68a44e07a00341c581f26b2d06e669dde4c940db7ff70ab22ae10a21c3"), looks := false }, kinds := [], alts := [], laidByText := true, laidKinds := [.data], laidTests := true, laidLooks := .later }
def FnExactSingularSpotsCardSaid : Prop := Claim7.holds Tryd.pinned (.plain (OpenSpec.ofChange fnExactSingularSpotsSpec)) fnExactSingularSpotsCard

/-- THE TIED CARD OF 'laws.FnExactRankOfQuadric'. -/
def fnExactRankOfQuadricCard : Claim7 := { stood := { row := fnExactRankOfQuadricRow, standIns := [], harness := (true, "ca47ef68a44e07a00341c581f26b2d06e669dde4c940db7ff70ab22ae10a21c3"), looks := false }, kinds := [], alts := [], laidByText := true, laidKinds := [.data], laidTests := true, laidLooks := .later }
def FnExactRankOfQuadricCardSaid : Prop := Claim7.holds Tryd.pinned (.plain (OpenSpec.ofChange fnExactRankOfQuadricSpec)) fnExactRankOfQuadricCard

/-- THE TIED CARD OF 'laws.FnExactSectionOfQuadric'. -/
def fnExactSectionOfQuadricCard : Claim7 := { stood := { row := fnExactSectionOfQuadricRow, standIns := [], harness := (true, "ca47ef68a44e07a00341c581f26b2d06e669dde4c940db7ff70ab22ae10a21c3"), looks := false }, kinds := [], alts := [], laidByText := true, laidKinds := [.data], laidTests := true, laidLooks := .later }
def FnExactSectionOfQuadricCardSaid : Prop := Claim7.holds Tryd.pinned (.plain (OpenSpec.ofChange fnExactSectionOfQuadricSpec)) fnExactSectionOfQuadricCard

/-- THE TIED CARD OF 'laws.FnExactQuadricsThrough'. -/
def fnExactQuadricsThroughCard : Claim7 := { stood := { row := fnExactQuadricsThroughRow, standIns := [], harness := (true, "ca47ef68a44e07a00341c581f26b2d06e669dde4c940db7ff70ab22ae10a21c3"), looks := false }, kinds := [], alts := [], laidByText := true, laidKinds := [.data], laidTests := true, laidLooks := .later }
def FnExactQuadricsThroughCardSaid : Prop := Claim7.holds Tryd.pinned (.plain (OpenSpec.ofChange fnExactQuadricsThroughSpec)) fnExactQuadricsThroughCard

/-- THE TIED CARD OF 'laws.FnExactQuadricOfLines'. -/
def fnExactQuadricOfLinesCard : Claim7 := { stood := { row := fnExactQuadricOfLinesRow, standIns := [], harness := (true, "ca47ef68a44e07a00341c581f26b2d06e669dde4c940db7ff70ab22ae10a21c3"), looks := false }, kinds := [], alts := [], laidByText := true, laidKinds := [.data], laidTests := true, laidLooks := .later }
def FnExactQuadricOfLinesCardSaid : Prop := Claim7.holds Tryd.pinned (.plain (OpenSpec.ofChange fnExactQuadricOfLinesSpec)) fnExactQuadricOfLinesCard

/-- THE SECOND FORM's CARD OF 'laws.FnExactIsOnQuadric'. -/
def fnExactIsOnQuadricUptoCard : Claim7 := { stood := { row := fnExactIsOnQuadricUptoRow, standIns := [], harness := (true, "ca47ef68a44e07a00341c581f26b2d06e669dde4c940db7ff70ab22ae10a21c3"), looks := false }, kinds := [], alts := [], laidByText := true, laidKinds := [.data], laidTests := true, laidLooks := .later }
def FnExactIsOnQuadricUptoCardSaid : Prop := Claim7.holds Tryd.pinned (.plain (OpenSpec.upto fnExactIsOnQuadricSpec)) fnExactIsOnQuadricUptoCard

/-- THE SECOND FORM's CARD OF 'laws.FnExactCountSpots'. -/
def fnExactCountSpotsUptoCard : Claim7 := { stood := { row := fnExactCountSpotsUptoRow, standIns := [], harness := (true, "ca47ef68a44e07a00341c581f26b2d06e669dde4c940db7ff70ab22ae10a21c3"), looks := false }, kinds := [], alts := [], laidByText := true, laidKinds := [.data], laidTests := true, laidLooks := .later }
def FnExactCountSpotsUptoCardSaid : Prop := Claim7.holds Tryd.pinned (.plain (OpenSpec.upto fnExactCountSpotsSpec)) fnExactCountSpotsUptoCard

/-- THE SECOND FORM's CARD OF 'laws.FnExactSpotsOfQuadric'. -/
def fnExactSpotsOfQuadricUptoCard : Claim7 := { stood := { row := fnExactSpotsOfQuadricUptoRow, standIns := [], harness := (true, "ca47ef68a44e07a00341c581f26b2d06e669dde4c940db7ff70ab22ae10a21c3"), looks := false }, kinds := [], alts := [], laidByText := true, laidKinds := [.data], laidTests := true, laidLooks := .later }
def FnExactSpotsOfQuadricUptoCardSaid : Prop := Claim7.holds Tryd.pinned (.plain (OpenSpec.upto fnExactSpotsOfQuadricSpec)) fnExactSpotsOfQuadricUptoCard

/-- THE SECOND FORM's CARD OF 'laws.FnExactPolarPlane'. -/
def fnExactPolarPlaneUptoCard : Claim7 := { stood := { row := fnExactPolarPlaneUptoRow, standIns := [], harness := (true, "ca47ef68a44e07a00341c581f26b2d06e669dde4c940db7ff70ab22ae10a21c3"), looks := false }, kinds := [], alts := [], laidByText := true, laidKinds := [.data], laidTests := true, laidLooks := .later }
def FnExactPolarPlaneUptoCardSaid : Prop := Claim7.holds Tryd.pinned (.plain (OpenSpec.upto fnExactPolarPlaneSpec)) fnExactPolarPlaneUptoCard

/-- THE SECOND FORM's CARD OF 'laws.FnExactSingularSpots'. -/
def fnExactSingularSpotsUptoCard : Claim7 := { stood := { row := fnExactSingularSpotsUptoRow, standIns := [], harness := (true, "ca47ef68a44e07a00341c581f26b2d06e669dde4c940db7ff70ab22ae10a21c3"), looks := false }, kinds := [], alts := [], laidByText := true, laidKinds := [.data], laidTests := true, laidLooks := .later }
def FnExactSingularSpotsUptoCardSaid : Prop := Claim7.holds Tryd.pinned (.plain (OpenSpec.upto fnExactSingularSpotsSpec)) fnExactSingularSpotsUptoCard

/-- THE SECOND FORM's CARD OF 'laws.FnExactRankOfQuadric'. -/
def fnExactRankOfQuadricUptoCard : Claim7 := { stood := { row := fnExactRankOfQuadricUptoRow, standIns := [], harness := (true, "ca47ef68a44e07a00341c581f26b2d06e669dde4c940db7ff70ab22ae10a21c3"), looks := false }, kinds := [], alts := [], laidByText := true, laidKinds := [.data], laidTests := true, laidLooks := .later }
def FnExactRankOfQuadricUptoCardSaid : Prop := Claim7.holds Tryd.pinned (.plain (OpenSpec.upto fnExactRankOfQuadricSpec)) fnExactRankOfQuadricUptoCard

/-- THE SECOND FORM's CARD OF 'laws.FnExactSectionOfQuadric'. -/
def fnExactSectionOfQuadricUptoCard : Claim7 := { stood := { row := fnExactSectionOfQuadricUptoRow, standIns := [], harness := (true, "ca47ef68a44e07a00341c581f26b2d06e669dde4c940db7ff70ab22ae10a21c3"), looks := false }, kinds := [], alts := [], laidByText := true, laidKinds := [.data], laidTests := true, laidLooks := .later }
def FnExactSectionOfQuadricUptoCardSaid : Prop := Claim7.holds Tryd.pinned (.plain (OpenSpec.upto fnExactSectionOfQuadricSpec)) fnExactSectionOfQuadricUptoCard

/-- THE SECOND FORM's CARD OF 'laws.FnExactQuadricsThrough'. -/
def fnExactQuadricsThroughUptoCard : Claim7 := { stood := { row := fnExactQuadricsThroughUptoRow, standIns := [], harness := (true, "ca47ef68a44e07a00341c581f26b2d06e669dde4c940db7ff70ab22ae10a21c3"), looks := false }, kinds := [], alts := [], laidByText := true, laidKinds := [.data], laidTests := true, laidLooks := .later }
def FnExactQuadricsThroughUptoCardSaid : Prop := Claim7.holds Tryd.pinned (.plain (OpenSpec.upto fnExactQuadricsThroughSpec)) fnExactQuadricsThroughUptoCard

/-- THE SECOND FORM's CARD OF 'laws.FnExactQuadricOfLines'. -/
def fnExactQuadricOfLinesUptoCard : Claim7 := { stood := { row := fnExactQuadricOfLinesUptoRow, standIns := [], harness := (true, "ca47ef68a44e07a00341c581f26b2d06e669dde4c940db7ff70ab22ae10a21c3"), looks := false }, kinds := [], alts := [], laidByText := true, laidKinds := [.data], laidTests := true, laidLooks := .later }
def FnExactQuadricOfLinesUptoCardSaid : Prop := Claim7.holds Tryd.pinned (.plain (OpenSpec.upto fnExactQuadricOfLinesSpec)) fnExactQuadricOfLinesUptoCard
end Rows
end Go.Proofs.YtendffbpmpobnaaDoor
