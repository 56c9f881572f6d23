/-
  DERIVED. GIVEN WITH THE SEED: THE CARDS: each row of YtcklfkblhmlbbaaDoorRows.lean that lists a variable, with what it lists TIED to the program's text (the seventh form; the later family's looks); each row that meets fmt, with fmt's text TOLD by the authors' own Lean function (tested against real Go, not proved from fmt's source: count such statements apart). THE CARD IS WHAT COUNTS. Prove the row's statement (the work); the ties are given (YtcklfkblhmlbbaaDoorTie.lean); close each card by the builder's one call (the guide's Derived/Test/ToyasCard.lean, 'card_holds'). Laid BY PROGRAM, IN A SANDBOX (cutbox-door.mjs). By AI agents, Wed Nov 11 2026. No macro, syntax, notation, axiom, sorry.
-/
import Derived.Test.YtcklfkblhmlbbaaDoorRows
import GoSem.ClaimSeven
namespace Go.Proofs.YtcklfkblhmlbbaaDoor
namespace Rows

/-- THE TIED CARD OF 'laws.FnExactTangentOfCubic'. -/
def fnExactTangentOfCubicCard : Claim7 := { stood := { row := fnExactTangentOfCubicRow, standIns := [], harness := (true, "94a33f447d679432d257fa6f7d8e74aa8894bea4e2073e64d6ff3817a69807f3"), looks := false }, kinds := [], alts := [], laidByText := true, laidKinds := [.widerDeep], laidTests := true, laidLooks := .later }
def FnExactTangentOfCubicCardSaid : Prop := Claim7.holds Tryd.pinned (.plain (OpenSpec.ofChange fnExactTangentOfCubicSpec)) fnExactTangentOfCubicCard

/-- THE TIED CARD OF 'laws.FnExactPointsOfCubic'. -/
def fnExactPointsOfCubicCard : Claim7 := { stood := { row := fnExactPointsOfCubicRow, standIns := [], harness := (true, "94a33f447d679432d257fa6f7d8e74aa8894bea4e2073e64d6ff3817a69807f3"), looks := false }, kinds := [], alts := [], laidByText := true, laidKinds := [.widerDeep], laidTests := true, laidLooks := .later }
def FnExactPointsOfCubicCardSaid : Prop := Claim7.holds Tryd.pinned (.plain (OpenSpec.ofChange fnExactPointsOfCubicSpec)) fnExactPointsOfCubicCard

/-- THE TIED CARD OF 'laws.FnExactSingularPoints'. -/
def fnExactSingularPointsCard : Claim7 := { stood := { row := fnExactSingularPointsRow, standIns := [], harness := (true, "94a33f447d679432d257fa6f7d8e74aa8894bea4e2073e64d6ff3817a69807f3"), looks := false }, kinds := [], alts := [], laidByText := true, laidKinds := [.widerDeep], laidTests := true, laidLooks := .later }
def FnExactSingularPointsCardSaid : Prop := Claim7.holds Tryd.pinned (.plain (OpenSpec.ofChange fnExactSingularPointsSpec)) fnExactSingularPointsCard

/-- THE TIED CARD OF 'laws.FnExactMultiplicitiesOn'. -/
def fnExactMultiplicitiesOnCard : Claim7 := { stood := { row := fnExactMultiplicitiesOnRow, standIns := [], harness := (true, "94a33f447d679432d257fa6f7d8e74aa8894bea4e2073e64d6ff3817a69807f3"), looks := false }, kinds := [], alts := [], laidByText := true, laidKinds := [.widerDeep], laidTests := true, laidLooks := .later }
def FnExactMultiplicitiesOnCardSaid : Prop := Claim7.holds Tryd.pinned (.plain (OpenSpec.ofChange fnExactMultiplicitiesOnSpec)) fnExactMultiplicitiesOnCard

/-- THE TIED CARD OF 'laws.FnExactFlexesOf'. -/
def fnExactFlexesOfCard : Claim7 := { stood := { row := fnExactFlexesOfRow, standIns := [], harness := (true, "94a33f447d679432d257fa6f7d8e74aa8894bea4e2073e64d6ff3817a69807f3"), looks := false }, kinds := [], alts := [], laidByText := true, laidKinds := [.widerDeep], laidTests := true, laidLooks := .later }
def FnExactFlexesOfCardSaid : Prop := Claim7.holds Tryd.pinned (.plain (OpenSpec.ofChange fnExactFlexesOfSpec)) fnExactFlexesOfCard

/-- THE TIED CARD OF 'laws.FnExactThirdPoint'. -/
def fnExactThirdPointCard : Claim7 := { stood := { row := fnExactThirdPointRow, standIns := [], harness := (true, "94a33f447d679432d257fa6f7d8e74aa8894bea4e2073e64d6ff3817a69807f3"), looks := false }, kinds := [], alts := [], laidByText := true, laidKinds := [.widerDeep], laidTests := true, laidLooks := .later }
def FnExactThirdPointCardSaid : Prop := Claim7.holds Tryd.pinned (.plain (OpenSpec.ofChange fnExactThirdPointSpec)) fnExactThirdPointCard

/-- THE TIED CARD OF 'laws.FnExactOppositeOnCubic'. -/
def fnExactOppositeOnCubicCard : Claim7 := { stood := { row := fnExactOppositeOnCubicRow, standIns := [], harness := (true, "94a33f447d679432d257fa6f7d8e74aa8894bea4e2073e64d6ff3817a69807f3"), looks := false }, kinds := [], alts := [], laidByText := true, laidKinds := [.widerDeep], laidTests := true, laidLooks := .later }
def FnExactOppositeOnCubicCardSaid : Prop := Claim7.holds Tryd.pinned (.plain (OpenSpec.ofChange fnExactOppositeOnCubicSpec)) fnExactOppositeOnCubicCard

/-- THE TIED CARD OF 'laws.FnExactAddOnCubic'. -/
def fnExactAddOnCubicCard : Claim7 := { stood := { row := fnExactAddOnCubicRow, standIns := [], harness := (true, "94a33f447d679432d257fa6f7d8e74aa8894bea4e2073e64d6ff3817a69807f3"), looks := false }, kinds := [], alts := [], laidByText := true, laidKinds := [.widerDeep], laidTests := true, laidLooks := .later }
def FnExactAddOnCubicCardSaid : Prop := Claim7.holds Tryd.pinned (.plain (OpenSpec.ofChange fnExactAddOnCubicSpec)) fnExactAddOnCubicCard

/-- THE TIED CARD OF 'laws.FnExactOrderOnCubic'. -/
def fnExactOrderOnCubicCard : Claim7 := { stood := { row := fnExactOrderOnCubicRow, standIns := [], harness := (true, "94a33f447d679432d257fa6f7d8e74aa8894bea4e2073e64d6ff3817a69807f3"), looks := false }, kinds := [], alts := [], laidByText := true, laidKinds := [.widerDeep], laidTests := true, laidLooks := .later }
def FnExactOrderOnCubicCardSaid : Prop := Claim7.holds Tryd.pinned (.plain (OpenSpec.ofChange fnExactOrderOnCubicSpec)) fnExactOrderOnCubicCard

/-- THE TIED CARD OF 'laws.FnExactImageOfCubic'. -/
def fnExactImageOfCubicCard : Claim7 := { stood := { row := fnExactImageOfCubicRow, standIns := [], harness := (true, "94a33f447d679432d257fa6f7d8e74aa8894bea4e2073e64d6ff3817a69807f3"), looks := false }, kinds := [], alts := [], laidByText := true, laidKinds := [.widerDeep], laidTests := true, laidLooks := .later }
def FnExactImageOfCubicCardSaid : Prop := Claim7.holds Tryd.pinned (.plain (OpenSpec.ofChange fnExactImageOfCubicSpec)) fnExactImageOfCubicCard

/-- THE SECOND FORM's CARD OF 'laws.FnExactTangentOfCubic'. -/
def fnExactTangentOfCubicUptoCard : Claim7 := { stood := { row := fnExactTangentOfCubicUptoRow, standIns := [], harness := (true, "94a33f447d679432d257fa6f7d8e74aa8894bea4e2073e64d6ff3817a69807f3"), looks := false }, kinds := [], alts := [], laidByText := true, laidKinds := [.widerDeep], laidTests := true, laidLooks := .later }
def FnExactTangentOfCubicUptoCardSaid : Prop := Claim7.holds Tryd.pinned (.plain (OpenSpec.upto fnExactTangentOfCubicSpec)) fnExactTangentOfCubicUptoCard

/-- THE SECOND FORM's CARD OF 'laws.FnExactPointsOfCubic'. -/
def fnExactPointsOfCubicUptoCard : Claim7 := { stood := { row := fnExactPointsOfCubicUptoRow, standIns := [], harness := (true, "94a33f447d679432d257fa6f7d8e74aa8894bea4e2073e64d6ff3817a69807f3"), looks := false }, kinds := [], alts := [], laidByText := true, laidKinds := [.widerDeep], laidTests := true, laidLooks := .later }
def FnExactPointsOfCubicUptoCardSaid : Prop := Claim7.holds Tryd.pinned (.plain (OpenSpec.upto fnExactPointsOfCubicSpec)) fnExactPointsOfCubicUptoCard

/-- THE SECOND FORM's CARD OF 'laws.FnExactSingularPoints'. -/
def fnExactSingularPointsUptoCard : Claim7 := { stood := { row := fnExactSingularPointsUptoRow, standIns := [], harness := (true, "94a33f447d679432d257fa6f7d8e74aa8894bea4e2073e64d6ff3817a69807f3"), looks := false }, kinds := [], alts := [], laidByText := true, laidKinds := [.widerDeep], laidTests := true, laidLooks := .later }
def FnExactSingularPointsUptoCardSaid : Prop := Claim7.holds Tryd.pinned (.plain (OpenSpec.upto fnExactSingularPointsSpec)) fnExactSingularPointsUptoCard

/-- THE SECOND FORM's CARD OF 'laws.FnExactMultiplicitiesOn'. -/
def fnExactMultiplicitiesOnUptoCard : Claim7 := { stood := { row := fnExactMultiplicitiesOnUptoRow, standIns := [], harness := (true, "94a33f447d679432d257fa6f7d8e74aa8894bea4e2073e64d6ff3817a69807f3"), looks := false }, kinds := [], alts := [], laidByText := true, laidKinds := [.widerDeep], laidTests := true, laidLooks := .later }
def FnExactMultiplicitiesOnUptoCardSaid : Prop := Claim7.holds Tryd.pinned (.plain (OpenSpec.upto fnExactMultiplicitiesOnSpec)) fnExactMultiplicitiesOnUptoCard

/-- THE SECOND FORM's CARD OF 'laws.FnExactFlexesOf'. -/
def fnExactFlexesOfUptoCard : Claim7 := { stood := { row := fnExactFlexesOfUptoRow, standIns := [], harness := (true, "94a33f447d679432d257fa6f7d8e74aa8894bea4e2073e64d6ff3817a69807f3"), looks := false }, kinds := [], alts := [], laidByText := true, laidKinds := [.widerDeep], laidTests := true, laidLooks := .later }
def FnExactFlexesOfUptoCardSaid : Prop := Claim7.holds Tryd.pinned (.plain (OpenSpec.upto fnExactFlexesOfSpec)) fnExactFlexesOfUptoCard

/-- THE SECOND FORM's CARD OF 'laws.FnExactThirdPoint'. -/
def fnExactThirdPointUptoCard : Claim7 := { stood := { row := fnExactThirdPointUptoRow, standIns := [], harness := (true, "94a33f447d679432d257fa6f7d8e74aa8894bea4e2073e64d6ff3817a69807f3"), looks := false }, kinds := [], alts := [], laidByText := true, laidKinds := [.widerDeep], laidTests := true, laidLooks := .later }
def FnExactThirdPointUptoCardSaid : Prop := Claim7.holds Tryd.pinned (.plain (OpenSpec.upto fnExactThirdPointSpec)) fnExactThirdPointUptoCard

/-- THE SECOND FORM's CARD OF 'laws.FnExactOppositeOnCubic'. -/
def fnExactOppositeOnCubicUptoCard : Claim7 := { stood := { row := fnExactOppositeOnCubicUptoRow, standIns := [], harness := (true, "94a33f447d679432d257fa6f7d8e74aa8894bea4e2073e64d6ff3817a69807f3"), looks := false }, kinds := [], alts := [], laidByText := true, laidKinds := [.widerDeep], laidTests := true, laidLooks := .later }
def FnExactOppositeOnCubicUptoCardSaid : Prop := Claim7.holds Tryd.pinned (.plain (OpenSpec.upto fnExactOppositeOnCubicSpec)) fnExactOppositeOnCubicUptoCard

/-- THE SECOND FORM's CARD OF 'laws.FnExactAddOnCubic'. -/
def fnExactAddOnCubicUptoCard : Claim7 := { stood := { row := fnExactAddOnCubicUptoRow, standIns := [], harness := (true, "94a33f447d679432d257fa6f7d8e74aa8894bea4e2073e64d6ff3817a69807f3"), looks := false }, kinds := [], alts := [], laidByText := true, laidKinds := [.widerDeep], laidTests := true, laidLooks := .later }
def FnExactAddOnCubicUptoCardSaid : Prop := Claim7.holds Tryd.pinned (.plain (OpenSpec.upto fnExactAddOnCubicSpec)) fnExactAddOnCubicUptoCard

/-- THE SECOND FORM's CARD OF 'laws.FnExactOrderOnCubic'. -/
def fnExactOrderOnCubicUptoCard : Claim7 := { stood := { row := fnExactOrderOnCubicUptoRow, standIns := [], harness := (true, "94a33f447d679432d257fa6f7d8e74aa8894bea4e2073e64d6ff3817a69807f3"), looks := false }, kinds := [], alts := [], laidByText := true, laidKinds := [.widerDeep], laidTests := true, laidLooks := .later }
def FnExactOrderOnCubicUptoCardSaid : Prop := Claim7.holds Tryd.pinned (.plain (OpenSpec.upto fnExactOrderOnCubicSpec)) fnExactOrderOnCubicUptoCard

/-- THE SECOND FORM's CARD OF 'laws.FnExactImageOfCubic'. -/
def fnExactImageOfCubicUptoCard : Claim7 := { stood := { row := fnExactImageOfCubicUptoRow, standIns := [], harness := (true, "94a33f447d679432d257fa6f7d8e74aa8894bea4e2073e64d6ff3817a69807f3"), looks := false }, kinds := [], alts := [], laidByText := true, laidKinds := [.widerDeep], laidTests := true, laidLooks := .later }
def FnExactImageOfCubicUptoCardSaid : Prop := Claim7.holds Tryd.pinned (.plain (OpenSpec.upto fnExactImageOfCubicSpec)) fnExactImageOfCubicUptoCard
end Rows
end Go.Proofs.YtcklfkblhmlbbaaDoor
