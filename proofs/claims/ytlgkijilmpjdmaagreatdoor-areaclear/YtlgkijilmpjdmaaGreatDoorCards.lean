/-
  DERIVED. GIVEN WITH THE SEED: THE CARDS: each row of YtlgkijilmpjdmaaGreatDoorRows.lean that lists a variable, with what it lists TIED to the program's text (the seventh form; the later family's looks); each row that meets fmt, with fmt's text TOLD by the authors' own Lean function (tested against real Go, not proved from fmt's source: count such statements apart). THE CARD IS WHAT COUNTS. Prove the row's statement (the work); the ties are given (YtlgkijilmpjdmaaGreatDoorTie.lean); close each card by the builder's one call (the guide's Derived/Test/ToyasCard.lean, 'card_holds'). Laid BY PROGRAM, IN A SANDBOX (cutbox-door.mjs). By AI agents, Wed Nov 11 2026. No macro, syntax, notation, axiom, sorry.
-/
import Derived.Test.YtlgkijilmpjdmaaGreatDoorRows
import GoSem.ClaimSeven
namespace Go.Proofs.YtlgkijilmpjdmaaGreatDoor
namespace Rows

/-- THE TIED CARD OF 'glideslopelaw05.AreaShapes'. -/
def areaShapesCard : Claim7 := { stood := { row := areaShapesRow, standIns := [], harness := (true, "8d132721e60c3e414474b7b7d1fa76c26332388e2b61df2dc171e81fefcccd9a"), looks := false }, kinds := [], alts := [], laidByText := true, laidKinds := [.data, .data, .data, .data, .pinned], laidTests := true, laidLooks := .later }
def AreaShapesCardSaid : Prop := Claim7.holds Tryz.pinned (.plain (OpenSpec.ofChange areaShapesSpec)) areaShapesCard

/-- THE TIED CARD OF 'glideslopelaw05.AreaApplies'. -/
def areaAppliesCard : Claim7 := { stood := { row := areaAppliesRow, standIns := [], harness := (true, "8d132721e60c3e414474b7b7d1fa76c26332388e2b61df2dc171e81fefcccd9a"), looks := false }, kinds := [], alts := [], laidByText := true, laidKinds := [.data, .data, .data, .data, .pinned], laidTests := true, laidLooks := .later }
def AreaAppliesCardSaid : Prop := Claim7.holds Tryz.pinned (.plain (OpenSpec.ofChange areaAppliesSpec)) areaAppliesCard

/-- THE TIED CARD OF 'glideslopelaw05.AreaConflicts'. -/
def areaConflictsCard : Claim7 := { stood := { row := areaConflictsRow, standIns := [], harness := (true, "8d132721e60c3e414474b7b7d1fa76c26332388e2b61df2dc171e81fefcccd9a"), looks := false }, kinds := [], alts := [], laidByText := true, laidKinds := [.data, .data, .data, .data, .pinned], laidTests := true, laidLooks := .later }
def AreaConflictsCardSaid : Prop := Claim7.holds Tryz.pinned (.plain (OpenSpec.ofChange areaConflictsSpec)) areaConflictsCard

/-- THE TIED CARD OF 'glideslopelaw05.AreaMoves'. -/
def areaMovesCard : Claim7 := { stood := { row := areaMovesRow, standIns := [], harness := (true, "8d132721e60c3e414474b7b7d1fa76c26332388e2b61df2dc171e81fefcccd9a"), looks := false }, kinds := [], alts := [], laidByText := true, laidKinds := [.data, .data, .data, .data, .pinned], laidTests := true, laidLooks := .later }
def AreaMovesCardSaid : Prop := Claim7.holds Tryz.pinned (.plain (OpenSpec.ofChange areaMovesSpec)) areaMovesCard

/-- THE TIED CARD OF 'glideslopelaw05.AreaOrders'. -/
def areaOrdersCard : Claim7 := { stood := { row := areaOrdersRow, standIns := [], harness := (true, "8d132721e60c3e414474b7b7d1fa76c26332388e2b61df2dc171e81fefcccd9a"), looks := false }, kinds := [], alts := [], laidByText := true, laidKinds := [.data, .data, .data, .data, .pinned], laidTests := true, laidLooks := .later }
def AreaOrdersCardSaid : Prop := Claim7.holds Tryz.pinned (.plain (OpenSpec.ofChange areaOrdersSpec)) areaOrdersCard

/-- THE TIED CARD OF 'glideslopelaw05.AreaBest'. -/
def areaBestCard : Claim7 := { stood := { row := areaBestRow, standIns := [], harness := (true, "8d132721e60c3e414474b7b7d1fa76c26332388e2b61df2dc171e81fefcccd9a"), looks := false }, kinds := [], alts := [], laidByText := true, laidKinds := [.data, .data, .data, .data, .pinned], laidTests := true, laidLooks := .later }
def AreaBestCardSaid : Prop := Claim7.holds Tryz.pinned (.plain (OpenSpec.ofChange areaBestSpec)) areaBestCard

/-- THE TIED CARD OF 'glideslopelaw05.AreaStrings'. -/
def areaStringsCard : Claim7 := { stood := { row := areaStringsRow, standIns := [], harness := (true, "8d132721e60c3e414474b7b7d1fa76c26332388e2b61df2dc171e81fefcccd9a"), looks := false }, kinds := [], alts := [], laidByText := true, laidKinds := [.data, .data, .data, .data, .pinned], laidTests := true, laidLooks := .later }
def AreaStringsCardSaid : Prop := Claim7.holds Tryz.pinned (.plain (OpenSpec.ofChange areaStringsSpec)) areaStringsCard

/-- THE TIED CARD OF 'glideslopelaw05.AreaInside'. -/
def areaInsideCard : Claim7 := { stood := { row := areaInsideRow, standIns := [], harness := (true, "8d132721e60c3e414474b7b7d1fa76c26332388e2b61df2dc171e81fefcccd9a"), looks := false }, kinds := [], alts := [], laidByText := true, laidKinds := [.data, .data, .data, .data, .pinned], laidTests := true, laidLooks := .later }
def AreaInsideCardSaid : Prop := Claim7.holds Tryz.pinned (.plain (OpenSpec.ofChange areaInsideSpec)) areaInsideCard

/-- THE TIED CARD OF 'glideslopelaw05.AreaClear'. -/
def areaClearCard : Claim7 := { stood := { row := areaClearRow, standIns := [], harness := (true, "8d132721e60c3e414474b7b7d1fa76c26332388e2b61df2dc171e81fefcccd9a"), looks := false }, kinds := [], alts := [], laidByText := true, laidKinds := [.data, .data, .data, .data, .pinned], laidTests := true, laidLooks := .later }
def AreaClearCardSaid : Prop := Claim7.holds Tryz.pinned (.plain (OpenSpec.ofChange areaClearSpec)) areaClearCard

/-- THE TIED CARD OF 'glideslopelaw05.AreaSequences'. -/
def areaSequencesCard : Claim7 := { stood := { row := areaSequencesRow, standIns := [], harness := (true, "8d132721e60c3e414474b7b7d1fa76c26332388e2b61df2dc171e81fefcccd9a"), looks := false }, kinds := [], alts := [], laidByText := true, laidKinds := [.data, .data, .data, .data, .pinned], laidTests := true, laidLooks := .later }
def AreaSequencesCardSaid : Prop := Claim7.holds Tryz.pinned (.plain (OpenSpec.ofChange areaSequencesSpec)) areaSequencesCard

/-- THE SECOND FORM's CARD OF 'glideslopelaw05.AreaShapes'. -/
def areaShapesUptoCard : Claim7 := { stood := { row := areaShapesUptoRow, standIns := [], harness := (true, "8d132721e60c3e414474b7b7d1fa76c26332388e2b61df2dc171e81fefcccd9a"), looks := false }, kinds := [], alts := [], laidByText := true, laidKinds := [.data, .data, .data, .data, .pinned], laidTests := true, laidLooks := .later }
def AreaShapesUptoCardSaid : Prop := Claim7.holds Tryz.pinned (.plain (OpenSpec.upto areaShapesSpec)) areaShapesUptoCard

/-- THE SECOND FORM's CARD OF 'glideslopelaw05.AreaApplies'. -/
def areaAppliesUptoCard : Claim7 := { stood := { row := areaAppliesUptoRow, standIns := [], harness := (true, "8d132721e60c3e414474b7b7d1fa76c26332388e2b61df2dc171e81fefcccd9a"), looks := false }, kinds := [], alts := [], laidByText := true, laidKinds := [.data, .data, .data, .data, .pinned], laidTests := true, laidLooks := .later }
def AreaAppliesUptoCardSaid : Prop := Claim7.holds Tryz.pinned (.plain (OpenSpec.upto areaAppliesSpec)) areaAppliesUptoCard

/-- THE SECOND FORM's CARD OF 'glideslopelaw05.AreaConflicts'. -/
def areaConflictsUptoCard : Claim7 := { stood := { row := areaConflictsUptoRow, standIns := [], harness := (true, "8d132721e60c3e414474b7b7d1fa76c26332388e2b61df2dc171e81fefcccd9a"), looks := false }, kinds := [], alts := [], laidByText := true, laidKinds := [.data, .data, .data, .data, .pinned], laidTests := true, laidLooks := .later }
def AreaConflictsUptoCardSaid : Prop := Claim7.holds Tryz.pinned (.plain (OpenSpec.upto areaConflictsSpec)) areaConflictsUptoCard

/-- THE SECOND FORM's CARD OF 'glideslopelaw05.AreaMoves'. -/
def areaMovesUptoCard : Claim7 := { stood := { row := areaMovesUptoRow, standIns := [], harness := (true, "8d132721e60c3e414474b7b7d1fa76c26332388e2b61df2dc171e81fefcccd9a"), looks := false }, kinds := [], alts := [], laidByText := true, laidKinds := [.data, .data, .data, .data, .pinned], laidTests := true, laidLooks := .later }
def AreaMovesUptoCardSaid : Prop := Claim7.holds Tryz.pinned (.plain (OpenSpec.upto areaMovesSpec)) areaMovesUptoCard

/-- THE SECOND FORM's CARD OF 'glideslopelaw05.AreaOrders'. -/
def areaOrdersUptoCard : Claim7 := { stood := { row := areaOrdersUptoRow, standIns := [], harness := (true, "8d132721e60c3e414474b7b7d1fa76c26332388e2b61df2dc171e81fefcccd9a"), looks := false }, kinds := [], alts := [], laidByText := true, laidKinds := [.data, .data, .data, .data, .pinned], laidTests := true, laidLooks := .later }
def AreaOrdersUptoCardSaid : Prop := Claim7.holds Tryz.pinned (.plain (OpenSpec.upto areaOrdersSpec)) areaOrdersUptoCard

/-- THE SECOND FORM's CARD OF 'glideslopelaw05.AreaBest'. -/
def areaBestUptoCard : Claim7 := { stood := { row := areaBestUptoRow, standIns := [], harness := (true, "8d132721e60c3e414474b7b7d1fa76c26332388e2b61df2dc171e81fefcccd9a"), looks := false }, kinds := [], alts := [], laidByText := true, laidKinds := [.data, .data, .data, .data, .pinned], laidTests := true, laidLooks := .later }
def AreaBestUptoCardSaid : Prop := Claim7.holds Tryz.pinned (.plain (OpenSpec.upto areaBestSpec)) areaBestUptoCard

/-- THE SECOND FORM's CARD OF 'glideslopelaw05.AreaStrings'. -/
def areaStringsUptoCard : Claim7 := { stood := { row := areaStringsUptoRow, standIns := [], harness := (true, "8d132721e60c3e414474b7b7d1fa76c26332388e2b61df2dc171e81fefcccd9a"), looks := false }, kinds := [], alts := [], laidByText := true, laidKinds := [.data, .data, .data, .data, .pinned], laidTests := true, laidLooks := .later }
def AreaStringsUptoCardSaid : Prop := Claim7.holds Tryz.pinned (.plain (OpenSpec.upto areaStringsSpec)) areaStringsUptoCard

/-- THE SECOND FORM's CARD OF 'glideslopelaw05.AreaInside'. -/
def areaInsideUptoCard : Claim7 := { stood := { row := areaInsideUptoRow, standIns := [], harness := (true, "8d132721e60c3e414474b7b7d1fa76c26332388e2b61df2dc171e81fefcccd9a"), looks := false }, kinds := [], alts := [], laidByText := true, laidKinds := [.data, .data, .data, .data, .pinned], laidTests := true, laidLooks := .later }
def AreaInsideUptoCardSaid : Prop := Claim7.holds Tryz.pinned (.plain (OpenSpec.upto areaInsideSpec)) areaInsideUptoCard

/-- THE SECOND FORM's CARD OF 'glideslopelaw05.AreaClear'. -/
def areaClearUptoCard : Claim7 := { stood := { row := areaClearUptoRow, standIns := [], harness := (true, "8d132721e60c3e414474b7b7d1fa76c26332388e2b61df2dc171e81fefcccd9a"), looks := false }, kinds := [], alts := [], laidByText := true, laidKinds := [.data, .data, .data, .data, .pinned], laidTests := true, laidLooks := .later }
def AreaClearUptoCardSaid : Prop := Claim7.holds Tryz.pinned (.plain (OpenSpec.upto areaClearSpec)) areaClearUptoCard

/-- THE SECOND FORM's CARD OF 'glideslopelaw05.AreaSequences'. -/
def areaSequencesUptoCard : Claim7 := { stood := { row := areaSequencesUptoRow, standIns := [], harness := (true, "8d132721e60c3e414474b7b7d1fa76c26332388e2b61df2dc171e81fefcccd9a"), looks := false }, kinds := [], alts := [], laidByText := true, laidKinds := [.data, .data, .data, .data, .pinned], laidTests := true, laidLooks := .later }
def AreaSequencesUptoCardSaid : Prop := Claim7.holds Tryz.pinned (.plain (OpenSpec.upto areaSequencesSpec)) areaSequencesUptoCard
end Rows
end Go.Proofs.YtlgkijilmpjdmaaGreatDoor
