/-
  DERIVED. GIVEN WITH THE SEED: THE CARDS: each row of YtkphoimochkndaaGreatDoorRows.lean that lists a variable, with what it lists TIED to the program's text (the seventh form; the later family's looks); each row that meets fmt, with fmt's text TOLD by the authors' own Lean function (tested against real Go, not proved from fmt's source: count such statements apart). THE CARD IS WHAT COUNTS. Prove the row's statement (the work); the ties are given (YtkphoimochkndaaGreatDoorTie.lean); close each card by the builder's one call (the guide's Derived/Test/ToyasCard.lean, 'card_holds'). Laid BY PROGRAM, IN A SANDBOX (cutbox-door.mjs). By AI agents, Wed Nov 11 2026. No macro, syntax, notation, axiom, sorry.
-/
import Derived.Test.YtkphoimochkndaaGreatDoorRows
import GoSem.ClaimSeven
namespace Go.Proofs.YtkphoimochkndaaGreatDoor
namespace Rows

/-- THE TIED CARD OF 'glideslopelaw02.ToneDepths'. -/
def toneDepthsCard : Claim7 := { stood := { row := toneDepthsRow, standIns := [], harness := (true, "6883a40308061e1e56e57a0a897ad96630f21489591d51bcd46258b6daf0fcd9"), looks := false }, kinds := [], alts := [], laidByText := true, laidKinds := [.data, .data, .data, .data, .data, .pinned], laidTests := true, laidLooks := .later }
def ToneDepthsCardSaid : Prop := Claim7.holds Tryz.pinned (.plain (OpenSpec.ofChange toneDepthsSpec)) toneDepthsCard

/-- THE TIED CARD OF 'glideslopelaw02.ToneChanges'. -/
def toneChangesCard : Claim7 := { stood := { row := toneChangesRow, standIns := [], harness := (true, "6883a40308061e1e56e57a0a897ad96630f21489591d51bcd46258b6daf0fcd9"), looks := false }, kinds := [], alts := [], laidByText := true, laidKinds := [.data, .data, .data, .data, .data, .pinned], laidTests := true, laidLooks := .later }
def ToneChangesCardSaid : Prop := Claim7.holds Tryz.pinned (.plain (OpenSpec.ofChange toneChangesSpec)) toneChangesCard

/-- THE TIED CARD OF 'glideslopelaw02.ToneReceivers'. -/
def toneReceiversCard : Claim7 := { stood := { row := toneReceiversRow, standIns := [], harness := (true, "6883a40308061e1e56e57a0a897ad96630f21489591d51bcd46258b6daf0fcd9"), looks := false }, kinds := [], alts := [], laidByText := true, laidKinds := [.data, .data, .data, .data, .data, .pinned], laidTests := true, laidLooks := .later }
def ToneReceiversCardSaid : Prop := Claim7.holds Tryz.pinned (.plain (OpenSpec.ofChange toneReceiversSpec)) toneReceiversCard

/-- THE TIED CARD OF 'glideslopelaw02.ToneCaptures'. -/
def toneCapturesCard : Claim7 := { stood := { row := toneCapturesRow, standIns := [], harness := (true, "6883a40308061e1e56e57a0a897ad96630f21489591d51bcd46258b6daf0fcd9"), looks := false }, kinds := [], alts := [], laidByText := true, laidKinds := [.data, .data, .data, .data, .data, .pinned], laidTests := true, laidLooks := .later }
def ToneCapturesCardSaid : Prop := Claim7.holds Tryz.pinned (.plain (OpenSpec.ofChange toneCapturesSpec)) toneCapturesCard

/-- THE TIED CARD OF 'glideslopelaw02.ToneIntervals'. -/
def toneIntervalsCard : Claim7 := { stood := { row := toneIntervalsRow, standIns := [], harness := (true, "6883a40308061e1e56e57a0a897ad96630f21489591d51bcd46258b6daf0fcd9"), looks := false }, kinds := [], alts := [], laidByText := true, laidKinds := [.data, .data, .data, .data, .data, .pinned], laidTests := true, laidLooks := .later }
def ToneIntervalsCardSaid : Prop := Claim7.holds Tryz.pinned (.plain (OpenSpec.ofChange toneIntervalsSpec)) toneIntervalsCard

/-- THE TIED CARD OF 'glideslopelaw02.ToneSpans'. -/
def toneSpansCard : Claim7 := { stood := { row := toneSpansRow, standIns := [], harness := (true, "6883a40308061e1e56e57a0a897ad96630f21489591d51bcd46258b6daf0fcd9"), looks := false }, kinds := [], alts := [], laidByText := true, laidKinds := [.data, .data, .data, .data, .data, .pinned], laidTests := true, laidLooks := .later }
def ToneSpansCardSaid : Prop := Claim7.holds Tryz.pinned (.plain (OpenSpec.ofChange toneSpansSpec)) toneSpansCard

/-- THE TIED CARD OF 'glideslopelaw02.ToneStrings'. -/
def toneStringsCard : Claim7 := { stood := { row := toneStringsRow, standIns := [], harness := (true, "6883a40308061e1e56e57a0a897ad96630f21489591d51bcd46258b6daf0fcd9"), looks := false }, kinds := [], alts := [], laidByText := true, laidKinds := [.data, .data, .data, .data, .data, .pinned], laidTests := true, laidLooks := .later }
def ToneStringsCardSaid : Prop := Claim7.holds Tryz.pinned (.plain (OpenSpec.ofChange toneStringsSpec)) toneStringsCard

/-- THE TIED CARD OF 'glideslopelaw02.ToneFactors'. -/
def toneFactorsCard : Claim7 := { stood := { row := toneFactorsRow, standIns := [], harness := (true, "6883a40308061e1e56e57a0a897ad96630f21489591d51bcd46258b6daf0fcd9"), looks := false }, kinds := [], alts := [], laidByText := true, laidKinds := [.data, .data, .data, .data, .data, .pinned], laidTests := true, laidLooks := .later }
def ToneFactorsCardSaid : Prop := Claim7.holds Tryz.pinned (.plain (OpenSpec.ofChange toneFactorsSpec)) toneFactorsCard

/-- THE TIED CARD OF 'glideslopelaw02.ToneHeard'. -/
def toneHeardCard : Claim7 := { stood := { row := toneHeardRow, standIns := [], harness := (true, "6883a40308061e1e56e57a0a897ad96630f21489591d51bcd46258b6daf0fcd9"), looks := false }, kinds := [], alts := [], laidByText := true, laidKinds := [.data, .data, .data, .data, .data, .pinned], laidTests := true, laidLooks := .later }
def ToneHeardCardSaid : Prop := Claim7.holds Tryz.pinned (.plain (OpenSpec.ofChange toneHeardSpec)) toneHeardCard

/-- THE TIED CARD OF 'glideslopelaw02.ToneWithin'. -/
def toneWithinCard : Claim7 := { stood := { row := toneWithinRow, standIns := [], harness := (true, "6883a40308061e1e56e57a0a897ad96630f21489591d51bcd46258b6daf0fcd9"), looks := false }, kinds := [], alts := [], laidByText := true, laidKinds := [.data, .data, .data, .data, .data, .pinned], laidTests := true, laidLooks := .later }
def ToneWithinCardSaid : Prop := Claim7.holds Tryz.pinned (.plain (OpenSpec.ofChange toneWithinSpec)) toneWithinCard

/-- THE TIED CARD OF 'glideslopelaw02.ToneAgrees'. -/
def toneAgreesCard : Claim7 := { stood := { row := toneAgreesRow, standIns := [], harness := (true, "6883a40308061e1e56e57a0a897ad96630f21489591d51bcd46258b6daf0fcd9"), looks := false }, kinds := [], alts := [], laidByText := true, laidKinds := [.data, .data, .data, .data, .data, .pinned], laidTests := true, laidLooks := .later }
def ToneAgreesCardSaid : Prop := Claim7.holds Tryz.pinned (.plain (OpenSpec.ofChange toneAgreesSpec)) toneAgreesCard

/-- THE SECOND FORM's CARD OF 'glideslopelaw02.ToneDepths'. -/
def toneDepthsUptoCard : Claim7 := { stood := { row := toneDepthsUptoRow, standIns := [], harness := (true, "6883a40308061e1e56e57a0a897ad96630f21489591d51bcd46258b6daf0fcd9"), looks := false }, kinds := [], alts := [], laidByText := true, laidKinds := [.data, .data, .data, .data, .data, .pinned], laidTests := true, laidLooks := .later }
def ToneDepthsUptoCardSaid : Prop := Claim7.holds Tryz.pinned (.plain (OpenSpec.upto toneDepthsSpec)) toneDepthsUptoCard

/-- THE SECOND FORM's CARD OF 'glideslopelaw02.ToneChanges'. -/
def toneChangesUptoCard : Claim7 := { stood := { row := toneChangesUptoRow, standIns := [], harness := (true, "6883a40308061e1e56e57a0a897ad96630f21489591d51bcd46258b6daf0fcd9"), looks := false }, kinds := [], alts := [], laidByText := true, laidKinds := [.data, .data, .data, .data, .data, .pinned], laidTests := true, laidLooks := .later }
def ToneChangesUptoCardSaid : Prop := Claim7.holds Tryz.pinned (.plain (OpenSpec.upto toneChangesSpec)) toneChangesUptoCard

/-- THE SECOND FORM's CARD OF 'glideslopelaw02.ToneReceivers'. -/
def toneReceiversUptoCard : Claim7 := { stood := { row := toneReceiversUptoRow, standIns := [], harness := (true, "6883a40308061e1e56e57a0a897ad96630f21489591d51bcd46258b6daf0fcd9"), looks := false }, kinds := [], alts := [], laidByText := true, laidKinds := [.data, .data, .data, .data, .data, .pinned], laidTests := true, laidLooks := .later }
def ToneReceiversUptoCardSaid : Prop := Claim7.holds Tryz.pinned (.plain (OpenSpec.upto toneReceiversSpec)) toneReceiversUptoCard

/-- THE SECOND FORM's CARD OF 'glideslopelaw02.ToneCaptures'. -/
def toneCapturesUptoCard : Claim7 := { stood := { row := toneCapturesUptoRow, standIns := [], harness := (true, "6883a40308061e1e56e57a0a897ad96630f21489591d51bcd46258b6daf0fcd9"), looks := false }, kinds := [], alts := [], laidByText := true, laidKinds := [.data, .data, .data, .data, .data, .pinned], laidTests := true, laidLooks := .later }
def ToneCapturesUptoCardSaid : Prop := Claim7.holds Tryz.pinned (.plain (OpenSpec.upto toneCapturesSpec)) toneCapturesUptoCard

/-- THE SECOND FORM's CARD OF 'glideslopelaw02.ToneIntervals'. -/
def toneIntervalsUptoCard : Claim7 := { stood := { row := toneIntervalsUptoRow, standIns := [], harness := (true, "6883a40308061e1e56e57a0a897ad96630f21489591d51bcd46258b6daf0fcd9"), looks := false }, kinds := [], alts := [], laidByText := true, laidKinds := [.data, .data, .data, .data, .data, .pinned], laidTests := true, laidLooks := .later }
def ToneIntervalsUptoCardSaid : Prop := Claim7.holds Tryz.pinned (.plain (OpenSpec.upto toneIntervalsSpec)) toneIntervalsUptoCard

/-- THE SECOND FORM's CARD OF 'glideslopelaw02.ToneSpans'. -/
def toneSpansUptoCard : Claim7 := { stood := { row := toneSpansUptoRow, standIns := [], harness := (true, "6883a40308061e1e56e57a0a897ad96630f21489591d51bcd46258b6daf0fcd9"), looks := false }, kinds := [], alts := [], laidByText := true, laidKinds := [.data, .data, .data, .data, .data, .pinned], laidTests := true, laidLooks := .later }
def ToneSpansUptoCardSaid : Prop := Claim7.holds Tryz.pinned (.plain (OpenSpec.upto toneSpansSpec)) toneSpansUptoCard

/-- THE SECOND FORM's CARD OF 'glideslopelaw02.ToneStrings'. -/
def toneStringsUptoCard : Claim7 := { stood := { row := toneStringsUptoRow, standIns := [], harness := (true, "6883a40308061e1e56e57a0a897ad96630f21489591d51bcd46258b6daf0fcd9"), looks := false }, kinds := [], alts := [], laidByText := true, laidKinds := [.data, .data, .data, .data, .data, .pinned], laidTests := true, laidLooks := .later }
def ToneStringsUptoCardSaid : Prop := Claim7.holds Tryz.pinned (.plain (OpenSpec.upto toneStringsSpec)) toneStringsUptoCard

/-- THE SECOND FORM's CARD OF 'glideslopelaw02.ToneFactors'. -/
def toneFactorsUptoCard : Claim7 := { stood := { row := toneFactorsUptoRow, standIns := [], harness := (true, "6883a40308061e1e56e57a0a897ad96630f21489591d51bcd46258b6daf0fcd9"), looks := false }, kinds := [], alts := [], laidByText := true, laidKinds := [.data, .data, .data, .data, .data, .pinned], laidTests := true, laidLooks := .later }
def ToneFactorsUptoCardSaid : Prop := Claim7.holds Tryz.pinned (.plain (OpenSpec.upto toneFactorsSpec)) toneFactorsUptoCard

/-- THE SECOND FORM's CARD OF 'glideslopelaw02.ToneHeard'. -/
def toneHeardUptoCard : Claim7 := { stood := { row := toneHeardUptoRow, standIns := [], harness := (true, "6883a40308061e1e56e57a0a897ad96630f21489591d51bcd46258b6daf0fcd9"), looks := false }, kinds := [], alts := [], laidByText := true, laidKinds := [.data, .data, .data, .data, .data, .pinned], laidTests := true, laidLooks := .later }
def ToneHeardUptoCardSaid : Prop := Claim7.holds Tryz.pinned (.plain (OpenSpec.upto toneHeardSpec)) toneHeardUptoCard

/-- THE SECOND FORM's CARD OF 'glideslopelaw02.ToneWithin'. -/
def toneWithinUptoCard : Claim7 := { stood := { row := toneWithinUptoRow, standIns := [], harness := (true, "6883a40308061e1e56e57a0a897ad96630f21489591d51bcd46258b6daf0fcd9"), looks := false }, kinds := [], alts := [], laidByText := true, laidKinds := [.data, .data, .data, .data, .data, .pinned], laidTests := true, laidLooks := .later }
def ToneWithinUptoCardSaid : Prop := Claim7.holds Tryz.pinned (.plain (OpenSpec.upto toneWithinSpec)) toneWithinUptoCard

/-- THE SECOND FORM's CARD OF 'glideslopelaw02.ToneAgrees'. -/
def toneAgreesUptoCard : Claim7 := { stood := { row := toneAgreesUptoRow, standIns := [], harness := (true, "6883a40308061e1e56e57a0a897ad96630f21489591d51bcd46258b6daf0fcd9"), looks := false }, kinds := [], alts := [], laidByText := true, laidKinds := [.data, .data, .data, .data, .data, .pinned], laidTests := true, laidLooks := .later }
def ToneAgreesUptoCardSaid : Prop := Claim7.holds Tryz.pinned (.plain (OpenSpec.upto toneAgreesSpec)) toneAgreesUptoCard
end Rows
end Go.Proofs.YtkphoimochkndaaGreatDoor
