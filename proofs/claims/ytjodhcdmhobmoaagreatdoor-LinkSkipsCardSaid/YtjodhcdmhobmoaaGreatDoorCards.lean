/-
  DERIVED. GIVEN WITH THE SEED: THE CARDS: each row of YtjodhcdmhobmoaaGreatDoorRows.lean that lists a variable, with what it lists TIED to the program's text (the seventh form; the later family's looks); each row that meets fmt, with fmt's text TOLD by the authors' own Lean function (tested against real Go, not proved from fmt's source: count such statements apart). THE CARD IS WHAT COUNTS. Prove the row's statement (the work); the ties are given (YtjodhcdmhobmoaaGreatDoorTie.lean); close each card by the builder's one call (the guide's Derived/Test/ToyasCard.lean, 'card_holds'). Laid BY PROGRAM, IN A SANDBOX (cutbox-door.mjs). By AI agents, Wed Nov 11 2026. No macro, syntax, notation, axiom, sorry.
-/
import Derived.Test.YtjodhcdmhobmoaaGreatDoorRows
import GoSem.ClaimSeven
namespace Go.Proofs.YtjodhcdmhobmoaaGreatDoor
namespace Rows

/-- THE TIED CARD OF 'wirelesslaw30.LinkMakes'. -/
def linkMakesCard : Claim7 := { stood := { row := linkMakesRow, standIns := [], harness := (true, "65a55817e71b127f26fbd9c629b5db1a7bdafa9e31e83048099935116129f350"), looks := false }, kinds := [], alts := [], laidByText := true, laidKinds := [.data], laidTests := true, laidLooks := .later }
def LinkMakesCardSaid : Prop := Claim7.holds Tryz.pinned (.plain (OpenSpec.ofChange linkMakesSpec)) linkMakesCard

/-- THE TIED CARD OF 'wirelesslaw30.LinkSends'. -/
def linkSendsCard : Claim7 := { stood := { row := linkSendsRow, standIns := [], harness := (true, "65a55817e71b127f26fbd9c629b5db1a7bdafa9e31e83048099935116129f350"), looks := false }, kinds := [], alts := [], laidByText := true, laidKinds := [.data], laidTests := true, laidLooks := .later }
def LinkSendsCardSaid : Prop := Claim7.holds Tryz.pinned (.plain (OpenSpec.ofChange linkSendsSpec)) linkSendsCard

/-- THE TIED CARD OF 'wirelesslaw30.LinkRepeats'. -/
def linkRepeatsCard : Claim7 := { stood := { row := linkRepeatsRow, standIns := [], harness := (true, "65a55817e71b127f26fbd9c629b5db1a7bdafa9e31e83048099935116129f350"), looks := false }, kinds := [], alts := [], laidByText := true, laidKinds := [.data], laidTests := true, laidLooks := .later }
def LinkRepeatsCardSaid : Prop := Claim7.holds Tryz.pinned (.plain (OpenSpec.ofChange linkRepeatsSpec)) linkRepeatsCard

/-- THE TIED CARD OF 'wirelesslaw30.LinkCloses'. -/
def linkClosesCard : Claim7 := { stood := { row := linkClosesRow, standIns := [], harness := (true, "65a55817e71b127f26fbd9c629b5db1a7bdafa9e31e83048099935116129f350"), looks := false }, kinds := [], alts := [], laidByText := true, laidKinds := [.data], laidTests := true, laidLooks := .later }
def LinkClosesCardSaid : Prop := Claim7.holds Tryz.pinned (.plain (OpenSpec.ofChange linkClosesSpec)) linkClosesCard

/-- THE TIED CARD OF 'wirelesslaw30.LinkDoes'. -/
def linkDoesCard : Claim7 := { stood := { row := linkDoesRow, standIns := [], harness := (true, "65a55817e71b127f26fbd9c629b5db1a7bdafa9e31e83048099935116129f350"), looks := false }, kinds := [], alts := [], laidByText := true, laidKinds := [.data], laidTests := true, laidLooks := .later }
def LinkDoesCardSaid : Prop := Claim7.holds Tryz.pinned (.plain (OpenSpec.ofChange linkDoesSpec)) linkDoesCard

/-- THE TIED CARD OF 'wirelesslaw30.LinkReceives'. -/
def linkReceivesCard : Claim7 := { stood := { row := linkReceivesRow, standIns := [], harness := (true, "65a55817e71b127f26fbd9c629b5db1a7bdafa9e31e83048099935116129f350"), looks := false }, kinds := [], alts := [], laidByText := true, laidKinds := [.data], laidTests := true, laidLooks := .later }
def LinkReceivesCardSaid : Prop := Claim7.holds Tryz.pinned (.plain (OpenSpec.ofChange linkReceivesSpec)) linkReceivesCard

/-- THE TIED CARD OF 'wirelesslaw30.LinkSkips'. -/
def linkSkipsCard : Claim7 := { stood := { row := linkSkipsRow, standIns := [], harness := (true, "65a55817e71b127f26fbd9c629b5db1a7bdafa9e31e83048099935116129f350"), looks := false }, kinds := [], alts := [], laidByText := true, laidKinds := [.data], laidTests := true, laidLooks := .later }
def LinkSkipsCardSaid : Prop := Claim7.holds Tryz.pinned (.plain (OpenSpec.ofChange linkSkipsSpec)) linkSkipsCard

/-- THE TIED CARD OF 'wirelesslaw30.LinkEnds'. -/
def linkEndsCard : Claim7 := { stood := { row := linkEndsRow, standIns := [], harness := (true, "65a55817e71b127f26fbd9c629b5db1a7bdafa9e31e83048099935116129f350"), looks := false }, kinds := [], alts := [], laidByText := true, laidKinds := [.data], laidTests := true, laidLooks := .later }
def LinkEndsCardSaid : Prop := Claim7.holds Tryz.pinned (.plain (OpenSpec.ofChange linkEndsSpec)) linkEndsCard

/-- THE SECOND FORM's CARD OF 'wirelesslaw30.LinkMakes'. -/
def linkMakesUptoCard : Claim7 := { stood := { row := linkMakesUptoRow, standIns := [], harness := (true, "65a55817e71b127f26fbd9c629b5db1a7bdafa9e31e83048099935116129f350"), looks := false }, kinds := [], alts := [], laidByText := true, laidKinds := [.data], laidTests := true, laidLooks := .later }
def LinkMakesUptoCardSaid : Prop := Claim7.holds Tryz.pinned (.plain (OpenSpec.upto linkMakesSpec)) linkMakesUptoCard

/-- THE SECOND FORM's CARD OF 'wirelesslaw30.LinkSends'. -/
def linkSendsUptoCard : Claim7 := { stood := { row := linkSendsUptoRow, standIns := [], harness := (true, "65a55817e71b127f26fbd9c629b5db1a7bdafa9e31e83048099935116129f350"), looks := false }, kinds := [], alts := [], laidByText := true, laidKinds := [.data], laidTests := true, laidLooks := .later }
def LinkSendsUptoCardSaid : Prop := Claim7.holds Tryz.pinned (.plain (OpenSpec.upto linkSendsSpec)) linkSendsUptoCard

/-- THE SECOND FORM's CARD OF 'wirelesslaw30.LinkRepeats'. -/
def linkRepeatsUptoCard : Claim7 := { stood := { row := linkRepeatsUptoRow, standIns := [], harness := (true, "65a55817e71b127f26fbd9c629b5db1a7bdafa9e31e83048099935116129f350"), looks := false }, kinds := [], alts := [], laidByText := true, laidKinds := [.data], laidTests := true, laidLooks := .later }
def LinkRepeatsUptoCardSaid : Prop := Claim7.holds Tryz.pinned (.plain (OpenSpec.upto linkRepeatsSpec)) linkRepeatsUptoCard

/-- THE SECOND FORM's CARD OF 'wirelesslaw30.LinkCloses'. -/
def linkClosesUptoCard : Claim7 := { stood := { row := linkClosesUptoRow, standIns := [], harness := (true, "65a55817e71b127f26fbd9c629b5db1a7bdafa9e31e83048099935116129f350"), looks := false }, kinds := [], alts := [], laidByText := true, laidKinds := [.data], laidTests := true, laidLooks := .later }
def LinkClosesUptoCardSaid : Prop := Claim7.holds Tryz.pinned (.plain (OpenSpec.upto linkClosesSpec)) linkClosesUptoCard

/-- THE SECOND FORM's CARD OF 'wirelesslaw30.LinkDoes'. -/
def linkDoesUptoCard : Claim7 := { stood := { row := linkDoesUptoRow, standIns := [], harness := (true, "65a55817e71b127f26fbd9c629b5db1a7bdafa9e31e83048099935116129f350"), looks := false }, kinds := [], alts := [], laidByText := true, laidKinds := [.data], laidTests := true, laidLooks := .later }
def LinkDoesUptoCardSaid : Prop := Claim7.holds Tryz.pinned (.plain (OpenSpec.upto linkDoesSpec)) linkDoesUptoCard

/-- THE SECOND FORM's CARD OF 'wirelesslaw30.LinkReceives'. -/
def linkReceivesUptoCard : Claim7 := { stood := { row := linkReceivesUptoRow, standIns := [], harness := (true, "65a55817e71b127f26fbd9c629b5db1a7bdafa9e31e83048099935116129f350"), looks := false }, kinds := [], alts := [], laidByText := true, laidKinds := [.data], laidTests := true, laidLooks := .later }
def LinkReceivesUptoCardSaid : Prop := Claim7.holds Tryz.pinned (.plain (OpenSpec.upto linkReceivesSpec)) linkReceivesUptoCard

/-- THE SECOND FORM's CARD OF 'wirelesslaw30.LinkSkips'. -/
def linkSkipsUptoCard : Claim7 := { stood := { row := linkSkipsUptoRow, standIns := [], harness := (true, "65a55817e71b127f26fbd9c629b5db1a7bdafa9e31e83048099935116129f350"), looks := false }, kinds := [], alts := [], laidByText := true, laidKinds := [.data], laidTests := true, laidLooks := .later }
def LinkSkipsUptoCardSaid : Prop := Claim7.holds Tryz.pinned (.plain (OpenSpec.upto linkSkipsSpec)) linkSkipsUptoCard

/-- THE SECOND FORM's CARD OF 'wirelesslaw30.LinkEnds'. -/
def linkEndsUptoCard : Claim7 := { stood := { row := linkEndsUptoRow, standIns := [], harness := (true, "65a55817e71b127f26fbd9c629b5db1a7bdafa9e31e83048099935116129f350"), looks := false }, kinds := [], alts := [], laidByText := true, laidKinds := [.data], laidTests := true, laidLooks := .later }
def LinkEndsUptoCardSaid : Prop := Claim7.holds Tryz.pinned (.plain (OpenSpec.upto linkEndsSpec)) linkEndsUptoCard
end Rows
end Go.Proofs.YtjodhcdmhobmoaaGreatDoor
