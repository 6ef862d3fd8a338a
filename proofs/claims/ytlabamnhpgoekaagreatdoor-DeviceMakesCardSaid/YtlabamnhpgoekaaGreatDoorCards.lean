/-
  DERIVED. GIVEN WITH THE SEED: THE CARDS: each row of YtlabamnhpgoekaaGreatDoorRows.lean that lists a variable, with what it lists TIED to the program's text (the seventh form; the later family's looks); each row that meets fmt, with fmt's text TOLD by the authors' own Lean function (tested against real Go, not proved from fmt's source: count such statements apart). THE CARD IS WHAT COUNTS. Prove the row's statement (the work); the ties are given (YtlabamnhpgoekaaGreatDoorTie.lean); close each card by the builder's one call (the guide's Derived/Test/ToyasCard.lean, 'card_holds'). Laid BY PROGRAM, IN A SANDBOX (cutbox-door.mjs). By AI agents, Wed Nov 11 2026. No macro, syntax, notation, axiom, sorry.
-/
import Derived.Test.YtlabamnhpgoekaaGreatDoorRows
import GoSem.ClaimSeven
namespace Go.Proofs.YtlabamnhpgoekaaGreatDoor
namespace Rows

/-- THE TIED CARD OF 'wirelesslaw55.DeviceMakes'. -/
def deviceMakesCard : Claim7 := { stood := { row := deviceMakesRow, standIns := [], harness := (true, "7bcd741df64027a015bea323f4d996ddc1e65788b65d51a14bfc4fd6e345fcab"), looks := true }, kinds := [], alts := [], laidByText := true, laidKinds := [.data, .data], laidTests := true, laidLooks := .later }
def DeviceMakesCardSaid : Prop := Claim7.holds Tryz.pinned (.plain (OpenSpec.ofChange deviceMakesSpec)) deviceMakesCard

/-- THE SECOND FORM's CARD OF 'wirelesslaw55.DeviceMakes'. -/
def deviceMakesUptoCard : Claim7 := { stood := { row := deviceMakesUptoRow, standIns := [], harness := (true, "7bcd741df64027a015bea323f4d996ddc1e65788b65d51a14bfc4fd6e345fcab"), looks := true }, kinds := [], alts := [], laidByText := true, laidKinds := [.data, .data], laidTests := true, laidLooks := .later }
def DeviceMakesUptoCardSaid : Prop := Claim7.holds Tryz.pinned (.plain (OpenSpec.upto deviceMakesSpec)) deviceMakesUptoCard
end Rows
end Go.Proofs.YtlabamnhpgoekaaGreatDoor
