/-
  DERIVED. GIVEN WITH THE SEED: THE CARDS: each row of YtkepnndakhpgoaaGreatDoorRows.lean that lists a variable, with what it lists TIED to the program's text (the seventh form; the later family's looks); each row that meets fmt, with fmt's text TOLD by the authors' own Lean function (tested against real Go, not proved from fmt's source: count such statements apart). THE CARD IS WHAT COUNTS. Prove the row's statement (the work); the ties are given (YtkepnndakhpgoaaGreatDoorTie.lean); close each card by the builder's one call (the guide's Derived/Test/ToyasCard.lean, 'card_holds'). Laid BY PROGRAM, IN A SANDBOX (cutbox-door.mjs). By AI agents, Wed Nov 11 2026. No macro, syntax, notation, axiom, sorry.
-/
import Derived.Test.YtkepnndakhpgoaaGreatDoorRows
import GoSem.ClaimSeven
namespace Go.Proofs.YtkepnndakhpgoaaGreatDoor
namespace Rows

/-- THE TIED CARD OF 'wirelesslaw58.AuditMeshes'. -/
def auditMeshesCard : Claim7 := { stood := { row := auditMeshesRow, standIns := [], harness := (true, "d7b63cef2ee121e098ef0fbe98c54c7e619908f808117c754bb69a249f73c16a"), looks := true }, kinds := [], alts := [], laidByText := true, laidKinds := [.data, .data], laidTests := true, laidLooks := .later }
def AuditMeshesCardSaid : Prop := Claim7.holds Tryz.pinned (.plain (OpenSpec.ofChange auditMeshesSpec)) auditMeshesCard

/-- THE SECOND FORM's CARD OF 'wirelesslaw58.AuditMeshes'. -/
def auditMeshesUptoCard : Claim7 := { stood := { row := auditMeshesUptoRow, standIns := [], harness := (true, "d7b63cef2ee121e098ef0fbe98c54c7e619908f808117c754bb69a249f73c16a"), looks := true }, kinds := [], alts := [], laidByText := true, laidKinds := [.data, .data], laidTests := true, laidLooks := .later }
def AuditMeshesUptoCardSaid : Prop := Claim7.holds Tryz.pinned (.plain (OpenSpec.upto auditMeshesSpec)) auditMeshesUptoCard
end Rows
end Go.Proofs.YtkepnndakhpgoaaGreatDoor
