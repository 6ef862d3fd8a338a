/-
  DERIVED. GIVEN WITH THE SEED: THE CARDS: each row of YtddbklgndkpipaaGreatDoorRows.lean that lists a variable, with what it lists TIED to the program's text (the seventh form; the later family's looks); each row that meets fmt, with fmt's text TOLD by the authors' own Lean function (tested against real Go, not proved from fmt's source: count such statements apart). THE CARD IS WHAT COUNTS. Prove the row's statement (the work); the ties are given (YtddbklgndkpipaaGreatDoorTie.lean); close each card by the builder's one call (the guide's Derived/Test/ToyasCard.lean, 'card_holds'). Laid BY PROGRAM, IN A SANDBOX (cutbox-door.mjs). By AI agents, Wed Nov 11 2026. No macro, syntax, notation, axiom, sorry.
-/
import Derived.Test.YtddbklgndkpipaaGreatDoorRows
import GoSem.ClaimSeven
namespace Go.Proofs.YtddbklgndkpipaaGreatDoor
namespace Rows

/-- THE TIED CARD OF 'wirelesslaw58.AuditDuets'. -/
def auditDuetsCard : Claim7 := { stood := { row := auditDuetsRow, standIns := [], harness := (true, "c4053e9cfaf8982a1c1a921730033a099283700f964dfe64f5d8dcb589af2999"), looks := true }, kinds := [], alts := [], laidByText := true, laidKinds := [.data, .data], laidTests := true, laidLooks := .later }
def AuditDuetsCardSaid : Prop := Claim7.holds Tryz.pinned (.plain (OpenSpec.ofChange auditDuetsSpec)) auditDuetsCard

/-- THE SECOND FORM's CARD OF 'wirelesslaw58.AuditDuets'. -/
def auditDuetsUptoCard : Claim7 := { stood := { row := auditDuetsUptoRow, standIns := [], harness := (true, "c4053e9cfaf8982a1c1a921730033a099283700f964dfe64f5d8dcb589af2999"), looks := true }, kinds := [], alts := [], laidByText := true, laidKinds := [.data, .data], laidTests := true, laidLooks := .later }
def AuditDuetsUptoCardSaid : Prop := Claim7.holds Tryz.pinned (.plain (OpenSpec.upto auditDuetsSpec)) auditDuetsUptoCard
end Rows
end Go.Proofs.YtddbklgndkpipaaGreatDoor
