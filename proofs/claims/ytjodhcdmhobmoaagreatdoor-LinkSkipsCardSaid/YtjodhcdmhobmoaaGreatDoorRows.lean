/-
  NARROWER THAN 'FOR EVERY INPUT', by the rows' own cells (each row's printed sentence says how): LinkMakes: laid · LinkSends: laid · LinkRepeats: laid · LinkCloses: laid · LinkDoes: laid · LinkReceives: laid · LinkSkips: laid · LinkEnds: laid.
  DERIVED. THE GIVEN ROWS OF THIS SEAT. 8 by the template 'for every input the law returns true; each argument reads behind the call as it read before'; 0 by the template 'total and deterministic' (their statements: YtjodhcdmhobmoaaGreatDoorTotals.lean).
  GIVEN WITH THE SEED: the statements are not yours to turn. If you find one false, say at which input.
  Laid BY PROGRAM, IN A SANDBOX (cutbox-rows.mjs): the forced cells as the released guide's own fill.sh prints them over the translation 7abd416535af8ff0… (all of the seat's roots in one cut). By AI agents, Wed Nov 11 2026. No macro, syntax, notation, axiom, sorry.
-/
import Derived.Test.YtjodhcdmhobmoaaGreatDoorChecked
import GoSem.Claim
import GoSem.ClaimJoined
import GoSem.ClaimMapViews
import Derived.JoinedTies
import Derived.KernelRfl
namespace Go.Proofs.YtjodhcdmhobmoaaGreatDoor
/- THE CELL 'sum', in the pinned program and in every row, IS THE sha256 OF THE DUMP (.gsa) THAT YtjodhcdmhobmoaaGreatDoorProg.lean LOADS. Nothing in Lean hashes anything: it is a label: what it is worth is what the hold of that sum in a sandbox is worth. -/
noncomputable def Tryz.pinned : Pinned := { name := "ytjodhcdmhobmoaagreatdoor", sum := "7abd416535af8ff0d5e550b1dd2ed3f9da9ec8473c2fcd648f2d26c3c2581bf0", checked := Tryz.checked }
namespace Rows
def none {H : Type} : Left H := { results := [], args := [] }

/- WHAT THE LISTED PACKAGE-LEVEL VARIABLES READ AS WHEN THE CALL BEGINS. Each datum BY PROGRAM (the guide's laid-datum.mjs) off the statement by which the dump's own 'gosem.cut.vars' lays the variable. In a bare row this is a premise. The card (YtjodhcdmhobmoaaGreatDoorCards.lean) ties it to the program's text. -/
def laid_wireless_crc_sums {H : Type} : DataW H := .agg [.lit (.int .u32 0), .lit (.int .u32 1788928), .lit (.int .u32 3577856), .lit (.int .u32 3003392), .lit (.int .u32 7155712), .lit (.int .u32 7764992), .lit (.int .u32 6006784), .lit (.int .u32 4252672), .lit (.int .u32 14311424), .lit (.int .u32 12659712), .lit (.int .u32 15529984), .lit (.int .u32 16233472), .lit (.int .u32 12013568), .lit (.int .u32 11279360), .lit (.int .u32 8505344), .lit (.int .u32 10126336)]

/-- 'wirelesslaw30.LinkMakes': WHATEVER THE INPUT: true; the input reads as it did. -/
def linkMakesSpec : ChangeSpec := { name := "linkMakes", fn := fun _ => fun
  | [d1, d2, d3, d4, d5, d6] => { results := [.lit (.bool true)], args := [d1, d2, d3, d4, d5, d6] }
  | _ => none }
def linkMakesRow : OpenClaim := { program := "ytjodhcdmhobmoaagreatdoor", sum := "7abd416535af8ff0d5e550b1dd2ed3f9da9ec8473c2fcd648f2d26c3c2581bf0", func := "wireless/wirelesslaw30.LinkMakes", spec := "linkMakes", unfollowed := true, recurses := true, named := ["wireless/crc.sums"], apart := false, laid := [("wireless/crc.sums", laid_wireless_crc_sums)] }
def LinkMakesSaid : Prop := linkMakesRow.holds Tryz.pinned (OpenSpec.ofChange linkMakesSpec)

/-- ITS FALSE NEIGHBOUR: 'it returns false'. Refute it at one input. -/
def linkMakesWrong : ChangeSpec := { name := "linkMakes", fn := fun _ => fun
  | [d1, d2, d3, d4, d5, d6] => { results := [.lit (.bool false)], args := [d1, d2, d3, d4, d5, d6] }
  | _ => none }
def LinkMakesWrongFalsely : Prop := linkMakesRow.holds Tryz.pinned (OpenSpec.ofChange linkMakesWrong)

/-- 'wirelesslaw30.LinkSends': WHATEVER THE INPUT: true; the input reads as it did. -/
def linkSendsSpec : ChangeSpec := { name := "linkSends", fn := fun _ => fun
  | [d] => { results := [.lit (.bool true)], args := [d] }
  | _ => none }
def linkSendsRow : OpenClaim := { program := "ytjodhcdmhobmoaagreatdoor", sum := "7abd416535af8ff0d5e550b1dd2ed3f9da9ec8473c2fcd648f2d26c3c2581bf0", func := "wireless/wirelesslaw30.LinkSends", spec := "linkSends", unfollowed := true, recurses := true, named := ["wireless/crc.sums"], apart := false, laid := [("wireless/crc.sums", laid_wireless_crc_sums)] }
def LinkSendsSaid : Prop := linkSendsRow.holds Tryz.pinned (OpenSpec.ofChange linkSendsSpec)

/-- ITS FALSE NEIGHBOUR: 'it returns false'. Refute it at one input. -/
def linkSendsWrong : ChangeSpec := { name := "linkSends", fn := fun _ => fun
  | [d] => { results := [.lit (.bool false)], args := [d] }
  | _ => none }
def LinkSendsWrongFalsely : Prop := linkSendsRow.holds Tryz.pinned (OpenSpec.ofChange linkSendsWrong)

/-- 'wirelesslaw30.LinkRepeats': WHATEVER THE INPUT: true; the input reads as it did. -/
def linkRepeatsSpec : ChangeSpec := { name := "linkRepeats", fn := fun _ => fun
  | [d] => { results := [.lit (.bool true)], args := [d] }
  | _ => none }
def linkRepeatsRow : OpenClaim := { program := "ytjodhcdmhobmoaagreatdoor", sum := "7abd416535af8ff0d5e550b1dd2ed3f9da9ec8473c2fcd648f2d26c3c2581bf0", func := "wireless/wirelesslaw30.LinkRepeats", spec := "linkRepeats", unfollowed := true, recurses := true, named := ["wireless/crc.sums"], apart := false, laid := [("wireless/crc.sums", laid_wireless_crc_sums)] }
def LinkRepeatsSaid : Prop := linkRepeatsRow.holds Tryz.pinned (OpenSpec.ofChange linkRepeatsSpec)

/-- ITS FALSE NEIGHBOUR: 'it returns false'. Refute it at one input. -/
def linkRepeatsWrong : ChangeSpec := { name := "linkRepeats", fn := fun _ => fun
  | [d] => { results := [.lit (.bool false)], args := [d] }
  | _ => none }
def LinkRepeatsWrongFalsely : Prop := linkRepeatsRow.holds Tryz.pinned (OpenSpec.ofChange linkRepeatsWrong)

/-- 'wirelesslaw30.LinkCloses': WHATEVER THE INPUT: true; the input reads as it did. -/
def linkClosesSpec : ChangeSpec := { name := "linkCloses", fn := fun _ => fun
  | [d1, d2] => { results := [.lit (.bool true)], args := [d1, d2] }
  | _ => none }
def linkClosesRow : OpenClaim := { program := "ytjodhcdmhobmoaagreatdoor", sum := "7abd416535af8ff0d5e550b1dd2ed3f9da9ec8473c2fcd648f2d26c3c2581bf0", func := "wireless/wirelesslaw30.LinkCloses", spec := "linkCloses", unfollowed := true, recurses := true, named := ["wireless/crc.sums"], apart := false, laid := [("wireless/crc.sums", laid_wireless_crc_sums)] }
def LinkClosesSaid : Prop := linkClosesRow.holds Tryz.pinned (OpenSpec.ofChange linkClosesSpec)

/-- ITS FALSE NEIGHBOUR: 'it returns false'. Refute it at one input. -/
def linkClosesWrong : ChangeSpec := { name := "linkCloses", fn := fun _ => fun
  | [d1, d2] => { results := [.lit (.bool false)], args := [d1, d2] }
  | _ => none }
def LinkClosesWrongFalsely : Prop := linkClosesRow.holds Tryz.pinned (OpenSpec.ofChange linkClosesWrong)

/-- 'wirelesslaw30.LinkDoes': WHATEVER THE INPUT: true; the input reads as it did. -/
def linkDoesSpec : ChangeSpec := { name := "linkDoes", fn := fun _ => fun
  | [d1, d2] => { results := [.lit (.bool true)], args := [d1, d2] }
  | _ => none }
def linkDoesRow : OpenClaim := { program := "ytjodhcdmhobmoaagreatdoor", sum := "7abd416535af8ff0d5e550b1dd2ed3f9da9ec8473c2fcd648f2d26c3c2581bf0", func := "wireless/wirelesslaw30.LinkDoes", spec := "linkDoes", unfollowed := true, recurses := true, named := ["wireless/crc.sums"], apart := false, laid := [("wireless/crc.sums", laid_wireless_crc_sums)] }
def LinkDoesSaid : Prop := linkDoesRow.holds Tryz.pinned (OpenSpec.ofChange linkDoesSpec)

/-- ITS FALSE NEIGHBOUR: 'it returns false'. Refute it at one input. -/
def linkDoesWrong : ChangeSpec := { name := "linkDoes", fn := fun _ => fun
  | [d1, d2] => { results := [.lit (.bool false)], args := [d1, d2] }
  | _ => none }
def LinkDoesWrongFalsely : Prop := linkDoesRow.holds Tryz.pinned (OpenSpec.ofChange linkDoesWrong)

/-- 'wirelesslaw30.LinkReceives': WHATEVER THE INPUT: true; the input reads as it did. -/
def linkReceivesSpec : ChangeSpec := { name := "linkReceives", fn := fun _ => fun
  | [d1, d2, d3, d4] => { results := [.lit (.bool true)], args := [d1, d2, d3, d4] }
  | _ => none }
def linkReceivesRow : OpenClaim := { program := "ytjodhcdmhobmoaagreatdoor", sum := "7abd416535af8ff0d5e550b1dd2ed3f9da9ec8473c2fcd648f2d26c3c2581bf0", func := "wireless/wirelesslaw30.LinkReceives", spec := "linkReceives", unfollowed := true, recurses := true, named := ["wireless/crc.sums"], apart := false, laid := [("wireless/crc.sums", laid_wireless_crc_sums)] }
def LinkReceivesSaid : Prop := linkReceivesRow.holds Tryz.pinned (OpenSpec.ofChange linkReceivesSpec)

/-- ITS FALSE NEIGHBOUR: 'it returns false'. Refute it at one input. -/
def linkReceivesWrong : ChangeSpec := { name := "linkReceives", fn := fun _ => fun
  | [d1, d2, d3, d4] => { results := [.lit (.bool false)], args := [d1, d2, d3, d4] }
  | _ => none }
def LinkReceivesWrongFalsely : Prop := linkReceivesRow.holds Tryz.pinned (OpenSpec.ofChange linkReceivesWrong)

/-- 'wirelesslaw30.LinkSkips': WHATEVER THE INPUT: true; the input reads as it did. -/
def linkSkipsSpec : ChangeSpec := { name := "linkSkips", fn := fun _ => fun
  | [d1, d2] => { results := [.lit (.bool true)], args := [d1, d2] }
  | _ => none }
def linkSkipsRow : OpenClaim := { program := "ytjodhcdmhobmoaagreatdoor", sum := "7abd416535af8ff0d5e550b1dd2ed3f9da9ec8473c2fcd648f2d26c3c2581bf0", func := "wireless/wirelesslaw30.LinkSkips", spec := "linkSkips", unfollowed := true, recurses := true, named := ["wireless/crc.sums"], apart := false, laid := [("wireless/crc.sums", laid_wireless_crc_sums)] }
def LinkSkipsSaid : Prop := linkSkipsRow.holds Tryz.pinned (OpenSpec.ofChange linkSkipsSpec)

/-- ITS FALSE NEIGHBOUR: 'it returns false'. Refute it at one input. -/
def linkSkipsWrong : ChangeSpec := { name := "linkSkips", fn := fun _ => fun
  | [d1, d2] => { results := [.lit (.bool false)], args := [d1, d2] }
  | _ => none }
def LinkSkipsWrongFalsely : Prop := linkSkipsRow.holds Tryz.pinned (OpenSpec.ofChange linkSkipsWrong)

/-- 'wirelesslaw30.LinkEnds': WHATEVER THE INPUT: true; the input reads as it did. -/
def linkEndsSpec : ChangeSpec := { name := "linkEnds", fn := fun _ => fun
  | [d1, d2, d3, d4] => { results := [.lit (.bool true)], args := [d1, d2, d3, d4] }
  | _ => none }
def linkEndsRow : OpenClaim := { program := "ytjodhcdmhobmoaagreatdoor", sum := "7abd416535af8ff0d5e550b1dd2ed3f9da9ec8473c2fcd648f2d26c3c2581bf0", func := "wireless/wirelesslaw30.LinkEnds", spec := "linkEnds", unfollowed := true, recurses := true, named := ["wireless/crc.sums"], apart := false, laid := [("wireless/crc.sums", laid_wireless_crc_sums)] }
def LinkEndsSaid : Prop := linkEndsRow.holds Tryz.pinned (OpenSpec.ofChange linkEndsSpec)

/-- ITS FALSE NEIGHBOUR: 'it returns false'. Refute it at one input. -/
def linkEndsWrong : ChangeSpec := { name := "linkEnds", fn := fun _ => fun
  | [d1, d2, d3, d4] => { results := [.lit (.bool false)], args := [d1, d2, d3, d4] }
  | _ => none }
def LinkEndsWrongFalsely : Prop := linkEndsRow.holds Tryz.pinned (OpenSpec.ofChange linkEndsWrong)

/- THE SECOND FORM. 'bulk': how many values and letters a reading holds, each counted each time it is reached (what is shared counts as often as it is met; a slice's spare places count too). A statement '..UptoSaid' is the law's where the arguments, and the package variables that the reading takes, are together of bulk at most 1048576: NARROWER than '..Said'. Prove '..Said' where nothing that the law and all that it calls make is longer than what came in: it says more and counts as full. Else prove '..UptoSaid'. A law counts once. -/
mutual
def uptoBulk {H : Type} : DataW H → Nat
  | .lit (.string bytes) => bytes.length + 1
  | .lit _ => 1
  | .nil => 1
  | .ptr d => uptoBulk d + 1
  | .slice elems spare => uptoBulkAll elems + uptoBulkAll spare + 1
  | .agg parts => uptoBulkAll parts + 1
  | .iface _ d => uptoBulk d + 1
  | .map entries => uptoBulkEntries entries + 1
  | .held _ => 1
def uptoBulkAll {H : Type} : List (DataW H) → Nat
  | [] => 0
  | d :: r => uptoBulk d + uptoBulkAll r
def uptoBulkEntries {H : Type} : List (Lit × DataW H) → Nat
  | [] => 0
  | x :: r => uptoBulkEntry x + uptoBulkEntries r
def uptoBulkEntry {H : Type} : Lit × DataW H → Nat
  | (.string bytes, d) => bytes.length + uptoBulk d + 1
  | (_, d) => uptoBulk d + 1
 end
def uptoSmall : (H : Type) → List (DataW H) → Bool := fun _ ds => decide (uptoBulkAll ds ≤ 1048576)
def OpenSpec.upto (s : _root_.Go.ChangeSpec) : _root_.Go.OpenSpec := { _root_.Go.OpenSpec.ofChange s with cond := some uptoSmall }

/-- 'wirelesslaw30.LinkMakes', WHERE WHAT IT READS IS OF BULK AT MOST 1048576: true; the input reads as it did. -/
def linkMakesUptoRow : OpenClaim := { program := "ytjodhcdmhobmoaagreatdoor", sum := "7abd416535af8ff0d5e550b1dd2ed3f9da9ec8473c2fcd648f2d26c3c2581bf0", func := "wireless/wirelesslaw30.LinkMakes", spec := "linkMakes", unfollowed := true, recurses := true, named := ["wireless/crc.sums"], apart := false, laid := [("wireless/crc.sums", laid_wireless_crc_sums)], narrowed := true }
def LinkMakesUptoSaid : Prop := linkMakesUptoRow.holds Tryz.pinned (OpenSpec.upto linkMakesSpec)

/-- 'wirelesslaw30.LinkSends', WHERE WHAT IT READS IS OF BULK AT MOST 1048576: true; the input reads as it did. -/
def linkSendsUptoRow : OpenClaim := { program := "ytjodhcdmhobmoaagreatdoor", sum := "7abd416535af8ff0d5e550b1dd2ed3f9da9ec8473c2fcd648f2d26c3c2581bf0", func := "wireless/wirelesslaw30.LinkSends", spec := "linkSends", unfollowed := true, recurses := true, named := ["wireless/crc.sums"], apart := false, laid := [("wireless/crc.sums", laid_wireless_crc_sums)], narrowed := true }
def LinkSendsUptoSaid : Prop := linkSendsUptoRow.holds Tryz.pinned (OpenSpec.upto linkSendsSpec)

/-- 'wirelesslaw30.LinkRepeats', WHERE WHAT IT READS IS OF BULK AT MOST 1048576: true; the input reads as it did. -/
def linkRepeatsUptoRow : OpenClaim := { program := "ytjodhcdmhobmoaagreatdoor", sum := "7abd416535af8ff0d5e550b1dd2ed3f9da9ec8473c2fcd648f2d26c3c2581bf0", func := "wireless/wirelesslaw30.LinkRepeats", spec := "linkRepeats", unfollowed := true, recurses := true, named := ["wireless/crc.sums"], apart := false, laid := [("wireless/crc.sums", laid_wireless_crc_sums)], narrowed := true }
def LinkRepeatsUptoSaid : Prop := linkRepeatsUptoRow.holds Tryz.pinned (OpenSpec.upto linkRepeatsSpec)

/-- 'wirelesslaw30.LinkCloses', WHERE WHAT IT READS IS OF BULK AT MOST 1048576: true; the input reads as it did. -/
def linkClosesUptoRow : OpenClaim := { program := "ytjodhcdmhobmoaagreatdoor", sum := "7abd416535af8ff0d5e550b1dd2ed3f9da9ec8473c2fcd648f2d26c3c2581bf0", func := "wireless/wirelesslaw30.LinkCloses", spec := "linkCloses", unfollowed := true, recurses := true, named := ["wireless/crc.sums"], apart := false, laid := [("wireless/crc.sums", laid_wireless_crc_sums)], narrowed := true }
def LinkClosesUptoSaid : Prop := linkClosesUptoRow.holds Tryz.pinned (OpenSpec.upto linkClosesSpec)

/-- 'wirelesslaw30.LinkDoes', WHERE WHAT IT READS IS OF BULK AT MOST 1048576: true; the input reads as it did. -/
def linkDoesUptoRow : OpenClaim := { program := "ytjodhcdmhobmoaagreatdoor", sum := "7abd416535af8ff0d5e550b1dd2ed3f9da9ec8473c2fcd648f2d26c3c2581bf0", func := "wireless/wirelesslaw30.LinkDoes", spec := "linkDoes", unfollowed := true, recurses := true, named := ["wireless/crc.sums"], apart := false, laid := [("wireless/crc.sums", laid_wireless_crc_sums)], narrowed := true }
def LinkDoesUptoSaid : Prop := linkDoesUptoRow.holds Tryz.pinned (OpenSpec.upto linkDoesSpec)

/-- 'wirelesslaw30.LinkReceives', WHERE WHAT IT READS IS OF BULK AT MOST 1048576: true; the input reads as it did. -/
def linkReceivesUptoRow : OpenClaim := { program := "ytjodhcdmhobmoaagreatdoor", sum := "7abd416535af8ff0d5e550b1dd2ed3f9da9ec8473c2fcd648f2d26c3c2581bf0", func := "wireless/wirelesslaw30.LinkReceives", spec := "linkReceives", unfollowed := true, recurses := true, named := ["wireless/crc.sums"], apart := false, laid := [("wireless/crc.sums", laid_wireless_crc_sums)], narrowed := true }
def LinkReceivesUptoSaid : Prop := linkReceivesUptoRow.holds Tryz.pinned (OpenSpec.upto linkReceivesSpec)

/-- 'wirelesslaw30.LinkSkips', WHERE WHAT IT READS IS OF BULK AT MOST 1048576: true; the input reads as it did. -/
def linkSkipsUptoRow : OpenClaim := { program := "ytjodhcdmhobmoaagreatdoor", sum := "7abd416535af8ff0d5e550b1dd2ed3f9da9ec8473c2fcd648f2d26c3c2581bf0", func := "wireless/wirelesslaw30.LinkSkips", spec := "linkSkips", unfollowed := true, recurses := true, named := ["wireless/crc.sums"], apart := false, laid := [("wireless/crc.sums", laid_wireless_crc_sums)], narrowed := true }
def LinkSkipsUptoSaid : Prop := linkSkipsUptoRow.holds Tryz.pinned (OpenSpec.upto linkSkipsSpec)

/-- 'wirelesslaw30.LinkEnds', WHERE WHAT IT READS IS OF BULK AT MOST 1048576: true; the input reads as it did. -/
def linkEndsUptoRow : OpenClaim := { program := "ytjodhcdmhobmoaagreatdoor", sum := "7abd416535af8ff0d5e550b1dd2ed3f9da9ec8473c2fcd648f2d26c3c2581bf0", func := "wireless/wirelesslaw30.LinkEnds", spec := "linkEnds", unfollowed := true, recurses := true, named := ["wireless/crc.sums"], apart := false, laid := [("wireless/crc.sums", laid_wireless_crc_sums)], narrowed := true }
def LinkEndsUptoSaid : Prop := linkEndsUptoRow.holds Tryz.pinned (OpenSpec.upto linkEndsSpec)

end Rows
end Go.Proofs.YtjodhcdmhobmoaaGreatDoor
