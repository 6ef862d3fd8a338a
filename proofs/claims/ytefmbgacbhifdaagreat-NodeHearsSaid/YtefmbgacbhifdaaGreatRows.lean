/-
  No cell of these rows narrows 'for every input' (looked for: loops, veiled, ifaces, maps, wideKeys, modest, calm, conditions, laid).
  DERIVED. THE GIVEN ROWS OF THIS SEAT. 5 by the template 'for every input the law returns true; each argument reads behind the call as it read before'; 0 by the template 'total and deterministic' (their statements: YtefmbgacbhifdaaGreatTotals.lean).
  GIVEN WITH THE SEED: the statements are not yours to turn. If you find one false, say at which input.
  Laid BY PROGRAM, IN A SANDBOX (cutbox-rows.mjs): the forced cells as the released guide's own fill.sh prints them over the translation d25c272d63d556f3… (all of the seat's roots in one cut). By AI agents, Wed Nov 11 2026. No macro, syntax, notation, axiom, sorry.
-/
import Derived.Test.YtefmbgacbhifdaaGreatChecked
import GoSem.Claim
import GoSem.ClaimJoined
import GoSem.ClaimMapViews
import Derived.JoinedTies
import Derived.KernelRfl
namespace Go.Proofs.YtefmbgacbhifdaaGreat
/- THE CELL 'sum', in the pinned program and in every row, IS THE sha256 OF THE DUMP (.gsa) THAT YtefmbgacbhifdaaGreatProg.lean LOADS. Nothing in Lean hashes anything: it is a label: what it is worth is what the hold of that sum in a sandbox is worth. -/
noncomputable def Tryz.pinned : Pinned := { name := "ytefmbgacbhifdaagreat", sum := "d25c272d63d556f3807bbc0208b61269fcc2118cf3f3c7bc652687403693da77", checked := Tryz.checked }
namespace Rows
def none {H : Type} : Left H := { results := [], args := [] }

/-- 'wirelesslaw53.NodeSends': WHATEVER THE INPUT: true; the input reads as it did. -/
def nodeSendsSpec : ChangeSpec := { name := "nodeSends", fn := fun _ => fun
  | [d1, d2, d3, d4, d5] => { results := [.lit (.bool true)], args := [d1, d2, d3, d4, d5] }
  | _ => none }
def nodeSendsRow : OpenClaim := { program := "ytefmbgacbhifdaagreat", sum := "d25c272d63d556f3807bbc0208b61269fcc2118cf3f3c7bc652687403693da77", func := "wireless/wirelesslaw53.NodeSends", spec := "nodeSends", inPlace := ["slices.overlaps[wireless/api.Queued]"], unfollowed := true, recurses := true, apart := false }
def NodeSendsSaid : Prop := nodeSendsRow.holds Tryz.pinned (OpenSpec.ofChange nodeSendsSpec)

/-- ITS FALSE NEIGHBOUR: 'it returns false'. Refute it at one input. -/
def nodeSendsWrong : ChangeSpec := { name := "nodeSends", fn := fun _ => fun
  | [d1, d2, d3, d4, d5] => { results := [.lit (.bool false)], args := [d1, d2, d3, d4, d5] }
  | _ => none }
def NodeSendsWrongFalsely : Prop := nodeSendsRow.holds Tryz.pinned (OpenSpec.ofChange nodeSendsWrong)

/-- 'wirelesslaw53.NodeHears': WHATEVER THE INPUT: true; the input reads as it did. -/
def nodeHearsSpec : ChangeSpec := { name := "nodeHears", fn := fun _ => fun
  | [d1, d2, d3, d4] => { results := [.lit (.bool true)], args := [d1, d2, d3, d4] }
  | _ => none }
def nodeHearsRow : OpenClaim := { program := "ytefmbgacbhifdaagreat", sum := "d25c272d63d556f3807bbc0208b61269fcc2118cf3f3c7bc652687403693da77", func := "wireless/wirelesslaw53.NodeHears", spec := "nodeHears", inPlace := ["slices.overlaps[wireless/api.Queued]", "slices.overlaps[uint16]"], unfollowed := true, recurses := true, apart := false }
def NodeHearsSaid : Prop := nodeHearsRow.holds Tryz.pinned (OpenSpec.ofChange nodeHearsSpec)

/-- ITS FALSE NEIGHBOUR: 'it returns false'. Refute it at one input. -/
def nodeHearsWrong : ChangeSpec := { name := "nodeHears", fn := fun _ => fun
  | [d1, d2, d3, d4] => { results := [.lit (.bool false)], args := [d1, d2, d3, d4] }
  | _ => none }
def NodeHearsWrongFalsely : Prop := nodeHearsRow.holds Tryz.pinned (OpenSpec.ofChange nodeHearsWrong)

/-- 'wirelesslaw53.NodePlays': WHATEVER THE INPUT: true; the input reads as it did. -/
def nodePlaysSpec : ChangeSpec := { name := "nodePlays", fn := fun _ => fun
  | [d1, d2] => { results := [.lit (.bool true)], args := [d1, d2] }
  | _ => none }
def nodePlaysRow : OpenClaim := { program := "ytefmbgacbhifdaagreat", sum := "d25c272d63d556f3807bbc0208b61269fcc2118cf3f3c7bc652687403693da77", func := "wireless/wirelesslaw53.NodePlays", spec := "nodePlays", inPlace := ["slices.overlaps[wireless/api.Queued]", "slices.overlaps[uint16]"], unfollowed := true, recurses := true, apart := false }
def NodePlaysSaid : Prop := nodePlaysRow.holds Tryz.pinned (OpenSpec.ofChange nodePlaysSpec)

/-- ITS FALSE NEIGHBOUR: 'it returns false'. Refute it at one input. -/
def nodePlaysWrong : ChangeSpec := { name := "nodePlays", fn := fun _ => fun
  | [d1, d2] => { results := [.lit (.bool false)], args := [d1, d2] }
  | _ => none }
def NodePlaysWrongFalsely : Prop := nodePlaysRow.holds Tryz.pinned (OpenSpec.ofChange nodePlaysWrong)

/-- 'wirelesslaw53.NodeOnce': WHATEVER THE INPUT: true; the input reads as it did. -/
def nodeOnceSpec : ChangeSpec := { name := "nodeOnce", fn := fun _ => fun
  | [d1, d2] => { results := [.lit (.bool true)], args := [d1, d2] }
  | _ => none }
def nodeOnceRow : OpenClaim := { program := "ytefmbgacbhifdaagreat", sum := "d25c272d63d556f3807bbc0208b61269fcc2118cf3f3c7bc652687403693da77", func := "wireless/wirelesslaw53.NodeOnce", spec := "nodeOnce", inPlace := ["slices.overlaps[wireless/api.Queued]", "slices.overlaps[uint16]"], unfollowed := true, recurses := true, apart := false }
def NodeOnceSaid : Prop := nodeOnceRow.holds Tryz.pinned (OpenSpec.ofChange nodeOnceSpec)

/-- ITS FALSE NEIGHBOUR: 'it returns false'. Refute it at one input. -/
def nodeOnceWrong : ChangeSpec := { name := "nodeOnce", fn := fun _ => fun
  | [d1, d2] => { results := [.lit (.bool false)], args := [d1, d2] }
  | _ => none }
def NodeOnceWrongFalsely : Prop := nodeOnceRow.holds Tryz.pinned (OpenSpec.ofChange nodeOnceWrong)

/-- 'wirelesslaw53.NodeNumbers': WHATEVER THE INPUT: true; the input reads as it did. -/
def nodeNumbersSpec : ChangeSpec := { name := "nodeNumbers", fn := fun _ => fun
  | [d1, d2] => { results := [.lit (.bool true)], args := [d1, d2] }
  | _ => none }
def nodeNumbersRow : OpenClaim := { program := "ytefmbgacbhifdaagreat", sum := "d25c272d63d556f3807bbc0208b61269fcc2118cf3f3c7bc652687403693da77", func := "wireless/wirelesslaw53.NodeNumbers", spec := "nodeNumbers", inPlace := ["slices.overlaps[wireless/api.Queued]", "slices.overlaps[uint16]"], unfollowed := true, recurses := true, apart := false }
def NodeNumbersSaid : Prop := nodeNumbersRow.holds Tryz.pinned (OpenSpec.ofChange nodeNumbersSpec)

/-- ITS FALSE NEIGHBOUR: 'it returns false'. Refute it at one input. -/
def nodeNumbersWrong : ChangeSpec := { name := "nodeNumbers", fn := fun _ => fun
  | [d1, d2] => { results := [.lit (.bool false)], args := [d1, d2] }
  | _ => none }
def NodeNumbersWrongFalsely : Prop := nodeNumbersRow.holds Tryz.pinned (OpenSpec.ofChange nodeNumbersWrong)

/- THE SECOND FORM. 'bulk': how many values and letters a reading holds, each counted each time it is reached (what is shared counts as often as it is met; a slice's spare places count too). A statement '..UptoSaid' is the law's where the arguments, and the package variables that the reading takes, are together of bulk at most 1048576: NARROWER than '..Said'. Prove '..Said' where nothing that the law and all that it calls make is longer than what came in: it says more and counts as full. Else prove '..UptoSaid'. A law counts once. -/
mutual
def uptoBulk {H : Type} : DataW H → Nat
  | .lit (.string bytes) => bytes.length + 1
  | .lit _ => 1
  | .nil => 1
  | .ptr d => uptoBulk d + 1
  | .slice elems spare => uptoBulkAll elems + uptoBulkAll spare + 1
  | .agg parts => uptoBulkAll parts + 1
  | .iface _ d => uptoBulk d + 1
  | .map entries => uptoBulkEntries entries + 1
  | .held _ => 1
def uptoBulkAll {H : Type} : List (DataW H) → Nat
  | [] => 0
  | d :: r => uptoBulk d + uptoBulkAll r
def uptoBulkEntries {H : Type} : List (Lit × DataW H) → Nat
  | [] => 0
  | x :: r => uptoBulkEntry x + uptoBulkEntries r
def uptoBulkEntry {H : Type} : Lit × DataW H → Nat
  | (.string bytes, d) => bytes.length + uptoBulk d + 1
  | (_, d) => uptoBulk d + 1
 end
def uptoSmall : (H : Type) → List (DataW H) → Bool := fun _ ds => decide (uptoBulkAll ds ≤ 1048576)
def OpenSpec.upto (s : _root_.Go.ChangeSpec) : _root_.Go.OpenSpec := { _root_.Go.OpenSpec.ofChange s with cond := some uptoSmall }

/-- 'wirelesslaw53.NodeSends', WHERE WHAT IT READS IS OF BULK AT MOST 1048576: true; the input reads as it did. -/
def nodeSendsUptoRow : OpenClaim := { program := "ytefmbgacbhifdaagreat", sum := "d25c272d63d556f3807bbc0208b61269fcc2118cf3f3c7bc652687403693da77", func := "wireless/wirelesslaw53.NodeSends", spec := "nodeSends", inPlace := ["slices.overlaps[wireless/api.Queued]"], unfollowed := true, recurses := true, apart := false, narrowed := true }
def NodeSendsUptoSaid : Prop := nodeSendsUptoRow.holds Tryz.pinned (OpenSpec.upto nodeSendsSpec)

/-- 'wirelesslaw53.NodeHears', WHERE WHAT IT READS IS OF BULK AT MOST 1048576: true; the input reads as it did. -/
def nodeHearsUptoRow : OpenClaim := { program := "ytefmbgacbhifdaagreat", sum := "d25c272d63d556f3807bbc0208b61269fcc2118cf3f3c7bc652687403693da77", func := "wireless/wirelesslaw53.NodeHears", spec := "nodeHears", inPlace := ["slices.overlaps[wireless/api.Queued]", "slices.overlaps[uint16]"], unfollowed := true, recurses := true, apart := false, narrowed := true }
def NodeHearsUptoSaid : Prop := nodeHearsUptoRow.holds Tryz.pinned (OpenSpec.upto nodeHearsSpec)

/-- 'wirelesslaw53.NodePlays', WHERE WHAT IT READS IS OF BULK AT MOST 1048576: true; the input reads as it did. -/
def nodePlaysUptoRow : OpenClaim := { program := "ytefmbgacbhifdaagreat", sum := "d25c272d63d556f3807bbc0208b61269fcc2118cf3f3c7bc652687403693da77", func := "wireless/wirelesslaw53.NodePlays", spec := "nodePlays", inPlace := ["slices.overlaps[wireless/api.Queued]", "slices.overlaps[uint16]"], unfollowed := true, recurses := true, apart := false, narrowed := true }
def NodePlaysUptoSaid : Prop := nodePlaysUptoRow.holds Tryz.pinned (OpenSpec.upto nodePlaysSpec)

/-- 'wirelesslaw53.NodeOnce', WHERE WHAT IT READS IS OF BULK AT MOST 1048576: true; the input reads as it did. -/
def nodeOnceUptoRow : OpenClaim := { program := "ytefmbgacbhifdaagreat", sum := "d25c272d63d556f3807bbc0208b61269fcc2118cf3f3c7bc652687403693da77", func := "wireless/wirelesslaw53.NodeOnce", spec := "nodeOnce", inPlace := ["slices.overlaps[wireless/api.Queued]", "slices.overlaps[uint16]"], unfollowed := true, recurses := true, apart := false, narrowed := true }
def NodeOnceUptoSaid : Prop := nodeOnceUptoRow.holds Tryz.pinned (OpenSpec.upto nodeOnceSpec)

/-- 'wirelesslaw53.NodeNumbers', WHERE WHAT IT READS IS OF BULK AT MOST 1048576: true; the input reads as it did. -/
def nodeNumbersUptoRow : OpenClaim := { program := "ytefmbgacbhifdaagreat", sum := "d25c272d63d556f3807bbc0208b61269fcc2118cf3f3c7bc652687403693da77", func := "wireless/wirelesslaw53.NodeNumbers", spec := "nodeNumbers", inPlace := ["slices.overlaps[wireless/api.Queued]", "slices.overlaps[uint16]"], unfollowed := true, recurses := true, apart := false, narrowed := true }
def NodeNumbersUptoSaid : Prop := nodeNumbersUptoRow.holds Tryz.pinned (OpenSpec.upto nodeNumbersSpec)

end Rows
end Go.Proofs.YtefmbgacbhifdaaGreat
