/-
  audit.Mesh: the walk.
-/
import Derived.Test.YtkepnndakhpgoaaGreatDoorProg
import Derived.Test.YtkepnndakhpgoaaGreatDoorMs
import Derived.Maps.OwnOps
import Derived.Maps.AppendAt
import Derived.DeepKeys4
import Derived.WalkKit
import Derived.OwnWalk
import Derived.IntWalk
import Derived.Deep.MidRow
import Derived.Deep.WholeRow
import Derived.KernelRfl
namespace Go.Proofs.YtkepnndakhpgoaaGreatDoor
open Go Go.RowKit Go.Maps
set_option linter.unusedVariables false
set_option maxRecDepth 100000

structure MN where
  Node : Int
  Kind : Int
  S : Int
  V : Int
  Q : Int
def keyV (s : Int × Int × Int) : Value := .agg #[.int .u16 s.1, .int .u32 s.2.1, .int .u32 s.2.2]
def MN.seq (x : MN) : Int × Int × Int := (x.S, x.V, x.Q)
def MN.cells (x : MN) (y : Nat → Value) : List Value := [.int .i64 x.Node, y 1, .int .i64 x.Kind, y 3, y 4, y 5, y 6, .int .u16 x.S, .int .u32 x.V, .int .u32 x.Q, y 10, y 11, y 12]
def mstep (i : Int) (st : Bool × List (Int × Int × Int)) (x : MN) : Bool × List (Int × Int × Int) :=
  if x.Node = i ∧ x.Kind = 1 then (st.1 || decide (x.seq ∈ st.2), x.seq :: st.2) else st
def mtw (N : List MN) (i : Int) (m : Nat) : Bool × List (Int × Int × Int) := (N.take m).foldl (mstep i) (false, [])
def mlist (N : List MN) (n : Nat) : List Nat := (List.range n).filter fun i => (mtw N (i : Int) N.length).1
def mcells (l : List Nat) : List Value := l.flatMap fun (i : Nat) => [.int .i64 7, .int .i64 ((i : Nat) : Int), .int .i64 0]

theorem laidB : laidOutB Tryz.prog = true := by kernel_rfl
theorem und80 : Tryz.prog.underlying 80 = some (.map 82 4) := by kernel_rfl
theorem keyed82 : Keyed Tryz.prog 82 := Keyed.of_law (deep_law_laid (m := 20) laidB (by decide) (by decide +kernel) (by kernel_rfl) (by kernel_rfl))
theorem zero4 (w : World) : (zeroValue 4).run Tryz.prog w = .ok (.bool false) w := by kernel_rfl
theorem info70 : (Tryz.prog.info? 70).map (fun i => (i.zero, i.size, i.bytes)) = some (some (.agg #[.int .i64 0, .int .i64 0, .int .i64 0]), 3, 24) := by kernel_rfl
theorem und31 : Tryz.prog.underlying 31 = some (.slice 70) := by kernel_rfl
end Go.Proofs.YtkepnndakhpgoaaGreatDoor
