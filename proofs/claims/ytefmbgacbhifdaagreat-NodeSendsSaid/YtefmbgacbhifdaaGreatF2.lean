/-
  A part of the proof.
-/
import Derived.Test.YtefmbgacbhifdaaGreatF1
namespace Go.Proofs.YtefmbgacbhifdaaGreat
open Go Go.Proofs.YtefmbgacbhifdaaGreat.Le
set_option maxRecDepth 100000
inductive Z8v where
  | b0 (a0 : Zg) (a1 : Int) (a2 : Bool) (a3 : Int) (a4 : List Int) (a5 : Int) (a6 : List Zi)
noncomputable def Z7I : Z8v → Tr U (Z2o ⊕ Z8v)
  | .b0 a0 a1 a2 a3 a4 a5 a6 => .chk ((a0.Node.Groups.length == a0.Node.Groups.length) && ((a0.Node.Cache.length == a0.Node.Cache.length) && ((a0.Node.Replays.length == a0.Node.Replays.length) && ((a0.Node.Transport.Out.length == a0.Node.Transport.Out.length) && ((a0.Node.Transport.In.length == a0.Node.Transport.In.length) && ((a0.Node.Friend.Queue.length == a0.Node.Friend.Queue.length) && ((a0.Node.Friend.Subs.length == a0.Node.Friend.Subs.length) && ((a0.Node.Low.Subs.length == a0.Node.Low.Subs.length) && ((a0.Node.Out.length == a0.Node.Out.length) && (a6.length == a6.length)))))))))) ( .bind 1376 (Z2R a1 a2 a3 a4 a0 a6) (fun (y1 : Zu) => .chk ((y1.q1.Node.Groups.length == y1.q1.Node.Groups.length) && ((y1.q1.Node.Cache.length == y1.q1.Node.Cache.length) && ((y1.q1.Node.Replays.length == y1.q1.Node.Replays.length) && ((y1.q1.Node.Friend.Queue.length == y1.q1.Node.Friend.Queue.length) && ((y1.q1.Node.Friend.Subs.length == y1.q1.Node.Friend.Subs.length) && ((y1.q1.Node.Low.Subs.length == y1.q1.Node.Low.Subs.length) && ((y1.q1.Node.Out.length == y1.q1.Node.Out.length) && ((y1.q3.length == y1.q3.length) && ((y1.q4.length == y1.q4.length) && ((y1.q1.Node.Friend.Queue.length == y1.q1.Node.Friend.Queue.length) && ((y1.q1.Node.Friend.Subs.length == y1.q1.Node.Friend.Subs.length) && (y1.q2.length == y1.q2.length)))))))))))) ( .leaf (.inl (⟨y1.q1, a1, a2, a3, a4, y1.q0, y1.q2, y1.q3, y1.q4⟩ : Z2o)))))
noncomputable def Z7R (a0 : Zg) (a1 : Int) (a2 : Bool) (a3 : Int) (a4 : List Int) (a5 : Int) (a6 : List Zi) : Option Z2o := flow Z7I (.b0 a0 a1 a2 a3 a4 a5 a6)
def Z9l : Shape := ⟨[.one (.ptr 0), .one (.ptr 1), .one (.ptr 2), .one (.ptr 3), .one (.ptr 4), .one (.ptr 5)], [.var 144 48 (.agg [.v 22 1 false, .v 24 1 false, .v 24 1 false, .v 32 11 true, .v 35 3 true, .v 33 1 false, .v 4 1 false, .v 4 1 false, .own 22 6, .own 64 7, .own 116 8, .own 101 9, .own 104 10, .v 22 1 false, .own 108 11, .own 22 12, .v 3 1 false, .v 4 1 false, .v 3 1 false, .v 3 1 false, .v 3 1 false, .v 3 1 false, .v 22 1 false, .v 3 1 false, .v 3 1 false, .v 3 1 false, .v 3 1 false, .own 22 13, .v 3 1 false, .v 4 1 false, .v 3 1 false, .own 62 14, .v 33 1 false, .v 4 1 false, .v 3 1 false, .fn 61 [] [15]]), .var 22 1 (.one (.v 22 1 false)), .var 4 1 (.one (.v 4 1 false)), .var 3 1 (.one (.v 3 1 false)), .var 27 1 (.one (.v 27 1 false)), .var 51 1 (.one (.v 51 1 false)), .row 22 true, .row 64 true, .row 116 true, .row 101 true, .row 104 true, .row 108 true, .row 22 true, .row 22 true, .row 62 true, .var 58 1 (.one (.own 68 16)), .row 68 true]⟩
noncomputable def Zdp : HMod U := ⟨[[.keep], [.keep], [.keep], [.keep], [.keep], [.keep]], [.var k9, .var [.keep], .var [.keep], .var [.keep], .var [.s 5 1], .var [.keep], .row true, .row true, .row true, .row true, .row true, .row true, .row true, .row true, .row true, .var [.own 68 11], .row true], Z9l, ⟨[], [.var 144 48 (.agg [.v 22 1 false, .v 24 1 false, .v 24 1 false, .v 32 11 true, .v 35 3 true, .v 33 1 false, .v 4 1 false, .v 4 1 false, .own 22 6, .own 64 7, .own 116 8, .v 42 2 true, .v 22 1 false, .own 108 11, .own 22 12, .v 3 1 false, .v 4 1 false, .v 3 1 false, .v 3 1 false, .v 3 1 false, .v 3 1 false, .v 22 1 false, .v 3 1 false, .v 3 1 false, .v 3 1 false, .v 3 1 false, .own 22 13, .v 3 1 false, .v 4 1 false, .v 3 1 false, .own 62 14, .v 33 1 false, .v 4 1 false, .v 3 1 false, .fn 61 [] [15]]), .var 22 1 (.one (.v 22 1 false)), .var 4 1 (.one (.v 4 1 false)), .var 3 1 (.one (.v 3 1 false)), .var 27 1 (.one (.v 27 1 false)), .var 51 1 (.one (.v 51 1 false)), .row 22 true, .row 64 true, .row 116 true, .row 101 false, .row 104 false, .row 108 false, .row 22 false, .row 22 true, .row 62 true, .var 58 1 (.one (.own 68 16)), .row 68 true]⟩, false, 1375, fun (y : Z2o) => ((), ((y.q0.Node.Address, (y.q0.Node.Device, (y.q0.Node.App, (y.q0.Node.Keys, (y.q0.Node.IV, (y.q0.Node.Seq, (y.q0.Node.Relay, (y.q0.Node.Befriends, (y.q0.Node.Transport, (y.q0.Node.Friend.Low, (y.q0.Node.Friend.Bit, (y.q0.Node.Friend.Sent, (y.q0.Node.Friend.Polled, (y.q0.Node.Friend.Counter, (y.q0.Node.Friend.Dropped, (y.q0.Node.Low.Phase, (y.q0.Node.Low.Friend, (y.q0.Node.Low.Bit, (y.q0.Node.Low.Counter, (y.q0.Node.Low.Due, (y.q0.Node.Low.Tries, (y.q0.Node.Low.Told, (y.q0.Node.Low.More, (y.q0.Node.Low.Last, (y.q0.Node.Stored, (y.q0.Node.Up, (y.q0.f_now, ()))))))))))))))))))))))))))), ((y.q1, ()), ((y.q2, ()), ((y.q3, ()), ((y.q4, ()), ((y.q5, ()), (y.q0.Node.Groups, (y.q0.Node.Cache, (y.q0.Node.Replays, (y.q7, (y.q8, (y.q0.Node.Friend.Queue, (y.q0.Node.Friend.Subs, (y.q0.Node.Low.Subs, (y.q0.Node.Out, ((), (y.q6, ())))))))))))))))))), fun x => Z7R (⟨(⟨x.2.1.1, x.2.1.2.1, x.2.1.2.2.1, x.2.1.2.2.2.1, x.2.1.2.2.2.2.1, x.2.1.2.2.2.2.2.1, x.2.1.2.2.2.2.2.2.1, x.2.1.2.2.2.2.2.2.2.1, x.2.2.2.2.2.2.2.1, x.2.2.2.2.2.2.2.2.1, x.2.2.2.2.2.2.2.2.2.1, (⟨x.2.2.2.2.2.2.2.2.2.2.1, x.2.2.2.2.2.2.2.2.2.2.2.1⟩ : Z7), (⟨x.2.1.2.2.2.2.2.2.2.2.1, x.2.2.2.2.2.2.2.2.2.2.2.2.1, x.2.2.2.2.2.2.2.2.2.2.2.2.2.1, x.2.1.2.2.2.2.2.2.2.2.2.1, x.2.1.2.2.2.2.2.2.2.2.2.2.1, x.2.1.2.2.2.2.2.2.2.2.2.2.2.1, x.2.1.2.2.2.2.2.2.2.2.2.2.2.2.1, x.2.1.2.2.2.2.2.2.2.2.2.2.2.2.2.1⟩ : Zk), (⟨x.2.1.2.2.2.2.2.2.2.2.2.2.2.2.2.2.1, x.2.1.2.2.2.2.2.2.2.2.2.2.2.2.2.2.2.1, x.2.1.2.2.2.2.2.2.2.2.2.2.2.2.2.2.2.2.1, x.2.1.2.2.2.2.2.2.2.2.2.2.2.2.2.2.2.2.2.1, x.2.1.2.2.2.2.2.2.2.2.2.2.2.2.2.2.2.2.2.2.1, x.2.1.2.2.2.2.2.2.2.2.2.2.2.2.2.2.2.2.2.2.2.1, x.2.2.2.2.2.2.2.2.2.2.2.2.2.2.1, x.2.1.2.2.2.2.2.2.2.2.2.2.2.2.2.2.2.2.2.2.2.2.1, x.2.1.2.2.2.2.2.2.2.2.2.2.2.2.2.2.2.2.2.2.2.2.2.1, x.2.1.2.2.2.2.2.2.2.2.2.2.2.2.2.2.2.2.2.2.2.2.2.2.1⟩ : Zm), x.2.2.2.2.2.2.2.2.2.2.2.2.2.2.2.1, x.2.1.2.2.2.2.2.2.2.2.2.2.2.2.2.2.2.2.2.2.2.2.2.2.2.1, x.2.1.2.2.2.2.2.2.2.2.2.2.2.2.2.2.2.2.2.2.2.2.2.2.2.2.1⟩ : Z8), x.2.1.2.2.2.2.2.2.2.2.2.2.2.2.2.2.2.2.2.2.2.2.2.2.2.2.2.1⟩ : Zg) x.2.2.1.1 x.2.2.2.1.1 x.2.2.2.2.1.1 x.2.2.2.2.2.1.1 x.2.2.2.2.2.2.1.1 x.2.2.2.2.2.2.2.2.2.2.2.2.2.2.2.2.2.1, ⟨⟨trivial, ⟨trivial, ⟨trivial, ⟨trivial, ⟨trivial, ⟨trivial, trivial⟩⟩⟩⟩⟩⟩, ⟨⟨⟨by decide, fun _ => rfl⟩, ⟨⟨by decide, fun _ => rfl⟩, ⟨⟨by decide, fun _ => rfl⟩, ⟨⟨by decide, fun _ => ⟨_, rfl, rfl⟩⟩, ⟨⟨by decide, fun _ => ⟨_, rfl, rfl⟩⟩, ⟨⟨by decide, fun _ => rfl⟩, ⟨⟨by decide, fun _ => rfl⟩, ⟨⟨by decide, fun _ => rfl⟩, ⟨trivial, ⟨trivial, ⟨trivial, ⟨trivial, ⟨trivial, ⟨⟨by decide, fun _ => rfl⟩, ⟨trivial, ⟨trivial, ⟨⟨by decide, fun _ => rfl⟩, ⟨⟨by decide, fun _ => rfl⟩, ⟨⟨by decide, fun _ => rfl⟩, ⟨⟨by decide, fun _ => rfl⟩, ⟨⟨by decide, fun _ => rfl⟩, ⟨⟨by decide, fun _ => rfl⟩, ⟨⟨by decide, fun _ => rfl⟩, ⟨⟨by decide, fun _ => rfl⟩, ⟨⟨by decide, fun _ => rfl⟩, ⟨⟨by decide, fun _ => rfl⟩, ⟨⟨by decide, fun _ => rfl⟩, ⟨trivial, ⟨⟨by decide, fun _ => rfl⟩, ⟨⟨by decide, fun _ => rfl⟩, ⟨⟨by decide, fun _ => rfl⟩, ⟨trivial, ⟨⟨by decide, fun _ => rfl⟩, ⟨⟨by decide, fun _ => rfl⟩, ⟨⟨by decide, fun _ => rfl⟩, ⟨trivial, trivial⟩⟩⟩⟩⟩⟩⟩⟩⟩⟩⟩⟩⟩⟩⟩⟩⟩⟩⟩⟩⟩⟩⟩⟩⟩⟩⟩⟩⟩⟩⟩⟩⟩⟩⟩⟩, ⟨⟨by decide, fun _ => rfl⟩, ⟨⟨by decide, fun _ => rfl⟩, ⟨⟨by decide, fun _ => rfl⟩, ⟨⟨by decide, fun _ => rfl⟩, ⟨⟨by decide, fun _ => rfl⟩, ⟨by decide, ⟨by decide, ⟨by decide, ⟨by decide, ⟨by decide, ⟨by decide, ⟨by decide, ⟨by decide, ⟨by decide, ⟨trivial, ⟨by decide, trivial⟩⟩⟩⟩⟩⟩⟩⟩⟩⟩⟩⟩⟩⟩⟩⟩⟩⟩⟩
noncomputable def Zji : Z8v → Spot U
  | .b0 a0 a1 a2 a3 a4 a5 a6 => entH Tryz.f26 Z9l (((), ((), ((), ((), ((), ((), ())))))), ((a0.Node.Address, (a0.Node.Device, (a0.Node.App, (a0.Node.Keys, (a0.Node.IV, (a0.Node.Seq, (a0.Node.Relay, (a0.Node.Befriends, (a0.Node.Friend.Low, (a0.Node.Friend.Bit, (a0.Node.Friend.Sent, (a0.Node.Friend.Polled, (a0.Node.Friend.Counter, (a0.Node.Friend.Dropped, (a0.Node.Low.Phase, (a0.Node.Low.Friend, (a0.Node.Low.Bit, (a0.Node.Low.Counter, (a0.Node.Low.Due, (a0.Node.Low.Tries, (a0.Node.Low.Told, (a0.Node.Low.More, (a0.Node.Low.Last, (a0.Node.Stored, (a0.Node.Up, (a0.f_now, ())))))))))))))))))))))))))), ((a1, ()), ((a2, ()), ((a3, ()), ((a4, ()), ((a5, ()), (a0.Node.Groups, (a0.Node.Cache, (a0.Node.Replays, (a0.Node.Transport.Out, (a0.Node.Transport.In, (a0.Node.Friend.Queue, (a0.Node.Friend.Subs, (a0.Node.Low.Subs, (a0.Node.Out, ((), (a6, ()))))))))))))))))))
theorem Ziu : BlkH 26 Tryz.f26 msN (hc [] Zar hsN) AN [] [.var k3, .var [.keep], .var [.keep], .var [.keep], .var [.s 5 1], .var [.keep], .row true, .row true, .row true, .row false, .row false, .row false, .row false, .row true, .row true, .var [.own 68 11], .row true] 17 Zdp Z7I Zji
  | .b0 _ _ _ _ _ _ _ => by kernel_rfl
theorem Zjc : HFnOK Tryz.prog B0 26 Zdp := okH Ziu (fun x => .b0 (⟨(⟨x.2.1.1, x.2.1.2.1, x.2.1.2.2.1, x.2.1.2.2.2.1, x.2.1.2.2.2.2.1, x.2.1.2.2.2.2.2.1, x.2.1.2.2.2.2.2.2.1, x.2.1.2.2.2.2.2.2.2.1, x.2.2.2.2.2.2.2.1, x.2.2.2.2.2.2.2.2.1, x.2.2.2.2.2.2.2.2.2.1, (⟨x.2.2.2.2.2.2.2.2.2.2.1, x.2.2.2.2.2.2.2.2.2.2.2.1⟩ : Z7), (⟨x.2.1.2.2.2.2.2.2.2.2.1, x.2.2.2.2.2.2.2.2.2.2.2.2.1, x.2.2.2.2.2.2.2.2.2.2.2.2.2.1, x.2.1.2.2.2.2.2.2.2.2.2.1, x.2.1.2.2.2.2.2.2.2.2.2.2.1, x.2.1.2.2.2.2.2.2.2.2.2.2.2.1, x.2.1.2.2.2.2.2.2.2.2.2.2.2.2.1, x.2.1.2.2.2.2.2.2.2.2.2.2.2.2.2.1⟩ : Zk), (⟨x.2.1.2.2.2.2.2.2.2.2.2.2.2.2.2.2.1, x.2.1.2.2.2.2.2.2.2.2.2.2.2.2.2.2.2.1, x.2.1.2.2.2.2.2.2.2.2.2.2.2.2.2.2.2.2.1, x.2.1.2.2.2.2.2.2.2.2.2.2.2.2.2.2.2.2.2.1, x.2.1.2.2.2.2.2.2.2.2.2.2.2.2.2.2.2.2.2.2.1, x.2.1.2.2.2.2.2.2.2.2.2.2.2.2.2.2.2.2.2.2.2.1, x.2.2.2.2.2.2.2.2.2.2.2.2.2.2.1, x.2.1.2.2.2.2.2.2.2.2.2.2.2.2.2.2.2.2.2.2.2.2.1, x.2.1.2.2.2.2.2.2.2.2.2.2.2.2.2.2.2.2.2.2.2.2.2.1, x.2.1.2.2.2.2.2.2.2.2.2.2.2.2.2.2.2.2.2.2.2.2.2.2.1⟩ : Zm), x.2.2.2.2.2.2.2.2.2.2.2.2.2.2.2.1, x.2.1.2.2.2.2.2.2.2.2.2.2.2.2.2.2.2.2.2.2.2.2.2.2.2.1, x.2.1.2.2.2.2.2.2.2.2.2.2.2.2.2.2.2.2.2.2.2.2.2.2.2.2.1⟩ : Z8), x.2.1.2.2.2.2.2.2.2.2.2.2.2.2.2.2.2.2.2.2.2.2.2.2.2.2.2.1⟩ : Zg) x.2.2.1.1 x.2.2.2.1.1 x.2.2.2.2.1.1 x.2.2.2.2.2.1.1 x.2.2.2.2.2.2.1.1 x.2.2.2.2.2.2.2.2.2.2.2.2.2.2.2.2.2.1) (fun x => by kernel_rfl) (by kernel_rfl) Tryz.func26 (by kernel_rfl) (by kernel_rfl) (fun x => by kernel_rfl) (fun x => by kernel_rfl)
inductive Z9z where
  | b0 (a0 : List (List Int))
  | b1 (a0 a1 : List (List Int)) (a2 a3 : Int)
noncomputable def Z34 : Z9z → Tr U ((List (List Int)) ⊕ Z9z)
  | .b0 a0 => .chk (decide (0 ≤ (↑a0.length : Int) ∧ (↑a0.length : Int) ≤ (↑a0.length : Int) ∧ Int.toNat (↑a0.length : Int) * 24 ≤ lim ∧ (↑a0.length : Int) ≤ (↑maxLen : Int))) ( .chk ((List.replicate (Int.toNat (↑a0.length : Int)) ([] : List Int)).length == (List.replicate (Int.toNat (↑a0.length : Int)) ([] : List Int)).length) ( .leaf (.inr (.b1 (List.replicate (Int.toNat (↑a0.length : Int)) ([] : List Int)) a0 (↑a0.length : Int) (0 : Int)))))
  | .b1 a0 a1 a2 a3 => .br (decide (a3 < a2)) ( .chk (decide (0 ≤ a3 ∧ a3 < (↑a1.length : Int))) ( .bind 27 (a1[(Int.toNat a3)]?) (fun (x1 : List Int) => .bind 1374 (Z0l x1) (fun (y2 : Z0k) => .chk (a0.length == a0.length) ( .chk (decide (0 ≤ a3 ∧ a3 < (↑a0.length : Int))) ( .chk (a0.length == a0.length && decide (0 ≤ (Int.toNat a3))) ( .bind 27 (a0[(Int.toNat a3)]?) (fun (x3 : List Int) => .chk (y2.q0.length == y2.q0.length) ( .chk ((a0.set (Int.toNat a3) y2.q0).length == a0.length) ( .leaf (.inr (.b1 (a0.set (Int.toNat a3) y2.q0) a1 a2 (w64 (a3 + (1 : Int))))))))))))))) ( .chk (a0.length == a0.length) ( .leaf (.inl a0)))
noncomputable def Z6x (a0 : List (List Int)) : Option (List (List Int)) := flow Z34 (.b0 a0)
noncomputable def Zns : Mod U := ⟨[73], 73, fun x => Z6x x.1, by decide⟩
def ZaO : Lay := ⟨[3, 9, 10, 11], [[.own 27 1], [.s 27 1], [.keep], [.keep]], [.row true], ⟨[.one (.own 27 0), .one (.v 73 1 false), .one (.v 3 1 false), .one (.v 3 1 false)], [.row 27 true]⟩⟩
def Zo9 : Nat → Option Lay
  | 3 => some ZaO
  | _ => none
noncomputable def Zl4 : Z9z → Spot U
  | .b0 a0 => entP Tryz.f73 [73] (a0, ())
  | .b1 a0 a1 a2 a3 => spL Tryz.f73 [1, 1, 0, 1, 0, 0, 0] ZaO (((), ((a1, ()), ((a2, ()), ((a3, ()), ())))), (a0, ()))
theorem Zjo : BlkP 73 Tryz.f73 msN (hc [] Z2x hsN) Zo9 73 Z34 Zl4
  | .b0 _ => by kernel_rfl
  | .b1 _ _ _ _ => by kernel_rfl
theorem Zmf : FnOK Tryz.prog B0 73 Zns := okP Zjo (fun x => .b0 x.1) (by kernel_rfl) Tryz.func73 (by kernel_rfl) (by kernel_rfl) (fun _ => rfl) (fun _ => rfl)
theorem Z6X : Z6O Tryz.prog 69 1 2 22 := Z13 ZaM (t := 36) (tb := 4) (e := 22) Tryz.func69 (by kernel_rfl) (by kernel_rfl) (by kernel_rfl) (by kernel_rfl) (by kernel_rfl) (by kernel_rfl) (by kernel_rfl) (by decide)
noncomputable def Z0p (a0 : List Int) : Option Z0n := if a0.length * 2 ≤ lim ∧ a0.length ≤ maxLen then some ⟨a0⟩ else none
def Z8f : Shape := ⟨[.one (.v 36 1 false)], []⟩
def Z1C : Shape := ⟨[.one (.own 22 0)], [.row 22 true]⟩
noncomputable def Z18 : HMod U := { fa := [[.s 22 1]], fb := [], sin := Z8f, sout := Z1C, one := true, ky := 1367, toX := fun (y : Z0n) => (((), ()), (y.q0, ())), fn := fun x => Z0p x.1.1.1, ok := ⟨⟨⟨by decide, fun _ => rfl⟩, trivial⟩, trivial⟩ }
theorem Z8Z : HFnOK Tryz.prog B0 69 Z18 := Z4s Z6X fun x y hx => by
  simp only [Z18, Z0p] at hx
  split at hx
  · rename_i h
    cases hx
    exact ⟨_, rfl, rfl, by simp [Z18, HMod.out, Z1C, Shape.enc, lensB, encA, encSp, encP, encB, toV], by simp [Z18, HMod.out, Z1C, Shape.enc, lensB, encA, encSp, encP, encB, toH, toBox, Zo], by simpa using h.1, by simpa using h.2⟩
  · cases hx
theorem Z7r : Z6O Tryz.prog 70 3 12 64 := Z13 ZaM (t := 37) (tb := 4) (e := 64) Tryz.func70 (by kernel_rfl) (by kernel_rfl) (by kernel_rfl) (by kernel_rfl) (by kernel_rfl) (by kernel_rfl) (by kernel_rfl) (by decide)
noncomputable def Z1q (a0 : List Za) : Option Z1n := if a0.length * 12 ≤ lim ∧ a0.length ≤ maxLen then some ⟨a0⟩ else none
def Z8O : Shape := ⟨[.one (.v 37 1 false)], []⟩
def Z1M : Shape := ⟨[.one (.own 64 0)], [.row 64 true]⟩
noncomputable def Z1m : HMod U := { fa := [[.s 64 3]], fb := [], sin := Z8O, sout := Z1M, one := true, ky := 1368, toX := fun (y : Z1n) => (((), ()), (y.q0, ())), fn := fun x => Z1q x.1.1.1, ok := ⟨⟨⟨by decide, fun _ => rfl⟩, trivial⟩, trivial⟩ }
theorem Z9O : HFnOK Tryz.prog B0 70 Z1m := Z4s Z7r fun x y hx => by
  simp only [Z1m, Z1q] at hx
  split at hx
  · rename_i h
    cases hx
    exact ⟨_, rfl, rfl, by simp [Z1m, HMod.out, Z1M, Shape.enc, lensB, encA, encSp, encP, encB, toV], by simp [Z1m, HMod.out, Z1M, Shape.enc, lensB, encA, encSp, encP, encB, toH, toBox, Zo], by simpa using h.1, by simpa using h.2⟩
  · cases hx
theorem Z6Q : Z6O Tryz.prog 71 3 12 116 := Z13 ZaM (t := 38) (tb := 4) (e := 116) Tryz.func71 (by kernel_rfl) (by kernel_rfl) (by kernel_rfl) (by kernel_rfl) (by kernel_rfl) (by kernel_rfl) (by kernel_rfl) (by decide)
noncomputable def Z16 (a0 : List Za) : Option Z14 := if a0.length * 12 ≤ lim ∧ a0.length ≤ maxLen then some ⟨a0⟩ else none
def Z8x : Shape := ⟨[.one (.v 38 1 false)], []⟩
def Z1r : Shape := ⟨[.one (.own 116 0)], [.row 116 true]⟩
noncomputable def Z15 : HMod U := { fa := [[.s 116 3]], fb := [], sin := Z8x, sout := Z1r, one := true, ky := 1369, toX := fun (y : Z14) => (((), ()), (y.q0, ())), fn := fun x => Z16 x.1.1.1, ok := ⟨⟨⟨by decide, fun _ => rfl⟩, trivial⟩, trivial⟩ }
theorem Z8T : HFnOK Tryz.prog B0 71 Z15 := Z4s Z6Q fun x y hx => by
  simp only [Z15, Z16] at hx
  split at hx
  · rename_i h
    cases hx
    exact ⟨_, rfl, rfl, by simp [Z15, HMod.out, Z1r, Shape.enc, lensB, encA, encSp, encP, encB, toV], by simp [Z15, HMod.out, Z1r, Shape.enc, lensB, encA, encSp, encP, encB, toH, toBox, Zo], by simpa using h.1, by simpa using h.2⟩
  · cases hx
theorem Z5u : Z6O Tryz.prog 72 10 72 101 := Z13 ZaM (t := 39) (tb := 4) (e := 101) Tryz.func72 (by kernel_rfl) (by kernel_rfl) (by kernel_rfl) (by kernel_rfl) (by kernel_rfl) (by kernel_rfl) (by kernel_rfl) (by decide)
noncomputable def Z0G (a0 : List Z6) : Option Z0J := if a0.length * 72 ≤ lim ∧ a0.length ≤ maxLen then some ⟨a0⟩ else none
def Z6B : Shape := ⟨[.one (.v 39 1 false)], []⟩
def Z0Y : Shape := ⟨[.one (.own 101 0)], [.row 101 true]⟩
noncomputable def Z0E : HMod U := { fa := [[.s 101 10]], fb := [], sin := Z6B, sout := Z0Y, one := true, ky := 1370, toX := fun (y : Z0J) => (((), ()), (y.q0, ())), fn := fun x => Z0G x.1.1.1, ok := ⟨⟨⟨by decide, fun _ => rfl⟩, trivial⟩, trivial⟩ }
theorem Z7m : HFnOK Tryz.prog B0 72 Z0E := Z4s Z5u fun x y hx => by
  simp only [Z0E, Z0G] at hx
  split at hx
  · rename_i h
    cases hx
    exact ⟨_, rfl, rfl, by simp [Z0E, HMod.out, Z0Y, Shape.enc, lensB, encA, encSp, encP, encB, toV], by simp [Z0E, HMod.out, Z0Y, Shape.enc, lensB, encA, encSp, encP, encB, toH, toBox, Zo], by simpa using h.1, by simpa using h.2⟩
  · cases hx
theorem Z5F : Z6O Tryz.prog 74 11 80 104 := Z13 ZaM (t := 40) (tb := 4) (e := 104) Tryz.func74 (by kernel_rfl) (by kernel_rfl) (by kernel_rfl) (by kernel_rfl) (by kernel_rfl) (by kernel_rfl) (by kernel_rfl) (by decide)
noncomputable def Z0K (a0 : List Z9) : Option Z0I := if a0.length * 80 ≤ lim ∧ a0.length ≤ maxLen then some ⟨a0⟩ else none
def Z6H : Shape := ⟨[.one (.v 40 1 false)], []⟩
def Z0X : Shape := ⟨[.one (.own 104 0)], [.row 104 true]⟩
noncomputable def Z0F : HMod U := { fa := [[.s 104 11]], fb := [], sin := Z6H, sout := Z0X, one := true, ky := 1371, toX := fun (y : Z0I) => (((), ()), (y.q0, ())), fn := fun x => Z0K x.1.1.1, ok := ⟨⟨⟨by decide, fun _ => rfl⟩, trivial⟩, trivial⟩ }
theorem Z7q : HFnOK Tryz.prog B0 74 Z0F := Z4s Z5F fun x y hx => by
  simp only [Z0F, Z0K] at hx
  split at hx
  · rename_i h
    cases hx
    exact ⟨_, rfl, rfl, by simp [Z0F, HMod.out, Z0X, Shape.enc, lensB, encA, encSp, encP, encB, toV], by simp [Z0F, HMod.out, Z0X, Shape.enc, lensB, encA, encSp, encP, encB, toH, toBox, Zo], by simpa using h.1, by simpa using h.2⟩
  · cases hx
theorem Z6W : Z6O Tryz.prog 75 18 136 108 := Z13 ZaM (t := 43) (tb := 4) (e := 108) Tryz.func75 (by kernel_rfl) (by kernel_rfl) (by kernel_rfl) (by kernel_rfl) (by kernel_rfl) (by kernel_rfl) (by kernel_rfl) (by decide)
noncomputable def Z1b (a0 : List Ze) : Option Z1f := if a0.length * 136 ≤ lim ∧ a0.length ≤ maxLen then some ⟨a0⟩ else none
def Z87 : Shape := ⟨[.one (.v 43 1 false)], []⟩
def Z1v : Shape := ⟨[.one (.own 108 0)], [.row 108 true]⟩
noncomputable def Z1e : HMod U := { fa := [[.s 108 18]], fb := [], sin := Z87, sout := Z1v, one := true, ky := 1372, toX := fun (y : Z1f) => (((), ()), (y.q0, ())), fn := fun x => Z1b x.1.1.1, ok := ⟨⟨⟨by decide, fun _ => rfl⟩, trivial⟩, trivial⟩ }
theorem Z8X : HFnOK Tryz.prog B0 75 Z1e := Z4s Z6W fun x y hx => by
  simp only [Z1e, Z1b] at hx
  split at hx
  · rename_i h
    cases hx
    exact ⟨_, rfl, rfl, by simp [Z1e, HMod.out, Z1v, Shape.enc, lensB, encA, encSp, encP, encB, toV], by simp [Z1e, HMod.out, Z1v, Shape.enc, lensB, encA, encSp, encP, encB, toH, toBox, Zo], by simpa using h.1, by simpa using h.2⟩
  · cases hx
theorem Z77 : Z6O Tryz.prog 77 3 40 62 := Z13 ZaM (t := 48) (tb := 4) (e := 62) Tryz.func77 (by kernel_rfl) (by kernel_rfl) (by kernel_rfl) (by kernel_rfl) (by kernel_rfl) (by kernel_rfl) (by kernel_rfl) (by decide)
noncomputable def Z1o (a0 : List Zb) : Option Z1k := if a0.length * 40 ≤ lim ∧ a0.length ≤ maxLen then some ⟨a0⟩ else none
def Z8N : Shape := ⟨[.one (.v 48 1 false)], []⟩
def Z1K : Shape := ⟨[.one (.own 62 0)], [.row 62 true]⟩
noncomputable def Z1p : HMod U := { fa := [[.s 62 3]], fb := [], sin := Z8N, sout := Z1K, one := true, ky := 1373, toX := fun (y : Z1k) => (((), ()), (y.q0, ())), fn := fun x => Z1o x.1.1.1, ok := ⟨⟨⟨by decide, fun _ => rfl⟩, trivial⟩, trivial⟩ }
theorem Z9H : HFnOK Tryz.prog B0 77 Z1p := Z4s Z77 fun x y hx => by
  simp only [Z1p, Z1o] at hx
  split at hx
  · rename_i h
    cases hx
    exact ⟨_, rfl, rfl, by simp [Z1p, HMod.out, Z1K, Shape.enc, lensB, encA, encSp, encP, encB, toV], by simp [Z1p, HMod.out, Z1K, Shape.enc, lensB, encA, encSp, encP, encB, toH, toBox, Zo], by simpa using h.1, by simpa using h.2⟩
  · cases hx
inductive ZdV where
  | b0 (a0 : Z8)
  | b1 (a0 : List Z6) (a1 a2 : Int) (a3 a4 : Z8)
  | b2 (a0 : List Z9) (a1 a2 : Int) (a3 a4 : Z8)
  | b3 (a0 : List Ze) (a1 a2 : Int) (a3 a4 : Z8)
  | b4 (a0 : List Zb) (a1 a2 : Int) (a3 a4 : Z8)
noncomputable def Z0c : ZdV → Tr U (Z2W ⊕ ZdV)
  | .b0 a0 => .bind 1367 (Z0p a0.Groups) (fun (y1 : Z0n) => .bind 1368 (Z1q a0.Cache) (fun (y2 : Z1n) => .bind 1369 (Z16 a0.Replays) (fun (y3 : Z14) => .bind 1370 (Z0G a0.Transport.Out) (fun (y4 : Z0J) => .chk (y4.q0.length == y4.q0.length) ( .chk ((y4.q0.length == y4.q0.length) && ((y1.q0.length == y1.q0.length) && ((y2.q0.length == y2.q0.length) && ((y3.q0.length == y3.q0.length) && ((y4.q0.length == y4.q0.length) && ((([] : List Int).length == 0) && ((([] : List Za).length == 0) && ((([] : List Za).length == 0) && ((([] : List Z6).length == 0) && ((([] : List Z9).length == 0) && ((([] : List Ze).length == 0) && ((([] : List Int).length == 0) && ((([] : List Int).length == 0) && (([] : List Zb).length == 0)))))))))))))) ( .leaf (.inr (.b1 y4.q0 (↑y4.q0.length : Int) (0 : Int) ({ a0 with Groups := y1.q0, Cache := y2.q0, Replays := y3.q0, Transport := (⟨y4.q0, a0.Transport.In⟩ : Z7) } : Z8) (⟨(0 : Int), (0 : Int), (0 : Int), Z0L, Z0a, (0 : Int), false, false, ([] : List Int), ([] : List Za), ([] : List Za), (⟨([] : List Z6), ([] : List Z9)⟩ : Z7), (⟨(0 : Int), ([] : List Ze), ([] : List Int), (0 : Int), false, (0 : Int), (0 : Int), (0 : Int)⟩ : Zk), (⟨(0 : Int), (0 : Int), (0 : Int), (0 : Int), (0 : Int), (0 : Int), ([] : List Int), (0 : Int), false, (0 : Int)⟩ : Zm), ([] : List Zb), (0 : Int), false⟩ : Z8)))))))))
  | .b1 a0 a1 a2 a3 a4 => .br (decide (a2 < a1)) ( .chk (a0.length == a0.length) ( .chk (decide (0 ≤ a2 ∧ a2 < (↑a0.length : Int))) ( .chk (a0.length == a0.length) ( .bind 101 (a0[(Int.toNat a2)]?) (fun (x1 : Z6) => .bind 73 (Z6x x1.Parts) (fun (x2 : List (List Int)) => .chk (a0.length == a0.length) ( .chk (decide (0 ≤ a2 ∧ a2 < (↑a0.length : Int))) ( .chk (a0.length == a0.length && decide (0 ≤ (Int.toNat a2))) ( .bind 101 (a0[(Int.toNat a2)]?) (fun (x3 : Z6) => .chk (((a0.set (Int.toNat a2) ({ x3 with Parts := x2 } : Z6)).length == a0.length) && ((a3.Groups.length == a3.Groups.length) && ((a3.Cache.length == a3.Cache.length) && ((a3.Replays.length == a3.Replays.length) && (((a0.set (Int.toNat a2) ({ x3 with Parts := x2 } : Z6)).length == a0.length) && ((a4.Groups.length == a4.Groups.length) && ((a4.Cache.length == a4.Cache.length) && ((a4.Replays.length == a4.Replays.length) && ((a4.Transport.Out.length == a4.Transport.Out.length) && ((a4.Transport.In.length == a4.Transport.In.length) && ((a4.Friend.Queue.length == a4.Friend.Queue.length) && ((a4.Friend.Subs.length == a4.Friend.Subs.length) && ((a4.Low.Subs.length == a4.Low.Subs.length) && (a4.Out.length == a4.Out.length)))))))))))))) ( .leaf (.inr (.b1 (a0.set (Int.toNat a2) ({ x3 with Parts := x2 } : Z6)) a1 (w64 (a2 + (1 : Int))) ({ a3 with Transport := (⟨(a0.set (Int.toNat a2) ({ x3 with Parts := x2 } : Z6)), a3.Transport.In⟩ : Z7) } : Z8) a4))))))))))))) ( .bind 1371 (Z0K a3.Transport.In) (fun (y4 : Z0I) => .chk (y4.q0.length == y4.q0.length) ( .chk ((y4.q0.length == y4.q0.length) && ((a3.Groups.length == a3.Groups.length) && ((a3.Cache.length == a3.Cache.length) && ((a3.Replays.length == a3.Replays.length) && ((a0.length == a0.length) && ((y4.q0.length == y4.q0.length) && ((a4.Groups.length == a4.Groups.length) && ((a4.Cache.length == a4.Cache.length) && ((a4.Replays.length == a4.Replays.length) && ((a4.Transport.Out.length == a4.Transport.Out.length) && ((a4.Transport.In.length == a4.Transport.In.length) && ((a4.Friend.Queue.length == a4.Friend.Queue.length) && ((a4.Friend.Subs.length == a4.Friend.Subs.length) && ((a4.Low.Subs.length == a4.Low.Subs.length) && (a4.Out.length == a4.Out.length))))))))))))))) ( .leaf (.inr (.b2 y4.q0 (↑y4.q0.length : Int) (0 : Int) ({ a3 with Transport := (⟨a0, y4.q0⟩ : Z7) } : Z8) a4))))))
  | .b2 a0 a1 a2 a3 a4 => .br (decide (a2 < a1)) ( .chk (a0.length == a0.length) ( .chk (decide (0 ≤ a2 ∧ a2 < (↑a0.length : Int))) ( .chk (a0.length == a0.length) ( .bind 104 (a0[(Int.toNat a2)]?) (fun (x1 : Z9) => .bind 73 (Z6x x1.Parts) (fun (x2 : List (List Int)) => .chk (a0.length == a0.length) ( .chk (decide (0 ≤ a2 ∧ a2 < (↑a0.length : Int))) ( .chk (a0.length == a0.length && decide (0 ≤ (Int.toNat a2))) ( .bind 104 (a0[(Int.toNat a2)]?) (fun (x3 : Z9) => .chk (((a0.set (Int.toNat a2) ({ x3 with Parts := x2 } : Z9)).length == a0.length) && ((a3.Groups.length == a3.Groups.length) && ((a3.Cache.length == a3.Cache.length) && ((a3.Replays.length == a3.Replays.length) && ((a3.Transport.Out.length == a3.Transport.Out.length) && (((a0.set (Int.toNat a2) ({ x3 with Parts := x2 } : Z9)).length == a0.length) && ((a4.Groups.length == a4.Groups.length) && ((a4.Cache.length == a4.Cache.length) && ((a4.Replays.length == a4.Replays.length) && ((a4.Transport.Out.length == a4.Transport.Out.length) && ((a4.Transport.In.length == a4.Transport.In.length) && ((a4.Friend.Queue.length == a4.Friend.Queue.length) && ((a4.Friend.Subs.length == a4.Friend.Subs.length) && ((a4.Low.Subs.length == a4.Low.Subs.length) && (a4.Out.length == a4.Out.length))))))))))))))) ( .leaf (.inr (.b2 (a0.set (Int.toNat a2) ({ x3 with Parts := x2 } : Z9)) a1 (w64 (a2 + (1 : Int))) ({ a3 with Transport := (⟨a3.Transport.Out, (a0.set (Int.toNat a2) ({ x3 with Parts := x2 } : Z9))⟩ : Z7) } : Z8) a4))))))))))))) ( .bind 1367 (Z0p a3.Friend.Subs) (fun (y4 : Z0n) => .bind 1372 (Z1b a3.Friend.Queue) (fun (y5 : Z1f) => .chk (y5.q0.length == y5.q0.length) ( .chk ((y5.q0.length == y5.q0.length) && ((a3.Groups.length == a3.Groups.length) && ((a3.Cache.length == a3.Cache.length) && ((a3.Replays.length == a3.Replays.length) && ((a3.Transport.Out.length == a3.Transport.Out.length) && ((a0.length == a0.length) && ((y5.q0.length == y5.q0.length) && ((y4.q0.length == y4.q0.length) && ((a4.Groups.length == a4.Groups.length) && ((a4.Cache.length == a4.Cache.length) && ((a4.Replays.length == a4.Replays.length) && ((a4.Transport.Out.length == a4.Transport.Out.length) && ((a4.Transport.In.length == a4.Transport.In.length) && ((a4.Friend.Queue.length == a4.Friend.Queue.length) && ((a4.Friend.Subs.length == a4.Friend.Subs.length) && ((a4.Low.Subs.length == a4.Low.Subs.length) && (a4.Out.length == a4.Out.length))))))))))))))))) ( .leaf (.inr (.b3 y5.q0 (↑y5.q0.length : Int) (0 : Int) ({ a3 with Transport := (⟨a3.Transport.Out, a0⟩ : Z7), Friend := ({ a3.Friend with Queue := y5.q0, Subs := y4.q0 } : Zk) } : Z8) a4)))))))
  | .b3 a0 a1 a2 a3 a4 => .br (decide (a2 < a1)) ( .chk (a0.length == a0.length) ( .chk (decide (0 ≤ a2 ∧ a2 < (↑a0.length : Int))) ( .chk (a0.length == a0.length) ( .bind 108 (a0[(Int.toNat a2)]?) (fun (x1 : Ze) => .bind 108 (Z5b x1) (fun (x2 : Ze) => .chk (a0.length == a0.length) ( .chk (decide (0 ≤ a2 ∧ a2 < (↑a0.length : Int))) ( .chk (a0.length == a0.length && decide (0 ≤ (Int.toNat a2))) ( .bind 108 (a0[(Int.toNat a2)]?) (fun (x3 : Ze) => .chk (((a0.set (Int.toNat a2) x2).length == a0.length) && ((a3.Groups.length == a3.Groups.length) && ((a3.Cache.length == a3.Cache.length) && ((a3.Replays.length == a3.Replays.length) && ((a3.Transport.Out.length == a3.Transport.Out.length) && ((a3.Transport.In.length == a3.Transport.In.length) && (((a0.set (Int.toNat a2) x2).length == a0.length) && ((a3.Friend.Subs.length == a3.Friend.Subs.length) && ((a4.Groups.length == a4.Groups.length) && ((a4.Cache.length == a4.Cache.length) && ((a4.Replays.length == a4.Replays.length) && ((a4.Transport.Out.length == a4.Transport.Out.length) && ((a4.Transport.In.length == a4.Transport.In.length) && ((a4.Friend.Queue.length == a4.Friend.Queue.length) && ((a4.Friend.Subs.length == a4.Friend.Subs.length) && ((a4.Low.Subs.length == a4.Low.Subs.length) && (a4.Out.length == a4.Out.length))))))))))))))))) ( .leaf (.inr (.b3 (a0.set (Int.toNat a2) x2) a1 (w64 (a2 + (1 : Int))) ({ a3 with Friend := ({ a3.Friend with Queue := (a0.set (Int.toNat a2) x2) } : Zk) } : Z8) a4))))))))))))) ( .bind 1367 (Z0p a3.Low.Subs) (fun (y4 : Z0n) => .bind 1373 (Z1o a3.Out) (fun (y5 : Z1k) => .chk (y5.q0.length == y5.q0.length) ( .chk ((y5.q0.length == y5.q0.length) && ((a3.Groups.length == a3.Groups.length) && ((a3.Cache.length == a3.Cache.length) && ((a3.Replays.length == a3.Replays.length) && ((a3.Transport.Out.length == a3.Transport.Out.length) && ((a3.Transport.In.length == a3.Transport.In.length) && ((a0.length == a0.length) && ((a3.Friend.Subs.length == a3.Friend.Subs.length) && ((y4.q0.length == y4.q0.length) && ((y5.q0.length == y5.q0.length) && ((a4.Groups.length == a4.Groups.length) && ((a4.Cache.length == a4.Cache.length) && ((a4.Replays.length == a4.Replays.length) && ((a4.Transport.Out.length == a4.Transport.Out.length) && ((a4.Transport.In.length == a4.Transport.In.length) && ((a4.Friend.Queue.length == a4.Friend.Queue.length) && ((a4.Friend.Subs.length == a4.Friend.Subs.length) && ((a4.Low.Subs.length == a4.Low.Subs.length) && (a4.Out.length == a4.Out.length))))))))))))))))))) ( .leaf (.inr (.b4 y5.q0 (↑y5.q0.length : Int) (0 : Int) ({ a3 with Friend := ({ a3.Friend with Queue := a0 } : Zk), Low := ({ a3.Low with Subs := y4.q0 } : Zm), Out := y5.q0 } : Z8) a4)))))))
  | .b4 a0 a1 a2 a3 a4 => .br (decide (a2 < a1)) ( .chk (a0.length == a0.length) ( .chk (decide (0 ≤ a2 ∧ a2 < (↑a0.length : Int))) ( .chk (a0.length == a0.length) ( .bind 62 (a0[(Int.toNat a2)]?) (fun (x1 : Zb) => .bind 1374 (Z0l x1.Bytes) (fun (y2 : Z0k) => .chk (a0.length == a0.length) ( .chk (decide (0 ≤ a2 ∧ a2 < (↑a0.length : Int))) ( .chk (a0.length == a0.length && decide (0 ≤ (Int.toNat a2))) ( .bind 62 (a0[(Int.toNat a2)]?) (fun (x3 : Zb) => .chk (y2.q0.length == y2.q0.length) ( .chk (((a0.set (Int.toNat a2) ({ x3 with Bytes := y2.q0 } : Zb)).length == a0.length) && ((a3.Groups.length == a3.Groups.length) && ((a3.Cache.length == a3.Cache.length) && ((a3.Replays.length == a3.Replays.length) && ((a3.Transport.Out.length == a3.Transport.Out.length) && ((a3.Transport.In.length == a3.Transport.In.length) && ((a3.Friend.Queue.length == a3.Friend.Queue.length) && ((a3.Friend.Subs.length == a3.Friend.Subs.length) && ((a3.Low.Subs.length == a3.Low.Subs.length) && (((a0.set (Int.toNat a2) ({ x3 with Bytes := y2.q0 } : Zb)).length == a0.length) && ((a4.Groups.length == a4.Groups.length) && ((a4.Cache.length == a4.Cache.length) && ((a4.Replays.length == a4.Replays.length) && ((a4.Transport.Out.length == a4.Transport.Out.length) && ((a4.Transport.In.length == a4.Transport.In.length) && ((a4.Friend.Queue.length == a4.Friend.Queue.length) && ((a4.Friend.Subs.length == a4.Friend.Subs.length) && ((a4.Low.Subs.length == a4.Low.Subs.length) && (a4.Out.length == a4.Out.length))))))))))))))))))) ( .leaf (.inr (.b4 (a0.set (Int.toNat a2) ({ x3 with Bytes := y2.q0 } : Zb)) a1 (w64 (a2 + (1 : Int))) ({ a3 with Out := (a0.set (Int.toNat a2) ({ x3 with Bytes := y2.q0 } : Zb)) } : Z8) a4)))))))))))))) ( .chk ((a3.Groups.length == a3.Groups.length) && ((a3.Cache.length == a3.Cache.length) && ((a3.Replays.length == a3.Replays.length) && ((a3.Transport.Out.length == a3.Transport.Out.length) && ((a3.Transport.In.length == a3.Transport.In.length) && ((a3.Friend.Queue.length == a3.Friend.Queue.length) && ((a3.Friend.Subs.length == a3.Friend.Subs.length) && ((a3.Low.Subs.length == a3.Low.Subs.length) && (a0.length == a0.length))))))))) ( .leaf (.inl (⟨({ a3 with Out := a0 } : Z8)⟩ : Z2W))))
noncomputable def Z7k (a0 : Z8) : Option Z2W := flow Z0c (.b0 a0)
def ZfJ : Shape := ⟨[.agg [.v 50 46 true]], []⟩
noncomputable def Zku : HMod U := ⟨[k0], [], ZfJ, ⟨[.agg [.v 22 1 false, .v 24 1 false, .v 24 1 false, .v 32 11 true, .v 35 3 true, .v 33 1 false, .v 4 1 false, .v 4 1 false, .own 22 0, .own 64 1, .own 116 2, .own 101 3, .own 104 4, .v 22 1 false, .own 108 5, .own 22 6, .v 3 1 false, .v 4 1 false, .v 3 1 false, .v 3 1 false, .v 3 1 false, .v 3 1 false, .v 22 1 false, .v 3 1 false, .v 3 1 false, .v 3 1 false, .v 3 1 false, .own 22 7, .v 3 1 false, .v 4 1 false, .v 3 1 false, .own 62 8, .v 33 1 false, .v 4 1 false]], [.row 22 true, .row 64 true, .row 116 true, .row 101 true, .row 104 true, .row 108 true, .row 22 true, .row 22 true, .row 62 true]⟩, true, 1366, fun (y : Z2W) => (((y.q0.Address, (y.q0.Device, (y.q0.App, (y.q0.Keys, (y.q0.IV, (y.q0.Seq, (y.q0.Relay, (y.q0.Befriends, (y.q0.Friend.Low, (y.q0.Friend.Bit, (y.q0.Friend.Sent, (y.q0.Friend.Polled, (y.q0.Friend.Counter, (y.q0.Friend.Dropped, (y.q0.Low.Phase, (y.q0.Low.Friend, (y.q0.Low.Bit, (y.q0.Low.Counter, (y.q0.Low.Due, (y.q0.Low.Tries, (y.q0.Low.Told, (y.q0.Low.More, (y.q0.Low.Last, (y.q0.Stored, (y.q0.Up, ()))))))))))))))))))))))))), ()), (y.q0.Groups, (y.q0.Cache, (y.q0.Replays, (y.q0.Transport.Out, (y.q0.Transport.In, (y.q0.Friend.Queue, (y.q0.Friend.Subs, (y.q0.Low.Subs, (y.q0.Out, ())))))))))), fun x => Z7k x.1.1.1, ⟨⟨⟨⟨by decide, fun _ => ⟨_, rfl, rfl⟩⟩, trivial⟩, trivial⟩, trivial⟩⟩
def Zfu : Lay := ⟨[1, 2, 31, 32, 33], [[.keep], [.keep], [.own 101 10], [.keep], [.keep]], [.var [.keep, .keep, .keep, .keep, .keep, .keep, .keep, .keep, .keep, .keep, .keep, .keep, .keep, .keep, .keep, .keep, .keep, .keep, .keep, .keep, .own 22 1, .own 64 3, .own 116 3, .own 101 10, .s 104 11, .keep, .s 108 18, .s 22 1, .keep, .keep, .keep, .keep, .keep, .keep, .keep, .keep, .keep, .keep, .keep, .s 22 1, .keep, .keep, .keep, .s 62 3, .keep, .keep], .var k5, .row true, .row true, .row true, .row true, .row true, .row true, .row true, .row true, .row true, .row true, .row true, .row true, .row true], ⟨[.one (.ptr 0), .one (.ptr 1), .one (.own 101 2), .one (.v 3 1 false), .one (.v 3 1 false)], [.var 50 46 (.agg [.v 22 1 false, .v 24 1 false, .v 24 1 false, .v 32 11 true, .v 35 3 true, .v 33 1 false, .v 4 1 false, .v 4 1 false, .own 22 3, .own 64 4, .own 116 5, .own 101 2, .v 40 1 false, .v 45 8 true, .v 47 10 true, .v 48 1 false, .v 33 1 false, .v 4 1 false]), .var 50 46 (.agg [.v 22 1 false, .v 24 1 false, .v 24 1 false, .v 32 11 true, .v 35 3 true, .v 33 1 false, .v 4 1 false, .v 4 1 false, .own 22 6, .own 64 7, .own 116 8, .own 101 9, .own 104 10, .v 22 1 false, .own 108 11, .own 22 12, .v 3 1 false, .v 4 1 false, .v 3 1 false, .v 3 1 false, .v 3 1 false, .v 3 1 false, .v 22 1 false, .v 3 1 false, .v 3 1 false, .v 3 1 false, .v 3 1 false, .own 22 13, .v 3 1 false, .v 4 1 false, .v 3 1 false, .own 62 14, .v 33 1 false, .v 4 1 false]), .row 101 true, .row 22 true, .row 64 true, .row 116 true, .row 22 true, .row 64 true, .row 116 true, .row 101 true, .row 104 true, .row 108 true, .row 22 true, .row 22 true, .row 62 true]⟩⟩
def ZfV : Lay := ⟨[1, 2, 56, 57, 58], [[.keep], [.keep], [.own 104 11], [.keep], [.keep]], [.var k12, .var k5, .row true, .row true, .row true, .row true, .row true, .row true, .row true, .row true, .row true, .row true, .row true, .row true, .row true, .row true], ⟨[.one (.ptr 0), .one (.ptr 1), .one (.own 104 2), .one (.v 3 1 false), .one (.v 3 1 false)], [.var 50 46 (.agg [.v 22 1 false, .v 24 1 false, .v 24 1 false, .v 32 11 true, .v 35 3 true, .v 33 1 false, .v 4 1 false, .v 4 1 false, .own 22 3, .own 64 4, .own 116 5, .own 101 6, .own 104 2, .v 45 8 true, .v 47 10 true, .v 48 1 false, .v 33 1 false, .v 4 1 false]), .var 50 46 (.agg [.v 22 1 false, .v 24 1 false, .v 24 1 false, .v 32 11 true, .v 35 3 true, .v 33 1 false, .v 4 1 false, .v 4 1 false, .own 22 7, .own 64 8, .own 116 9, .own 101 10, .own 104 11, .v 22 1 false, .own 108 12, .own 22 13, .v 3 1 false, .v 4 1 false, .v 3 1 false, .v 3 1 false, .v 3 1 false, .v 3 1 false, .v 22 1 false, .v 3 1 false, .v 3 1 false, .v 3 1 false, .v 3 1 false, .own 22 14, .v 3 1 false, .v 4 1 false, .v 3 1 false, .own 62 15, .v 33 1 false, .v 4 1 false]), .row 104 true, .row 22 true, .row 64 true, .row 116 true, .row 101 true, .row 22 true, .row 64 true, .row 116 true, .row 101 true, .row 104 true, .row 108 true, .row 22 true, .row 22 true, .row 62 true]⟩⟩
def Zfo : Lay := ⟨[1, 2, 87, 88, 89], [[.keep], [.keep], [.own 108 18], [.keep], [.keep]], [.var [.keep, .keep, .keep, .keep, .keep, .keep, .keep, .keep, .keep, .keep, .keep, .keep, .keep, .keep, .keep, .keep, .keep, .keep, .keep, .keep, .own 22 1, .own 64 3, .own 116 3, .own 101 10, .own 104 11, .keep, .own 108 18, .own 22 1, .keep, .keep, .keep, .keep, .keep, .keep, .keep, .keep, .keep, .keep, .keep, .s 22 1, .keep, .keep, .keep, .s 62 3, .keep, .keep], .var k5, .row true, .row true, .row true, .row true, .row true, .row true, .row true, .row true, .row true, .row true, .row true, .row true, .row true, .row true, .row true, .row true], ⟨[.one (.ptr 0), .one (.ptr 1), .one (.own 108 2), .one (.v 3 1 false), .one (.v 3 1 false)], [.var 50 46 (.agg [.v 22 1 false, .v 24 1 false, .v 24 1 false, .v 32 11 true, .v 35 3 true, .v 33 1 false, .v 4 1 false, .v 4 1 false, .own 22 3, .own 64 4, .own 116 5, .own 101 6, .own 104 7, .v 22 1 false, .own 108 2, .own 22 8, .v 3 1 false, .v 4 1 false, .v 3 1 false, .v 3 1 false, .v 3 1 false, .v 47 10 true, .v 48 1 false, .v 33 1 false, .v 4 1 false]), .var 50 46 (.agg [.v 22 1 false, .v 24 1 false, .v 24 1 false, .v 32 11 true, .v 35 3 true, .v 33 1 false, .v 4 1 false, .v 4 1 false, .own 22 9, .own 64 10, .own 116 11, .own 101 12, .own 104 13, .v 22 1 false, .own 108 14, .own 22 15, .v 3 1 false, .v 4 1 false, .v 3 1 false, .v 3 1 false, .v 3 1 false, .v 3 1 false, .v 22 1 false, .v 3 1 false, .v 3 1 false, .v 3 1 false, .v 3 1 false, .own 22 16, .v 3 1 false, .v 4 1 false, .v 3 1 false, .own 62 17, .v 33 1 false, .v 4 1 false]), .row 108 true, .row 22 true, .row 64 true, .row 116 true, .row 101 true, .row 104 true, .row 22 true, .row 22 true, .row 64 true, .row 116 true, .row 101 true, .row 104 true, .row 108 true, .row 22 true, .row 22 true, .row 62 true]⟩⟩
def ZfT : Lay := ⟨[1, 2, 113, 114, 115], [[.keep], [.keep], [.own 62 3], [.keep], [.keep]], [.var k5, .var k5, .row true, .row true, .row true, .row true, .row true, .row true, .row true, .row true, .row true, .row true, .row true, .row true, .row true, .row true, .row true, .row true, .row true, .row true], ⟨[.one (.ptr 0), .one (.ptr 1), .one (.own 62 2), .one (.v 3 1 false), .one (.v 3 1 false)], [.var 50 46 (.agg [.v 22 1 false, .v 24 1 false, .v 24 1 false, .v 32 11 true, .v 35 3 true, .v 33 1 false, .v 4 1 false, .v 4 1 false, .own 22 3, .own 64 4, .own 116 5, .own 101 6, .own 104 7, .v 22 1 false, .own 108 8, .own 22 9, .v 3 1 false, .v 4 1 false, .v 3 1 false, .v 3 1 false, .v 3 1 false, .v 3 1 false, .v 22 1 false, .v 3 1 false, .v 3 1 false, .v 3 1 false, .v 3 1 false, .own 22 10, .v 3 1 false, .v 4 1 false, .v 3 1 false, .own 62 2, .v 33 1 false, .v 4 1 false]), .var 50 46 (.agg [.v 22 1 false, .v 24 1 false, .v 24 1 false, .v 32 11 true, .v 35 3 true, .v 33 1 false, .v 4 1 false, .v 4 1 false, .own 22 11, .own 64 12, .own 116 13, .own 101 14, .own 104 15, .v 22 1 false, .own 108 16, .own 22 17, .v 3 1 false, .v 4 1 false, .v 3 1 false, .v 3 1 false, .v 3 1 false, .v 3 1 false, .v 22 1 false, .v 3 1 false, .v 3 1 false, .v 3 1 false, .v 3 1 false, .own 22 18, .v 3 1 false, .v 4 1 false, .v 3 1 false, .own 62 19, .v 33 1 false, .v 4 1 false]), .row 62 true, .row 22 true, .row 64 true, .row 116 true, .row 101 true, .row 104 true, .row 108 true, .row 22 true, .row 22 true, .row 22 true, .row 64 true, .row 116 true, .row 101 true, .row 104 true, .row 108 true, .row 22 true, .row 22 true, .row 62 true]⟩⟩
def ZrX : Nat → Option Lay
  | 6 => some Zfu
  | 12 => some ZfV
  | 19 => some Zfo
  | 26 => some ZfT
  | _ => none
noncomputable def Zqw : ZdV → Spot U
  | .b0 a0 => entH Tryz.f28 ZfJ (((a0, ()), ()), ())
  | .b1 a0 a1 a2 a3 a4 => spL Tryz.f28 [1, 1, 1, 1, 1, 0, 1, 0, 0, 0] Zfu (((), ((), ((), ((a1, ()), ((a2, ()), ()))))), ((a3.Address, (a3.Device, (a3.App, (a3.Keys, (a3.IV, (a3.Seq, (a3.Relay, (a3.Befriends, (a3.Transport.In, (a3.Friend, (a3.Low, (a3.Out, (a3.Stored, (a3.Up, ())))))))))))))), ((a4.Address, (a4.Device, (a4.App, (a4.Keys, (a4.IV, (a4.Seq, (a4.Relay, (a4.Befriends, (a4.Friend.Low, (a4.Friend.Bit, (a4.Friend.Sent, (a4.Friend.Polled, (a4.Friend.Counter, (a4.Friend.Dropped, (a4.Low.Phase, (a4.Low.Friend, (a4.Low.Bit, (a4.Low.Counter, (a4.Low.Due, (a4.Low.Tries, (a4.Low.Told, (a4.Low.More, (a4.Low.Last, (a4.Stored, (a4.Up, ()))))))))))))))))))))))))), (a0, (a3.Groups, (a3.Cache, (a3.Replays, (a4.Groups, (a4.Cache, (a4.Replays, (a4.Transport.Out, (a4.Transport.In, (a4.Friend.Queue, (a4.Friend.Subs, (a4.Low.Subs, (a4.Out, ()))))))))))))))))
  | .b2 a0 a1 a2 a3 a4 => spL Tryz.f28 [1, 1, 1, 1, 1, 1, 1, 0, 1, 0, 0, 0] ZfV (((), ((), ((), ((a1, ()), ((a2, ()), ()))))), ((a3.Address, (a3.Device, (a3.App, (a3.Keys, (a3.IV, (a3.Seq, (a3.Relay, (a3.Befriends, (a3.Friend, (a3.Low, (a3.Out, (a3.Stored, (a3.Up, ()))))))))))))), ((a4.Address, (a4.Device, (a4.App, (a4.Keys, (a4.IV, (a4.Seq, (a4.Relay, (a4.Befriends, (a4.Friend.Low, (a4.Friend.Bit, (a4.Friend.Sent, (a4.Friend.Polled, (a4.Friend.Counter, (a4.Friend.Dropped, (a4.Low.Phase, (a4.Low.Friend, (a4.Low.Bit, (a4.Low.Counter, (a4.Low.Due, (a4.Low.Tries, (a4.Low.Told, (a4.Low.More, (a4.Low.Last, (a4.Stored, (a4.Up, ()))))))))))))))))))))))))), (a0, (a3.Groups, (a3.Cache, (a3.Replays, (a3.Transport.Out, (a4.Groups, (a4.Cache, (a4.Replays, (a4.Transport.Out, (a4.Transport.In, (a4.Friend.Queue, (a4.Friend.Subs, (a4.Low.Subs, (a4.Out, ())))))))))))))))))
  | .b3 a0 a1 a2 a3 a4 => spL Tryz.f28 [1, 1, 1, 1, 1, 1, 1, 1, 1, 1, 0, 1, 0, 0, 0] Zfo (((), ((), ((), ((a1, ()), ((a2, ()), ()))))), ((a3.Address, (a3.Device, (a3.App, (a3.Keys, (a3.IV, (a3.Seq, (a3.Relay, (a3.Befriends, (a3.Friend.Low, (a3.Friend.Bit, (a3.Friend.Sent, (a3.Friend.Polled, (a3.Friend.Counter, (a3.Friend.Dropped, (a3.Low, (a3.Out, (a3.Stored, (a3.Up, ())))))))))))))))))), ((a4.Address, (a4.Device, (a4.App, (a4.Keys, (a4.IV, (a4.Seq, (a4.Relay, (a4.Befriends, (a4.Friend.Low, (a4.Friend.Bit, (a4.Friend.Sent, (a4.Friend.Polled, (a4.Friend.Counter, (a4.Friend.Dropped, (a4.Low.Phase, (a4.Low.Friend, (a4.Low.Bit, (a4.Low.Counter, (a4.Low.Due, (a4.Low.Tries, (a4.Low.Told, (a4.Low.More, (a4.Low.Last, (a4.Stored, (a4.Up, ()))))))))))))))))))))))))), (a0, (a3.Groups, (a3.Cache, (a3.Replays, (a3.Transport.Out, (a3.Transport.In, (a3.Friend.Subs, (a4.Groups, (a4.Cache, (a4.Replays, (a4.Transport.Out, (a4.Transport.In, (a4.Friend.Queue, (a4.Friend.Subs, (a4.Low.Subs, (a4.Out, ())))))))))))))))))))
  | .b4 a0 a1 a2 a3 a4 => spL Tryz.f28 [1, 1, 1, 1, 1, 1, 1, 1, 1, 1, 1, 1, 1, 0, 1, 0, 0, 0] ZfT (((), ((), ((), ((a1, ()), ((a2, ()), ()))))), ((a3.Address, (a3.Device, (a3.App, (a3.Keys, (a3.IV, (a3.Seq, (a3.Relay, (a3.Befriends, (a3.Friend.Low, (a3.Friend.Bit, (a3.Friend.Sent, (a3.Friend.Polled, (a3.Friend.Counter, (a3.Friend.Dropped, (a3.Low.Phase, (a3.Low.Friend, (a3.Low.Bit, (a3.Low.Counter, (a3.Low.Due, (a3.Low.Tries, (a3.Low.Told, (a3.Low.More, (a3.Low.Last, (a3.Stored, (a3.Up, ()))))))))))))))))))))))))), ((a4.Address, (a4.Device, (a4.App, (a4.Keys, (a4.IV, (a4.Seq, (a4.Relay, (a4.Befriends, (a4.Friend.Low, (a4.Friend.Bit, (a4.Friend.Sent, (a4.Friend.Polled, (a4.Friend.Counter, (a4.Friend.Dropped, (a4.Low.Phase, (a4.Low.Friend, (a4.Low.Bit, (a4.Low.Counter, (a4.Low.Due, (a4.Low.Tries, (a4.Low.Told, (a4.Low.More, (a4.Low.Last, (a4.Stored, (a4.Up, ()))))))))))))))))))))))))), (a0, (a3.Groups, (a3.Cache, (a3.Replays, (a3.Transport.Out, (a3.Transport.In, (a3.Friend.Queue, (a3.Friend.Subs, (a3.Low.Subs, (a4.Groups, (a4.Cache, (a4.Replays, (a4.Transport.Out, (a4.Transport.In, (a4.Friend.Queue, (a4.Friend.Subs, (a4.Low.Subs, (a4.Out, ())))))))))))))))))))))
theorem ZoR : BlkH 28 Tryz.f28 (mc Zmf (mc ZaG msN)) (hc [] Z8Z (hc [] Z9O (hc [] Z8T (hc [] Z7m (hc [] Z7q (hc [] Z8X (hc [] Z9H (hc [] Z2x hsN)))))))) ZrX [k5] [.row true, .row true, .row true, .row true, .row true, .row true, .row true, .row true, .row true] 0 Zku Z0c Zqw
  | .b0 _ => by kernel_rfl
  | .b1 _ _ _ _ _ => by kernel_rfl
  | .b2 _ _ _ _ _ => by kernel_rfl
  | .b3 _ _ _ _ _ => by kernel_rfl
  | .b4 _ _ _ _ _ => by kernel_rfl
theorem ZbX : HFnOK Tryz.prog B0 28 Zku := okH ZoR (fun x => .b0 x.1.1.1) (fun x => by kernel_rfl) (by kernel_rfl) Tryz.func28 (by kernel_rfl) (by kernel_rfl) (fun x => by kernel_rfl) (fun x => by kernel_rfl)
end Go.Proofs.YtefmbgacbhifdaaGreat
namespace Go.Proofs.YtefmbgacbhifdaaGreat
open Go Go.Proofs.YtefmbgacbhifdaaGreat.Le
set_option maxRecDepth 100000
inductive Zeq where
  | b0 (a0 : Z8) (a1 a2 : Int) (a3 : Bool) (a4 : Int) (a5 : List Int) (a6 : Int)
noncomputable def Zeb : Zeq → Tr U (Z5k ⊕ Zeq)
  | .b0 a0 a1 a2 a3 a4 a5 a6 => .bind 1366 (Z7k a0) (fun (y1 : Z2W) => .chk ((y1.q0.Groups.length == y1.q0.Groups.length) && ((y1.q0.Cache.length == y1.q0.Cache.length) && ((y1.q0.Replays.length == y1.q0.Replays.length) && ((y1.q0.Transport.Out.length == y1.q0.Transport.Out.length) && ((y1.q0.Transport.In.length == y1.q0.Transport.In.length) && ((y1.q0.Friend.Queue.length == y1.q0.Friend.Queue.length) && ((y1.q0.Friend.Subs.length == y1.q0.Friend.Subs.length) && ((y1.q0.Low.Subs.length == y1.q0.Low.Subs.length) && ((y1.q0.Out.length == y1.q0.Out.length) && (([] : List Zi).length == 0)))))))))) ( .bind 1375 (Z7R (⟨y1.q0, a1⟩ : Zg) a2 a3 a4 a5 a6 ([] : List Zi)) (fun (y2 : Z2o) => .chk ((y2.q0.Node.Groups.length == y2.q0.Node.Groups.length) && ((y2.q0.Node.Cache.length == y2.q0.Node.Cache.length) && ((y2.q0.Node.Replays.length == y2.q0.Node.Replays.length) && ((y2.q0.Node.Friend.Queue.length == y2.q0.Node.Friend.Queue.length) && ((y2.q0.Node.Friend.Subs.length == y2.q0.Node.Friend.Subs.length) && ((y2.q0.Node.Low.Subs.length == y2.q0.Node.Low.Subs.length) && ((y2.q0.Node.Out.length == y2.q0.Node.Out.length) && ((y2.q6.length == y2.q6.length) && ((y2.q0.Node.Friend.Queue.length == y2.q0.Node.Friend.Queue.length) && (y2.q0.Node.Friend.Subs.length == y2.q0.Node.Friend.Subs.length)))))))))) ( .leaf (.inl (⟨y2.q0.Node, y2.q6, y2.q1, y2.q2, y2.q3, y2.q4, y2.q5⟩ : Z5k))))))
noncomputable def Zf7 (a0 : Z8) (a1 a2 : Int) (a3 : Bool) (a4 : Int) (a5 : List Int) (a6 : Int) : Option Z5k := flow Zeb (.b0 a0 a1 a2 a3 a4 a5 a6)
def Zfx : Shape := ⟨[.agg [.v 50 46 true], .one (.v 3 1 false), .one (.fn 26 [] [0, 1, 2, 3, 4])], [.var 22 1 (.one (.v 22 1 false)), .var 4 1 (.one (.v 4 1 false)), .var 3 1 (.one (.v 3 1 false)), .var 27 1 (.one (.v 27 1 false)), .var 51 1 (.one (.v 51 1 false))]⟩
noncomputable def Zkc : HMod U := ⟨[k0, [.keep], [.keep]], [.var [.keep], .var [.keep], .var [.keep], .var [.s 5 1], .var [.keep]], Zfx, ⟨[.agg [.v 22 1 false, .v 24 1 false, .v 24 1 false, .v 32 11 true, .v 35 3 true, .v 33 1 false, .v 4 1 false, .v 4 1 false, .own 22 5, .own 64 6, .own 116 7, .v 42 2 true, .v 22 1 false, .own 108 8, .own 22 9, .v 3 1 false, .v 4 1 false, .v 3 1 false, .v 3 1 false, .v 3 1 false, .v 3 1 false, .v 22 1 false, .v 3 1 false, .v 3 1 false, .v 3 1 false, .v 3 1 false, .own 22 10, .v 3 1 false, .v 4 1 false, .v 3 1 false, .own 62 11, .v 33 1 false, .v 4 1 false], .one (.own 68 12)], [.var 22 1 (.one (.v 22 1 false)), .var 4 1 (.one (.v 4 1 false)), .var 3 1 (.one (.v 3 1 false)), .var 27 1 (.one (.v 27 1 false)), .var 51 1 (.one (.v 51 1 false)), .row 22 true, .row 64 true, .row 116 true, .row 108 false, .row 22 false, .row 22 true, .row 62 true, .row 68 true]⟩, false, 1365, fun (y : Z5k) => (((y.q0.Address, (y.q0.Device, (y.q0.App, (y.q0.Keys, (y.q0.IV, (y.q0.Seq, (y.q0.Relay, (y.q0.Befriends, (y.q0.Transport, (y.q0.Friend.Low, (y.q0.Friend.Bit, (y.q0.Friend.Sent, (y.q0.Friend.Polled, (y.q0.Friend.Counter, (y.q0.Friend.Dropped, (y.q0.Low.Phase, (y.q0.Low.Friend, (y.q0.Low.Bit, (y.q0.Low.Counter, (y.q0.Low.Due, (y.q0.Low.Tries, (y.q0.Low.Told, (y.q0.Low.More, (y.q0.Low.Last, (y.q0.Stored, (y.q0.Up, ())))))))))))))))))))))))))), ((), ())), ((y.q2, ()), ((y.q3, ()), ((y.q4, ()), ((y.q5, ()), ((y.q6, ()), (y.q0.Groups, (y.q0.Cache, (y.q0.Replays, (y.q0.Friend.Queue, (y.q0.Friend.Subs, (y.q0.Low.Subs, (y.q0.Out, (y.q1, ())))))))))))))), fun x => Zf7 x.1.1.1 x.1.2.1.1 x.2.1.1 x.2.2.1.1 x.2.2.2.1.1 x.2.2.2.2.1.1 x.2.2.2.2.2.1.1, ⟨⟨⟨⟨by decide, fun _ => ⟨_, rfl, rfl⟩⟩, trivial⟩, ⟨⟨by decide, fun _ => rfl⟩, ⟨trivial, trivial⟩⟩⟩, ⟨⟨by decide, fun _ => rfl⟩, ⟨⟨by decide, fun _ => rfl⟩, ⟨⟨by decide, fun _ => rfl⟩, ⟨⟨by decide, fun _ => rfl⟩, ⟨⟨by decide, fun _ => rfl⟩, trivial⟩⟩⟩⟩⟩⟩⟩
noncomputable def ZqC : Zeq → Spot U
  | .b0 a0 a1 a2 a3 a4 a5 a6 => entH Tryz.f25 Zfx (((a0, ()), ((a1, ()), ((), ()))), ((a2, ()), ((a3, ()), ((a4, ()), ((a5, ()), ((a6, ()), ()))))))
theorem ZoS : BlkH 25 Tryz.f25 msN (hc [] Zjc (hc [] ZbX hsN)) AN [[.keep, .keep, .keep, .keep, .keep, .keep, .keep, .keep, .keep, .keep, .keep, .keep, .keep, .keep, .keep, .keep, .keep, .keep, .keep, .keep, .own 22 1, .own 64 3, .own 116 3, .s 101 10, .s 104 11, .keep, .own 108 18, .own 22 1, .keep, .keep, .keep, .keep, .keep, .keep, .keep, .keep, .keep, .keep, .keep, .own 22 1, .keep, .keep, .keep, .own 62 3, .keep, .keep], [.own 68 11]] [.var [.keep], .var [.keep], .var [.keep], .var [.s 5 1], .var [.keep], .row true, .row true, .row true, .row false, .row false, .row true, .row true, .row true] 5 Zkc Zeb ZqC
  | .b0 _ _ _ _ _ _ _ => by kernel_rfl
theorem ZqF : HFnOK Tryz.prog B0 25 Zkc := okH ZoS (fun x => .b0 x.1.1.1 x.1.2.1.1 x.2.1.1 x.2.2.1.1 x.2.2.2.1.1 x.2.2.2.2.1.1 x.2.2.2.2.2.1.1) (fun x => by kernel_rfl) (by kernel_rfl) Tryz.func25 (by kernel_rfl) (by kernel_rfl) (fun x => by kernel_rfl) (fun x => by kernel_rfl)
inductive ZbI where
  | b0 (a0 : Z8) (a1 : Int) (a2 : Bool) (a3 : Int) (a4 : List Int) (a5 : Int)
noncomputable def Zbu : ZbI → Tr U ((Z8 × Int) ⊕ ZbI)
  | .b0 a0 a1 a2 a3 a4 a5 => .bind 1365 (Zf7 a0 a5 a1 a2 a3 a4 (0 : Int)) (fun (y1 : Z5k) => .br (y1.q6 != (0 : Int)) ( .bind 1366 (Z7k a0) (fun (y2 : Z2W) => .chk (y2.q0.Groups.length == y2.q0.Groups.length) ( .chk (y2.q0.Cache.length == y2.q0.Cache.length) ( .chk (y2.q0.Replays.length == y2.q0.Replays.length) ( .chk (y2.q0.Transport.Out.length == y2.q0.Transport.Out.length) ( .chk (y2.q0.Transport.In.length == y2.q0.Transport.In.length) ( .chk (y2.q0.Friend.Queue.length == y2.q0.Friend.Queue.length) ( .chk (y2.q0.Friend.Subs.length == y2.q0.Friend.Subs.length) ( .chk (y2.q0.Low.Subs.length == y2.q0.Low.Subs.length) ( .chk (y2.q0.Out.length == y2.q0.Out.length) ( .leaf (.inl (y2.q0, y1.q6))))))))))))) ( .chk (y1.q0.Groups.length == y1.q0.Groups.length) ( .chk (y1.q0.Cache.length == y1.q0.Cache.length) ( .chk (y1.q0.Replays.length == y1.q0.Replays.length) ( .chk (y1.q0.Friend.Queue.length == y1.q0.Friend.Queue.length) ( .chk (y1.q0.Friend.Subs.length == y1.q0.Friend.Subs.length) ( .chk (y1.q0.Low.Subs.length == y1.q0.Low.Subs.length) ( .chk (y1.q0.Out.length == y1.q0.Out.length) ( .leaf (.inl (y1.q0, (0 : Int))))))))))))
noncomputable def Z5O (a0 : Z8) (a1 : Int) (a2 : Bool) (a3 : Int) (a4 : List Int) (a5 : Int) : Option (Z8 × Int) := flow Zbu (.b0 a0 a1 a2 a3 a4 a5)
noncomputable def ZpX : Mod U := ⟨[50, 22, 4, 3, 27, 3], 52, fun x => Z5O x.1 x.2.1 x.2.2.1 x.2.2.2.1 x.2.2.2.2.1 x.2.2.2.2.2.1, by decide⟩
noncomputable def Zor : ZbI → Spot U
  | .b0 a0 a1 a2 a3 a4 a5 => entP Tryz.f10 [50, 22, 4, 3, 27, 3] (a0, a1, a2, a3, a4, a5, ())
theorem ZlG : BlkP 10 Tryz.f10 msN (hc [26] ZqF (hc [] ZbX hsN)) AN 52 Zbu Zor
  | .b0 _ _ _ _ _ _ => by kernel_rfl
theorem Zg0 : FnOK Tryz.prog B0 10 ZpX := okP ZlG (fun x => .b0 x.1 x.2.1 x.2.2.1 x.2.2.2.1 x.2.2.2.2.1 x.2.2.2.2.2.1) (by kernel_rfl) Tryz.func10 (by kernel_rfl) (by kernel_rfl) (fun _ => rfl) (fun _ => rfl)
inductive Z96 where
  | b0 (a0 : Z8) (a1 : Int)
noncomputable def Z9P : Z96 → Tr U (Z8 ⊕ Z96)
  | .b0 a0 a1 => .bind 1366 (Z7k ({ a0 with Seq := a0.Stored, Cache := ([] : List Za), Transport := (⟨([] : List Z6), ([] : List Z9)⟩ : Z7), Friend := (⟨(0 : Int), ([] : List Ze), ([] : List Int), (0 : Int), false, (0 : Int), (0 : Int), (0 : Int)⟩ : Zk), Low := (⟨(0 : Int), (0 : Int), (0 : Int), (0 : Int), (0 : Int), (0 : Int), ([] : List Int), (0 : Int), false, (0 : Int)⟩ : Zm), Out := ([] : List Zb), Up := true } : Z8)) (fun (y1 : Z2W) => .chk (y1.q0.Groups.length == y1.q0.Groups.length) ( .chk (y1.q0.Cache.length == y1.q0.Cache.length) ( .chk (y1.q0.Replays.length == y1.q0.Replays.length) ( .chk (y1.q0.Transport.Out.length == y1.q0.Transport.Out.length) ( .chk (y1.q0.Transport.In.length == y1.q0.Transport.In.length) ( .chk (y1.q0.Friend.Queue.length == y1.q0.Friend.Queue.length) ( .chk (y1.q0.Friend.Subs.length == y1.q0.Friend.Subs.length) ( .chk (y1.q0.Low.Subs.length == y1.q0.Low.Subs.length) ( .chk (y1.q0.Out.length == y1.q0.Out.length) ( .leaf (.inl y1.q0)))))))))))
noncomputable def Z6q (a0 : Z8) (a1 : Int) : Option Z8 := flow Z9P (.b0 a0 a1)
noncomputable def Zni : Mod U := ⟨[50, 3], 50, fun x => Z6q x.1 x.2.1, by decide⟩
noncomputable def ZlT : Z96 → Spot U
  | .b0 a0 a1 => entP Tryz.f21 [50, 3] (a0, a1, ())
theorem Zjt : BlkP 21 Tryz.f21 msN (hc [] ZbX hsN) AN 50 Z9P ZlT
  | .b0 _ _ => by kernel_rfl
theorem ZkZ : FnOK Tryz.prog B0 21 Zni := okP Zjt (fun x => .b0 x.1 x.2.1) (by kernel_rfl) Tryz.func21 (by kernel_rfl) (by kernel_rfl) (fun _ => rfl) (fun _ => rfl)
inductive Z83 where
  | b0 (a0 : Z9)
noncomputable def ZdG : Z83 → Tr U (Bool ⊕ Z83)
  | .b0 a0 => .leaf (.inl (a0.Due != (0 : Int)))
noncomputable def ZcX (a0 : Z9) : Option Bool := flow ZdG (.b0 a0)
noncomputable def ZkP : Mod U := ⟨[104], 4, fun x => ZcX x.1, by decide⟩
noncomputable def ZiO : Z83 → Spot U
  | .b0 a0 => entP Tryz.f58 [104] (a0, ())
theorem ZgU : BlkP 58 Tryz.f58 msN hsN AN 4 ZdG ZiO
  | .b0 _ => by kernel_rfl
theorem ZiU : FnOK Tryz.prog B0 58 ZkP := okP ZgU (fun x => .b0 x.1) (by kernel_rfl) Tryz.func58 (by kernel_rfl) (by kernel_rfl) (fun _ => rfl) (fun _ => rfl)
inductive Z0T where
  | b0 (a0 : List Z9)
  | b1 (a0 : List Z9) (a1 a2 : Int)
noncomputable def Z0R : Z0T → Tr U (Zz ⊕ Z0T)
  | .b0 a0 => .leaf (.inr (.b1 a0 (↑a0.length : Int) (0 : Int)))
  | .b1 a0 a1 a2 => .br (decide (a2 < a1)) ( .chk (decide (0 ≤ a2 ∧ a2 < (↑a0.length : Int))) ( .bind 104 (a0[(Int.toNat a2)]?) (fun (x1 : Z9) => .bind 4 (ZcX x1) (fun (x2 : Bool) => .br x2 ( .leaf (.inl (⟨a2⟩ : Zz))) ( .leaf (.inr (.b1 a0 a1 (w64 (a2 + (1 : Int)))))))))) ( .leaf (.inl (⟨(-1 : Int)⟩ : Zz)))
noncomputable def Z0P (a0 : List Z9) : Option Zz := flow Z0R (.b0 a0)
def Z1T : Shape := ⟨[.one (.v 40 1 false), .one (.fn 58 [] [])], []⟩
noncomputable def Z29 : HMod U := ⟨[[.s 104 11], [.keep]], [], Z1T, ⟨[.one (.v 3 1 false)], []⟩, true, 1387, fun (y : Zz) => (((y.q0, ()), ()), ()), fun x => Z0P x.1.1.1, ⟨⟨⟨by decide, fun _ => rfl⟩, ⟨trivial, trivial⟩⟩, trivial⟩⟩
def Z1V : Lay := ⟨[0, 1, 7, 8], [[.s 104 11], [.keep], [.keep], [.keep]], [], ⟨[.one (.v 40 1 false), .one (.fn 58 [] []), .one (.v 3 1 false), .one (.v 3 1 false)], []⟩⟩
def Z62 : Nat → Option Lay
  | 2 => some Z1V
  | _ => none
noncomputable def Z56 : Z0T → Spot U
  | .b0 a0 => entH Tryz.f140 Z1T (((a0, ()), ((), ())), ())
  | .b1 a0 a1 a2 => spL Tryz.f140 [1, 0, 1, 0, 0, 0] Z1V (((a0, ()), ((), ((a1, ()), ((a2, ()), ())))), ())
theorem Z4T : BlkH 140 Tryz.f140 (mc ZiU msN) hsN Z62 [[.keep]] [] 0 Z29 Z0R Z56
  | .b0 _ => by kernel_rfl
  | .b1 _ _ _ => by kernel_rfl
theorem Z5e : HFnOK Tryz.prog B0 140 Z29 := okH Z4T (fun x => .b0 x.1.1.1) (fun x => by kernel_rfl) (by kernel_rfl) Tryz.func140 (by kernel_rfl) (by kernel_rfl) (fun x => by kernel_rfl) (fun x => by kernel_rfl)
inductive Z0x where
  | b0 (a0 : List Z9)
noncomputable def Z0B : Z0x → Tr U (ZB ⊕ Z0x)
  | .b0 a0 => .bind 1387 (Z0P a0) (fun (y1 : Zz) => .leaf (.inl (⟨(decide (y1.q0 ≥ (0 : Int)))⟩ : ZB)))
noncomputable def Z0y (a0 : List Z9) : Option ZB := flow Z0B (.b0 a0)
def Z1j : Shape := ⟨[.one (.v 40 1 false), .one (.fn 58 [] [])], []⟩
noncomputable def Z1F : HMod U := ⟨[[.s 104 11], [.keep]], [], Z1j, ⟨[.one (.v 4 1 false)], []⟩, true, 1386, fun (y : ZB) => (((y.q0, ()), ()), ()), fun x => Z0y x.1.1.1, ⟨⟨⟨by decide, fun _ => rfl⟩, ⟨trivial, trivial⟩⟩, trivial⟩⟩
noncomputable def Z43 : Z0x → Spot U
  | .b0 a0 => entH Tryz.f59 Z1j (((a0, ()), ((), ())), ())
theorem Z3z : BlkH 59 Tryz.f59 msN (hc [58] Z5e hsN) AN [[.keep]] [] 0 Z1F Z0B Z43
  | .b0 _ => by kernel_rfl
theorem Z47 : HFnOK Tryz.prog B0 59 Z1F := okH Z3z (fun x => .b0 x.1.1.1) (fun x => by kernel_rfl) (by kernel_rfl) Tryz.func59 (by kernel_rfl) (by kernel_rfl) (fun x => by kernel_rfl) (fun x => by kernel_rfl)
inductive ZbD where
  | b0 (a0 : Z8)
noncomputable def Z7O : ZbD → Tr U (Bool ⊕ ZbD)
  | .b0 a0 => .br ((↑a0.Out.length : Int) == (0 : Int)) ( .br ((↑a0.Transport.Out.length : Int) == (0 : Int)) ( .bind 1386 (Z0y a0.Transport.In) (fun (y1 : ZB) => .br (!y1.q0) ( .leaf (.inl (a0.Low.Phase == (0 : Int)))) ( .leaf (.inl false)))) ( .leaf (.inl false))) ( .leaf (.inl false))
noncomputable def Z2Q (a0 : Z8) : Option Bool := flow Z7O (.b0 a0)
noncomputable def Zp6 : Mod U := ⟨[50], 4, fun x => Z2Q x.1, by decide⟩
noncomputable def ZmO : ZbD → Spot U
  | .b0 a0 => entP Tryz.f22 [50] (a0, ())
theorem Zmd : BlkP 22 Tryz.f22 msN (hc [58] Z47 hsN) AN 4 Z7O ZmO
  | .b0 _ => by kernel_rfl
theorem Zms : FnOK Tryz.prog B0 22 Zp6 := okP Zmd (fun x => .b0 x.1) (by kernel_rfl) Tryz.func22 (by kernel_rfl) (by kernel_rfl) (fun _ => rfl) (fun _ => rfl)
inductive Z8d where
  | b0
noncomputable def Z7S : Z8d → Tr U (Bool ⊕ Z8d)
  | .b0  => .bind 52 (Z3E (0 : Int) (1 : Int) (2 : Int) (3 : Int) true true) (fun (x1 : Z8 × Int) => .bind 52 (Z3E (5 : Int) (1 : Int) (2 : Int) (3 : Int) true true) (fun (x2 : Z8 × Int) => .chk (([(1 : Int)]).length == 1) ( .bind 52 (Z5O x2.1 (9 : Int) true (7 : Int) ([(1 : Int)]) (0 : Int)) (fun (x3 : Z8 × Int) => .bind 50 (Z6q x3.1 (0 : Int)) (fun (x4 : Z8) => .br (x1.2 == (1 : Int)) ( .br (x2.2 == (0 : Int)) ( .br (x3.2 == (0 : Int)) ( .br ((↑x3.1.Out.length : Int) == (1 : Int)) ( .chk (decide (0 ≤ (0 : Int) ∧ (0 : Int) < (↑x3.1.Out.length : Int))) ( .bind 62 (x3.1.Out[(Int.toNat (0 : Int))]?) (fun (x5 : Zb) => .br ((↑x5.Bytes.length : Int) == (19 : Int)) ( .br (x3.1.Seq == (1 : Int)) ( .br (x3.1.Stored == (100 : Int)) ( .br (x4.Seq == (100 : Int)) ( .br ((↑x4.Out.length : Int) == (0 : Int)) ( .bind 4 (Z2Q x4) (fun (x6 : Bool) => .br x6 ( .bind 4 (Z2Q x3.1) (fun (x7 : Bool) => .leaf (.inl (!x7)))) ( .leaf (.inl false)))) ( .leaf (.inl false))) ( .leaf (.inl false))) ( .leaf (.inl false))) ( .leaf (.inl false))) ( .leaf (.inl false))))) ( .leaf (.inl false))) ( .leaf (.inl false))) ( .leaf (.inl false))) ( .leaf (.inl false)))))))
noncomputable def Z8g  : Option Bool := flow Z7S (.b0)
noncomputable def Zlk : Mod U := ⟨[], 4, fun x => Z8g, by decide⟩
noncomputable def Zj6 : Z8d → Spot U
  | .b0  => entP Tryz.f8 [] ()
theorem ZhF : BlkP 8 Tryz.f8 (mc ZhM (mc Zg0 (mc ZkZ (mc Zms msN)))) hsN AN 4 Z7S Zj6
  | .b0  => by kernel_rfl
theorem ZiQ : FnOK Tryz.prog B0 8 Zlk := okP ZhF (fun x => .b0 ) (by kernel_rfl) Tryz.func8 (by kernel_rfl) (by kernel_rfl) (fun _ => rfl) (fun _ => rfl)
inductive Zc1 where
  | b0 (a0 : List (List Int))
  | b1 (a0 a1 : List (List Int)) (a2 : Int)
noncomputable def Z40 : Zc1 → Tr U ((List (List Int)) ⊕ Zc1)
  | .b0 a0 => .chk (([] : List (List Int)).length == 0) ( .leaf (.inr (.b1 a0 ([] : List (List Int)) (0 : Int))))
  | .b1 a0 a1 a2 => .br (decide (a2 < (↑a0.length : Int))) ( .chk (decide (0 ≤ a2 ∧ a2 < (↑a0.length : Int))) ( .bind 27 (a0[(Int.toNat a2)]?) (fun (x1 : List Int) => .chk (([] : List Int).length == 0) ( .chk (decide ((0 + x1.length) * 1 ≤ lim) && decide (0 + x1.length ≤ maxLen)) ( .chk ((([] : List Int) ++ x1).length == (([] : List Int) ++ x1).length) ( .chk (([(([] : List Int) ++ x1)]).length == 1) ( .chk (a1.length == a1.length) ( .chk (decide ((a1.length + ([(([] : List Int) ++ x1)]).length) * 24 ≤ lim) && decide (a1.length + ([(([] : List Int) ++ x1)]).length ≤ maxLen)) ( .chk ((a1 ++ [(([] : List Int) ++ x1)]).length == (a1 ++ [(([] : List Int) ++ x1)]).length) ( .leaf (.inr (.b1 a0 (a1 ++ [(([] : List Int) ++ x1)]) (w64 (a2 + (1 : Int))))))))))))))) ( .chk (a1.length == a1.length) ( .leaf (.inl a1)))
noncomputable def Z8s (a0 : List (List Int)) : Option (List (List Int)) := flow Z40 (.b0 a0)
noncomputable def Zpg : Mod U := ⟨[73], 73, fun x => Z8s x.1, by decide⟩
def ZcB : Lay := ⟨[0, 3, 4], [[.s 27 1], [.own 27 1], [.keep]], [.row true], ⟨[.one (.v 73 1 false), .one (.own 27 0), .one (.v 3 1 false)], [.row 27 true]⟩⟩
def Zq1 : Nat → Option Lay
  | 3 => some ZcB
  | _ => none
noncomputable def ZnY : Zc1 → Spot U
  | .b0 a0 => entP Tryz.f29 [73] (a0, ())
  | .b1 a0 a1 a2 => spL Tryz.f29 [1, 1, 0, 1, 0, 0, 0, 0] ZcB (((a0, ()), ((), ((a2, ()), ()))), (a1, ()))
theorem Zlr : BlkP 29 Tryz.f29 msN hsN Zq1 73 Z40 ZnY
  | .b0 _ => by kernel_rfl
  | .b1 _ _ _ => by kernel_rfl
theorem ZnX : FnOK Tryz.prog B0 29 Zpg := okP Zlr (fun x => .b0 x.1) (by kernel_rfl) Tryz.func29 (by kernel_rfl) (by kernel_rfl) (fun _ => rfl) (fun _ => rfl)
inductive ZeF where
  | b0 (a0 : Z8)
  | b1 (a0 : List Z6) (a1 : Int) (a2 a3 : Z8)
  | b2 (a0 : List Z6) (a1 : List Z9) (a2 : Int) (a3 a4 : Z8)
  | b3 (a0 : List Ze) (a1 : Int) (a2 a3 : Z8)
  | b4 (a0 : List Zb) (a1 : Int) (a2 a3 : Z8)
noncomputable def ZL : ZeF → Tr U (Z8 ⊕ ZeF)
  | .b0 a0 => .chk (([] : List Int).length == 0) ( .chk (decide ((0 + a0.Groups.length) * 2 ≤ lim) && decide (0 + a0.Groups.length ≤ maxLen)) ( .chk (([] : List Za).length == 0) ( .chk (decide ((0 + a0.Cache.length) * 12 ≤ lim) && decide (0 + a0.Cache.length ≤ maxLen)) ( .chk (([] : List Za).length == 0) ( .chk (decide ((0 + a0.Replays.length) * 12 ≤ lim) && decide (0 + a0.Replays.length ≤ maxLen)) ( .chk ((([] : List Z6).length == 0) && (((([] : List Int) ++ a0.Groups).length == (([] : List Int) ++ a0.Groups).length) && (((([] : List Za) ++ a0.Cache).length == (([] : List Za) ++ a0.Cache).length) && ((([] : List Za) ++ a0.Replays).length == (([] : List Za) ++ a0.Replays).length)))) ( .leaf (.inr (.b1 ([] : List Z6) (0 : Int) ({ a0 with Groups := (([] : List Int) ++ a0.Groups), Cache := (([] : List Za) ++ a0.Cache), Replays := (([] : List Za) ++ a0.Replays) } : Z8) (⟨(0 : Int), (0 : Int), (0 : Int), Z0L, Z0a, (0 : Int), false, false, ([] : List Int), ([] : List Za), ([] : List Za), (⟨([] : List Z6), ([] : List Z9)⟩ : Z7), (⟨(0 : Int), ([] : List Ze), ([] : List Int), (0 : Int), false, (0 : Int), (0 : Int), (0 : Int)⟩ : Zk), (⟨(0 : Int), (0 : Int), (0 : Int), (0 : Int), (0 : Int), (0 : Int), ([] : List Int), (0 : Int), false, (0 : Int)⟩ : Zm), ([] : List Zb), (0 : Int), false⟩ : Z8))))))))))
  | .b1 a0 a1 a2 a3 => .br (decide (a1 < (↑a2.Transport.Out.length : Int))) ( .chk (decide (0 ≤ a1 ∧ a1 < (↑a2.Transport.Out.length : Int))) ( .bind 101 (a2.Transport.Out[(Int.toNat a1)]?) (fun (x1 : Z6) => .bind 73 (Z8s x1.Parts) (fun (x2 : List (List Int)) => .chk (([({ x1 with Parts := x2 } : Z6)]).length == 1) ( .chk (a0.length == a0.length) ( .chk (decide ((a0.length + ([({ x1 with Parts := x2 } : Z6)]).length) * 72 ≤ lim) && decide (a0.length + ([({ x1 with Parts := x2 } : Z6)]).length ≤ maxLen)) ( .chk (((a0 ++ [({ x1 with Parts := x2 } : Z6)]).length == (a0 ++ [({ x1 with Parts := x2 } : Z6)]).length) && ((a2.Groups.length == a2.Groups.length) && ((a2.Cache.length == a2.Cache.length) && (a2.Replays.length == a2.Replays.length)))) ( .leaf (.inr (.b1 (a0 ++ [({ x1 with Parts := x2 } : Z6)]) (w64 (a1 + (1 : Int))) a2 a3)))))))))) ( .chk ((a0.length == a0.length) && ((([] : List Z9).length == 0) && ((a2.Groups.length == a2.Groups.length) && ((a2.Cache.length == a2.Cache.length) && (a2.Replays.length == a2.Replays.length))))) ( .leaf (.inr (.b2 a0 ([] : List Z9) (0 : Int) a2 a3))))
  | .b2 a0 a1 a2 a3 a4 => .br (decide (a2 < (↑a3.Transport.In.length : Int))) ( .chk (decide (0 ≤ a2 ∧ a2 < (↑a3.Transport.In.length : Int))) ( .bind 104 (a3.Transport.In[(Int.toNat a2)]?) (fun (x1 : Z9) => .bind 73 (Z8s x1.Parts) (fun (x2 : List (List Int)) => .chk (([({ x1 with Parts := x2 } : Z9)]).length == 1) ( .chk (a1.length == a1.length) ( .chk (decide ((a1.length + ([({ x1 with Parts := x2 } : Z9)]).length) * 80 ≤ lim) && decide (a1.length + ([({ x1 with Parts := x2 } : Z9)]).length ≤ maxLen)) ( .chk ((a0.length == a0.length) && (((a1 ++ [({ x1 with Parts := x2 } : Z9)]).length == (a1 ++ [({ x1 with Parts := x2 } : Z9)]).length) && ((a3.Groups.length == a3.Groups.length) && ((a3.Cache.length == a3.Cache.length) && (a3.Replays.length == a3.Replays.length))))) ( .leaf (.inr (.b2 a0 (a1 ++ [({ x1 with Parts := x2 } : Z9)]) (w64 (a2 + (1 : Int))) a3 a4)))))))))) ( .chk ((([] : List Ze).length == 0) && ((a3.Groups.length == a3.Groups.length) && ((a3.Cache.length == a3.Cache.length) && ((a3.Replays.length == a3.Replays.length) && ((a0.length == a0.length) && (a1.length == a1.length)))))) ( .leaf (.inr (.b3 ([] : List Ze) (0 : Int) ({ a3 with Transport := (⟨a0, a1⟩ : Z7) } : Z8) a4))))
  | .b3 a0 a1 a2 a3 => .br (decide (a1 < (↑a2.Friend.Queue.length : Int))) ( .chk (decide (0 ≤ a1 ∧ a1 < (↑a2.Friend.Queue.length : Int))) ( .bind 108 (a2.Friend.Queue[(Int.toNat a1)]?) (fun (x1 : Ze) => .chk (([] : List Int).length == 0) ( .chk (decide ((0 + x1.PDU.Payload.length) * 1 ≤ lim) && decide (0 + x1.PDU.Payload.length ≤ maxLen)) ( .chk (([] : List Int).length == 0) ( .chk (decide ((0 + x1.Lower.Bytes.length) * 1 ≤ lim) && decide (0 + x1.Lower.Bytes.length ≤ maxLen)) ( .chk ((([] : List Int) ++ x1.PDU.Payload).length == (([] : List Int) ++ x1.PDU.Payload).length) ( .chk ((([] : List Int) ++ x1.Lower.Bytes).length == (([] : List Int) ++ x1.Lower.Bytes).length) ( .chk (([(⟨({ x1.PDU with Payload := (([] : List Int) ++ x1.PDU.Payload) } : Zc), ({ x1.Lower with Bytes := (([] : List Int) ++ x1.Lower.Bytes) } : Z5)⟩ : Ze)]).length == 1) ( .chk (a0.length == a0.length) ( .chk (decide ((a0.length + ([(⟨({ x1.PDU with Payload := (([] : List Int) ++ x1.PDU.Payload) } : Zc), ({ x1.Lower with Bytes := (([] : List Int) ++ x1.Lower.Bytes) } : Z5)⟩ : Ze)]).length) * 136 ≤ lim) && decide (a0.length + ([(⟨({ x1.PDU with Payload := (([] : List Int) ++ x1.PDU.Payload) } : Zc), ({ x1.Lower with Bytes := (([] : List Int) ++ x1.Lower.Bytes) } : Z5)⟩ : Ze)]).length ≤ maxLen)) ( .chk (((a0 ++ [(⟨({ x1.PDU with Payload := (([] : List Int) ++ x1.PDU.Payload) } : Zc), ({ x1.Lower with Bytes := (([] : List Int) ++ x1.Lower.Bytes) } : Z5)⟩ : Ze)]).length == (a0 ++ [(⟨({ x1.PDU with Payload := (([] : List Int) ++ x1.PDU.Payload) } : Zc), ({ x1.Lower with Bytes := (([] : List Int) ++ x1.Lower.Bytes) } : Z5)⟩ : Ze)]).length) && ((a2.Groups.length == a2.Groups.length) && ((a2.Cache.length == a2.Cache.length) && ((a2.Replays.length == a2.Replays.length) && ((a2.Transport.Out.length == a2.Transport.Out.length) && (a2.Transport.In.length == a2.Transport.In.length)))))) ( .leaf (.inr (.b3 (a0 ++ [(⟨({ x1.PDU with Payload := (([] : List Int) ++ x1.PDU.Payload) } : Zc), ({ x1.Lower with Bytes := (([] : List Int) ++ x1.Lower.Bytes) } : Z5)⟩ : Ze)]) (w64 (a1 + (1 : Int))) a2 a3))))))))))))))) ( .chk (([] : List Int).length == 0) ( .chk (decide ((0 + a2.Friend.Subs.length) * 2 ≤ lim) && decide (0 + a2.Friend.Subs.length ≤ maxLen)) ( .chk (([] : List Int).length == 0) ( .chk (decide ((0 + a2.Low.Subs.length) * 2 ≤ lim) && decide (0 + a2.Low.Subs.length ≤ maxLen)) ( .chk ((([] : List Zb).length == 0) && ((a2.Groups.length == a2.Groups.length) && ((a2.Cache.length == a2.Cache.length) && ((a2.Replays.length == a2.Replays.length) && ((a2.Transport.Out.length == a2.Transport.Out.length) && ((a2.Transport.In.length == a2.Transport.In.length) && ((a0.length == a0.length) && (((([] : List Int) ++ a2.Friend.Subs).length == (([] : List Int) ++ a2.Friend.Subs).length) && ((([] : List Int) ++ a2.Low.Subs).length == (([] : List Int) ++ a2.Low.Subs).length))))))))) ( .leaf (.inr (.b4 ([] : List Zb) (0 : Int) ({ a2 with Friend := ({ a2.Friend with Queue := a0, Subs := (([] : List Int) ++ a2.Friend.Subs) } : Zk), Low := ({ a2.Low with Subs := (([] : List Int) ++ a2.Low.Subs) } : Zm) } : Z8) a3))))))))
  | .b4 a0 a1 a2 a3 => .br (decide (a1 < (↑a2.Out.length : Int))) ( .chk (decide (0 ≤ a1 ∧ a1 < (↑a2.Out.length : Int))) ( .bind 62 (a2.Out[(Int.toNat a1)]?) (fun (x1 : Zb) => .chk (decide (0 ≤ a1 ∧ a1 < (↑a2.Out.length : Int))) ( .bind 62 (a2.Out[(Int.toNat a1)]?) (fun (x2 : Zb) => .chk (([] : List Int).length == 0) ( .chk (decide ((0 + x2.Bytes.length) * 1 ≤ lim) && decide (0 + x2.Bytes.length ≤ maxLen)) ( .chk (decide (0 ≤ a1 ∧ a1 < (↑a2.Out.length : Int))) ( .bind 62 (a2.Out[(Int.toNat a1)]?) (fun (x3 : Zb) => .chk ((([] : List Int) ++ x2.Bytes).length == (([] : List Int) ++ x2.Bytes).length) ( .chk (([(⟨x1.Due, (([] : List Int) ++ x2.Bytes), x3.To⟩ : Zb)]).length == 1) ( .chk (a0.length == a0.length) ( .chk (decide ((a0.length + ([(⟨x1.Due, (([] : List Int) ++ x2.Bytes), x3.To⟩ : Zb)]).length) * 40 ≤ lim) && decide (a0.length + ([(⟨x1.Due, (([] : List Int) ++ x2.Bytes), x3.To⟩ : Zb)]).length ≤ maxLen)) ( .chk (((a0 ++ [(⟨x1.Due, (([] : List Int) ++ x2.Bytes), x3.To⟩ : Zb)]).length == (a0 ++ [(⟨x1.Due, (([] : List Int) ++ x2.Bytes), x3.To⟩ : Zb)]).length) && ((a2.Groups.length == a2.Groups.length) && ((a2.Cache.length == a2.Cache.length) && ((a2.Replays.length == a2.Replays.length) && ((a2.Transport.Out.length == a2.Transport.Out.length) && ((a2.Transport.In.length == a2.Transport.In.length) && ((a2.Friend.Queue.length == a2.Friend.Queue.length) && ((a2.Friend.Subs.length == a2.Friend.Subs.length) && (a2.Low.Subs.length == a2.Low.Subs.length))))))))) ( .leaf (.inr (.b4 (a0 ++ [(⟨x1.Due, (([] : List Int) ++ x2.Bytes), x3.To⟩ : Zb)]) (w64 (a1 + (1 : Int))) a2 a3)))))))))))))))) ( .chk (a2.Groups.length == a2.Groups.length) ( .chk (a2.Cache.length == a2.Cache.length) ( .chk (a2.Replays.length == a2.Replays.length) ( .chk (a2.Transport.Out.length == a2.Transport.Out.length) ( .chk (a2.Transport.In.length == a2.Transport.In.length) ( .chk (a2.Friend.Queue.length == a2.Friend.Queue.length) ( .chk (a2.Friend.Subs.length == a2.Friend.Subs.length) ( .chk (a2.Low.Subs.length == a2.Low.Subs.length) ( .chk (a0.length == a0.length) ( .leaf (.inl ({ a2 with Out := a0 } : Z8))))))))))))
noncomputable def Zf0 (a0 : Z8) : Option Z8 := flow ZL (.b0 a0)
noncomputable def Zsb : Mod U := ⟨[50], 50, fun x => Zf0 x.1, by decide⟩
def ZfF : Lay := ⟨[1, 2, 3, 4], [[.keep], [.keep], [.own 101 10], [.keep]], [.var k13, .var k0, .row true, .row true, .row true, .row true], ⟨[.one (.ptr 0), .one (.ptr 1), .one (.own 101 2), .one (.v 3 1 false)], [.var 50 46 (.agg [.v 22 1 false, .v 24 1 false, .v 24 1 false, .v 32 11 true, .v 35 3 true, .v 33 1 false, .v 4 1 false, .v 4 1 false, .own 22 3, .own 64 4, .own 116 5, .v 42 2 true, .v 45 8 true, .v 47 10 true, .v 48 1 false, .v 33 1 false, .v 4 1 false]), .var 50 46 (.agg [.v 50 46 true]), .row 101 true, .row 22 true, .row 64 true, .row 116 true]⟩⟩
def ZfD : Lay := ⟨[1, 2, 3, 6, 7], [[.keep], [.keep], [.own 101 10], [.own 104 11], [.keep]], [.var k13, .var k0, .row true, .row true, .row true, .row true, .row true], ⟨[.one (.ptr 0), .one (.ptr 1), .one (.own 101 2), .one (.own 104 3), .one (.v 3 1 false)], [.var 50 46 (.agg [.v 22 1 false, .v 24 1 false, .v 24 1 false, .v 32 11 true, .v 35 3 true, .v 33 1 false, .v 4 1 false, .v 4 1 false, .own 22 4, .own 64 5, .own 116 6, .v 42 2 true, .v 45 8 true, .v 47 10 true, .v 48 1 false, .v 33 1 false, .v 4 1 false]), .var 50 46 (.agg [.v 50 46 true]), .row 101 true, .row 104 true, .row 22 true, .row 64 true, .row 116 true]⟩⟩
def ZfG : Lay := ⟨[1, 2, 9, 10], [[.keep], [.keep], [.own 108 18], [.keep]], [.var k12, .var k0, .row true, .row true, .row true, .row true, .row true, .row true], ⟨[.one (.ptr 0), .one (.ptr 1), .one (.own 108 2), .one (.v 3 1 false)], [.var 50 46 (.agg [.v 22 1 false, .v 24 1 false, .v 24 1 false, .v 32 11 true, .v 35 3 true, .v 33 1 false, .v 4 1 false, .v 4 1 false, .own 22 3, .own 64 4, .own 116 5, .own 101 6, .own 104 7, .v 45 8 true, .v 47 10 true, .v 48 1 false, .v 33 1 false, .v 4 1 false]), .var 50 46 (.agg [.v 50 46 true]), .row 108 true, .row 22 true, .row 64 true, .row 116 true, .row 101 true, .row 104 true]⟩⟩
def ZfX : Lay := ⟨[1, 2, 12, 13], [[.keep], [.keep], [.own 62 3], [.keep]], [.var [.keep, .keep, .keep, .keep, .keep, .keep, .keep, .keep, .keep, .keep, .keep, .keep, .keep, .keep, .keep, .keep, .keep, .keep, .keep, .keep, .own 22 1, .own 64 3, .own 116 3, .own 101 10, .own 104 11, .keep, .own 108 18, .own 22 1, .keep, .keep, .keep, .keep, .keep, .keep, .keep, .keep, .keep, .keep, .keep, .own 22 1, .keep, .keep, .keep, .s 62 3, .keep, .keep], .var k0, .row true, .row true, .row true, .row true, .row true, .row true, .row true, .row true, .row true], ⟨[.one (.ptr 0), .one (.ptr 1), .one (.own 62 2), .one (.v 3 1 false)], [.var 50 46 (.agg [.v 22 1 false, .v 24 1 false, .v 24 1 false, .v 32 11 true, .v 35 3 true, .v 33 1 false, .v 4 1 false, .v 4 1 false, .own 22 3, .own 64 4, .own 116 5, .own 101 6, .own 104 7, .v 22 1 false, .own 108 8, .own 22 9, .v 3 1 false, .v 4 1 false, .v 3 1 false, .v 3 1 false, .v 3 1 false, .v 3 1 false, .v 22 1 false, .v 3 1 false, .v 3 1 false, .v 3 1 false, .v 3 1 false, .own 22 10, .v 3 1 false, .v 4 1 false, .v 3 1 false, .v 48 1 false, .v 33 1 false, .v 4 1 false]), .var 50 46 (.agg [.v 50 46 true]), .row 62 true, .row 22 true, .row 64 true, .row 116 true, .row 101 true, .row 104 true, .row 108 true, .row 22 true, .row 22 true]⟩⟩
def Zs9 : Nat → Option Lay
  | 6 => some ZfF
  | 13 => some ZfD
  | 21 => some ZfG
  | 32 => some ZfX
  | _ => none
noncomputable def ZqD : ZeF → Spot U
  | .b0 a0 => entP Tryz.f11 [50] (a0, ())
  | .b1 a0 a1 a2 a3 => spL Tryz.f11 [1, 1, 1, 1, 1, 0, 1, 0, 0, 0, 0] ZfF (((), ((), ((), ((a1, ()), ())))), ((a2.Address, (a2.Device, (a2.App, (a2.Keys, (a2.IV, (a2.Seq, (a2.Relay, (a2.Befriends, (a2.Transport, (a2.Friend, (a2.Low, (a2.Out, (a2.Stored, (a2.Up, ())))))))))))))), ((a3, ()), (a0, (a2.Groups, (a2.Cache, (a2.Replays, ())))))))
  | .b2 a0 a1 a2 a3 a4 => spL Tryz.f11 [1, 1, 1, 1, 1, 1, 1, 0, 1, 0, 0, 0, 0] ZfD (((), ((), ((), ((), ((a2, ()), ()))))), ((a3.Address, (a3.Device, (a3.App, (a3.Keys, (a3.IV, (a3.Seq, (a3.Relay, (a3.Befriends, (a3.Transport, (a3.Friend, (a3.Low, (a3.Out, (a3.Stored, (a3.Up, ())))))))))))))), ((a4, ()), (a0, (a1, (a3.Groups, (a3.Cache, (a3.Replays, ()))))))))
  | .b3 a0 a1 a2 a3 => spL Tryz.f11 [1, 1, 1, 1, 1, 1, 1, 1, 1, 1, 0, 1, 0, 0, 0, 0] ZfG (((), ((), ((), ((a1, ()), ())))), ((a2.Address, (a2.Device, (a2.App, (a2.Keys, (a2.IV, (a2.Seq, (a2.Relay, (a2.Befriends, (a2.Friend, (a2.Low, (a2.Out, (a2.Stored, (a2.Up, ()))))))))))))), ((a3, ()), (a0, (a2.Groups, (a2.Cache, (a2.Replays, (a2.Transport.Out, (a2.Transport.In, ())))))))))
  | .b4 a0 a1 a2 a3 => spL Tryz.f11 [1, 1, 1, 1, 1, 1, 1, 1, 1, 1, 1, 1, 1, 1, 1, 0, 1, 0, 0, 0, 0] ZfX (((), ((), ((), ((a1, ()), ())))), ((a2.Address, (a2.Device, (a2.App, (a2.Keys, (a2.IV, (a2.Seq, (a2.Relay, (a2.Befriends, (a2.Friend.Low, (a2.Friend.Bit, (a2.Friend.Sent, (a2.Friend.Polled, (a2.Friend.Counter, (a2.Friend.Dropped, (a2.Low.Phase, (a2.Low.Friend, (a2.Low.Bit, (a2.Low.Counter, (a2.Low.Due, (a2.Low.Tries, (a2.Low.Told, (a2.Low.More, (a2.Low.Last, (a2.Out, (a2.Stored, (a2.Up, ())))))))))))))))))))))))))), ((a3, ()), (a0, (a2.Groups, (a2.Cache, (a2.Replays, (a2.Transport.Out, (a2.Transport.In, (a2.Friend.Queue, (a2.Friend.Subs, (a2.Low.Subs, ()))))))))))))
theorem ZnE : BlkP 11 Tryz.f11 (mc ZnX msN) hsN Zs9 50 ZL ZqD
  | .b0 _ => by kernel_rfl
  | .b1 _ _ _ _ => by kernel_rfl
  | .b2 _ _ _ _ _ => by kernel_rfl
  | .b3 _ _ _ _ => by kernel_rfl
  | .b4 _ _ _ _ => by kernel_rfl
theorem Zpk : FnOK Tryz.prog B0 11 Zsb := okP ZnE (fun x => .b0 x.1) (by kernel_rfl) Tryz.func11 (by kernel_rfl) (by kernel_rfl) (fun _ => rfl) (fun _ => rfl)
inductive Zeo where
  | b0 (a0 : Int)
noncomputable def Ze0 : Zeo → Tr U (Bool ⊕ Zeo)
  | .b0 a0 => .br (decide (a0 > (0 : Int))) ( .leaf (.inl (decide (a0 < (32768 : Int))))) ( .leaf (.inl false))
noncomputable def Z3T (a0 : Int) : Option Bool := flow Ze0 (.b0 a0)
noncomputable def Zsa : Mod U := ⟨[22], 4, fun x => Z3T x.1, by decide⟩
noncomputable def Zqi : Zeo → Spot U
  | .b0 a0 => entP Tryz.f30 [22] (a0, ())
theorem Zn7 : BlkP 30 Tryz.f30 msN hsN AN 4 Ze0 Zqi
  | .b0 _ => by kernel_rfl
theorem ZbH : FnOK Tryz.prog B0 30 Zsa := okP Zn7 (fun x => .b0 x.1) (by kernel_rfl) Tryz.func30 (by kernel_rfl) (by kernel_rfl) (fun _ => rfl) (fun _ => rfl)
inductive Zbh where
  | b0 (a0 : Int)
noncomputable def ZhI : Zbh → Tr U (Bool ⊕ Zbh)
  | .b0 a0 => .leaf (.inl (decide (a0 ≥ (49152 : Int))))
noncomputable def Z5A (a0 : Int) : Option Bool := flow ZhI (.b0 a0)
noncomputable def Zpo : Mod U := ⟨[22], 4, fun x => Z5A x.1, by decide⟩
noncomputable def ZmU : Zbh → Spot U
  | .b0 a0 => entP Tryz.f31 [22] (a0, ())
theorem Zmg : BlkP 31 Tryz.f31 msN hsN AN 4 ZhI ZmU
  | .b0 _ => by kernel_rfl
theorem Z9j : FnOK Tryz.prog B0 31 Zpo := okP Zmg (fun x => .b0 x.1) (by kernel_rfl) Tryz.func31 (by kernel_rfl) (by kernel_rfl) (fun _ => rfl) (fun _ => rfl)
inductive Zml where
  | b0 (a0 : ZM)
  | b1 (a0 : ZM)
  | b2 (a0 : ZM)
noncomputable def Zad : Zml → Tr U (Int ⊕ Zml)
  | .b0 a0 => .br a0.Updating ( .br (decide (a0.Index > (0 : Int))) ( .leaf (.inr (.b1 a0))) ( .leaf (.inr (.b2 a0)))) ( .leaf (.inr (.b2 a0)))
  | .b1 a0 => .leaf (.inl (IntKind.wrap .u32 (a0.Index - (1 : Int))))
  | .b2 a0 => .leaf (.inl a0.Index)
noncomputable def ZgI (a0 : ZM) : Option Int := flow Zad (.b0 a0)
noncomputable def ZvE : Mod U := ⟨[35], 33, fun x => ZgI x.1, by decide⟩
def ZjQ : Lay := ⟨[1], [[.keep]], [.var k6], ⟨[.one (.ptr 0)], [.var 35 3 (.agg [.v 35 3 true])]⟩⟩
def ZjG : Lay := ⟨[1], [[.keep]], [.var k6], ⟨[.one (.ptr 0)], [.var 35 3 (.agg [.v 35 3 true])]⟩⟩
def ZvK : Nat → Option Lay
  | 2 => some ZjQ
  | 3 => some ZjG
  | _ => none
noncomputable def Zva : Zml → Spot U
  | .b0 a0 => entP Tryz.f32 [35] (a0, ())
  | .b1 a0 => spL Tryz.f32 [1, 0, 1, 0, 0] ZjQ (((), ()), ((a0, ()), ()))
  | .b2 a0 => spL Tryz.f32 [1, 1, 0] ZjG (((), ()), ((a0, ()), ()))
theorem Zsv : BlkP 32 Tryz.f32 msN hsN ZvK 33 Zad Zva
  | .b0 _ => by kernel_rfl
  | .b1 _ => by kernel_rfl
  | .b2 _ => by kernel_rfl
theorem Zn5 : FnOK Tryz.prog B0 32 ZvE := okP Zsv (fun x => .b0 x.1) (by kernel_rfl) Tryz.func32 (by kernel_rfl) (by kernel_rfl) (fun _ => rfl) (fun _ => rfl)
end Go.Proofs.YtefmbgacbhifdaaGreat
namespace Go.Proofs.YtefmbgacbhifdaaGreat
open Go Go.Proofs.YtefmbgacbhifdaaGreat.Le
set_option maxRecDepth 100000
inductive Zix where
  | b0 (a0 a1 : Int)
  | b1 (a0 : Int)
noncomputable def Z9a : Zix → Tr U (Int ⊕ Zix)
  | .b0 a0 a1 => .br (decide ((Int.tmod (w64 ((w64 ((Int.tmod a1 (64 : Int)) + (64 : Int))) * (11 : Int))) (64 : Int)) > (0 : Int))) ( .chk (decide (0 ≤ (Int.tmod (w64 ((w64 ((Int.tmod a1 (64 : Int)) + (64 : Int))) * (11 : Int))) (64 : Int)))) ( .chk (decide (0 ≤ (w64 ((64 : Int) - (Int.tmod (w64 ((w64 ((Int.tmod a1 (64 : Int)) + (64 : Int))) * (11 : Int))) (64 : Int)))))) ( .leaf (.inr (.b1 (bits .or .u64 (IntKind.wrap .u64 (a0 * 2 ^ (min (Int.toNat (Int.tmod (w64 ((w64 ((Int.tmod a1 (64 : Int)) + (64 : Int))) * (11 : Int))) (64 : Int))) (IntKind.bits .u64)))) (Int.fdiv a0 (2 ^ (min (Int.toNat (w64 ((64 : Int) - (Int.tmod (w64 ((w64 ((Int.tmod a1 (64 : Int)) + (64 : Int))) * (11 : Int))) (64 : Int))))) (IntKind.bits .u64)))))))))) ( .leaf (.inr (.b1 a0)))
  | .b1 a0 => .leaf (.inl (IntKind.wrap .u32 ((Int.tmod a0 (4294967296 : Int)))))
noncomputable def Z9r (a0 a1 : Int) : Option Int := flow Z9a (.b0 a0 a1)
noncomputable def Zvo : Mod U := ⟨[24, 3], 33, fun x => Z9r x.1 x.2.1, by decide⟩
def Zi8 : Lay := ⟨[6], [[.keep]], [], ⟨[.one (.v 23 1 false)], []⟩⟩
def Ztp : Nat → Option Lay
  | 5 => some Zi8
  | _ => none
noncomputable def Zt4 : Zix → Spot U
  | .b0 a0 a1 => entP Tryz.f289 [24, 3] (a0, a1, ())
  | .b1 a0 => spL Tryz.f289 [1, 1, 1, 1, 0] Zi8 (((a0, ()), ()), ())
theorem Zpv : BlkP 289 Tryz.f289 msN hsN Ztp 33 Z9a Zt4
  | .b0 _ _ => by kernel_rfl
  | .b1 _ => by kernel_rfl
theorem ZsF : FnOK Tryz.prog B0 289 Zvo := okP Zpv (fun x => .b0 x.1 x.2.1) (by kernel_rfl) Tryz.func289 (by kernel_rfl) (by kernel_rfl) (fun _ => rfl) (fun _ => rfl)
inductive ZeK where
  | b0 (a0 a1 : Int)
noncomputable def Zkx : ZeK → Tr U (Int ⊕ ZeK)
  | .b0 a0 a1 => .chk (decide (0 ≤ a1)) ( .chk (decide (0 ≤ (w64 ((32 : Int) - a1)))) ( .leaf (.inl (bits .or .u32 (IntKind.wrap .u32 (a0 * 2 ^ (min (Int.toNat a1) (IntKind.bits .u32)))) (Int.fdiv a0 (2 ^ (min (Int.toNat (w64 ((32 : Int) - a1))) (IntKind.bits .u32))))))))
noncomputable def Z2m (a0 a1 : Int) : Option Int := flow Zkx (.b0 a0 a1)
noncomputable def Zsq : Mod U := ⟨[33, 3], 33, fun x => Z2m x.1 x.2.1, by decide⟩
noncomputable def ZpG : ZeK → Spot U
  | .b0 a0 a1 => entP Tryz.f290 [33, 3] (a0, a1, ())
theorem Zok : BlkP 290 Tryz.f290 msN hsN AN 33 Zkx ZpG
  | .b0 _ _ => by kernel_rfl
theorem ZpC : FnOK Tryz.prog B0 290 Zsq := okP Zok (fun x => .b0 x.1 x.2.1) (by kernel_rfl) Tryz.func290 (by kernel_rfl) (by kernel_rfl) (fun _ => rfl) (fun _ => rfl)
inductive Zcc where
  | b0 (a0 a1 a2 : Int)
noncomputable def ZbE : Zcc → Tr U (Int ⊕ Zcc)
  | .b0 a0 a1 a2 => .bind 33 (Z9r a0 a1) (fun (x1 : Int) => .bind 33 (Z2m (IntKind.wrap .u32 (a2 + x1)) (7 : Int)) (fun (x2 : Int) => .bind 33 (Z2m x1 (16 : Int)) (fun (x3 : Int) => .leaf (.inl (bits .xor .u32 (IntKind.wrap .u32 (x2 * (2654435761 : Int))) x3)))))
noncomputable def Zb7 (a0 a1 a2 : Int) : Option Int := flow ZbE (.b0 a0 a1 a2)
noncomputable def ZpZ : Mod U := ⟨[24, 3, 33], 33, fun x => Zb7 x.1 x.2.1 x.2.2.1, by decide⟩
noncomputable def Zof : Zcc → Spot U
  | .b0 a0 a1 a2 => entP Tryz.f263 [24, 3, 33] (a0, a1, a2, ())
theorem Zl8 : BlkP 263 Tryz.f263 (mc ZsF (mc ZpC msN)) hsN AN 33 ZbE Zof
  | .b0 _ _ _ => by kernel_rfl
theorem ZmH : FnOK Tryz.prog B0 263 ZpZ := okP Zl8 (fun x => .b0 x.1 x.2.1 x.2.2.1) (by kernel_rfl) Tryz.func263 (by kernel_rfl) (by kernel_rfl) (fun _ => rfl) (fun _ => rfl)
inductive Zh5 where
  | b0 (a0 a1 : Int)
  | b1 (a0 a1 a2 a3 : Int)
noncomputable def Z5R : Zh5 → Tr U (Int ⊕ Zh5)
  | .b0 a0 a1 => .leaf (.inr (.b1 a0 (IntKind.wrap .u32 ((IntKind.wrap .u64 (Int.tdiv a1 (4294967296 : Int))))) (IntKind.wrap .u32 ((Int.tmod a1 (4294967296 : Int)))) (0 : Int)))
  | .b1 a0 a1 a2 a3 => .br (decide (a3 < (8 : Int))) ( .bind 33 (Zb7 a0 a3 a2) (fun (x1 : Int) => .leaf (.inr (.b1 a0 a2 (bits .xor .u32 a1 x1) (w64 (a3 + (1 : Int))))))) ( .leaf (.inl (IntKind.wrap .u64 ((IntKind.wrap .u64 ((IntKind.wrap .u64 (a1)) * (4294967296 : Int))) + (IntKind.wrap .u64 (a2))))))
noncomputable def Z5U (a0 a1 : Int) : Option Int := flow Z5R (.b0 a0 a1)
noncomputable def ZtJ : Mod U := ⟨[24, 23], 23, fun x => Z5U x.1 x.2.1, by decide⟩
def Zir : Lay := ⟨[0, 5, 6, 7], [[.keep], [.keep], [.keep], [.keep]], [], ⟨[.one (.v 24 1 false), .one (.v 33 1 false), .one (.v 33 1 false), .one (.v 3 1 false)], []⟩⟩
def Zvj : Nat → Option Lay
  | 4 => some Zir
  | _ => none
noncomputable def Zsf : Zh5 → Spot U
  | .b0 a0 a1 => entP Tryz.f189 [24, 23] (a0, a1, ())
  | .b1 a0 a1 a2 a3 => spL Tryz.f189 [1, 1, 1, 0, 1, 0, 0, 0, 0] Zir (((a0, ()), ((a1, ()), ((a2, ()), ((a3, ()), ())))), ())
theorem Zqc : BlkP 189 Tryz.f189 (mc ZmH msN) hsN Zvj 23 Z5R Zsf
  | .b0 _ _ => by kernel_rfl
  | .b1 _ _ _ _ => by kernel_rfl
theorem ZjS : FnOK Tryz.prog B0 189 ZtJ := okP Zqc (fun x => .b0 x.1 x.2.1) (by kernel_rfl) Tryz.func189 (by kernel_rfl) (by kernel_rfl) (fun _ => rfl) (fun _ => rfl)
inductive ZgS where
  | b0 (a0 a1 : Int)
  | b1 (a0 a1 : Int) (a2 : List Int) (a3 : Int)
noncomputable def Z7n : ZgS → Tr U (Z0t ⊕ ZgS)
  | .b0 a0 a1 => .chk (([] : List Int).length == 0) ( .leaf (.inr (.b1 a0 a1 ([] : List Int) (0 : Int))))
  | .b1 a0 a1 a2 a3 => .br (decide (a3 < a0)) ( .chk (([(IntKind.wrap .u8 ((Int.tmod a1 (256 : Int))))]).length == 1) ( .chk (a2.length == a2.length) ( .chk (decide ((a2.length + ([(IntKind.wrap .u8 ((Int.tmod a1 (256 : Int))))]).length) * 1 ≤ lim) && decide (a2.length + ([(IntKind.wrap .u8 ((Int.tmod a1 (256 : Int))))]).length ≤ maxLen)) ( .chk ((a2 ++ [(IntKind.wrap .u8 ((Int.tmod a1 (256 : Int))))]).length == (a2 ++ [(IntKind.wrap .u8 ((Int.tmod a1 (256 : Int))))]).length) ( .leaf (.inr (.b1 a0 (IntKind.wrap .u64 (Int.tdiv a1 (256 : Int))) (a2 ++ [(IntKind.wrap .u8 ((Int.tmod a1 (256 : Int))))]) (w64 (a3 + (1 : Int)))))))))) ( .chk (a2.length == a2.length) ( .leaf (.inl (⟨a2⟩ : Z0t))))
noncomputable def ZG (a0 a1 : Int) : Option Z0t := flow Z7n (.b0 a0 a1)
def Zil : Shape := ⟨[.one (.v 3 1 false), .one (.v 23 1 false)], []⟩
noncomputable def ZmQ : HMod U := ⟨[[.keep], [.keep]], [], Zil, ⟨[.one (.own 5 0)], [.row 5 true]⟩, true, 1388, fun (y : Z0t) => (((), ()), (y.q0, ())), fun x => ZG x.1.1.1 x.1.2.1.1, ⟨⟨⟨by decide, fun _ => rfl⟩, ⟨⟨by decide, fun _ => rfl⟩, trivial⟩⟩, trivial⟩⟩
def Zih : Lay := ⟨[0, 1, 5, 6], [[.keep], [.keep], [.own 5 1], [.keep]], [.row true], ⟨[.one (.v 3 1 false), .one (.v 23 1 false), .one (.own 5 0), .one (.v 3 1 false)], [.row 5 true]⟩⟩
def Zv6 : Nat → Option Lay
  | 3 => some Zih
  | _ => none
noncomputable def Ztf : ZgS → Spot U
  | .b0 a0 a1 => entH Tryz.f81 Zil (((a0, ()), ((a1, ()), ())), ())
  | .b1 a0 a1 a2 a3 => spL Tryz.f81 [1, 1, 0, 1, 0, 0, 0, 0] Zih (((a0, ()), ((a1, ()), ((), ((a3, ()), ())))), (a2, ()))
theorem ZqB : BlkH 81 Tryz.f81 msN hsN Zv6 [[.own 5 1]] [.row true] 0 ZmQ Z7n Ztf
  | .b0 _ _ => by kernel_rfl
  | .b1 _ _ _ _ => by kernel_rfl
theorem Z36 : HFnOK Tryz.prog B0 81 ZmQ := okH ZqB (fun x => .b0 x.1.1.1 x.1.2.1.1) (fun x => by kernel_rfl) (by kernel_rfl) Tryz.func81 (by kernel_rfl) (by kernel_rfl) (fun x => by kernel_rfl) (fun x => by kernel_rfl)
inductive Z9F where
  | b0 (a0 a1 a2 : Int)
  | b1 (a0 a1 : Int) (a2 : List Int) (a3 a4 : Int)
noncomputable def Z2X : Z9F → Tr U ((List Int) ⊕ Z9F)
  | .b0 a0 a1 a2 => .bind 23 (Z5U a0 a1) (fun (x1 : Int) => .chk (([] : List Int).length == 0) ( .leaf (.inr (.b1 a0 a2 ([] : List Int) x1 (0 : Int)))))
  | .b1 a0 a1 a2 a3 a4 => .chk (a2.length == a2.length) ( .br (decide ((↑a2.length : Int) < a1)) ( .bind 23 (Z5U a0 (IntKind.wrap .u64 (a3 + (IntKind.wrap .u64 (a4))))) (fun (x1 : Int) => .bind 1388 (ZG (8 : Int) x1) (fun (y2 : Z0t) => .chk (y2.q0.length == y2.q0.length) ( .chk (a2.length == a2.length) ( .chk (decide ((a2.length + y2.q0.length) * 1 ≤ lim) && decide (a2.length + y2.q0.length ≤ maxLen)) ( .chk ((a2 ++ y2.q0).length == (a2 ++ y2.q0).length) ( .leaf (.inr (.b1 a0 a1 (a2 ++ y2.q0) a3 (w64 (a4 + (1 : Int)))))))))))) ( .chk (a2.length == a2.length) ( .chk (decide (0 ≤ a1 ∧ a1 ≤ (↑a2.length : Int))) ( .chk (a2.length == a2.length) ( .chk (decide (0 + ((Int.toNat a1) - 0) ≤ a2.length)) ( .leaf (.inl ((a2.drop 0).take ((Int.toNat a1) - 0)))))))))
noncomputable def Z99 (a0 a1 a2 : Int) : Option (List Int) := flow Z2X (.b0 a0 a1 a2)
noncomputable def ZnJ : Mod U := ⟨[24, 23, 3], 27, fun x => Z99 x.1 x.2.1 x.2.2.1, by decide⟩
def ZaQ : Lay := ⟨[0, 2, 7, 8, 9], [[.keep], [.keep], [.own 5 1], [.keep], [.keep]], [.row true], ⟨[.one (.v 24 1 false), .one (.v 3 1 false), .one (.own 5 0), .one (.v 23 1 false), .one (.v 3 1 false)], [.row 5 true]⟩⟩
def ZoJ : Nat → Option Lay
  | 4 => some ZaQ
  | _ => none
noncomputable def ZlJ : Z9F → Spot U
  | .b0 a0 a1 a2 => entP Tryz.f153 [24, 23, 3] (a0, a1, a2, ())
  | .b1 a0 a1 a2 a3 a4 => spL Tryz.f153 [1, 1, 1, 0, 1, 0, 0, 0, 0] ZaQ (((a0, ()), ((a1, ()), ((), ((a3, ()), ((a4, ()), ()))))), (a2, ()))
theorem Zjv : BlkP 153 Tryz.f153 (mc ZjS msN) (hc [] Z36 hsN) ZoJ 27 Z2X ZlJ
  | .b0 _ _ _ => by kernel_rfl
  | .b1 _ _ _ _ _ => by kernel_rfl
theorem Zlm : FnOK Tryz.prog B0 153 ZnJ := okP Zjv (fun x => .b0 x.1 x.2.1 x.2.2.1) (by kernel_rfl) Tryz.func153 (by kernel_rfl) (by kernel_rfl) (fun _ => rfl) (fun _ => rfl)
inductive Zbj where
  | b0 (a0 : List Int)
  | b1 (a0 : List Int) (a1 a2 : Int)
noncomputable def Z3S : Zbj → Tr U (Int ⊕ Zbj)
  | .b0 a0 => .leaf (.inr (.b1 a0 (0 : Int) (w64 ((↑a0.length : Int) - (1 : Int)))))
  | .b1 a0 a1 a2 => .br (decide (a2 ≥ (0 : Int))) ( .chk (decide (0 ≤ a2 ∧ a2 < (↑a0.length : Int))) ( .bind 5 (a0[(Int.toNat a2)]?) (fun (x1 : Int) => .leaf (.inr (.b1 a0 (IntKind.wrap .u64 ((IntKind.wrap .u64 (a1 * (256 : Int))) + (IntKind.wrap .u64 (x1)))) (w64 (a2 - (1 : Int)))))))) ( .leaf (.inl a1))
noncomputable def Z82 (a0 : List Int) : Option Int := flow Z3S (.b0 a0)
noncomputable def ZpB : Mod U := ⟨[27], 23, fun x => Z82 x.1, by decide⟩
def ZcW : Lay := ⟨[0, 3, 4], [[.s 5 1], [.keep], [.keep]], [], ⟨[.one (.v 27 1 false), .one (.v 23 1 false), .one (.v 3 1 false)], []⟩⟩
def Zpy : Nat → Option Lay
  | 3 => some ZcW
  | _ => none
noncomputable def ZoN : Zbj → Spot U
  | .b0 a0 => entP Tryz.f136 [27] (a0, ())
  | .b1 a0 a1 a2 => spL Tryz.f136 [1, 1, 0, 1, 0, 0, 0, 0] ZcW (((a0, ()), ((a1, ()), ((a2, ()), ()))), ())
theorem ZkK : BlkP 136 Tryz.f136 msN hsN Zpy 23 Z3S ZoN
  | .b0 _ => by kernel_rfl
  | .b1 _ _ _ => by kernel_rfl
theorem Zfs : FnOK Tryz.prog B0 136 ZpB := okP ZkK (fun x => .b0 x.1) (by kernel_rfl) Tryz.func136 (by kernel_rfl) (by kernel_rfl) (fun _ => rfl) (fun _ => rfl)
inductive Zhw where
  | b0 (a0 : Int) (a1 : List Int)
  | b1 (a0 : Int) (a1 : List Int) (a2 a3 : Int)
noncomputable def Z79 : Zhw → Tr U (Int ⊕ Zhw)
  | .b0 a0 a1 => .bind 23 (Z5U a0 (IntKind.wrap .u64 ((↑a1.length : Int)))) (fun (x1 : Int) => .leaf (.inr (.b1 a0 a1 x1 (0 : Int))))
  | .b1 a0 a1 a2 a3 => .br (decide (a3 < (↑a1.length : Int))) ( .chk (decide (0 ≤ (if (↑a1.length : Int) < (w64 (a3 + (8 : Int))) then (↑a1.length : Int) else (w64 (a3 + (8 : Int)))) ∧ (if (↑a1.length : Int) < (w64 (a3 + (8 : Int))) then (↑a1.length : Int) else (w64 (a3 + (8 : Int)))) ≤ (↑a1.length : Int))) ( .chk (decide (0 ≤ a3 ∧ a3 ≤ (↑(Int.toNat (if (↑a1.length : Int) < (w64 (a3 + (8 : Int))) then (↑a1.length : Int) else (w64 (a3 + (8 : Int))))) : Int))) ( .bind 23 (Z82 ((a1.drop (Int.toNat a3)).take ((Int.toNat (if (↑a1.length : Int) < (w64 (a3 + (8 : Int))) then (↑a1.length : Int) else (w64 (a3 + (8 : Int))))) - (Int.toNat a3)))) (fun (x1 : Int) => .bind 23 (Z5U a0 (bits .xor .u64 a2 x1)) (fun (x2 : Int) => .leaf (.inr (.b1 a0 a1 x2 (w64 (a3 + (8 : Int)))))))))) ( .leaf (.inl a2))
noncomputable def Z74 (a0 : Int) (a1 : List Int) : Option Int := flow Z79 (.b0 a0 a1)
noncomputable def ZuL : Mod U := ⟨[24, 27], 23, fun x => Z74 x.1 x.2.1, by decide⟩
def Zi1 : Lay := ⟨[0, 1, 5, 6], [[.keep], [.s 5 1], [.keep], [.keep]], [], ⟨[.one (.v 24 1 false), .one (.v 27 1 false), .one (.v 23 1 false), .one (.v 3 1 false)], []⟩⟩
def ZtM : Nat → Option Lay
  | 3 => some Zi1
  | _ => none
noncomputable def Zt7 : Zhw → Spot U
  | .b0 a0 a1 => entP Tryz.f102 [24, 27] (a0, a1, ())
  | .b1 a0 a1 a2 a3 => spL Tryz.f102 [1, 1, 0, 1, 0, 0, 0, 0] Zi1 (((a0, ()), ((a1, ()), ((a2, ()), ((a3, ()), ())))), ())
theorem Zqt : BlkP 102 Tryz.f102 (mc Zfs (mc ZjS msN)) hsN ZtM 23 Z79 Zt7
  | .b0 _ _ => by kernel_rfl
  | .b1 _ _ _ _ => by kernel_rfl
theorem Zkl : FnOK Tryz.prog B0 102 ZuL := okP Zqt (fun x => .b0 x.1 x.2.1) (by kernel_rfl) Tryz.func102 (by kernel_rfl) (by kernel_rfl) (fun _ => rfl) (fun _ => rfl)
inductive ZbA where
  | b0 (a0 : Int) (a1 a2 : List Int)
noncomputable def ZbT : ZbA → Tr U (Z3L ⊕ ZbA)
  | .b0 a0 a1 a2 => .bind 1388 (ZG (8 : Int) a0) (fun (y1 : Z0t) => .bind 1388 (ZG (4 : Int) (IntKind.wrap .u64 ((↑a1.length : Int)))) (fun (y2 : Z0t) => .chk (y2.q0.length == y2.q0.length) ( .chk (y1.q0.length == y1.q0.length) ( .chk (decide ((y1.q0.length + y2.q0.length) * 1 ≤ lim) && decide (y1.q0.length + y2.q0.length ≤ maxLen)) ( .chk ((y1.q0 ++ y2.q0).length == (y1.q0 ++ y2.q0).length) ( .chk (decide (((y1.q0 ++ y2.q0).length + a1.length) * 1 ≤ lim) && decide ((y1.q0 ++ y2.q0).length + a1.length ≤ maxLen)) ( .chk (((y1.q0 ++ y2.q0) ++ a1).length == ((y1.q0 ++ y2.q0) ++ a1).length) ( .chk (decide ((((y1.q0 ++ y2.q0) ++ a1).length + a2.length) * 1 ≤ lim) && decide (((y1.q0 ++ y2.q0) ++ a1).length + a2.length ≤ maxLen)) ( .chk ((((y1.q0 ++ y2.q0) ++ a1) ++ a2).length == (((y1.q0 ++ y2.q0) ++ a1) ++ a2).length) ( .leaf (.inl (⟨(((y1.q0 ++ y2.q0) ++ a1) ++ a2)⟩ : Z3L))))))))))))
noncomputable def ZbF (a0 : Int) (a1 a2 : List Int) : Option Z3L := flow ZbT (.b0 a0 a1 a2)
def ZcO : Shape := ⟨[.one (.v 23 1 false), .one (.v 27 1 false), .one (.v 27 1 false)], []⟩
noncomputable def Zhz : HMod U := ⟨[[.keep], [.s 5 1], [.s 5 1]], [], ZcO, ⟨[.one (.own 5 0)], [.row 5 true]⟩, true, 1390, fun (y : Z3L) => (((), ()), (y.q0, ())), fun x => ZbF x.1.1.1 x.1.2.1.1 x.1.2.2.1.1, ⟨⟨⟨by decide, fun _ => rfl⟩, ⟨⟨by decide, fun _ => rfl⟩, ⟨⟨by decide, fun _ => rfl⟩, trivial⟩⟩⟩, trivial⟩⟩
noncomputable def Zov : ZbA → Spot U
  | .b0 a0 a1 a2 => entH Tryz.f232 ZcO (((a0, ()), ((a1, ()), ((a2, ()), ()))), ())
theorem ZlM : BlkH 232 Tryz.f232 msN (hc [] Z36 hsN) AN [[.own 5 1]] [.row true] 0 Zhz ZbT Zov
  | .b0 _ _ _ => by kernel_rfl
theorem Zox : HFnOK Tryz.prog B0 232 Zhz := okH ZlM (fun x => .b0 x.1.1.1 x.1.2.1.1 x.1.2.2.1.1) (fun x => by kernel_rfl) (by kernel_rfl) Tryz.func232 (by kernel_rfl) (by kernel_rfl) (fun x => by kernel_rfl) (fun x => by kernel_rfl)
inductive ZhN where
  | b0 (a0 a1 : Int) (a2 a3 : List Int)
noncomputable def Zhg : ZhN → Tr U ((List Int) ⊕ ZhN)
  | .b0 a0 a1 a2 a3 => .bind 1390 (ZbF a1 a2 a3) (fun (y1 : Z3L) => .chk (y1.q0.length == y1.q0.length) ( .bind 23 (Z74 a0 y1.q0) (fun (x2 : Int) => .bind 1388 (ZG (4 : Int) x2) (fun (y3 : Z0t) => .chk (y3.q0.length == y3.q0.length) ( .leaf (.inl y3.q0))))))
noncomputable def Zie (a0 a1 : Int) (a2 a3 : List Int) : Option (List Int) := flow Zhg (.b0 a0 a1 a2 a3)
noncomputable def Zv5 : Mod U := ⟨[24, 23, 27, 27], 27, fun x => Zie x.1 x.2.1 x.2.2.1 x.2.2.2.1, by decide⟩
noncomputable def Zt6 : ZhN → Spot U
  | .b0 a0 a1 a2 a3 => entP Tryz.f154 [24, 23, 27, 27] (a0, a1, a2, a3, ())
theorem Zqv : BlkP 154 Tryz.f154 (mc Zkl msN) (hc [] Z36 (hc [] Zox hsN)) AN 27 Zhg Zt6
  | .b0 _ _ _ _ => by kernel_rfl
theorem Zsu : FnOK Tryz.prog B0 154 Zv5 := okP Zqv (fun x => .b0 x.1 x.2.1 x.2.2.1 x.2.2.2.1) (by kernel_rfl) Tryz.func154 (by kernel_rfl) (by kernel_rfl) (fun _ => rfl) (fun _ => rfl)
inductive Zij where
  | b0 (a0 a1 : List Int)
  | b1 (a0 a1 a2 : List Int) (a3 : Int)
  | b2 (a0 a1 a2 : List Int) (a3 : Int)
noncomputable def Z5P : Zij → Tr U (Z66 ⊕ Zij)
  | .b0 a0 a1 => .chk (([] : List Int).length == 0) ( .leaf (.inr (.b1 a0 a1 ([] : List Int) (0 : Int))))
  | .b1 a0 a1 a2 a3 => .br (decide (a3 < (↑a0.length : Int))) ( .br (decide (a3 < (↑a1.length : Int))) ( .chk (a2.length == a2.length) ( .leaf (.inr (.b2 a0 a1 a2 a3)))) ( .chk (a2.length == a2.length) ( .leaf (.inl (⟨a2⟩ : Z66))))) ( .chk (a2.length == a2.length) ( .leaf (.inl (⟨a2⟩ : Z66))))
  | .b2 a0 a1 a2 a3 => .chk (decide (0 ≤ a3 ∧ a3 < (↑a0.length : Int))) ( .bind 5 (a0[(Int.toNat a3)]?) (fun (x1 : Int) => .chk (decide (0 ≤ a3 ∧ a3 < (↑a1.length : Int))) ( .bind 5 (a1[(Int.toNat a3)]?) (fun (x2 : Int) => .chk (([(bits .xor .u8 x1 x2)]).length == 1) ( .chk (a2.length == a2.length) ( .chk (decide ((a2.length + ([(bits .xor .u8 x1 x2)]).length) * 1 ≤ lim) && decide (a2.length + ([(bits .xor .u8 x1 x2)]).length ≤ maxLen)) ( .chk ((a2 ++ [(bits .xor .u8 x1 x2)]).length == (a2 ++ [(bits .xor .u8 x1 x2)]).length) ( .leaf (.inr (.b1 a0 a1 (a2 ++ [(bits .xor .u8 x1 x2)]) (w64 (a3 + (1 : Int)))))))))))))
noncomputable def Zii (a0 a1 : List Int) : Option Z66 := flow Z5P (.b0 a0 a1)
def Zh7 : Shape := ⟨[.one (.v 27 1 false), .one (.v 27 1 false)], []⟩
noncomputable def ZmR : HMod U := ⟨[[.s 5 1], [.s 5 1]], [], Zh7, ⟨[.one (.own 5 0)], [.row 5 true]⟩, true, 1389, fun (y : Z66) => (((), ()), (y.q0, ())), fun x => Zii x.1.1.1 x.1.2.1.1, ⟨⟨⟨by decide, fun _ => rfl⟩, ⟨⟨by decide, fun _ => rfl⟩, trivial⟩⟩, trivial⟩⟩
def Zi0 : Lay := ⟨[0, 1, 5, 6], [[.s 5 1], [.s 5 1], [.own 5 1], [.keep]], [.row true], ⟨[.one (.v 27 1 false), .one (.v 27 1 false), .one (.own 5 0), .one (.v 3 1 false)], [.row 5 true]⟩⟩
def Zid : Lay := ⟨[0, 1, 5, 6], [[.s 5 1], [.s 5 1], [.own 5 1], [.keep]], [.row true], ⟨[.one (.v 27 1 false), .one (.v 27 1 false), .one (.own 5 0), .one (.v 3 1 false)], [.row 5 true]⟩⟩
def Zvs : Nat → Option Lay
  | 3 => some Zi0
  | 5 => some Zid
  | _ => none
noncomputable def Zsz : Zij → Spot U
  | .b0 a0 a1 => entH Tryz.f152 Zh7 (((a0, ()), ((a1, ()), ())), ())
  | .b1 a0 a1 a2 a3 => spL Tryz.f152 [1, 1, 0, 1, 0, 0, 0, 0] Zi0 (((a0, ()), ((a1, ()), ((), ((a3, ()), ())))), (a2, ()))
  | .b2 a0 a1 a2 a3 => spL Tryz.f152 [1, 1, 0, 1, 0, 0, 1, 0, 0] Zid (((a0, ()), ((a1, ()), ((), ((a3, ()), ())))), (a2, ()))
theorem Zpj : BlkH 152 Tryz.f152 msN hsN Zvs [[.own 5 1]] [.row true] 0 ZmR Z5P Zsz
  | .b0 _ _ => by kernel_rfl
  | .b1 _ _ _ _ => by kernel_rfl
  | .b2 _ _ _ _ => by kernel_rfl
theorem Zsc : HFnOK Tryz.prog B0 152 ZmR := okH Zpj (fun x => .b0 x.1.1.1 x.1.2.1.1) (fun x => by kernel_rfl) (by kernel_rfl) Tryz.func152 (by kernel_rfl) (by kernel_rfl) (fun x => by kernel_rfl) (fun x => by kernel_rfl)
inductive Zez where
  | b0 (a0 a1 : Int) (a2 a3 : List Int)
noncomputable def Zej : Zez → Tr U ((List Int) ⊕ Zez)
  | .b0 a0 a1 a2 a3 => .bind 27 (Z99 a0 a1 (↑a3.length : Int)) (fun (x1 : List Int) => .bind 1389 (Zii a3 x1) (fun (y2 : Z66) => .chk (y2.q0.length == y2.q0.length) ( .bind 27 (Zie a0 a1 a2 y2.q0) (fun (x3 : List Int) => .chk (y2.q0.length == y2.q0.length) ( .chk (decide ((y2.q0.length + x3.length) * 1 ≤ lim) && decide (y2.q0.length + x3.length ≤ maxLen)) ( .chk ((y2.q0 ++ x3).length == (y2.q0 ++ x3).length) ( .leaf (.inl (y2.q0 ++ x3)))))))))
noncomputable def Z7B (a0 a1 : Int) (a2 a3 : List Int) : Option (List Int) := flow Zej (.b0 a0 a1 a2 a3)
noncomputable def Zs6 : Mod U := ⟨[24, 23, 27, 27], 27, fun x => Z7B x.1 x.2.1 x.2.2.1 x.2.2.2.1, by decide⟩
noncomputable def Zqg : Zez → Spot U
  | .b0 a0 a1 a2 a3 => entP Tryz.f79 [24, 23, 27, 27] (a0, a1, a2, a3, ())
theorem Zn6 : BlkP 79 Tryz.f79 (mc Zlm (mc Zsu msN)) (hc [] Zsc hsN) AN 27 Zej Zqg
  | .b0 _ _ _ _ => by kernel_rfl
theorem Zhf : FnOK Tryz.prog B0 79 Zs6 := okP Zn6 (fun x => .b0 x.1 x.2.1 x.2.2.1 x.2.2.2.1) (by kernel_rfl) Tryz.func79 (by kernel_rfl) (by kernel_rfl) (fun _ => rfl) (fun _ => rfl)
inductive Z9Q where
  | b0 (a0 : Int) (a1 : ByteArray) (a2 : List Int)
  | b1 (a0 : Int) (a1 a2 : List Int) (a3 : Int)
noncomputable def Z30 : Z9Q → Tr U (Int ⊕ Z9Q)
  | .b0 a0 a1 a2 => .chk (okStr U 5 a1) ( .chk (([(0 : Int)]).length == 1) ( .chk ((Z1d U 5 a1).length == (Z1d U 5 a1).length) ( .chk (decide (((Z1d U 5 a1).length + ([(0 : Int)]).length) * 1 ≤ lim) && decide ((Z1d U 5 a1).length + ([(0 : Int)]).length ≤ maxLen)) ( .chk (((Z1d U 5 a1) ++ [(0 : Int)]).length == ((Z1d U 5 a1) ++ [(0 : Int)]).length) ( .leaf (.inr (.b1 a0 a2 ((Z1d U 5 a1) ++ [(0 : Int)]) (0 : Int))))))))
  | .b1 a0 a1 a2 a3 => .br (decide (a3 < (↑a1.length : Int))) ( .chk (decide (0 ≤ a3 ∧ a3 < (↑a1.length : Int))) ( .bind 23 (a1[(Int.toNat a3)]?) (fun (x1 : Int) => .bind 1388 (ZG (8 : Int) x1) (fun (y2 : Z0t) => .chk (y2.q0.length == y2.q0.length) ( .chk (a2.length == a2.length) ( .chk (decide ((a2.length + y2.q0.length) * 1 ≤ lim) && decide (a2.length + y2.q0.length ≤ maxLen)) ( .chk ((a2 ++ y2.q0).length == (a2 ++ y2.q0).length) ( .leaf (.inr (.b1 a0 a1 (a2 ++ y2.q0) (w64 (a3 + (1 : Int))))))))))))) ( .chk (a2.length == a2.length) ( .bind 23 (Z74 a0 a2) (fun (x3 : Int) => .leaf (.inl x3))))
noncomputable def Z6d (a0 : Int) (a1 : ByteArray) (a2 : List Int) : Option Int := flow Z30 (.b0 a0 a1 a2)
noncomputable def ZnA : Mod U := ⟨[24, 9, 188], 24, fun x => Z6d x.1 x.2.1 x.2.2.1, by decide⟩
def ZaI : Lay := ⟨[0, 2, 7, 8], [[.keep], [.s 23 1], [.own 5 1], [.keep]], [.row true], ⟨[.one (.v 24 1 false), .one (.v 188 1 false), .one (.own 5 0), .one (.v 3 1 false)], [.row 5 true]⟩⟩
def ZoT : Nat → Option Lay
  | 3 => some ZaI
  | _ => none
noncomputable def Zll : Z9Q → Spot U
  | .b0 a0 a1 a2 => entP Tryz.f44 [24, 9, 188] (a0, a1, a2, ())
  | .b1 a0 a1 a2 a3 => spL Tryz.f44 [1, 1, 0, 1, 0, 0, 0, 0] ZaI (((a0, ()), ((a1, ()), ((), ((a3, ()), ())))), (a2, ()))
theorem Zjh : BlkP 44 Tryz.f44 (mc Zkl msN) (hc [] Z36 hsN) ZoT 24 Z30 Zll
  | .b0 _ _ _ => by kernel_rfl
  | .b1 _ _ _ _ => by kernel_rfl
theorem Zd5 : FnOK Tryz.prog B0 44 ZnA := okP Zjh (fun x => .b0 x.1 x.2.1 x.2.2.1) (by kernel_rfl) Tryz.func44 (by kernel_rfl) (by kernel_rfl) (fun _ => rfl) (fun _ => rfl)
inductive ZbV where
  | b0 (a0 a1 a2 a3 : Int)
noncomputable def Zb8 : ZbV → Tr U (Int ⊕ ZbV)
  | .b0 a0 a1 a2 a3 => .chk (([(IntKind.wrap .u64 (a0)), (IntKind.wrap .u64 (a1)), (IntKind.wrap .u64 (a2)), (IntKind.wrap .u64 (a3))]).length == 4) ( .bind 24 (Z6d (0 : Int) (⟨#[110, 111, 110, 99, 101]⟩ : ByteArray) ([(IntKind.wrap .u64 (a0)), (IntKind.wrap .u64 (a1)), (IntKind.wrap .u64 (a2)), (IntKind.wrap .u64 (a3))])) (fun (x1 : Int) => .leaf (.inl x1)))
noncomputable def Z5z (a0 a1 a2 a3 : Int) : Option Int := flow Zb8 (.b0 a0 a1 a2 a3)
noncomputable def Zq9 : Mod U := ⟨[3, 22, 33, 33], 23, fun x => Z5z x.1 x.2.1 x.2.2.1 x.2.2.2.1, by decide⟩
noncomputable def Zoo : ZbV → Spot U
  | .b0 a0 a1 a2 a3 => entP Tryz.f138 [3, 22, 33, 33] (a0, a1, a2, a3, ())
theorem ZlV : BlkP 138 Tryz.f138 (mc Zd5 msN) hsN AN 23 Zb8 Zoo
  | .b0 _ _ _ _ => by kernel_rfl
theorem Zfr : FnOK Tryz.prog B0 138 Zq9 := okP ZlV (fun x => .b0 x.1 x.2.1 x.2.2.1 x.2.2.2.1) (by kernel_rfl) Tryz.func138 (by kernel_rfl) (by kernel_rfl) (fun _ => rfl) (fun _ => rfl)
inductive ZbB where
  | b0 (a0 : Bool) (a1 : Za)
noncomputable def Z8b : ZbB → Tr U (Int ⊕ ZbB)
  | .b0 a0 a1 => .br a0 ( .bind 23 (Z5z (1 : Int) a1.Src a1.Seq a1.IV) (fun (x1 : Int) => .leaf (.inl x1))) ( .bind 23 (Z5z (2 : Int) a1.Src a1.Seq a1.IV) (fun (x2 : Int) => .leaf (.inl x2)))
noncomputable def ZbS (a0 : Bool) (a1 : Za) : Option Int := flow Z8b (.b0 a0 a1)
noncomputable def Zqj : Mod U := ⟨[4, 64], 23, fun x => ZbS x.1 x.2.1, by decide⟩
noncomputable def ZmE : ZbB → Spot U
  | .b0 a0 a1 => entP Tryz.f80 [4, 64] (a0, a1, ())
theorem Zlg : BlkP 80 Tryz.f80 (mc Zfr msN) hsN AN 23 Z8b ZmE
  | .b0 _ _ => by kernel_rfl
theorem ZnV : FnOK Tryz.prog B0 80 Zqj := okP Zlg (fun x => .b0 x.1 x.2.1) (by kernel_rfl) Tryz.func80 (by kernel_rfl) (by kernel_rfl) (fun _ => rfl) (fun _ => rfl)
inductive Z8m where
  | b0 (a0 : Int) (a1 : Bool) (a2 : Za) (a3 : Int) (a4 : List Int)
noncomputable def Z85 : Z8m → Tr U ((List Int) ⊕ Z8m)
  | .b0 a0 a1 a2 a3 a4 => .bind 23 (ZbS a1 a2) (fun (x1 : Int) => .bind 1388 (ZG (2 : Int) (IntKind.wrap .u64 (a3))) (fun (y2 : Z0t) => .chk (y2.q0.length == y2.q0.length) ( .bind 27 (Z7B a0 x1 y2.q0 a4) (fun (x3 : List Int) => .leaf (.inl x3)))))
noncomputable def Z7T (a0 : Int) (a1 : Bool) (a2 : Za) (a3 : Int) (a4 : List Int) : Option (List Int) := flow Z85 (.b0 a0 a1 a2 a3 a4)
noncomputable def ZkH : Mod U := ⟨[24, 4, 64, 22, 27], 27, fun x => Z7T x.1 x.2.1 x.2.2.1 x.2.2.2.1 x.2.2.2.2.1, by decide⟩
noncomputable def Zj2 : Z8m → Spot U
  | .b0 a0 a1 a2 a3 a4 => entP Tryz.f33 [24, 4, 64, 22, 27] (a0, a1, a2, a3, a4, ())
theorem ZhA : BlkP 33 Tryz.f33 (mc Zhf (mc ZnV msN)) (hc [] Z36 hsN) AN 27 Z85 Zj2
  | .b0 _ _ _ _ _ => by kernel_rfl
theorem ZiC : FnOK Tryz.prog B0 33 ZkH := okP ZhA (fun x => .b0 x.1 x.2.1 x.2.2.1 x.2.2.2.1 x.2.2.2.2.1) (by kernel_rfl) Tryz.func33 (by kernel_rfl) (by kernel_rfl) (fun _ => rfl) (fun _ => rfl)
inductive Z9N where
  | b0 (a0 : Z8) (a1 : Bool)
noncomputable def ZfK : Z9N → Tr U (Int ⊕ Z9N)
  | .b0 a0 a1 => .br a1 ( .leaf (.inl a0.App)) ( .leaf (.inl a0.Device))
noncomputable def Za1 (a0 : Z8) (a1 : Bool) : Option Int := flow ZfK (.b0 a0 a1)
noncomputable def Zmu : Mod U := ⟨[50, 4], 24, fun x => Za1 x.1 x.2.1, by decide⟩
noncomputable def Zly : Z9N → Spot U
  | .b0 a0 a1 => entP Tryz.f34 [50, 4] (a0, a1, ())
theorem ZiF : BlkP 34 Tryz.f34 msN hsN AN 24 ZfK Zly
  | .b0 _ _ => by kernel_rfl
theorem Zmi : FnOK Tryz.prog B0 34 Zmu := okP ZiF (fun x => .b0 x.1 x.2.1) (by kernel_rfl) Tryz.func34 (by kernel_rfl) (by kernel_rfl) (fun _ => rfl) (fun _ => rfl)
inductive ZbR where
  | b0 (a0 : Int)
  | b1 (a0 : Int)
noncomputable def Z64 : ZbR → Tr U (Int ⊕ ZbR)
  | .b0 a0 => .br (decide (a0 < (1 : Int))) ( .leaf (.inl (0 : Int))) ( .br (decide (a0 > (384 : Int))) ( .leaf (.inl (0 : Int))) ( .leaf (.inr (.b1 a0))))
  | .b1 a0 => .br (decide (a0 ≤ (15 : Int))) ( .leaf (.inl (1 : Int))) ( .leaf (.inl (w64 (Int.tdiv (w64 ((w64 (a0 + (12 : Int))) - (1 : Int))) (12 : Int)))))
noncomputable def Z88 (a0 : Int) : Option Int := flow Z64 (.b0 a0)
noncomputable def Zq0 : Mod U := ⟨[3], 3, fun x => Z88 x.1, by decide⟩
def Zd3 : Lay := ⟨[0], [[.keep]], [], ⟨[.one (.v 3 1 false)], []⟩⟩
def ZpU : Nat → Option Lay
  | 3 => some Zd3
  | _ => none
noncomputable def Znl : ZbR → Spot U
  | .b0 a0 => entP Tryz.f82 [3] (a0, ())
  | .b1 a0 => spL Tryz.f82 [1, 1, 0, 0] Zd3 (((a0, ()), ()), ())
theorem Zlh : BlkP 82 Tryz.f82 msN hsN ZpU 3 Z64 Znl
  | .b0 _ => by kernel_rfl
  | .b1 _ => by kernel_rfl
theorem Zo5 : FnOK Tryz.prog B0 82 Zq0 := okP Zlh (fun x => .b0 x.1) (by kernel_rfl) Tryz.func82 (by kernel_rfl) (by kernel_rfl) (fun _ => rfl) (fun _ => rfl)
inductive ZkC where
  | b0 (a0 : List Z6) (a1 : Int)
  | b1 (a0 : List Z6) (a1 a2 : Int)
noncomputable def Z7N : ZkC → Tr U (Bool ⊕ ZkC)
  | .b0 a0 a1 => .leaf (.inr (.b1 a0 a1 (0 : Int)))
  | .b1 a0 a1 a2 => .br (decide (a2 < (↑a0.length : Int))) ( .chk (decide (0 ≤ a2 ∧ a2 < (↑a0.length : Int))) ( .bind 101 (a0[(Int.toNat a2)]?) (fun (x1 : Z6) => .br (x1.Dst == a1) ( .leaf (.inl true)) ( .leaf (.inr (.b1 a0 a1 (w64 (a2 + (1 : Int))))))))) ( .leaf (.inl false))
noncomputable def Zm6 (a0 : List Z6) (a1 : Int) : Option Bool := flow Z7N (.b0 a0 a1)
noncomputable def Zwt : Mod U := ⟨[39, 22], 4, fun x => Zm6 x.1 x.2.1, by decide⟩
def Zkw : Lay := ⟨[0, 1, 5], [[.s 101 10], [.keep], [.keep]], [], ⟨[.one (.v 39 1 false), .one (.v 22 1 false), .one (.v 3 1 false)], []⟩⟩
def ZvU : Nat → Option Lay
  | 2 => some Zkw
  | _ => none
noncomputable def ZuA : ZkC → Spot U
  | .b0 a0 a1 => entP Tryz.f83 [39, 22] (a0, a1, ())
  | .b1 a0 a1 a2 => spL Tryz.f83 [1, 0, 1, 0, 0, 0, 0] Zkw (((a0, ()), ((a1, ()), ((a2, ()), ()))), ())
theorem Zs3 : BlkP 83 Tryz.f83 msN hsN ZvU 4 Z7N ZuA
  | .b0 _ _ => by kernel_rfl
  | .b1 _ _ _ => by kernel_rfl
theorem Zvv : FnOK Tryz.prog B0 83 Zwt := okP Zs3 (fun x => .b0 x.1 x.2.1) (by kernel_rfl) Tryz.func83 (by kernel_rfl) (by kernel_rfl) (fun _ => rfl) (fun _ => rfl)
inductive Z8z where
  | b0 (a0 : Z6) (a1 : Int)
noncomputable def Z7H : Z8z → Tr U (Z5 ⊕ Z8z)
  | .b0 a0 a1 => .chk (decide (0 ≤ a1 ∧ a1 < (↑a0.Parts.length : Int))) ( .bind 27 (a0.Parts[(Int.toNat a1)]?) (fun (x1 : List Int) => .chk (([] : List Int).length == 0) ( .chk (decide ((0 + x1.length) * 1 ≤ lim) && decide (0 + x1.length ≤ maxLen)) ( .chk ((([] : List Int) ++ x1).length == (([] : List Int) ++ x1).length) ( .leaf (.inl (⟨false, true, a0.App, (w64 ((Int.tmod a0.Zero (8192 : Int)))), a1, (w64 ((↑a0.Parts.length : Int) - (1 : Int))), (0 : Int), (0 : Int), false, (([] : List Int) ++ x1)⟩ : Z5)))))))
noncomputable def Z7M (a0 : Z6) (a1 : Int) : Option Z5 := flow Z7H (.b0 a0 a1)
noncomputable def ZlU : Mod U := ⟨[101, 3], 106, fun x => Z7M x.1 x.2.1, by decide⟩
noncomputable def Zjn : Z8z → Spot U
  | .b0 a0 a1 => entP Tryz.f84 [101, 3] (a0, a1, ())
theorem Zin : BlkP 84 Tryz.f84 msN hsN AN 106 Z7H Zjn
  | .b0 _ _ => by kernel_rfl
theorem Zjq : FnOK Tryz.prog B0 84 ZlU := okP Zin (fun x => .b0 x.1 x.2.1) (by kernel_rfl) Tryz.func84 (by kernel_rfl) (by kernel_rfl) (fun _ => rfl) (fun _ => rfl)
inductive Zf1 where
  | b0 (a0 : Z7) (a1 : Zt) (a2 : Int)
  | b1 (a0 a1 : Z7)
  | b2 (a0 a1 : Int) (a2 : Bool) (a3 : Z7) (a4 : Zt) (a5 : Z7)
  | b3 (a0 a1 : Z7)
  | b4 (a0 a1 : Int) (a2 : Bool) (a3 : Z7) (a4 : Zt) (a5 : Z7)
  | b5 (a0 a1 : Z7)
  | b6 (a0 a1 : Int) (a2 : Bool) (a3 : Z7) (a4 : Zt) (a5 : Z7)
  | b7 (a0 a1 : Int) (a2 : Z7) (a3 : Zt) (a4 : Z7) (a5 : Z6)
  | b8 (a0 : List Z5) (a1 : Int) (a2 a3 : Z7) (a4 : Z6)
noncomputable def ZP : Zf1 → Tr U ((Z7 × (List Z5) × Int) ⊕ Zf1)
  | .b0 a0 a1 a2 => .bind 4 (Z3T a1.Src) (fun (x1 : Bool) => .br (!x1) ( .chk ((([] : List Z6).length == 0) && (([] : List Z9).length == 0)) ( .leaf (.inr (.b1 a0 (⟨([] : List Z6), ([] : List Z9)⟩ : Z7))))) ( .bind 4 (Z3T a1.Dst) (fun (x2 : Bool) => .br (!x2) ( .bind 4 (Z5A a1.Dst) (fun (x3 : Bool) => .br (!x3) ( .chk ((([] : List Z6).length == 0) && (([] : List Z9).length == 0)) ( .leaf (.inr (.b1 a0 (⟨([] : List Z6), ([] : List Z9)⟩ : Z7))))) ( .br ((↑a1.Bytes.length : Int) == (0 : Int)) ( .chk ((([] : List Z6).length == 0) && (([] : List Z9).length == 0)) ( .leaf (.inr (.b1 a0 (⟨([] : List Z6), ([] : List Z9)⟩ : Z7))))) ( .chk ((([] : List Z6).length == 0) && (([] : List Z9).length == 0)) ( .leaf (.inr (.b2 a2 (↑a1.Bytes.length : Int) (decide ((↑a1.Bytes.length : Int) > (15 : Int))) a0 a1 (⟨([] : List Z6), ([] : List Z9)⟩ : Z7)))))))) ( .br ((↑a1.Bytes.length : Int) == (0 : Int)) ( .chk ((([] : List Z6).length == 0) && (([] : List Z9).length == 0)) ( .leaf (.inr (.b1 a0 (⟨([] : List Z6), ([] : List Z9)⟩ : Z7))))) ( .chk ((([] : List Z6).length == 0) && (([] : List Z9).length == 0)) ( .leaf (.inr (.b2 a2 (↑a1.Bytes.length : Int) (decide ((↑a1.Bytes.length : Int) > (15 : Int))) a0 a1 (⟨([] : List Z6), ([] : List Z9)⟩ : Z7)))))))))
  | .b1 a0 a1 => .chk (([] : List Z5).length == 0) ( .leaf (.inl (a0, ([] : List Z5), (1 : Int))))
  | .b2 a0 a1 a2 a3 a4 a5 => .bind 3 (Z88 a1) (fun (x1 : Int) => .br (x1 == (0 : Int)) ( .chk (([] : List Z5).length == 0) ( .leaf (.inl (a3, ([] : List Z5), (4 : Int))))) ( .bind 3 (Z88 a1) (fun (x2 : Int) => .br (decide ((IntKind.wrap .u64 ((IntKind.wrap .u64 ((IntKind.wrap .u64 (a4.Seq.Seq)) + (IntKind.wrap .u64 (x2)))) - (1 : Int))) > (16777215 : Int))) ( .chk (([] : List Z5).length == 0) ( .leaf (.inl (a3, ([] : List Z5), (5 : Int))))) ( .br a2 ( .bind 4 (Zm6 a3.Out a4.Dst) (fun (x3 : Bool) => .br x3 ( .chk ((a5.Out.length == a5.Out.length) && (a5.In.length == a5.In.length)) ( .leaf (.inr (.b3 a3 a5)))) ( .chk ((a5.Out.length == a5.Out.length) && (a5.In.length == a5.In.length)) ( .leaf (.inr (.b4 a0 a1 a2 a3 a4 a5)))))) ( .chk ((a5.Out.length == a5.Out.length) && (a5.In.length == a5.In.length)) ( .leaf (.inr (.b4 a0 a1 a2 a3 a4 a5))))))))
  | .b3 a0 a1 => .chk (([] : List Z5).length == 0) ( .leaf (.inl (a0, ([] : List Z5), (20 : Int))))
  | .b4 a0 a1 a2 a3 a4 a5 => .br a2 ( .br (decide ((↑a3.Out.length : Int) ≥ (8 : Int))) ( .chk ((a5.Out.length == a5.Out.length) && (a5.In.length == a5.In.length)) ( .leaf (.inr (.b5 a3 a5)))) ( .chk ((a5.Out.length == a5.Out.length) && (a5.In.length == a5.In.length)) ( .leaf (.inr (.b6 a0 a1 a2 a3 a4 a5))))) ( .chk ((a5.Out.length == a5.Out.length) && (a5.In.length == a5.In.length)) ( .leaf (.inr (.b6 a0 a1 a2 a3 a4 a5))))
  | .b5 a0 a1 => .chk (([] : List Z5).length == 0) ( .leaf (.inl (a0, ([] : List Z5), (8 : Int))))
  | .b6 a0 a1 a2 a3 a4 a5 => .br (!a2) ( .chk (([] : List Int).length == 0) ( .chk (decide ((0 + a4.Bytes.length) * 1 ≤ lim) && decide (0 + a4.Bytes.length ≤ maxLen)) ( .chk ((([] : List Int) ++ a4.Bytes).length == (([] : List Int) ++ a4.Bytes).length) ( .chk (([(⟨false, false, a4.App, (0 : Int), (0 : Int), (0 : Int), (0 : Int), (0 : Int), false, (([] : List Int) ++ a4.Bytes)⟩ : Z5)]).length == 1) ( .leaf (.inl (a3, [(⟨false, false, a4.App, (0 : Int), (0 : Int), (0 : Int), (0 : Int), (0 : Int), false, (([] : List Int) ++ a4.Bytes)⟩ : Z5)], (0 : Int)))))))) ( .chk ((a5.Out.length == a5.Out.length) && ((a5.In.length == a5.In.length) && (([] : List (List Int)).length == 0))) ( .leaf (.inr (.b7 a1 (0 : Int) a3 a4 a5 (⟨a4.Dst, a4.Src, a4.App, a4.Seq.Seq, a4.Seq.IV, ([] : List (List Int)), (0 : Int), (w64 (a0 + (20 : Int))), (1 : Int), a4.TTL⟩ : Z6)))))
  | .b7 a0 a1 a2 a3 a4 a5 => .br (decide (a1 < a0)) ( .chk (decide (0 ≤ (if (w64 (a1 + (12 : Int))) < a0 then (w64 (a1 + (12 : Int))) else a0) ∧ (if (w64 (a1 + (12 : Int))) < a0 then (w64 (a1 + (12 : Int))) else a0) ≤ (↑a3.Bytes.length : Int))) ( .chk (decide (0 ≤ a1 ∧ a1 ≤ (↑(Int.toNat (if (w64 (a1 + (12 : Int))) < a0 then (w64 (a1 + (12 : Int))) else a0)) : Int))) ( .chk (([] : List Int).length == 0) ( .chk (decide ((0 + ((a3.Bytes.drop (Int.toNat a1)).take ((Int.toNat (if (w64 (a1 + (12 : Int))) < a0 then (w64 (a1 + (12 : Int))) else a0)) - (Int.toNat a1))).length) * 1 ≤ lim) && decide (0 + ((a3.Bytes.drop (Int.toNat a1)).take ((Int.toNat (if (w64 (a1 + (12 : Int))) < a0 then (w64 (a1 + (12 : Int))) else a0)) - (Int.toNat a1))).length ≤ maxLen)) ( .chk ((([] : List Int) ++ ((a3.Bytes.drop (Int.toNat a1)).take ((Int.toNat (if (w64 (a1 + (12 : Int))) < a0 then (w64 (a1 + (12 : Int))) else a0)) - (Int.toNat a1)))).length == (([] : List Int) ++ ((a3.Bytes.drop (Int.toNat a1)).take ((Int.toNat (if (w64 (a1 + (12 : Int))) < a0 then (w64 (a1 + (12 : Int))) else a0)) - (Int.toNat a1)))).length) ( .chk (([(([] : List Int) ++ ((a3.Bytes.drop (Int.toNat a1)).take ((Int.toNat (if (w64 (a1 + (12 : Int))) < a0 then (w64 (a1 + (12 : Int))) else a0)) - (Int.toNat a1))))]).length == 1) ( .chk (a5.Parts.length == a5.Parts.length) ( .chk (decide ((a5.Parts.length + ([(([] : List Int) ++ ((a3.Bytes.drop (Int.toNat a1)).take ((Int.toNat (if (w64 (a1 + (12 : Int))) < a0 then (w64 (a1 + (12 : Int))) else a0)) - (Int.toNat a1))))]).length) * 24 ≤ lim) && decide (a5.Parts.length + ([(([] : List Int) ++ ((a3.Bytes.drop (Int.toNat a1)).take ((Int.toNat (if (w64 (a1 + (12 : Int))) < a0 then (w64 (a1 + (12 : Int))) else a0)) - (Int.toNat a1))))]).length ≤ maxLen)) ( .chk ((a4.Out.length == a4.Out.length) && ((a4.In.length == a4.In.length) && ((a5.Parts ++ [(([] : List Int) ++ ((a3.Bytes.drop (Int.toNat a1)).take ((Int.toNat (if (w64 (a1 + (12 : Int))) < a0 then (w64 (a1 + (12 : Int))) else a0)) - (Int.toNat a1))))]).length == (a5.Parts ++ [(([] : List Int) ++ ((a3.Bytes.drop (Int.toNat a1)).take ((Int.toNat (if (w64 (a1 + (12 : Int))) < a0 then (w64 (a1 + (12 : Int))) else a0)) - (Int.toNat a1))))]).length))) ( .leaf (.inr (.b7 a0 (w64 (a1 + (12 : Int))) a2 a3 a4 ({ a5 with Parts := (a5.Parts ++ [(([] : List Int) ++ ((a3.Bytes.drop (Int.toNat a1)).take ((Int.toNat (if (w64 (a1 + (12 : Int))) < a0 then (w64 (a1 + (12 : Int))) else a0)) - (Int.toNat a1))))]) } : Z6))))))))))))) ( .chk ((([] : List Z5).length == 0) && ((a4.Out.length == a4.Out.length) && ((a4.In.length == a4.In.length) && ((a5.Parts.length == a5.Parts.length) && (a5.Parts.length == a5.Parts.length))))) ( .leaf (.inr (.b8 ([] : List Z5) (0 : Int) a2 a4 a5))))
  | .b8 a0 a1 a2 a3 a4 => .chk (a4.Parts.length == a4.Parts.length) ( .br (decide (a1 < (↑a4.Parts.length : Int))) ( .chk (a4.Parts.length == a4.Parts.length) ( .bind 106 (Z7M a4 a1) (fun (x1 : Z5) => .chk (([x1]).length == 1) ( .chk (a0.length == a0.length) ( .chk (decide ((a0.length + ([x1]).length) * 72 ≤ lim) && decide (a0.length + ([x1]).length ≤ maxLen)) ( .chk (((a0 ++ [x1]).length == (a0 ++ [x1]).length) && ((a3.Out.length == a3.Out.length) && ((a3.In.length == a3.In.length) && ((a4.Parts.length == a4.Parts.length) && (a4.Parts.length == a4.Parts.length))))) ( .leaf (.inr (.b8 (a0 ++ [x1]) (w64 (a1 + (1 : Int))) a2 a3 a4))))))))) ( .chk (([] : List Z6).length == 0) ( .chk (decide ((0 + a2.Out.length) * 72 ≤ lim) && decide (0 + a2.Out.length ≤ maxLen)) ( .chk (a4.Parts.length == a4.Parts.length) ( .chk (([a4]).length == 1) ( .chk ((([] : List Z6) ++ a2.Out).length == (([] : List Z6) ++ a2.Out).length) ( .chk (decide (((([] : List Z6) ++ a2.Out).length + ([a4]).length) * 72 ≤ lim) && decide ((([] : List Z6) ++ a2.Out).length + ([a4]).length ≤ maxLen)) ( .chk (((([] : List Z6) ++ a2.Out) ++ [a4]).length == ((([] : List Z6) ++ a2.Out) ++ [a4]).length) ( .chk (a0.length == a0.length) ( .leaf (.inl ((⟨((([] : List Z6) ++ a2.Out) ++ [a4]), a2.In⟩ : Z7), a0, (0 : Int)))))))))))))
noncomputable def Ze1 (a0 : Z7) (a1 : Zt) (a2 : Int) : Option (Z7 × (List Z5) × Int) := flow ZP (.b0 a0 a1 a2)
noncomputable def Zt1 : Mod U := ⟨[42, 66, 3], 113, fun x => Ze1 x.1 x.2.1 x.2.2.1, by decide⟩
def Zfk : Lay := ⟨[3, 6], [[.keep], [.keep]], [.var [.s 101 10, .s 104 11], .var [.own 101 10, .own 104 11], .row true, .row true], ⟨[.one (.ptr 0), .one (.ptr 1)], [.var 42 2 (.agg [.v 42 2 true]), .var 42 2 (.agg [.own 101 2, .own 104 3]), .row 101 true, .row 104 true]⟩⟩
def Zfv : Lay := ⟨[2, 3, 4, 6, 9, 10], [[.keep], [.keep], [.keep], [.keep], [.keep], [.keep]], [.var [.s 101 10, .s 104 11], .var k2, .var [.own 101 10, .own 104 11], .row true, .row true], ⟨[.one (.v 3 1 false), .one (.ptr 0), .one (.ptr 1), .one (.ptr 2), .one (.v 3 1 false), .one (.v 4 1 false)], [.var 42 2 (.agg [.v 42 2 true]), .var 66 8 (.agg [.v 66 8 true]), .var 42 2 (.agg [.own 101 3, .own 104 4]), .row 101 true, .row 104 true]⟩⟩
def ZfU : Lay := ⟨[3, 6], [[.keep], [.keep]], [.var [.s 101 10, .s 104 11], .var [.own 101 10, .own 104 11], .row true, .row true], ⟨[.one (.ptr 0), .one (.ptr 1)], [.var 42 2 (.agg [.v 42 2 true]), .var 42 2 (.agg [.own 101 2, .own 104 3]), .row 101 true, .row 104 true]⟩⟩
def Zft : Lay := ⟨[2, 3, 4, 6, 9, 10], [[.keep], [.keep], [.keep], [.keep], [.keep], [.keep]], [.var [.s 101 10, .s 104 11], .var k2, .var [.own 101 10, .own 104 11], .row true, .row true], ⟨[.one (.v 3 1 false), .one (.ptr 0), .one (.ptr 1), .one (.ptr 2), .one (.v 3 1 false), .one (.v 4 1 false)], [.var 42 2 (.agg [.v 42 2 true]), .var 66 8 (.agg [.v 66 8 true]), .var 42 2 (.agg [.own 101 3, .own 104 4]), .row 101 true, .row 104 true]⟩⟩
def ZfC : Lay := ⟨[3, 6], [[.keep], [.keep]], [.var [.s 101 10, .s 104 11], .var [.own 101 10, .own 104 11], .row true, .row true], ⟨[.one (.ptr 0), .one (.ptr 1)], [.var 42 2 (.agg [.v 42 2 true]), .var 42 2 (.agg [.own 101 2, .own 104 3]), .row 101 true, .row 104 true]⟩⟩
def ZfI : Lay := ⟨[2, 3, 4, 6, 9, 10], [[.keep], [.keep], [.keep], [.keep], [.keep], [.keep]], [.var [.s 101 10, .s 104 11], .var k2, .var [.own 101 10, .own 104 11], .row true, .row true], ⟨[.one (.v 3 1 false), .one (.ptr 0), .one (.ptr 1), .one (.ptr 2), .one (.v 3 1 false), .one (.v 4 1 false)], [.var 42 2 (.agg [.v 42 2 true]), .var 66 8 (.agg [.v 66 8 true]), .var 42 2 (.agg [.own 101 3, .own 104 4]), .row 101 true, .row 104 true]⟩⟩
def ZfH : Lay := ⟨[3, 4, 6, 9, 11, 12], [[.keep], [.keep], [.keep], [.keep], [.keep], [.keep]], [.var [.s 101 10, .s 104 11], .var k2, .var [.own 101 10, .own 104 11], .var k8, .row true, .row true, .row true], ⟨[.one (.ptr 0), .one (.ptr 1), .one (.ptr 2), .one (.v 3 1 false), .one (.ptr 3), .one (.v 3 1 false)], [.var 42 2 (.agg [.v 42 2 true]), .var 66 8 (.agg [.v 66 8 true]), .var 42 2 (.agg [.own 101 4, .own 104 5]), .var 101 10 (.agg [.v 22 1 false, .v 22 1 false, .v 4 1 false, .v 33 1 false, .v 33 1 false, .own 27 6, .v 33 1 false, .v 3 1 false, .v 3 1 false, .v 3 1 false]), .row 101 true, .row 104 true, .row 27 true]⟩⟩
def ZfM : Lay := ⟨[3, 6, 11, 13, 14], [[.keep], [.keep], [.keep], [.own 106 10], [.keep]], [.var [.s 101 10, .s 104 11], .var [.own 101 10, .own 104 11], .var k8, .row true, .row true, .row true, .row false], ⟨[.one (.ptr 0), .one (.ptr 1), .one (.ptr 2), .one (.own 106 3), .one (.v 3 1 false)], [.var 42 2 (.agg [.v 42 2 true]), .var 42 2 (.agg [.own 101 4, .own 104 5]), .var 101 10 (.agg [.v 22 1 false, .v 22 1 false, .v 4 1 false, .v 33 1 false, .v 33 1 false, .own 27 6, .v 33 1 false, .v 3 1 false, .v 3 1 false, .v 3 1 false]), .row 106 true, .row 101 true, .row 104 true, .row 27 false]⟩⟩
def Ztd : Nat → Option Lay
  | 4 => some Zfk
  | 5 => some Zfv
  | 10 => some ZfU
  | 11 => some Zft
  | 12 => some ZfC
  | 13 => some ZfI
  | 17 => some ZfH
  | 22 => some ZfM
  | _ => none
noncomputable def ZpF : Zf1 → Spot U
  | .b0 a0 a1 a2 => entP Tryz.f35 [42, 66, 3] (a0, a1, a2, ())
  | .b1 a0 a1 => spL Tryz.f35 [1, 1, 1, 0, 0, 1, 0, 0] Zfk (((), ((), ())), ((a0, ()), ((), (a1.Out, (a1.In, ())))))
  | .b2 a0 a1 a2 a3 a4 a5 => spL Tryz.f35 [1, 1, 1, 0, 0, 1, 1, 0] Zfv (((a0, ()), ((), ((), ((), ((a1, ()), ((a2, ()), ())))))), ((a3, ()), ((a4, ()), ((), (a5.Out, (a5.In, ()))))))
  | .b3 a0 a1 => spL Tryz.f35 [1, 1, 1, 0, 0, 1, 1, 1, 1, 1, 1, 1, 0, 0] ZfU (((), ((), ())), ((a0, ()), ((), (a1.Out, (a1.In, ())))))
  | .b4 a0 a1 a2 a3 a4 a5 => spL Tryz.f35 [1, 1, 1, 0, 0, 1, 1, 1, 1, 1, 1, 1, 1, 0] Zft (((a0, ()), ((), ((), ((), ((a1, ()), ((a2, ()), ())))))), ((a3, ()), ((a4, ()), ((), (a5.Out, (a5.In, ()))))))
  | .b5 a0 a1 => spL Tryz.f35 [1, 1, 1, 0, 0, 1, 1, 1, 1, 1, 1, 1, 1, 1, 0, 0] ZfC (((), ((), ())), ((a0, ()), ((), (a1.Out, (a1.In, ())))))
  | .b6 a0 a1 a2 a3 a4 a5 => spL Tryz.f35 [1, 1, 1, 0, 0, 1, 1, 1, 1, 1, 1, 1, 1, 1, 1, 0] ZfI (((a0, ()), ((), ((), ((), ((a1, ()), ((a2, ()), ())))))), ((a3, ()), ((a4, ()), ((), (a5.Out, (a5.In, ()))))))
  | .b7 a0 a1 a2 a3 a4 a5 => spL Tryz.f35 [1, 1, 1, 1, 1, 0, 1, 0, 0, 0, 0] ZfH (((), ((), ((), ((a0, ()), ((), ((a1, ()), ())))))), ((a2, ()), ((a3, ()), ((), ((a5.Dst, (a5.Src, (a5.App, (a5.Zero, (a5.IV, (a5.Acked, (a5.Due, (a5.Tries, (a5.TTL, ()))))))))), (a4.Out, (a4.In, (a5.Parts, ()))))))))
  | .b8 a0 a1 a2 a3 a4 => spL Tryz.f35 [1, 1, 1, 1, 1, 1, 1, 0, 1, 0, 0, 0, 0] ZfM (((), ((), ((), ((), ((a1, ()), ()))))), ((a2, ()), ((), ((a4.Dst, (a4.Src, (a4.App, (a4.Zero, (a4.IV, (a4.Acked, (a4.Due, (a4.Tries, (a4.TTL, ()))))))))), (a0, (a3.Out, (a3.In, (a4.Parts, ()))))))))
theorem ZmY : BlkP 35 Tryz.f35 (mc ZbH (mc Z9j (mc Zo5 (mc Zvv (mc Zjq msN))))) hsN Ztd 113 ZP ZpF
  | .b0 _ _ _ => by kernel_rfl
  | .b1 _ _ => by kernel_rfl
  | .b2 _ _ _ _ _ _ => by kernel_rfl
  | .b3 _ _ => by kernel_rfl
  | .b4 _ _ _ _ _ _ => by kernel_rfl
  | .b5 _ _ => by kernel_rfl
  | .b6 _ _ _ _ _ _ => by kernel_rfl
  | .b7 _ _ _ _ _ _ => by kernel_rfl
  | .b8 _ _ _ _ _ => by kernel_rfl
theorem ZqE : FnOK Tryz.prog B0 35 Zt1 := okP ZmY (fun x => .b0 x.1 x.2.1 x.2.2.1) (by kernel_rfl) Tryz.func35 (by kernel_rfl) (by kernel_rfl) (fun _ => rfl) (fun _ => rfl)
end Go.Proofs.YtefmbgacbhifdaaGreat
namespace Go.Proofs.YtefmbgacbhifdaaGreat
open Go Go.Proofs.YtefmbgacbhifdaaGreat.Le
set_option maxRecDepth 100000
inductive ZbG where
  | b0 (a0 a1 : List Int)
  | b1 (a0 a1 a2 : List Int) (a3 : Int)
  | b2 (a0 a1 a2 : List Int) (a3 : Int)
noncomputable def Z2U : ZbG → Tr U (Z2F ⊕ ZbG)
  | .b0 a0 a1 => .chk ((a1.length == a1.length) && (([] : List Int).length == 0)) ( .leaf (.inr (.b1 a0 a1 ([] : List Int) (0 : Int))))
  | .b1 a0 a1 a2 a3 => .br (decide (a3 < (↑a0.length : Int))) ( .chk (a1.length == a1.length) ( .br (decide (a3 < (↑a1.length : Int))) ( .chk ((a1.length == a1.length) && (a2.length == a2.length)) ( .leaf (.inr (.b2 a0 a1 a2 a3)))) ( .chk (a2.length == a2.length) ( .leaf (.inl (⟨a2, a1⟩ : Z2F)))))) ( .chk (a2.length == a2.length) ( .leaf (.inl (⟨a2, a1⟩ : Z2F))))
  | .b2 a0 a1 a2 a3 => .chk (decide (0 ≤ a3 ∧ a3 < (↑a0.length : Int))) ( .bind 5 (a0[(Int.toNat a3)]?) (fun (x1 : Int) => .chk (a1.length == a1.length) ( .chk (decide (0 ≤ a3 ∧ a3 < (↑a1.length : Int))) ( .chk (a1.length == a1.length) ( .bind 5 (a1[(Int.toNat a3)]?) (fun (x2 : Int) => .chk (([(bits .xor .u8 x1 x2)]).length == 1) ( .chk (a2.length == a2.length) ( .chk (decide ((a2.length + ([(bits .xor .u8 x1 x2)]).length) * 1 ≤ lim) && decide (a2.length + ([(bits .xor .u8 x1 x2)]).length ≤ maxLen)) ( .chk ((a1.length == a1.length) && ((a2 ++ [(bits .xor .u8 x1 x2)]).length == (a2 ++ [(bits .xor .u8 x1 x2)]).length)) ( .leaf (.inr (.b1 a0 a1 (a2 ++ [(bits .xor .u8 x1 x2)]) (w64 (a3 + (1 : Int)))))))))))))))
noncomputable def ZbQ (a0 a1 : List Int) : Option Z2F := flow Z2U (.b0 a0 a1)
def Zdu : Shape := ⟨[.one (.v 27 1 false), .one (.own 5 0)], [.row 5 true]⟩
noncomputable def Ziy : HMod U := ⟨[[.s 5 1], [.own 5 1]], [.row true], Zdu, ⟨[.one (.own 5 1)], [.row 5 true, .row 5 true]⟩, true, 1391, fun (y : Z2F) => (((), ()), (y.q1, (y.q0, ()))), fun x => ZbQ x.1.1.1 x.2.1, ⟨⟨⟨by decide, fun _ => rfl⟩, ⟨trivial, trivial⟩⟩, ⟨by decide, trivial⟩⟩⟩
def Zcs : Lay := ⟨[0, 1, 5, 6], [[.s 5 1], [.own 5 1], [.own 5 1], [.keep]], [.row true, .row true], ⟨[.one (.v 27 1 false), .one (.own 5 0), .one (.own 5 1), .one (.v 3 1 false)], [.row 5 true, .row 5 true]⟩⟩
def Zdc : Lay := ⟨[0, 1, 5, 6], [[.s 5 1], [.own 5 1], [.own 5 1], [.keep]], [.row true, .row true], ⟨[.one (.v 27 1 false), .one (.own 5 0), .one (.own 5 1), .one (.v 3 1 false)], [.row 5 true, .row 5 true]⟩⟩
def Zqu : Nat → Option Lay
  | 3 => some Zcs
  | 5 => some Zdc
  | _ => none
noncomputable def ZoU : ZbG → Spot U
  | .b0 a0 a1 => entH Tryz.f152 Zdu (((a0, ()), ((), ())), (a1, ()))
  | .b1 a0 a1 a2 a3 => spL Tryz.f152 [1, 1, 0, 1, 0, 0, 0, 0] Zcs (((a0, ()), ((), ((), ((a3, ()), ())))), (a1, (a2, ())))
  | .b2 a0 a1 a2 a3 => spL Tryz.f152 [1, 1, 0, 1, 0, 0, 1, 0, 0] Zdc (((a0, ()), ((), ((), ((a3, ()), ())))), (a1, (a2, ())))
theorem ZkY : BlkH 152 Tryz.f152 msN hsN Zqu [[.own 5 1]] [.row true, .row true] 1 Ziy Z2U ZoU
  | .b0 _ _ => by kernel_rfl
  | .b1 _ _ _ _ => by kernel_rfl
  | .b2 _ _ _ _ => by kernel_rfl
theorem ZmF : HFnOK Tryz.prog B0 152 Ziy := okH ZkY (fun x => .b0 x.1.1.1 x.2.1) (fun x => by kernel_rfl) (by kernel_rfl) Tryz.func152 (by kernel_rfl) (by kernel_rfl) (fun x => by kernel_rfl) (fun x => by kernel_rfl)
inductive Zf6 where
  | b0 (a0 : Zd) (a1 : Int) (a2 a3 : List Int)
noncomputable def Zey : Zf6 → Tr U ((List Int) ⊕ Zf6)
  | .b0 a0 a1 a2 a3 => .chk (decide (0 ≤ (7 : Int) ∧ (7 : Int) ≤ (↑a3.length : Int))) ( .bind 23 (Z82 ((a3.drop 0).take ((Int.toNat (7 : Int)) - 0))) (fun (x1 : Int) => .chk (([(IntKind.wrap .u64 (a1)), x1]).length == 2) ( .bind 24 (Z6d a0.Hide (⟨#[104, 105, 100, 101]⟩ : ByteArray) ([(IntKind.wrap .u64 (a1)), x1])) (fun (x2 : Int) => .bind 1388 (ZG (6 : Int) x2) (fun (y3 : Z0t) => .chk (y3.q0.length == y3.q0.length) ( .bind 1391 (ZbQ a2 y3.q0) (fun (y4 : Z2F) => .chk (y4.q0.length == y4.q0.length) ( .leaf (.inl y4.q0)))))))))
noncomputable def ZdQ (a0 : Zd) (a1 : Int) (a2 a3 : List Int) : Option (List Int) := flow Zey (.b0 a0 a1 a2 a3)
noncomputable def Ztb : Mod U := ⟨[30, 33, 27, 27], 27, fun x => ZdQ x.1 x.2.1 x.2.2.1 x.2.2.2.1, by decide⟩
noncomputable def Zq4 : Zf6 → Spot U
  | .b0 a0 a1 a2 a3 => entP Tryz.f135 [30, 33, 27, 27] (a0, a1, a2, a3, ())
theorem Zn8 : BlkP 135 Tryz.f135 (mc Zd5 (mc Zfs msN)) (hc [] Z36 (hc [] ZmF hsN)) AN 27 Zey Zq4
  | .b0 _ _ _ _ => by kernel_rfl
theorem Zqy : FnOK Tryz.prog B0 135 Ztb := okP Zn8 (fun x => .b0 x.1 x.2.1 x.2.2.1 x.2.2.2.1) (by kernel_rfl) Tryz.func135 (by kernel_rfl) (by kernel_rfl) (fun _ => rfl) (fun _ => rfl)
inductive ZbU where
  | b0 (a0 : Zc)
  | b1 (a0 : Zc)
  | b2 (a0 : Zc)
noncomputable def Z2T : ZbU → Tr U (Int ⊕ ZbU)
  | .b0 a0 => .br (decide (a0.NID < (0 : Int))) ( .leaf (.inl (5 : Int))) ( .br (decide (a0.NID > (127 : Int))) ( .leaf (.inl (5 : Int))) ( .br (decide (a0.TTL < (0 : Int))) ( .leaf (.inl (5 : Int))) ( .br (decide (a0.TTL > (127 : Int))) ( .leaf (.inl (5 : Int))) ( .br (decide (a0.Seq > (16777215 : Int))) ( .leaf (.inl (5 : Int))) ( .leaf (.inr (.b1 a0)))))))
  | .b1 a0 => .bind 4 (Z3T a0.Src) (fun (x1 : Bool) => .br (!x1) ( .leaf (.inl (1 : Int))) ( .bind 4 (Z3T a0.Dst) (fun (x2 : Bool) => .br (!x2) ( .bind 4 (Z5A a0.Dst) (fun (x3 : Bool) => .br (!x3) ( .leaf (.inl (1 : Int))) ( .br ((↑a0.Payload.length : Int) == (0 : Int)) ( .leaf (.inl (1 : Int))) ( .leaf (.inr (.b2 a0)))))) ( .br ((↑a0.Payload.length : Int) == (0 : Int)) ( .leaf (.inl (1 : Int))) ( .leaf (.inr (.b2 a0)))))))
  | .b2 a0 => .br (decide ((↑a0.Payload.length : Int) > (16 : Int))) ( .leaf (.inl (4 : Int))) ( .leaf (.inl (0 : Int)))
noncomputable def Zbt (a0 : Zc) : Option Int := flow Z2T (.b0 a0)
noncomputable def Zps : Mod U := ⟨[90], 51, fun x => Zbt x.1, by decide⟩
def Zcw : Lay := ⟨[1], [[.keep]], [.var k2], ⟨[.one (.ptr 0)], [.var 90 8 (.agg [.v 90 8 true])]⟩⟩
def Zdk : Lay := ⟨[1], [[.keep]], [.var k2], ⟨[.one (.ptr 0)], [.var 90 8 (.agg [.v 90 8 true])]⟩⟩
def ZqH : Nat → Option Lay
  | 3 => some Zcw
  | 5 => some Zdk
  | _ => none
noncomputable def Zot : ZbU → Spot U
  | .b0 a0 => entP Tryz.f139 [90] (a0, ())
  | .b1 a0 => spL Tryz.f139 [1, 1, 0, 0] Zcw (((), ()), ((a0, ()), ()))
  | .b2 a0 => spL Tryz.f139 [1, 1, 1, 0, 0] Zdk (((), ()), ((a0, ()), ()))
theorem Zlj : BlkP 139 Tryz.f139 (mc ZbH (mc Z9j msN)) hsN ZqH 51 Z2T Zot
  | .b0 _ => by kernel_rfl
  | .b1 _ => by kernel_rfl
  | .b2 _ => by kernel_rfl
theorem ZmM : FnOK Tryz.prog B0 139 Zps := okP Zlj (fun x => .b0 x.1) (by kernel_rfl) Tryz.func139 (by kernel_rfl) (by kernel_rfl) (fun _ => rfl) (fun _ => rfl)
inductive Z81 where
  | b0 (a0 : Zc)
noncomputable def Z8w : Z81 → Tr U (Int ⊕ Z81)
  | .b0 a0 => .br a0.Control ( .leaf (.inl (IntKind.wrap .u8 ((w64 (a0.TTL + (128 : Int))))))) ( .leaf (.inl (IntKind.wrap .u8 (a0.TTL))))
noncomputable def Z58 (a0 : Zc) : Option Int := flow Z8w (.b0 a0)
noncomputable def Zlc : Mod U := ⟨[90], 5, fun x => Z58 x.1, by decide⟩
noncomputable def Zjx : Z81 → Spot U
  | .b0 a0 => entP Tryz.f200 [90] (a0, ())
theorem ZhH : BlkP 200 Tryz.f200 msN hsN AN 5 Z8w Zjx
  | .b0 _ => by kernel_rfl
theorem Zj9 : FnOK Tryz.prog B0 200 Zlc := okP ZhH (fun x => .b0 x.1) (by kernel_rfl) Tryz.func200 (by kernel_rfl) (by kernel_rfl) (fun _ => rfl) (fun _ => rfl)
inductive Z9K where
  | b0 (a0 : Zd) (a1 : Zc)
noncomputable def Z9x : Z9K → Tr U (((List Int) × Int) ⊕ Z9K)
  | .b0 a0 a1 => .bind 51 (Zbt a1) (fun (x1 : Int) => .br (x1 != (0 : Int)) ( .chk (([] : List Int).length == 0) ( .leaf (.inl (([] : List Int), x1)))) ( .br (a1.NID != a0.NID) ( .chk (([] : List Int).length == 0) ( .leaf (.inl (([] : List Int), (17 : Int))))) ( .bind 1388 (ZG (2 : Int) (IntKind.wrap .u64 (a1.Dst))) (fun (y2 : Z0t) => .chk (y2.q0.length == y2.q0.length) ( .chk (decide ((y2.q0.length + a1.Payload.length) * 1 ≤ lim) && decide (y2.q0.length + a1.Payload.length ≤ maxLen)) ( .bind 23 (Z5z (0 : Int) a1.Src a1.Seq a1.IV) (fun (x3 : Int) => .bind 5 (Z58 a1) (fun (x4 : Int) => .chk (([x4]).length == 1) ( .chk ((y2.q0 ++ a1.Payload).length == (y2.q0 ++ a1.Payload).length) ( .bind 27 (Z7B a0.Encrypt x3 ([x4]) (y2.q0 ++ a1.Payload)) (fun (x5 : List Int) => .bind 5 (Z58 a1) (fun (x6 : Int) => .bind 1388 (ZG (3 : Int) (IntKind.wrap .u64 (a1.Seq))) (fun (y7 : Z0t) => .chk (y7.q0.length == y7.q0.length) ( .chk (([x6]).length == 1) ( .chk (decide ((1 + y7.q0.length) * 1 ≤ lim) && decide (1 + y7.q0.length ≤ maxLen)) ( .bind 1388 (ZG (2 : Int) (IntKind.wrap .u64 (a1.Src))) (fun (y8 : Z0t) => .chk (y8.q0.length == y8.q0.length) ( .chk (([x6] ++ y7.q0).length == ([x6] ++ y7.q0).length) ( .chk (decide ((([x6] ++ y7.q0).length + y8.q0.length) * 1 ≤ lim) && decide (([x6] ++ y7.q0).length + y8.q0.length ≤ maxLen)) ( .chk ((([x6] ++ y7.q0) ++ y8.q0).length == (([x6] ++ y7.q0) ++ y8.q0).length) ( .bind 27 (ZdQ a0 a1.IV (([x6] ++ y7.q0) ++ y8.q0) x5) (fun (x9 : List Int) => .chk (([(IntKind.wrap .u8 ((IntKind.wrap .u32 ((IntKind.wrap .u32 (a1.NID)) + (IntKind.wrap .u32 ((Int.tmod a1.IV (2 : Int)) * (128 : Int)))))))]).length == 1) ( .chk (decide ((1 + x9.length) * 1 ≤ lim) && decide (1 + x9.length ≤ maxLen)) ( .chk (([(IntKind.wrap .u8 ((IntKind.wrap .u32 ((IntKind.wrap .u32 (a1.NID)) + (IntKind.wrap .u32 ((Int.tmod a1.IV (2 : Int)) * (128 : Int)))))))] ++ x9).length == ([(IntKind.wrap .u8 ((IntKind.wrap .u32 ((IntKind.wrap .u32 (a1.NID)) + (IntKind.wrap .u32 ((Int.tmod a1.IV (2 : Int)) * (128 : Int)))))))] ++ x9).length) ( .chk (decide ((([(IntKind.wrap .u8 ((IntKind.wrap .u32 ((IntKind.wrap .u32 (a1.NID)) + (IntKind.wrap .u32 ((Int.tmod a1.IV (2 : Int)) * (128 : Int)))))))] ++ x9).length + x5.length) * 1 ≤ lim) && decide (([(IntKind.wrap .u8 ((IntKind.wrap .u32 ((IntKind.wrap .u32 (a1.NID)) + (IntKind.wrap .u32 ((Int.tmod a1.IV (2 : Int)) * (128 : Int)))))))] ++ x9).length + x5.length ≤ maxLen)) ( .chk ((([(IntKind.wrap .u8 ((IntKind.wrap .u32 ((IntKind.wrap .u32 (a1.NID)) + (IntKind.wrap .u32 ((Int.tmod a1.IV (2 : Int)) * (128 : Int)))))))] ++ x9) ++ x5).length == (([(IntKind.wrap .u8 ((IntKind.wrap .u32 ((IntKind.wrap .u32 (a1.NID)) + (IntKind.wrap .u32 ((Int.tmod a1.IV (2 : Int)) * (128 : Int)))))))] ++ x9) ++ x5).length) ( .leaf (.inl ((([(IntKind.wrap .u8 ((IntKind.wrap .u32 ((IntKind.wrap .u32 (a1.NID)) + (IntKind.wrap .u32 ((Int.tmod a1.IV (2 : Int)) * (128 : Int)))))))] ++ x9) ++ x5), (0 : Int))))))))))))))))))))))))))))))
noncomputable def Z9A (a0 : Zd) (a1 : Zc) : Option ((List Int) × Int) := flow Z9x (.b0 a0 a1)
noncomputable def ZoA : Mod U := ⟨[30, 90], 205, fun x => Z9A x.1 x.2.1, by decide⟩
noncomputable def ZlD : Z9K → Spot U
  | .b0 a0 a1 => entP Tryz.f120 [30, 90] (a0, a1, ())
theorem Zj4 : BlkP 120 Tryz.f120 (mc Zhf (mc Zqy (mc Zfr (mc ZmM (mc Zj9 msN))))) (hc [] Z36 hsN) AN 205 Z9x ZlD
  | .b0 _ _ => by kernel_rfl
theorem ZkI : FnOK Tryz.prog B0 120 ZoA := okP Zj4 (fun x => .b0 x.1 x.2.1) (by kernel_rfl) Tryz.func120 (by kernel_rfl) (by kernel_rfl) (fun _ => rfl) (fun _ => rfl)
inductive ZbJ where
  | b0 (a0 : Z8) (a1 : Int) (a2 : List Int)
noncomputable def Zbq : ZbJ → Tr U (Z8 ⊕ ZbJ)
  | .b0 a0 a1 a2 => .chk (([] : List Zb).length == 0) ( .chk (decide ((0 + a0.Out.length) * 40 ≤ lim) && decide (0 + a0.Out.length ≤ maxLen)) ( .chk (([(⟨a1, a2, (0 : Int)⟩ : Zb)]).length == 1) ( .chk ((([] : List Zb) ++ a0.Out).length == (([] : List Zb) ++ a0.Out).length) ( .chk (decide (((([] : List Zb) ++ a0.Out).length + ([(⟨a1, a2, (0 : Int)⟩ : Zb)]).length) * 40 ≤ lim) && decide ((([] : List Zb) ++ a0.Out).length + ([(⟨a1, a2, (0 : Int)⟩ : Zb)]).length ≤ maxLen)) ( .chk (((([] : List Zb) ++ a0.Out) ++ [(⟨a1, a2, (0 : Int)⟩ : Zb)]).length == ((([] : List Zb) ++ a0.Out) ++ [(⟨a1, a2, (0 : Int)⟩ : Zb)]).length) ( .leaf (.inl ({ a0 with Out := ((([] : List Zb) ++ a0.Out) ++ [(⟨a1, a2, (0 : Int)⟩ : Zb)]) } : Z8))))))))
noncomputable def Zca (a0 : Z8) (a1 : Int) (a2 : List Int) : Option Z8 := flow Zbq (.b0 a0 a1 a2)
noncomputable def Zpf : Mod U := ⟨[50, 3, 27], 50, fun x => Zca x.1 x.2.1 x.2.2.1, by decide⟩
noncomputable def Zng : ZbJ → Spot U
  | .b0 a0 a1 a2 => entP Tryz.f121 [50, 3, 27] (a0, a1, a2, ())
theorem ZkR : BlkP 121 Tryz.f121 msN hsN AN 50 Zbq Zng
  | .b0 _ _ _ => by kernel_rfl
theorem ZnK : FnOK Tryz.prog B0 121 Zpf := okP ZkR (fun x => .b0 x.1 x.2.1 x.2.2.1) (by kernel_rfl) Tryz.func121 (by kernel_rfl) (by kernel_rfl) (fun _ => rfl) (fun _ => rfl)
inductive ZkE where
  | b0 (a0 : List Int) (a1 : Int)
  | b1 (a0 : List Int) (a1 a2 : Int)
noncomputable def Zrq : ZkE → Tr U (Bool ⊕ ZkE)
  | .b0 a0 a1 => .leaf (.inr (.b1 a0 a1 (0 : Int)))
  | .b1 a0 a1 a2 => .br (decide (a2 < (↑a0.length : Int))) ( .chk (decide (0 ≤ a2 ∧ a2 < (↑a0.length : Int))) ( .bind 22 (a0[(Int.toNat a2)]?) (fun (x1 : Int) => .br (x1 == a1) ( .leaf (.inl true)) ( .leaf (.inr (.b1 a0 a1 (w64 (a2 + (1 : Int))))))))) ( .leaf (.inl false))
noncomputable def Zri (a0 : List Int) (a1 : Int) : Option Bool := flow Zrq (.b0 a0 a1)
noncomputable def Zwr : Mod U := ⟨[36, 22], 4, fun x => Zri x.1 x.2.1, by decide⟩
def Zki : Lay := ⟨[0, 1, 5], [[.s 22 1], [.keep], [.keep]], [], ⟨[.one (.v 36 1 false), .one (.v 22 1 false), .one (.v 3 1 false)], []⟩⟩
def Zwa : Nat → Option Lay
  | 2 => some Zki
  | _ => none
noncomputable def ZtU : ZkE → Spot U
  | .b0 a0 a1 => entP Tryz.f201 [36, 22] (a0, a1, ())
  | .b1 a0 a1 a2 => spL Tryz.f201 [1, 0, 1, 0, 0, 0, 0] Zki (((a0, ()), ((a1, ()), ((a2, ()), ()))), ())
theorem ZsV : BlkP 201 Tryz.f201 msN hsN Zwa 4 Zrq ZtU
  | .b0 _ _ => by kernel_rfl
  | .b1 _ _ _ => by kernel_rfl
theorem Zvc : FnOK Tryz.prog B0 201 Zwr := okP ZsV (fun x => .b0 x.1 x.2.1) (by kernel_rfl) Tryz.func201 (by kernel_rfl) (by kernel_rfl) (fun _ => rfl) (fun _ => rfl)
inductive Zce where
  | b0 (a0 : Zk) (a1 : Int)
noncomputable def Zb6 : Zce → Tr U (Bool ⊕ Zce)
  | .b0 a0 a1 => .br (a0.Low != (0 : Int)) ( .br (a1 == a0.Low) ( .leaf (.inl true)) ( .br (a1 == (65535 : Int)) ( .leaf (.inl true)) ( .bind 4 (Zri a0.Subs a1) (fun (x1 : Bool) => .leaf (.inl x1))))) ( .leaf (.inl false))
noncomputable def Zbz (a0 : Zk) (a1 : Int) : Option Bool := flow Zb6 (.b0 a0 a1)
noncomputable def ZpP : Mod U := ⟨[45, 22], 4, fun x => Zbz x.1 x.2.1, by decide⟩
noncomputable def ZnN : Zce → Spot U
  | .b0 a0 a1 => entP Tryz.f122 [45, 22] (a0, a1, ())
theorem ZkX : BlkP 122 Tryz.f122 (mc Zvc msN) hsN AN 4 Zb6 ZnN
  | .b0 _ _ => by kernel_rfl
theorem Znh : FnOK Tryz.prog B0 122 ZpP := okP ZkX (fun x => .b0 x.1 x.2.1) (by kernel_rfl) Tryz.func122 (by kernel_rfl) (by kernel_rfl) (fun _ => rfl) (fun _ => rfl)
inductive Z6z where
  | b0 (a0 : Z5)
noncomputable def ZaU : Z6z → Tr U (Bool ⊕ Z6z)
  | .b0 a0 => .br a0.Control ( .leaf (.inl (a0.Opcode != (0 : Int)))) ( .leaf (.inl false))
noncomputable def ZaD (a0 : Z5) : Option Bool := flow ZaU (.b0 a0)
noncomputable def Zjk : Mod U := ⟨[106], 4, fun x => ZaD x.1, by decide⟩
noncomputable def Zh6 : Z6z → Spot U
  | .b0 a0 => entP Tryz.f123 [106] (a0, ())
theorem Zgd : BlkP 123 Tryz.f123 msN hsN AN 4 ZaU Zh6
  | .b0 _ => by kernel_rfl
theorem Zim : FnOK Tryz.prog B0 123 Zjk := okP Zgd (fun x => .b0 x.1) (by kernel_rfl) Tryz.func123 (by kernel_rfl) (by kernel_rfl) (fun _ => rfl) (fun _ => rfl)
inductive Ze4 where
  | b0 (a0 : Z8)
  | b1 (a0 a1 : Z8)
noncomputable def Za8 : Ze4 → Tr U ((Z8 × Int) ⊕ Ze4)
  | .b0 a0 => .br (a0.Seq == a0.Stored) ( .leaf (.inr (.b1 ({ a0 with Stored := (IntKind.wrap .u32 (a0.Stored + (100 : Int))) } : Z8) (⟨(0 : Int), (0 : Int), (0 : Int), Z0L, Z0a, (0 : Int), false, false, ([] : List Int), ([] : List Za), ([] : List Za), (⟨([] : List Z6), ([] : List Z9)⟩ : Z7), (⟨(0 : Int), ([] : List Ze), ([] : List Int), (0 : Int), false, (0 : Int), (0 : Int), (0 : Int)⟩ : Zk), (⟨(0 : Int), (0 : Int), (0 : Int), (0 : Int), (0 : Int), (0 : Int), ([] : List Int), (0 : Int), false, (0 : Int)⟩ : Zm), ([] : List Zb), (0 : Int), false⟩ : Z8)))) ( .leaf (.inr (.b1 a0 (⟨(0 : Int), (0 : Int), (0 : Int), Z0L, Z0a, (0 : Int), false, false, ([] : List Int), ([] : List Za), ([] : List Za), (⟨([] : List Z6), ([] : List Z9)⟩ : Z7), (⟨(0 : Int), ([] : List Ze), ([] : List Int), (0 : Int), false, (0 : Int), (0 : Int), (0 : Int)⟩ : Zk), (⟨(0 : Int), (0 : Int), (0 : Int), (0 : Int), (0 : Int), (0 : Int), ([] : List Int), (0 : Int), false, (0 : Int)⟩ : Zm), ([] : List Zb), (0 : Int), false⟩ : Z8))))
  | .b1 a0 a1 => .leaf (.inl (({ a0 with Seq := (IntKind.wrap .u32 (a0.Seq + (1 : Int))) } : Z8), (IntKind.wrap .u32 ((IntKind.wrap .u32 (a0.Seq + (1 : Int))) - (1 : Int)))))
noncomputable def Zf8 (a0 : Z8) : Option (Z8 × Int) := flow Za8 (.b0 a0)
noncomputable def ZsI : Mod U := ⟨[50], 238, fun x => Zf8 x.1, by decide⟩
def Zfj : Lay := ⟨[1, 2], [[.keep], [.keep]], [.var k0, .var k0], ⟨[.one (.ptr 0), .one (.ptr 1)], [.var 50 46 (.agg [.v 50 46 true]), .var 50 46 (.agg [.v 50 46 true])]⟩⟩
def ZsO : Nat → Option Lay
  | 3 => some Zfj
  | _ => none
noncomputable def Zpe : Ze4 → Spot U
  | .b0 a0 => entP Tryz.f155 [50] (a0, ())
  | .b1 a0 a1 => spL Tryz.f155 [1, 1, 0] Zfj (((), ((), ())), ((a0, ()), ((a1, ()), ())))
theorem Zny : BlkP 155 Tryz.f155 msN hsN ZsO 238 Za8 Zpe
  | .b0 _ => by kernel_rfl
  | .b1 _ _ => by kernel_rfl
theorem Zq6 : FnOK Tryz.prog B0 155 ZsI := okP Zny (fun x => .b0 x.1) (by kernel_rfl) Tryz.func155 (by kernel_rfl) (by kernel_rfl) (fun _ => rfl) (fun _ => rfl)
inductive Z6K where
  | b0 (a0 a1 : Z5)
noncomputable def Z6N : Z6K → Tr U (Bool ⊕ Z6K)
  | .b0 a0 a1 => .br (a0.Control == a1.Control) ( .br (a0.Segmented == a1.Segmented) ( .br (a0.App == a1.App) ( .br (a0.Zero == a1.Zero) ( .br (a0.Index == a1.Index) ( .br (a0.Last == a1.Last) ( .br (a0.Opcode == a1.Opcode) ( .br (a0.Block == a1.Block) ( .leaf (.inl (a0.Friend == a1.Friend))) ( .leaf (.inl false))) ( .leaf (.inl false))) ( .leaf (.inl false))) ( .leaf (.inl false))) ( .leaf (.inl false))) ( .leaf (.inl false))) ( .leaf (.inl false))) ( .leaf (.inl false))
noncomputable def Z70 (a0 a1 : Z5) : Option Bool := flow Z6N (.b0 a0 a1)
noncomputable def ZiR : Mod U := ⟨[106, 106], 4, fun x => Z70 x.1 x.2.1, by decide⟩
noncomputable def ZgP : Z6K → Spot U
  | .b0 a0 a1 => entP Tryz.f280 [106, 106] (a0, a1, ())
theorem Zgo : BlkP 280 Tryz.f280 msN hsN AN 4 Z6N ZgP
  | .b0 _ _ => by kernel_rfl
theorem ZhW : FnOK Tryz.prog B0 280 ZiR := okP Zgo (fun x => .b0 x.1 x.2.1) (by kernel_rfl) Tryz.func280 (by kernel_rfl) (by kernel_rfl) (fun _ => rfl) (fun _ => rfl)
inductive ZeU where
  | b0 (a0 : Z5)
  | b1 (a0 a1 : Z5)
  | b2 (a0 a1 : Z5)
noncomputable def Z5m : ZeU → Tr U (Z5 ⊕ ZeU)
  | .b0 a0 => .br a0.Control ( .br (a0.Opcode == (0 : Int)) ( .leaf (.inr (.b1 a0 (⟨false, false, false, (0 : Int), (0 : Int), (0 : Int), (0 : Int), (0 : Int), false, ([] : List Int)⟩ : Z5)))) ( .leaf (.inr (.b2 a0 (⟨false, false, false, (0 : Int), (0 : Int), (0 : Int), (0 : Int), (0 : Int), false, ([] : List Int)⟩ : Z5))))) ( .leaf (.inr (.b2 a0 (⟨false, false, false, (0 : Int), (0 : Int), (0 : Int), (0 : Int), (0 : Int), false, ([] : List Int)⟩ : Z5))))
  | .b1 a0 a1 => .leaf (.inl (⟨true, false, false, a0.Zero, (0 : Int), (0 : Int), (0 : Int), a0.Block, a0.Friend, []⟩ : Z5))
  | .b2 a0 a1 => .br a0.Control ( .leaf (.inl (⟨true, false, false, (0 : Int), (0 : Int), (0 : Int), a0.Opcode, (0 : Int), false, []⟩ : Z5))) ( .br a0.Segmented ( .leaf (.inl (⟨false, true, a0.App, a0.Zero, a0.Index, a0.Last, (0 : Int), (0 : Int), false, []⟩ : Z5))) ( .leaf (.inl (⟨false, false, a0.App, (0 : Int), (0 : Int), (0 : Int), (0 : Int), (0 : Int), false, []⟩ : Z5))))
noncomputable def Zet (a0 : Z5) : Option Z5 := flow Z5m (.b0 a0)
noncomputable def ZsR : Mod U := ⟨[106], 106, fun x => Zet x.1, by decide⟩
def ZfO : Lay := ⟨[1, 2], [[.keep], [.keep]], [.var k1, .var k1], ⟨[.one (.ptr 0), .one (.ptr 1)], [.var 106 10 (.agg [.v 106 10 true]), .var 106 10 (.agg [.v 106 10 true])]⟩⟩
def ZfB : Lay := ⟨[1, 2], [[.keep], [.keep]], [.var k1, .var k1], ⟨[.one (.ptr 0), .one (.ptr 1)], [.var 106 10 (.agg [.v 106 10 true]), .var 106 10 (.agg [.v 106 10 true])]⟩⟩
def Zss : Nat → Option Lay
  | 2 => some ZfO
  | 3 => some ZfB
  | _ => none
noncomputable def Zqh : ZeU → Spot U
  | .b0 a0 => entP Tryz.f281 [106] (a0, ())
  | .b1 a0 a1 => spL Tryz.f281 [1, 0, 0, 1, 0, 0] ZfO (((), ((), ())), ((a0, ()), ((a1, ()), ())))
  | .b2 a0 a1 => spL Tryz.f281 [1, 0, 0, 1, 1, 0] ZfB (((), ((), ())), ((a0, ()), ((a1, ()), ())))
theorem ZmV : BlkP 281 Tryz.f281 msN hsN Zss 106 Z5m Zqh
  | .b0 _ => by kernel_rfl
  | .b1 _ _ => by kernel_rfl
  | .b2 _ _ => by kernel_rfl
theorem Zqn : FnOK Tryz.prog B0 281 ZsR := okP ZmV (fun x => .b0 x.1) (by kernel_rfl) Tryz.func281 (by kernel_rfl) (by kernel_rfl) (fun _ => rfl) (fun _ => rfl)
inductive Zbk where
  | b0 (a0 : Z5)
  | b1 (a0 : Int) (a1 : Z5)
  | b2 (a0 : Int) (a1 : Z5)
  | b3 (a0 : Int) (a1 : Z5)
  | b4 (a0 : Int) (a1 : Z5)
noncomputable def Z0S : Zbk → Tr U (Int ⊕ Zbk)
  | .b0 a0 => .br a0.Control ( .br (decide (a0.Opcode < (0 : Int))) ( .leaf (.inl (12 : Int))) ( .br (decide (a0.Opcode > (8 : Int))) ( .leaf (.inl (12 : Int))) ( .leaf (.inr (.b1 (↑a0.Bytes.length : Int) a0))))) ( .leaf (.inr (.b1 (↑a0.Bytes.length : Int) a0)))
  | .b1 a0 a1 => .bind 106 (Zet a1) (fun (x1 : Z5) => .bind 4 (Z70 a1 x1) (fun (x2 : Bool) => .br (!x2) ( .leaf (.inl (1 : Int))) ( .br a1.Control ( .br (a1.Opcode == (0 : Int)) ( .br (decide (a0 > (0 : Int))) ( .leaf (.inl (1 : Int))) ( .leaf (.inr (.b2 a0 a1)))) ( .leaf (.inr (.b2 a0 a1)))) ( .leaf (.inr (.b2 a0 a1))))))
  | .b2 a0 a1 => .br (decide (a1.Zero < (0 : Int))) ( .leaf (.inl (5 : Int))) ( .br (decide (a1.Zero > (8191 : Int))) ( .leaf (.inl (5 : Int))) ( .br (decide (a1.Last < (0 : Int))) ( .leaf (.inl (5 : Int))) ( .br (decide (a1.Last > (31 : Int))) ( .leaf (.inl (5 : Int))) ( .br (decide (a1.Index < (0 : Int))) ( .leaf (.inl (5 : Int))) ( .br (decide (a1.Index > a1.Last)) ( .leaf (.inl (5 : Int))) ( .leaf (.inr (.b3 a0 a1))))))))
  | .b3 a0 a1 => .br (!a1.Control) ( .br (a0 == (0 : Int)) ( .leaf (.inl (1 : Int))) ( .br (decide (a1.Index < a1.Last)) ( .br (decide (a0 < (12 : Int))) ( .leaf (.inl (1 : Int))) ( .leaf (.inr (.b4 a0 a1)))) ( .leaf (.inr (.b4 a0 a1))))) ( .br (decide (a1.Index < a1.Last)) ( .br (decide (a0 < (12 : Int))) ( .leaf (.inl (1 : Int))) ( .leaf (.inr (.b4 a0 a1)))) ( .leaf (.inr (.b4 a0 a1))))
  | .b4 a0 a1 => .br (decide (a0 > (15 : Int))) ( .leaf (.inl (4 : Int))) ( .br a1.Segmented ( .br (decide (a0 > (12 : Int))) ( .leaf (.inl (4 : Int))) ( .leaf (.inl (0 : Int)))) ( .leaf (.inl (0 : Int))))
noncomputable def ZbP (a0 : Z5) : Option Int := flow Z0S (.b0 a0)
noncomputable def ZpI : Mod U := ⟨[106], 51, fun x => ZbP x.1, by decide⟩
def Zdi : Lay := ⟨[1, 3], [[.keep], [.keep]], [.var k1], ⟨[.one (.ptr 0), .one (.v 3 1 false)], [.var 106 10 (.agg [.v 106 10 true])]⟩⟩
def ZdL : Lay := ⟨[1, 3], [[.keep], [.keep]], [.var k1], ⟨[.one (.ptr 0), .one (.v 3 1 false)], [.var 106 10 (.agg [.v 106 10 true])]⟩⟩
def Zcj : Lay := ⟨[1, 3], [[.keep], [.keep]], [.var k1], ⟨[.one (.ptr 0), .one (.v 3 1 false)], [.var 106 10 (.agg [.v 106 10 true])]⟩⟩
def Zdt : Lay := ⟨[1, 3], [[.keep], [.keep]], [.var k1], ⟨[.one (.ptr 0), .one (.v 3 1 false)], [.var 106 10 (.agg [.v 106 10 true])]⟩⟩
def ZpJ : Nat → Option Lay
  | 4 => some Zdi
  | 6 => some ZdL
  | 8 => some Zcj
  | 10 => some Zdt
  | _ => none
noncomputable def ZnZ : Zbk → Spot U
  | .b0 a0 => entP Tryz.f233 [106] (a0, ())
  | .b1 a0 a1 => spL Tryz.f233 [1, 1, 1, 0, 0] Zdi (((), ((a0, ()), ())), ((a1, ()), ()))
  | .b2 a0 a1 => spL Tryz.f233 [1, 1, 1, 1, 0, 0] ZdL (((), ((a0, ()), ())), ((a1, ()), ()))
  | .b3 a0 a1 => spL Tryz.f233 [1, 1, 1, 1, 1, 0, 0] Zcj (((), ((a0, ()), ())), ((a1, ()), ()))
  | .b4 a0 a1 => spL Tryz.f233 [1, 1, 1, 1, 1, 1, 0, 0] Zdt (((), ((a0, ()), ())), ((a1, ()), ()))
theorem Zlq : BlkP 233 Tryz.f233 (mc ZhW (mc Zqn msN)) hsN ZpJ 51 Z0S ZnZ
  | .b0 _ => by kernel_rfl
  | .b1 _ _ => by kernel_rfl
  | .b2 _ _ => by kernel_rfl
  | .b3 _ _ => by kernel_rfl
  | .b4 _ _ => by kernel_rfl
theorem ZoY : FnOK Tryz.prog B0 233 ZpI := okP Zlq (fun x => .b0 x.1) (by kernel_rfl) Tryz.func233 (by kernel_rfl) (by kernel_rfl) (fun _ => rfl) (fun _ => rfl)
inductive ZhC where
  | b0 (a0 : Bool) (a1 : Int)
noncomputable def ZoC : ZhC → Tr U (Int ⊕ ZhC)
  | .b0 a0 a1 => .br a0 ( .leaf (.inl a1)) ( .leaf (.inl (0 : Int)))
noncomputable def Za4 (a0 : Bool) (a1 : Int) : Option Int := flow ZoC (.b0 a0 a1)
noncomputable def Zvi : Mod U := ⟨[4, 3], 3, fun x => Za4 x.1 x.2.1, by decide⟩
noncomputable def Zt8 : ZhC → Spot U
  | .b0 a0 a1 => entP Tryz.f234 [4, 3] (a0, a1, ())
theorem Zpp : BlkP 234 Tryz.f234 msN hsN AN 3 ZoC Zt8
  | .b0 _ _ => by kernel_rfl
theorem ZsP : FnOK Tryz.prog B0 234 Zvi := okP Zpp (fun x => .b0 x.1 x.2.1) (by kernel_rfl) Tryz.func234 (by kernel_rfl) (by kernel_rfl) (fun _ => rfl) (fun _ => rfl)
inductive Z9U where
  | b0 (a0 : Z5)
  | b1 (a0 : List Int) (a1 : Z5)
  | b2 (a0 : List Int) (a1 : Z5)
  | b3 (a0 : List Int) (a1 : Z5)
noncomputable def Z1c : Z9U → Tr U (((List Int) × Int) ⊕ Z9U)
  | .b0 a0 => .bind 51 (ZbP a0) (fun (x1 : Int) => .br (x1 != (0 : Int)) ( .chk (([] : List Int).length == 0) ( .leaf (.inl (([] : List Int), x1)))) ( .br a0.Control ( .br (a0.Opcode == (0 : Int)) ( .chk (([(IntKind.wrap .u8 (a0.Opcode))]).length == 1) ( .leaf (.inr (.b1 ([(IntKind.wrap .u8 (a0.Opcode))]) a0)))) ( .chk (([(IntKind.wrap .u8 (a0.Opcode))]).length == 1) ( .leaf (.inr (.b2 ([(IntKind.wrap .u8 (a0.Opcode))]) a0))))) ( .chk (([(IntKind.wrap .u8 (a0.Opcode))]).length == 1) ( .leaf (.inr (.b2 ([(IntKind.wrap .u8 (a0.Opcode))]) a0))))))
  | .b1 a0 a1 => .bind 3 (Za4 a1.Friend (8192 : Int)) (fun (x1 : Int) => .bind 1388 (ZG (2 : Int) (IntKind.wrap .u64 ((w64 (a1.Zero + x1))))) (fun (y2 : Z0t) => .chk (y2.q0.length == y2.q0.length) ( .chk (a0.length == a0.length) ( .chk (decide ((a0.length + y2.q0.length) * 1 ≤ lim) && decide (a0.length + y2.q0.length ≤ maxLen)) ( .bind 1388 (ZG (4 : Int) (IntKind.wrap .u64 (a1.Block))) (fun (y3 : Z0t) => .chk (y3.q0.length == y3.q0.length) ( .chk ((a0 ++ y2.q0).length == (a0 ++ y2.q0).length) ( .chk (decide (((a0 ++ y2.q0).length + y3.q0.length) * 1 ≤ lim) && decide ((a0 ++ y2.q0).length + y3.q0.length ≤ maxLen)) ( .chk (((a0 ++ y2.q0) ++ y3.q0).length == ((a0 ++ y2.q0) ++ y3.q0).length) ( .leaf (.inr (.b3 ((a0 ++ y2.q0) ++ y3.q0) a1))))))))))))
  | .b2 a0 a1 => .br a1.Segmented ( .bind 3 (Za4 a1.App (64 : Int)) (fun (x1 : Int) => .chk (a0.length == a0.length) ( .chk (decide (0 ≤ (0 : Int) ∧ (0 : Int) < (↑a0.length : Int))) ( .chk (a0.length == a0.length && decide (0 ≤ (Int.toNat (0 : Int)))) ( .bind 5 (a0[(Int.toNat (0 : Int))]?) (fun (x2 : Int) => .bind 1388 (ZG (3 : Int) (IntKind.wrap .u64 ((w64 ((w64 (a1.Zero + (w64 (a1.Index * (8192 : Int))))) + (w64 (a1.Last * (262144 : Int)))))))) (fun (y3 : Z0t) => .chk (y3.q0.length == y3.q0.length) ( .chk ((a0.set (Int.toNat (0 : Int)) (IntKind.wrap .u8 ((w64 ((128 : Int) + x1))))).length == a0.length) ( .chk (decide ((a0.length + y3.q0.length) * 1 ≤ lim) && decide (a0.length + y3.q0.length ≤ maxLen)) ( .chk (((a0.set (Int.toNat (0 : Int)) (IntKind.wrap .u8 ((w64 ((128 : Int) + x1))))) ++ y3.q0).length == ((a0.set (Int.toNat (0 : Int)) (IntKind.wrap .u8 ((w64 ((128 : Int) + x1))))) ++ y3.q0).length) ( .leaf (.inr (.b3 ((a0.set (Int.toNat (0 : Int)) (IntKind.wrap .u8 ((w64 ((128 : Int) + x1))))) ++ y3.q0) a1))))))))))))) ( .br (!a1.Control) ( .bind 3 (Za4 a1.App (64 : Int)) (fun (x4 : Int) => .chk (a0.length == a0.length) ( .chk (decide (0 ≤ (0 : Int) ∧ (0 : Int) < (↑a0.length : Int))) ( .chk (a0.length == a0.length && decide (0 ≤ (Int.toNat (0 : Int)))) ( .bind 5 (a0[(Int.toNat (0 : Int))]?) (fun (x5 : Int) => .chk ((a0.set (Int.toNat (0 : Int)) (IntKind.wrap .u8 (x4))).length == a0.length) ( .leaf (.inr (.b3 (a0.set (Int.toNat (0 : Int)) (IntKind.wrap .u8 (x4))) a1))))))))) ( .chk (a0.length == a0.length) ( .leaf (.inr (.b3 a0 a1)))))
  | .b3 a0 a1 => .chk (a0.length == a0.length) ( .chk (decide ((a0.length + a1.Bytes.length) * 1 ≤ lim) && decide (a0.length + a1.Bytes.length ≤ maxLen)) ( .chk ((a0 ++ a1.Bytes).length == (a0 ++ a1.Bytes).length) ( .leaf (.inl ((a0 ++ a1.Bytes), (0 : Int))))))
noncomputable def Z92 (a0 : Z5) : Option ((List Int) × Int) := flow Z1c (.b0 a0)
noncomputable def Zn2 : Mod U := ⟨[106], 205, fun x => Z92 x.1, by decide⟩
def ZaY : Lay := ⟨[1, 5], [[.keep], [.own 5 1]], [.var k1, .row true], ⟨[.one (.ptr 0), .one (.own 5 1)], [.var 106 10 (.agg [.v 106 10 true]), .row 5 true]⟩⟩
def ZaZ : Lay := ⟨[1, 5], [[.keep], [.own 5 1]], [.var k1, .row true], ⟨[.one (.ptr 0), .one (.own 5 1)], [.var 106 10 (.agg [.v 106 10 true]), .row 5 true]⟩⟩
def ZaK : Lay := ⟨[1, 5], [[.keep], [.own 5 1]], [.var k1, .row true], ⟨[.one (.ptr 0), .one (.own 5 1)], [.var 106 10 (.agg [.v 106 10 true]), .row 5 true]⟩⟩
def ZoD : Nat → Option Lay
  | 6 => some ZaY
  | 8 => some ZaZ
  | 13 => some ZaK
  | _ => none
noncomputable def ZkL : Z9U → Spot U
  | .b0 a0 => entP Tryz.f156 [106] (a0, ())
  | .b1 a0 a1 => spL Tryz.f156 [1, 1, 1, 0, 0, 1, 0, 0] ZaY (((), ((), ())), ((a1, ()), (a0, ())))
  | .b2 a0 a1 => spL Tryz.f156 [1, 1, 1, 0, 0, 1, 1, 0] ZaZ (((), ((), ())), ((a1, ()), (a0, ())))
  | .b3 a0 a1 => spL Tryz.f156 [1, 1, 1, 1, 0] ZaK (((), ((), ())), ((a1, ()), (a0, ())))
theorem ZiN : BlkP 156 Tryz.f156 (mc ZoY (mc ZsP msN)) (hc [] Z36 hsN) ZoD 205 Z1c ZkL
  | .b0 _ => by kernel_rfl
  | .b1 _ _ => by kernel_rfl
  | .b2 _ _ => by kernel_rfl
  | .b3 _ _ => by kernel_rfl
theorem ZkJ : FnOK Tryz.prog B0 156 Zn2 := okP ZiN (fun x => .b0 x.1) (by kernel_rfl) Tryz.func156 (by kernel_rfl) (by kernel_rfl) (fun _ => rfl) (fun _ => rfl)
inductive ZeO where
  | b0 (a0 : Z8) (a1 : Zd) (a2 a3 a4 : Int) (a5 : Z5) (a6 : Int)
  | b1 (a0 a1 : Int) (a2 : List Int) (a3 : Z8) (a4 : Z5) (a5 : Z8) (a6 : Zc)
  | b2 (a0 : Z8) (a1 : Z5) (a2 : Z8) (a3 : Zc)
noncomputable def Z7c : ZeO → Tr U (Z8 ⊕ ZeO)
  | .b0 a0 a1 a2 a3 a4 a5 a6 => .bind 238 (Zf8 a0) (fun (x1 : Z8 × Int) => .bind 205 (Z92 a5) (fun (x2 : (List Int) × Int) => .bind 33 (ZgI x1.1.IV) (fun (x3 : Int) => .bind 205 (Z9A a1 (⟨x3, a1.NID, a5.Control, a4, x1.2, a2, a3, x2.1⟩ : Zc)) (fun (x4 : (List Int) × Int) => .br (x2.2 != (0 : Int)) ( .leaf (.inl x1.1)) ( .br (x4.2 != (0 : Int)) ( .leaf (.inl x1.1)) ( .leaf (.inr (.b1 a3 a6 x4.1 x1.1 a5 (⟨(0 : Int), (0 : Int), (0 : Int), Z0L, Z0a, (0 : Int), false, false, ([] : List Int), ([] : List Za), ([] : List Za), (⟨([] : List Z6), ([] : List Z9)⟩ : Z7), (⟨(0 : Int), ([] : List Ze), ([] : List Int), (0 : Int), false, (0 : Int), (0 : Int), (0 : Int)⟩ : Zk), (⟨(0 : Int), (0 : Int), (0 : Int), (0 : Int), (0 : Int), (0 : Int), ([] : List Int), (0 : Int), false, (0 : Int)⟩ : Zm), ([] : List Zb), (0 : Int), false⟩ : Z8) (⟨x3, a1.NID, a5.Control, a4, x1.2, a2, a3, x2.1⟩ : Zc)))))))))
  | .b1 a0 a1 a2 a3 a4 a5 a6 => .bind 50 (Zca a3 a1 a2) (fun (x1 : Z8) => .bind 4 (Zbz x1.Friend a0) (fun (x2 : Bool) => .br x2 ( .bind 4 (ZaD a4) (fun (x3 : Bool) => .br (!x3) ( .leaf (.inr (.b2 x1 a4 a5 a6))) ( .leaf (.inl x1)))) ( .leaf (.inl x1))))
  | .b2 a0 a1 a2 a3 => .fail
noncomputable def ZeG (a0 : Z8) (a1 : Zd) (a2 a3 a4 : Int) (a5 : Z5) (a6 : Int) : Option Z8 := flow Z7c (.b0 a0 a1 a2 a3 a4 a5 a6)
noncomputable def ZsL : Mod U := ⟨[50, 30, 22, 22, 3, 106, 3], 50, fun x => ZeG x.1 x.2.1 x.2.2.1 x.2.2.2.1 x.2.2.2.2.1 x.2.2.2.2.2.1 x.2.2.2.2.2.2.1, by decide⟩
def ZfZ : Lay := ⟨[3, 6, 7, 12, 14, 18, 19], [[.keep], [.keep], [.keep], [.keep], [.keep], [.keep], [.s 5 1]], [.var k0, .var k1, .var k0, .var k2], ⟨[.one (.v 22 1 false), .one (.v 3 1 false), .one (.ptr 0), .one (.ptr 1), .one (.ptr 2), .one (.ptr 3), .one (.v 27 1 false)], [.var 50 46 (.agg [.v 50 46 true]), .var 106 10 (.agg [.v 106 10 true]), .var 50 46 (.agg [.v 50 46 true]), .var 90 8 (.agg [.v 90 8 true])]⟩⟩
def ZfW : Lay := ⟨[7, 12, 14, 18], [[.keep], [.keep], [.keep], [.keep]], [.var k0, .var k1, .var k0, .var k2], ⟨[.one (.ptr 0), .one (.ptr 1), .one (.ptr 2), .one (.ptr 3)], [.var 50 46 (.agg [.v 50 46 true]), .var 106 10 (.agg [.v 106 10 true]), .var 50 46 (.agg [.v 50 46 true]), .var 90 8 (.agg [.v 90 8 true])]⟩⟩
def ZsN : Nat → Option Lay
  | 7 => some ZfZ
  | 9 => some ZfW
  | _ => none
noncomputable def Zqs : ZeO → Spot U
  | .b0 a0 a1 a2 a3 a4 a5 a6 => entP Tryz.f85 [50, 30, 22, 22, 3, 106, 3] (a0, a1, a2, a3, a4, a5, a6, ())
  | .b1 a0 a1 a2 a3 a4 a5 a6 => spL Tryz.f85 [1, 1, 1, 1, 1, 1, 0] ZfZ (((a0, ()), ((a1, ()), ((), ((), ((), ((), ((a2, ()), ()))))))), ((a3, ()), ((a4, ()), ((a5, ()), ((a6, ()), ())))))
  | .b2 a0 a1 a2 a3 => spL Tryz.f85 [1, 1, 1, 1, 1, 1, 1, 0, 1, 0] ZfW (((), ((), ((), ((), ())))), ((a0, ()), ((a1, ()), ((a2, ()), ((a3, ()), ())))))
theorem Znf : BlkP 85 Tryz.f85 (mc Zn5 (mc ZkI (mc ZnK (mc Znh (mc Zim (mc Zq6 (mc ZkJ msN))))))) hsN ZsN 50 Z7c Zqs
  | .b0 _ _ _ _ _ _ _ => by kernel_rfl
  | .b1 _ _ _ _ _ _ _ => by kernel_rfl
  | .b2 _ _ _ _ => by kernel_rfl
theorem Zq7 : FnOK Tryz.prog B0 85 ZsL := okP Znf (fun x => .b0 x.1 x.2.1 x.2.2.1 x.2.2.2.1 x.2.2.2.2.1 x.2.2.2.2.2.1 x.2.2.2.2.2.2.1) (by kernel_rfl) Tryz.func85 (by kernel_rfl) (by kernel_rfl) (fun _ => rfl) (fun _ => rfl)
end Go.Proofs.YtefmbgacbhifdaaGreat
namespace Go.Proofs.YtefmbgacbhifdaaGreat
open Go Go.Proofs.YtefmbgacbhifdaaGreat.Le
set_option maxRecDepth 100000
inductive Z8i where
  | b0 (a0 : ZK)
noncomputable def Z8e : Z8i → Tr U (Zd ⊕ Z8i)
  | .b0 a0 => .br (a0.Phase == (2 : Int)) ( .leaf (.inl a0.New)) ( .leaf (.inl a0.Old))
noncomputable def Z8a (a0 : ZK) : Option Zd := flow Z8e (.b0 a0)
noncomputable def Zm8 : Mod U := ⟨[32], 30, fun x => Z8a x.1, by decide⟩
noncomputable def Zjp : Z8i → Spot U
  | .b0 a0 => entP Tryz.f86 [32] (a0, ())
theorem Zhl : BlkP 86 Tryz.f86 msN hsN AN 30 Z8e Zjp
  | .b0 _ => by kernel_rfl
theorem ZiD : FnOK Tryz.prog B0 86 Zm8 := okP Zhl (fun x => .b0 x.1) (by kernel_rfl) Tryz.func86 (by kernel_rfl) (by kernel_rfl) (fun _ => rfl) (fun _ => rfl)
inductive Zed where
  | b0 (a0 : Z8) (a1 a2 : Int) (a3 : Z5) (a4 : Int)
noncomputable def ZeW : Zed → Tr U (Z8 ⊕ Zed)
  | .b0 a0 a1 a2 a3 a4 => .bind 30 (Z8a a0.Keys) (fun (x1 : Zd) => .bind 50 (ZeG a0 x1 a0.Address a1 a2 a3 a4) (fun (x2 : Z8) => .leaf (.inl x2)))
noncomputable def Zfd (a0 : Z8) (a1 a2 : Int) (a3 : Z5) (a4 : Int) : Option Z8 := flow ZeW (.b0 a0 a1 a2 a3 a4)
noncomputable def Zt5 : Mod U := ⟨[50, 22, 3, 106, 3], 50, fun x => Zfd x.1 x.2.1 x.2.2.1 x.2.2.2.1 x.2.2.2.2.1, by decide⟩
noncomputable def Zpr : Zed → Spot U
  | .b0 a0 a1 a2 a3 a4 => entP Tryz.f36 [50, 22, 3, 106, 3] (a0, a1, a2, a3, a4, ())
theorem ZmA : BlkP 36 Tryz.f36 (mc Zq7 (mc ZiD msN)) hsN AN 50 ZeW Zpr
  | .b0 _ _ _ _ _ => by kernel_rfl
theorem ZpL : FnOK Tryz.prog B0 36 Zt5 := okP ZmA (fun x => .b0 x.1 x.2.1 x.2.2.1 x.2.2.2.1 x.2.2.2.2.1) (by kernel_rfl) Tryz.func36 (by kernel_rfl) (by kernel_rfl) (fun _ => rfl) (fun _ => rfl)
inductive Zeg where
  | b0 (a0 : Z8) (a1 : Int) (a2 : Bool) (a3 : Int) (a4 : List Int) (a5 : Int)
  | b1 (a0 : Int) (a1 : Bool) (a2 : Int) (a3 : List Int) (a4 : Int) (a5 a6 : Z8)
  | b2 (a0 : Int) (a1 : Bool) (a2 : Int) (a3 : List Int) (a4 : Int) (a5 a6 : Z8)
  | b3 (a0 a1 a2 : Int) (a3 : List Z5) (a4 : Int) (a5 a6 : Z8)
noncomputable def Z20 : Zeg → Tr U ((Z8 × Int) ⊕ Zeg)
  | .b0 a0 a1 a2 a3 a4 a5 => .br (!a0.Up) ( .leaf (.inl (a0, (9 : Int)))) ( .bind 4 (Z3T a1) (fun (x1 : Bool) => .br (!x1) ( .bind 4 (Z5A a1) (fun (x2 : Bool) => .br (!x2) ( .leaf (.inl (a0, (1 : Int)))) ( .leaf (.inr (.b1 a1 a2 a3 a4 a5 a0 (⟨(0 : Int), (0 : Int), (0 : Int), Z0L, Z0a, (0 : Int), false, false, ([] : List Int), ([] : List Za), ([] : List Za), (⟨([] : List Z6), ([] : List Z9)⟩ : Z7), (⟨(0 : Int), ([] : List Ze), ([] : List Int), (0 : Int), false, (0 : Int), (0 : Int), (0 : Int)⟩ : Zk), (⟨(0 : Int), (0 : Int), (0 : Int), (0 : Int), (0 : Int), (0 : Int), ([] : List Int), (0 : Int), false, (0 : Int)⟩ : Zm), ([] : List Zb), (0 : Int), false⟩ : Z8)))))) ( .leaf (.inr (.b1 a1 a2 a3 a4 a5 a0 (⟨(0 : Int), (0 : Int), (0 : Int), Z0L, Z0a, (0 : Int), false, false, ([] : List Int), ([] : List Za), ([] : List Za), (⟨([] : List Z6), ([] : List Z9)⟩ : Z7), (⟨(0 : Int), ([] : List Ze), ([] : List Int), (0 : Int), false, (0 : Int), (0 : Int), (0 : Int)⟩ : Zk), (⟨(0 : Int), (0 : Int), (0 : Int), (0 : Int), (0 : Int), (0 : Int), ([] : List Int), (0 : Int), false, (0 : Int)⟩ : Zm), ([] : List Zb), (0 : Int), false⟩ : Z8))))))
  | .b1 a0 a1 a2 a3 a4 a5 a6 => .br (decide (a2 < (0 : Int))) ( .leaf (.inl (a5, (5 : Int)))) ( .br (decide (a2 > (127 : Int))) ( .leaf (.inl (a5, (5 : Int)))) ( .leaf (.inr (.b2 a0 a1 a2 a3 a4 a5 a6))))
  | .b2 a0 a1 a2 a3 a4 a5 a6 => .br ((↑a3.length : Int) == (0 : Int)) ( .leaf (.inl (a5, (1 : Int)))) ( .br (decide ((↑a3.length : Int) > (380 : Int))) ( .leaf (.inl (a5, (4 : Int)))) ( .bind 33 (ZgI a5.IV) (fun (x1 : Int) => .bind 24 (Za1 a5 a1) (fun (x2 : Int) => .bind 27 (Z7T x2 a1 (⟨a5.Address, x1, a5.Seq⟩ : Za) a0 a3) (fun (x3 : List Int) => .bind 113 (Ze1 a5.Transport (⟨a5.Address, a0, a1, a2, (⟨a5.Address, x1, a5.Seq⟩ : Za), x3⟩ : Zt) a4) (fun (x4 : Z7 × (List Z5) × Int) => .br (x4.2.2 != (0 : Int)) ( .leaf (.inl (a5, x4.2.2))) ( .leaf (.inr (.b3 a0 a2 a4 x4.2.1 (0 : Int) ({ a5 with Transport := x4.1 } : Z8) a6)))))))))
  | .b3 a0 a1 a2 a3 a4 a5 a6 => .br (decide (a4 < (↑a3.length : Int))) ( .chk (decide (0 ≤ a4 ∧ a4 < (↑a3.length : Int))) ( .bind 106 (a3[(Int.toNat a4)]?) (fun (x1 : Z5) => .bind 50 (Zfd a5 a0 a1 x1 a2) (fun (x2 : Z8) => .leaf (.inr (.b3 a0 a1 a2 a3 (w64 (a4 + (1 : Int))) x2 a6)))))) ( .leaf (.inl (a5, (0 : Int))))
noncomputable def ZdT (a0 : Z8) (a1 : Int) (a2 : Bool) (a3 : Int) (a4 : List Int) (a5 : Int) : Option (Z8 × Int) := flow Z20 (.b0 a0 a1 a2 a3 a4 a5)
noncomputable def Zso : Mod U := ⟨[50, 22, 4, 3, 27, 3], 52, fun x => ZdT x.1 x.2.1 x.2.2.1 x.2.2.2.1 x.2.2.2.2.1 x.2.2.2.2.2.1, by decide⟩
def ZfS : Lay := ⟨[1, 2, 3, 4, 5, 6, 12], [[.keep], [.keep], [.keep], [.s 5 1], [.keep], [.keep], [.keep]], [.var k0, .var k0], ⟨[.one (.v 22 1 false), .one (.v 4 1 false), .one (.v 3 1 false), .one (.v 27 1 false), .one (.v 3 1 false), .one (.ptr 0), .one (.ptr 1)], [.var 50 46 (.agg [.v 50 46 true]), .var 50 46 (.agg [.v 50 46 true])]⟩⟩
def ZfR : Lay := ⟨[1, 2, 3, 4, 5, 6, 12], [[.keep], [.keep], [.keep], [.s 5 1], [.keep], [.keep], [.keep]], [.var k0, .var k0], ⟨[.one (.v 22 1 false), .one (.v 4 1 false), .one (.v 3 1 false), .one (.v 27 1 false), .one (.v 3 1 false), .one (.ptr 0), .one (.ptr 1)], [.var 50 46 (.agg [.v 50 46 true]), .var 50 46 (.agg [.v 50 46 true])]⟩⟩
def ZfL : Lay := ⟨[1, 3, 5, 6, 12, 17, 19], [[.keep], [.keep], [.keep], [.keep], [.keep], [.s 106 10], [.keep]], [.var k0, .var k0], ⟨[.one (.v 22 1 false), .one (.v 3 1 false), .one (.v 3 1 false), .one (.ptr 0), .one (.ptr 1), .one (.v 112 1 false), .one (.v 3 1 false)], [.var 50 46 (.agg [.v 50 46 true]), .var 50 46 (.agg [.v 50 46 true])]⟩⟩
def Zsp : Nat → Option Lay
  | 5 => some ZfS
  | 7 => some ZfR
  | 18 => some ZfL
  | _ => none
noncomputable def Zpd : Zeg → Spot U
  | .b0 a0 a1 a2 a3 a4 a5 => entP Tryz.f12 [50, 22, 4, 3, 27, 3] (a0, a1, a2, a3, a4, a5, ())
  | .b1 a0 a1 a2 a3 a4 a5 a6 => spL Tryz.f12 [1, 1, 1, 0, 0] ZfS (((a0, ()), ((a1, ()), ((a2, ()), ((a3, ()), ((a4, ()), ((), ((), ()))))))), ((a5, ()), ((a6, ()), ())))
  | .b2 a0 a1 a2 a3 a4 a5 a6 => spL Tryz.f12 [1, 1, 1, 1, 0, 0] ZfR (((a0, ()), ((a1, ()), ((a2, ()), ((a3, ()), ((a4, ()), ((), ((), ()))))))), ((a5, ()), ((a6, ()), ())))
  | .b3 a0 a1 a2 a3 a4 a5 a6 => spL Tryz.f12 [1, 1, 1, 1, 1, 1, 1, 1, 1, 1, 1, 0, 1, 0, 0, 0, 0] ZfL (((a0, ()), ((a1, ()), ((a2, ()), ((), ((), ((a3, ()), ((a4, ()), ()))))))), ((a5, ()), ((a6, ()), ())))
theorem Znx : BlkP 12 Tryz.f12 (mc ZbH (mc Z9j (mc Zn5 (mc ZiC (mc Zmi (mc ZqE (mc ZpL msN))))))) hsN Zsp 52 Z20 Zpd
  | .b0 _ _ _ _ _ _ => by kernel_rfl
  | .b1 _ _ _ _ _ _ _ => by kernel_rfl
  | .b2 _ _ _ _ _ _ _ => by kernel_rfl
  | .b3 _ _ _ _ _ _ _ => by kernel_rfl
theorem ZpR : FnOK Tryz.prog B0 12 Zso := okP Znx (fun x => .b0 x.1 x.2.1 x.2.2.1 x.2.2.2.1 x.2.2.2.2.1 x.2.2.2.2.2.1) (by kernel_rfl) Tryz.func12 (by kernel_rfl) (by kernel_rfl) (fun _ => rfl) (fun _ => rfl)
inductive Z4L where
  | b0 (a0 a1 : List Int)
  | b1 (a0 a1 : List Int) (a2 : Int)
noncomputable def Z11 : Z4L → Tr U (Bool ⊕ Z4L)
  | .b0 a0 a1 => .br ((↑a0.length : Int) != (↑a1.length : Int)) ( .leaf (.inl false)) ( .leaf (.inr (.b1 a0 a1 (0 : Int))))
  | .b1 a0 a1 a2 => .br (decide (a2 < (↑a0.length : Int))) ( .chk (decide (0 ≤ a2 ∧ a2 < (↑a0.length : Int))) ( .bind 22 (a0[(Int.toNat a2)]?) (fun (x1 : Int) => .chk (decide (0 ≤ a2 ∧ a2 < (↑a1.length : Int))) ( .bind 22 (a1[(Int.toNat a2)]?) (fun (x2 : Int) => .br (x1 != x2) ( .leaf (.inl false)) ( .leaf (.inr (.b1 a0 a1 (w64 (a2 + (1 : Int))))))))))) ( .leaf (.inl true))
noncomputable def Z1S (a0 a1 : List Int) : Option Bool := flow Z11 (.b0 a0 a1)
noncomputable def Zg9 : Mod U := ⟨[36, 36], 4, fun x => Z1S x.1 x.2.1, by decide⟩
def Z6a : Lay := ⟨[0, 1, 5], [[.s 22 1], [.s 22 1], [.keep]], [], ⟨[.one (.v 36 1 false), .one (.v 36 1 false), .one (.v 3 1 false)], []⟩⟩
def Zg1 : Nat → Option Lay
  | 4 => some Z6a
  | _ => none
noncomputable def Ze3 : Z4L → Spot U
  | .b0 a0 a1 => entP Tryz.f37 [36, 36] (a0, a1, ())
  | .b1 a0 a1 a2 => spL Tryz.f37 [1, 1, 0, 1, 0, 0, 0, 0] Z6a (((a0, ()), ((a1, ()), ((a2, ()), ()))), ())
theorem Zdo : BlkP 37 Tryz.f37 msN hsN Zg1 4 Z11 Ze3
  | .b0 _ _ => by kernel_rfl
  | .b1 _ _ _ => by kernel_rfl
theorem Z3K : FnOK Tryz.prog B0 37 Zg9 := okP Zdo (fun x => .b0 x.1 x.2.1) (by kernel_rfl) Tryz.func37 (by kernel_rfl) (by kernel_rfl) (fun _ => rfl) (fun _ => rfl)
inductive Z5S where
  | b0 (a0 a1 : List (List Int))
  | b1 (a0 a1 : List (List Int)) (a2 : Int)
noncomputable def Z1B : Z5S → Tr U (Bool ⊕ Z5S)
  | .b0 a0 a1 => .br ((↑a0.length : Int) != (↑a1.length : Int)) ( .leaf (.inl false)) ( .leaf (.inr (.b1 a0 a1 (0 : Int))))
  | .b1 a0 a1 a2 => .br (decide (a2 < (↑a0.length : Int))) ( .chk (decide (0 ≤ a2 ∧ a2 < (↑a0.length : Int))) ( .bind 27 (a0[(Int.toNat a2)]?) (fun (x1 : List Int) => .chk (Z4R U 5 x1) ( .chk (decide (0 ≤ a2 ∧ a2 < (↑a1.length : Int))) ( .bind 27 (a1[(Int.toNat a2)]?) (fun (x2 : List Int) => .chk (Z4R U 5 x2) ( .br (!((strOf U 5 x1).toList == (strOf U 5 x2).toList)) ( .leaf (.inl false)) ( .leaf (.inr (.b1 a0 a1 (w64 (a2 + (1 : Int))))))))))))) ( .leaf (.inl true))
noncomputable def Z3u (a0 a1 : List (List Int)) : Option Bool := flow Z1B (.b0 a0 a1)
noncomputable def Ziw : Mod U := ⟨[73, 73], 4, fun x => Z3u x.1 x.2.1, by decide⟩
def Z7l : Lay := ⟨[0, 1, 5], [[.s 27 1], [.s 27 1], [.keep]], [], ⟨[.one (.v 73 1 false), .one (.v 73 1 false), .one (.v 3 1 false)], []⟩⟩
def ZhZ : Nat → Option Lay
  | 4 => some Z7l
  | _ => none
noncomputable def Zgt : Z5S → Spot U
  | .b0 a0 a1 => entP Tryz.f87 [73, 73] (a0, a1, ())
  | .b1 a0 a1 a2 => spL Tryz.f87 [1, 1, 0, 1, 0, 0, 0, 0] Z7l (((a0, ()), ((a1, ()), ((a2, ()), ()))), ())
theorem Zf5 : BlkP 87 Tryz.f87 msN hsN ZhZ 4 Z1B Zgt
  | .b0 _ _ => by kernel_rfl
  | .b1 _ _ _ => by kernel_rfl
theorem Zgb : FnOK Tryz.prog B0 87 Ziw := okP Zf5 (fun x => .b0 x.1 x.2.1) (by kernel_rfl) Tryz.func87 (by kernel_rfl) (by kernel_rfl) (fun _ => rfl) (fun _ => rfl)
inductive Z2N where
  | b0 (a0 a1 : Z7)
  | b1 (a0 a1 : Z7)
  | b2 (a0 : Int) (a1 a2 : Z7)
  | b3 (a0 : Int) (a1 a2 : Z7)
  | b4 (a0 : Int) (a1 a2 : Z7)
  | b5 (a0 : Int) (a1 a2 : Z7)
noncomputable def Zl : Z2N → Tr U (Bool ⊕ Z2N)
  | .b0 a0 a1 => .br ((↑a0.Out.length : Int) != (↑a1.Out.length : Int)) ( .leaf (.inl false)) ( .br ((↑a0.In.length : Int) != (↑a1.In.length : Int)) ( .leaf (.inl false)) ( .leaf (.inr (.b1 a0 a1))))
  | .b1 a0 a1 => .leaf (.inr (.b2 (0 : Int) a0 a1))
  | .b2 a0 a1 a2 => .br (decide (a0 < (↑a1.Out.length : Int))) ( .chk (decide (0 ≤ a0 ∧ a0 < (↑a1.Out.length : Int))) ( .bind 101 (a1.Out[(Int.toNat a0)]?) (fun (x1 : Z6) => .chk (decide (0 ≤ a0 ∧ a0 < (↑a2.Out.length : Int))) ( .bind 101 (a2.Out[(Int.toNat a0)]?) (fun (x2 : Z6) => .br (x1.Dst != x2.Dst) ( .leaf (.inl false)) ( .br (x1.Src != x2.Src) ( .leaf (.inl false)) ( .br (!(x1.App == x2.App)) ( .leaf (.inl false)) ( .br (x1.Zero != x2.Zero) ( .leaf (.inl false)) ( .br (x1.IV != x2.IV) ( .leaf (.inl false)) ( .bind 4 (Z3u x1.Parts x2.Parts) (fun (x3 : Bool) => .br (!x3) ( .leaf (.inl false)) ( .br (x1.Acked != x2.Acked) ( .leaf (.inl false)) ( .br (x1.Due != x2.Due) ( .leaf (.inl false)) ( .br (x1.Tries != x2.Tries) ( .leaf (.inl false)) ( .br (x1.TTL != x2.TTL) ( .leaf (.inl false)) ( .leaf (.inr (.b3 a0 a1 a2)))))))))))))))))) ( .leaf (.inr (.b4 (0 : Int) a1 a2)))
  | .b3 a0 a1 a2 => .leaf (.inr (.b2 (w64 (a0 + (1 : Int))) a1 a2))
  | .b4 a0 a1 a2 => .br (decide (a0 < (↑a1.In.length : Int))) ( .chk (decide (0 ≤ a0 ∧ a0 < (↑a1.In.length : Int))) ( .bind 104 (a1.In[(Int.toNat a0)]?) (fun (x1 : Z9) => .chk (decide (0 ≤ a0 ∧ a0 < (↑a2.In.length : Int))) ( .bind 104 (a2.In[(Int.toNat a0)]?) (fun (x2 : Z9) => .br (x1.Src != x2.Src) ( .leaf (.inl false)) ( .br (x1.Dst != x2.Dst) ( .leaf (.inl false)) ( .br (!(x1.App == x2.App)) ( .leaf (.inl false)) ( .br (x1.Zero != x2.Zero) ( .leaf (.inl false)) ( .br (x1.IV != x2.IV) ( .leaf (.inl false)) ( .br (x1.Last != x2.Last) ( .leaf (.inl false)) ( .bind 4 (Z3u x1.Parts x2.Parts) (fun (x3 : Bool) => .br (!x3) ( .leaf (.inl false)) ( .br (x1.Block != x2.Block) ( .leaf (.inl false)) ( .br (x1.Due != x2.Due) ( .leaf (.inl false)) ( .br (x1.TTL != x2.TTL) ( .leaf (.inl false)) ( .br (!(x1.Done == x2.Done)) ( .leaf (.inl false)) ( .leaf (.inr (.b5 a0 a1 a2))))))))))))))))))) ( .leaf (.inl true))
  | .b5 a0 a1 a2 => .leaf (.inr (.b4 (w64 (a0 + (1 : Int))) a1 a2))
noncomputable def Z2S (a0 a1 : Z7) : Option Bool := flow Zl (.b0 a0 a1)
noncomputable def Zc0 : Mod U := ⟨[42, 42], 4, fun x => Z2S x.1 x.2.1, by decide⟩
def Z4l : Lay := ⟨[2, 3], [[.keep], [.keep]], [.var [.s 101 10, .s 104 11], .var [.s 101 10, .s 104 11]], ⟨[.one (.ptr 0), .one (.ptr 1)], [.var 42 2 (.agg [.v 42 2 true]), .var 42 2 (.agg [.v 42 2 true])]⟩⟩
def Z4j : Lay := ⟨[2, 3, 5], [[.keep], [.keep], [.keep]], [.var [.s 101 10, .s 104 11], .var [.s 101 10, .s 104 11]], ⟨[.one (.ptr 0), .one (.ptr 1), .one (.v 3 1 false)], [.var 42 2 (.agg [.v 42 2 true]), .var 42 2 (.agg [.v 42 2 true])]⟩⟩
def Z4k : Lay := ⟨[2, 3, 5], [[.keep], [.keep], [.keep]], [.var [.s 101 10, .s 104 11], .var [.s 101 10, .s 104 11]], ⟨[.one (.ptr 0), .one (.ptr 1), .one (.v 3 1 false)], [.var 42 2 (.agg [.v 42 2 true]), .var 42 2 (.agg [.v 42 2 true])]⟩⟩
def Z4F : Lay := ⟨[2, 3, 8], [[.keep], [.keep], [.keep]], [.var [.s 101 10, .s 104 11], .var [.s 101 10, .s 104 11]], ⟨[.one (.ptr 0), .one (.ptr 1), .one (.v 3 1 false)], [.var 42 2 (.agg [.v 42 2 true]), .var 42 2 (.agg [.v 42 2 true])]⟩⟩
def Z4p : Lay := ⟨[2, 3, 8], [[.keep], [.keep], [.keep]], [.var [.s 101 10, .s 104 11], .var [.s 101 10, .s 104 11]], ⟨[.one (.ptr 0), .one (.ptr 1), .one (.v 3 1 false)], [.var 42 2 (.agg [.v 42 2 true]), .var 42 2 (.agg [.v 42 2 true])]⟩⟩
def Zb9 : Nat → Option Lay
  | 3 => some Z4l
  | 4 => some Z4j
  | 5 => some Z4k
  | 10 => some Z4F
  | 11 => some Z4p
  | _ => none
noncomputable def Zas : Z2N → Spot U
  | .b0 a0 a1 => entP Tryz.f38 [42, 42] (a0, a1, ())
  | .b1 a0 a1 => spL Tryz.f38 [1, 1, 0, 0] Z4l (((), ((), ())), ((a0, ()), ((a1, ()), ())))
  | .b2 a0 a1 a2 => spL Tryz.f38 [1, 1, 0, 1, 0, 0, 0, 0] Z4j (((), ((), ((a0, ()), ()))), ((a1, ()), ((a2, ()), ())))
  | .b3 a0 a1 a2 => spL Tryz.f38 [1, 1, 0, 1, 0, 0, 1, 1] Z4k (((), ((), ((a0, ()), ()))), ((a1, ()), ((a2, ()), ())))
  | .b4 a0 a1 a2 => spL Tryz.f38 [1, 1, 1, 0, 1, 0, 0, 0, 0] Z4F (((), ((), ((a0, ()), ()))), ((a1, ()), ((a2, ()), ())))
  | .b5 a0 a1 a2 => spL Tryz.f38 [1, 1, 1, 0, 1, 0, 0, 1, 1] Z4p (((), ((), ((a0, ()), ()))), ((a1, ()), ((a2, ()), ())))
theorem Z9B : BlkP 38 Tryz.f38 (mc Zgb msN) hsN Zb9 4 Zl Zas
  | .b0 _ _ => by kernel_rfl
  | .b1 _ _ => by kernel_rfl
  | .b2 _ _ _ => by kernel_rfl
  | .b3 _ _ _ => by kernel_rfl
  | .b4 _ _ _ => by kernel_rfl
  | .b5 _ _ _ => by kernel_rfl
theorem Zap : FnOK Tryz.prog B0 38 Zc0 := okP Z9B (fun x => .b0 x.1 x.2.1) (by kernel_rfl) Tryz.func38 (by kernel_rfl) (by kernel_rfl) (fun _ => rfl) (fun _ => rfl)
inductive Z4I where
  | b0 (a0 a1 : Zk)
  | b1 (a0 a1 : Zk)
  | b2 (a0 : Int) (a1 a2 : Zk)
  | b3 (a0 : Int) (a1 a2 : Zk) (a3 a4 : Z5)
  | b4 (a0 : Int) (a1 a2 : Zk)
noncomputable def Zw : Z4I → Tr U (Bool ⊕ Z4I)
  | .b0 a0 a1 => .br (a0.Low != a1.Low) ( .leaf (.inl false)) ( .br ((↑a0.Queue.length : Int) != (↑a1.Queue.length : Int)) ( .leaf (.inl false)) ( .bind 4 (Z1S a0.Subs a1.Subs) (fun (x1 : Bool) => .br (!x1) ( .leaf (.inl false)) ( .br (a0.Bit != a1.Bit) ( .leaf (.inl false)) ( .br (!(a0.Sent == a1.Sent)) ( .leaf (.inl false)) ( .br (a0.Polled != a1.Polled) ( .leaf (.inl false)) ( .br (a0.Counter != a1.Counter) ( .leaf (.inl false)) ( .br (a0.Dropped != a1.Dropped) ( .leaf (.inl false)) ( .leaf (.inr (.b1 a0 a1)))))))))))
  | .b1 a0 a1 => .leaf (.inr (.b2 (0 : Int) a0 a1))
  | .b2 a0 a1 a2 => .br (decide (a0 < (↑a1.Queue.length : Int))) ( .chk (decide (0 ≤ a0 ∧ a0 < (↑a1.Queue.length : Int))) ( .bind 108 (a1.Queue[(Int.toNat a0)]?) (fun (x1 : Ze) => .chk (decide (0 ≤ a0 ∧ a0 < (↑a2.Queue.length : Int))) ( .bind 108 (a2.Queue[(Int.toNat a0)]?) (fun (x2 : Ze) => .chk (decide (0 ≤ a0 ∧ a0 < (↑a1.Queue.length : Int))) ( .bind 108 (a1.Queue[(Int.toNat a0)]?) (fun (x3 : Ze) => .chk (decide (0 ≤ a0 ∧ a0 < (↑a2.Queue.length : Int))) ( .bind 108 (a2.Queue[(Int.toNat a0)]?) (fun (x4 : Ze) => .br (x1.PDU.IV != x2.PDU.IV) ( .leaf (.inl false)) ( .br (x1.PDU.NID != x2.PDU.NID) ( .leaf (.inl false)) ( .br (!(x1.PDU.Control == x2.PDU.Control)) ( .leaf (.inl false)) ( .br (x1.PDU.TTL != x2.PDU.TTL) ( .leaf (.inl false)) ( .br (x1.PDU.Seq != x2.PDU.Seq) ( .leaf (.inl false)) ( .br (x1.PDU.Src != x2.PDU.Src) ( .leaf (.inl false)) ( .br (x1.PDU.Dst != x2.PDU.Dst) ( .leaf (.inl false)) ( .chk (Z4R U 5 x1.PDU.Payload) ( .chk (Z4R U 5 x2.PDU.Payload) ( .br (!((strOf U 5 x1.PDU.Payload).toList == (strOf U 5 x2.PDU.Payload).toList)) ( .leaf (.inl false)) ( .leaf (.inr (.b3 a0 a1 a2 x3.Lower x4.Lower))))))))))))))))))))) ( .leaf (.inl true))
  | .b3 a0 a1 a2 a3 a4 => .br (!(a3.Control == a4.Control)) ( .leaf (.inl false)) ( .br (!(a3.Segmented == a4.Segmented)) ( .leaf (.inl false)) ( .br (!(a3.App == a4.App)) ( .leaf (.inl false)) ( .br (a3.Zero != a4.Zero) ( .leaf (.inl false)) ( .br (a3.Index != a4.Index) ( .leaf (.inl false)) ( .br (a3.Last != a4.Last) ( .leaf (.inl false)) ( .br (a3.Opcode != a4.Opcode) ( .leaf (.inl false)) ( .br (a3.Block != a4.Block) ( .leaf (.inl false)) ( .br (!(a3.Friend == a4.Friend)) ( .leaf (.inl false)) ( .chk (Z4R U 5 a3.Bytes) ( .chk (Z4R U 5 a4.Bytes) ( .br (!((strOf U 5 a3.Bytes).toList == (strOf U 5 a4.Bytes).toList)) ( .leaf (.inl false)) ( .leaf (.inr (.b4 a0 a1 a2))))))))))))))
  | .b4 a0 a1 a2 => .leaf (.inr (.b2 (w64 (a0 + (1 : Int))) a1 a2))
noncomputable def Z4P (a0 a1 : Zk) : Option Bool := flow Zw (.b0 a0 a1)
noncomputable def Zgu : Mod U := ⟨[45, 45], 4, fun x => Z4P x.1 x.2.1, by decide⟩
def Z6r : Lay := ⟨[2, 3], [[.keep], [.keep]], [.var k4, .var k4], ⟨[.one (.ptr 0), .one (.ptr 1)], [.var 45 8 (.agg [.v 45 8 true]), .var 45 8 (.agg [.v 45 8 true])]⟩⟩
def Z6p : Lay := ⟨[2, 3, 5], [[.keep], [.keep], [.keep]], [.var k4, .var k4], ⟨[.one (.ptr 0), .one (.ptr 1), .one (.v 3 1 false)], [.var 45 8 (.agg [.v 45 8 true]), .var 45 8 (.agg [.v 45 8 true])]⟩⟩
def Z6v : Lay := ⟨[2, 3, 5, 8, 9], [[.keep], [.keep], [.keep], [.keep], [.keep]], [.var k4, .var k4, .var k1, .var k1], ⟨[.one (.ptr 0), .one (.ptr 1), .one (.v 3 1 false), .one (.ptr 2), .one (.ptr 3)], [.var 45 8 (.agg [.v 45 8 true]), .var 45 8 (.agg [.v 45 8 true]), .var 106 10 (.agg [.v 106 10 true]), .var 106 10 (.agg [.v 106 10 true])]⟩⟩
def Z6f : Lay := ⟨[2, 3, 5], [[.keep], [.keep], [.keep]], [.var k4, .var k4], ⟨[.one (.ptr 0), .one (.ptr 1), .one (.v 3 1 false)], [.var 45 8 (.agg [.v 45 8 true]), .var 45 8 (.agg [.v 45 8 true])]⟩⟩
def Zg7 : Nat → Option Lay
  | 3 => some Z6r
  | 4 => some Z6p
  | 10 => some Z6v
  | 5 => some Z6f
  | _ => none
noncomputable def Zep : Z4I → Spot U
  | .b0 a0 a1 => entP Tryz.f39 [45, 45] (a0, a1, ())
  | .b1 a0 a1 => spL Tryz.f39 [1, 1, 0, 0] Z6r (((), ((), ())), ((a0, ()), ((a1, ()), ())))
  | .b2 a0 a1 a2 => spL Tryz.f39 [1, 1, 0, 1, 0, 0, 0, 0] Z6p (((), ((), ((a0, ()), ()))), ((a1, ()), ((a2, ()), ())))
  | .b3 a0 a1 a2 a3 a4 => spL Tryz.f39 [1, 1, 0, 1, 0, 0, 1, 0, 0, 1, 1, 1, 0] Z6v (((), ((), ((a0, ()), ((), ((), ()))))), ((a1, ()), ((a2, ()), ((a3, ()), ((a4, ()), ())))))
  | .b4 a0 a1 a2 => spL Tryz.f39 [1, 1, 0, 1, 0, 0, 1, 1] Z6f (((), ((), ((a0, ()), ()))), ((a1, ()), ((a2, ()), ())))
theorem ZcJ : BlkP 39 Tryz.f39 (mc Z3K msN) hsN Zg7 4 Zw Zep
  | .b0 _ _ => by kernel_rfl
  | .b1 _ _ => by kernel_rfl
  | .b2 _ _ _ => by kernel_rfl
  | .b3 _ _ _ _ _ => by kernel_rfl
  | .b4 _ _ _ => by kernel_rfl
theorem Zf3 : FnOK Tryz.prog B0 39 Zgu := okP ZcJ (fun x => .b0 x.1 x.2.1) (by kernel_rfl) Tryz.func39 (by kernel_rfl) (by kernel_rfl) (fun _ => rfl) (fun _ => rfl)
inductive Z7L where
  | b0 (a0 a1 : Zm)
noncomputable def Z8D : Z7L → Tr U (Bool ⊕ Z7L)
  | .b0 a0 a1 => .br (a0.Phase == a1.Phase) ( .br (a0.Friend == a1.Friend) ( .br (a0.Bit == a1.Bit) ( .br (a0.Counter == a1.Counter) ( .br (a0.Due == a1.Due) ( .br (a0.Tries == a1.Tries) ( .bind 4 (Z1S a0.Subs a1.Subs) (fun (x1 : Bool) => .br x1 ( .br (a0.Told == a1.Told) ( .br (a0.More == a1.More) ( .leaf (.inl (a0.Last == a1.Last))) ( .leaf (.inl false))) ( .leaf (.inl false))) ( .leaf (.inl false)))) ( .leaf (.inl false))) ( .leaf (.inl false))) ( .leaf (.inl false))) ( .leaf (.inl false))) ( .leaf (.inl false))) ( .leaf (.inl false))
noncomputable def Z8A (a0 a1 : Zm) : Option Bool := flow Z8D (.b0 a0 a1)
noncomputable def Zme : Mod U := ⟨[47, 47], 4, fun x => Z8A x.1 x.2.1, by decide⟩
noncomputable def ZiX : Z7L → Spot U
  | .b0 a0 a1 => entP Tryz.f40 [47, 47] (a0, a1, ())
theorem Zhd : BlkP 40 Tryz.f40 (mc Z3K msN) hsN AN 4 Z8D ZiX
  | .b0 _ _ => by kernel_rfl
theorem Zj0 : FnOK Tryz.prog B0 40 Zme := okP Zhd (fun x => .b0 x.1 x.2.1) (by kernel_rfl) Tryz.func40 (by kernel_rfl) (by kernel_rfl) (fun _ => rfl) (fun _ => rfl)
inductive Z5L where
  | b0 (a0 a1 : List Zb)
  | b1 (a0 a1 : List Zb) (a2 : Int)
  | b2 (a0 a1 : List Zb) (a2 : Int)
noncomputable def Z0q : Z5L → Tr U (Bool ⊕ Z5L)
  | .b0 a0 a1 => .br ((↑a0.length : Int) != (↑a1.length : Int)) ( .leaf (.inl false)) ( .leaf (.inr (.b1 a0 a1 (0 : Int))))
  | .b1 a0 a1 a2 => .br (decide (a2 < (↑a0.length : Int))) ( .chk (decide (0 ≤ a2 ∧ a2 < (↑a0.length : Int))) ( .bind 62 (a0[(Int.toNat a2)]?) (fun (x1 : Zb) => .chk (decide (0 ≤ a2 ∧ a2 < (↑a1.length : Int))) ( .bind 62 (a1[(Int.toNat a2)]?) (fun (x2 : Zb) => .br (x1.Due != x2.Due) ( .leaf (.inl false)) ( .chk (decide (0 ≤ a2 ∧ a2 < (↑a0.length : Int))) ( .bind 62 (a0[(Int.toNat a2)]?) (fun (x3 : Zb) => .chk (decide (0 ≤ a2 ∧ a2 < (↑a1.length : Int))) ( .bind 62 (a1[(Int.toNat a2)]?) (fun (x4 : Zb) => .br (x3.To != x4.To) ( .leaf (.inl false)) ( .chk (decide (0 ≤ a2 ∧ a2 < (↑a0.length : Int))) ( .bind 62 (a0[(Int.toNat a2)]?) (fun (x5 : Zb) => .chk (Z4R U 5 x5.Bytes) ( .chk (decide (0 ≤ a2 ∧ a2 < (↑a1.length : Int))) ( .bind 62 (a1[(Int.toNat a2)]?) (fun (x6 : Zb) => .chk (Z4R U 5 x6.Bytes) ( .br (!((strOf U 5 x5.Bytes).toList == (strOf U 5 x6.Bytes).toList)) ( .leaf (.inl false)) ( .leaf (.inr (.b2 a0 a1 a2)))))))))))))))))))) ( .leaf (.inl true))
  | .b2 a0 a1 a2 => .leaf (.inr (.b1 a0 a1 (w64 (a2 + (1 : Int)))))
noncomputable def Z5C (a0 a1 : List Zb) : Option Bool := flow Z0q (.b0 a0 a1)
noncomputable def ZgX : Mod U := ⟨[48, 48], 4, fun x => Z5C x.1 x.2.1, by decide⟩
def Z73 : Lay := ⟨[0, 1, 5], [[.s 62 3], [.s 62 3], [.keep]], [], ⟨[.one (.v 48 1 false), .one (.v 48 1 false), .one (.v 3 1 false)], []⟩⟩
def Z7d : Lay := ⟨[0, 1, 5], [[.s 62 3], [.s 62 3], [.keep]], [], ⟨[.one (.v 48 1 false), .one (.v 48 1 false), .one (.v 3 1 false)], []⟩⟩
def Zhk : Nat → Option Lay
  | 4 => some Z73
  | 5 => some Z7d
  | _ => none
noncomputable def Zgi : Z5L → Spot U
  | .b0 a0 a1 => entP Tryz.f41 [48, 48] (a0, a1, ())
  | .b1 a0 a1 a2 => spL Tryz.f41 [1, 1, 0, 1, 0, 0, 0, 0] Z73 (((a0, ()), ((a1, ()), ((a2, ()), ()))), ())
  | .b2 a0 a1 a2 => spL Tryz.f41 [1, 1, 0, 1, 0, 0, 1, 1] Z7d (((a0, ()), ((a1, ()), ((a2, ()), ()))), ())
theorem Zew : BlkP 41 Tryz.f41 msN hsN Zhk 4 Z0q Zgi
  | .b0 _ _ => by kernel_rfl
  | .b1 _ _ _ => by kernel_rfl
  | .b2 _ _ _ => by kernel_rfl
theorem Zgj : FnOK Tryz.prog B0 41 ZgX := okP Zew (fun x => .b0 x.1 x.2.1) (by kernel_rfl) Tryz.func41 (by kernel_rfl) (by kernel_rfl) (fun _ => rfl) (fun _ => rfl)
inductive ZeQ where
  | b0 (a0 a1 : Z8)
  | b1 (a0 a1 : Z8)
  | b2 (a0 : Int) (a1 a2 : Z8)
  | b3 (a0 : Int) (a1 a2 : Z8)
  | b4 (a0 a1 : Z8)
noncomputable def Z0v : ZeQ → Tr U (Bool ⊕ ZeQ)
  | .b0 a0 a1 => .br ((↑a0.Cache.length : Int) != (↑a1.Cache.length : Int)) ( .leaf (.inl false)) ( .br ((↑a0.Replays.length : Int) != (↑a1.Replays.length : Int)) ( .leaf (.inl false)) ( .leaf (.inr (.b1 a0 a1))))
  | .b1 a0 a1 => .leaf (.inr (.b2 (0 : Int) a0 a1))
  | .b2 a0 a1 a2 => .br (decide (a0 < (↑a1.Cache.length : Int))) ( .chk (decide (0 ≤ a0 ∧ a0 < (↑a1.Cache.length : Int))) ( .bind 64 (a1.Cache[(Int.toNat a0)]?) (fun (x1 : Za) => .chk (decide (0 ≤ a0 ∧ a0 < (↑a2.Cache.length : Int))) ( .bind 64 (a2.Cache[(Int.toNat a0)]?) (fun (x2 : Za) => .br (!((x1.Src == x2.Src) && ((x1.IV == x2.IV) && ((x1.Seq == x2.Seq) && true)))) ( .leaf (.inl false)) ( .leaf (.inr (.b2 (w64 (a0 + (1 : Int))) a1 a2)))))))) ( .leaf (.inr (.b3 (0 : Int) a1 a2)))
  | .b3 a0 a1 a2 => .br (decide (a0 < (↑a1.Replays.length : Int))) ( .chk (decide (0 ≤ a0 ∧ a0 < (↑a1.Replays.length : Int))) ( .bind 116 (a1.Replays[(Int.toNat a0)]?) (fun (x1 : Za) => .chk (decide (0 ≤ a0 ∧ a0 < (↑a2.Replays.length : Int))) ( .bind 116 (a2.Replays[(Int.toNat a0)]?) (fun (x2 : Za) => .br (!((x1.Src == x2.Src) && ((x1.IV == x2.IV) && ((x1.Seq == x2.Seq) && true)))) ( .leaf (.inl false)) ( .leaf (.inr (.b3 (w64 (a0 + (1 : Int))) a1 a2)))))))) ( .br (a1.Address != a2.Address) ( .leaf (.inl false)) ( .br (a1.Device != a2.Device) ( .leaf (.inl false)) ( .br (a1.App != a2.App) ( .leaf (.inl false)) ( .br (!((a1.Keys.Phase == a2.Keys.Phase) && ((a1.Keys.Old.Key == a2.Keys.Old.Key) && ((a1.Keys.Old.NID == a2.Keys.Old.NID) && ((a1.Keys.Old.Encrypt == a2.Keys.Old.Encrypt) && ((a1.Keys.Old.Hide == a2.Keys.Old.Hide) && ((a1.Keys.Old.Beacon == a2.Keys.Old.Beacon) && ((a1.Keys.New.Key == a2.Keys.New.Key) && ((a1.Keys.New.NID == a2.Keys.New.NID) && ((a1.Keys.New.Encrypt == a2.Keys.New.Encrypt) && ((a1.Keys.New.Hide == a2.Keys.New.Hide) && ((a1.Keys.New.Beacon == a2.Keys.New.Beacon) && true)))))))))))) ( .leaf (.inl false)) ( .br (!((a1.IV.Index == a2.IV.Index) && ((a1.IV.Updating == a2.IV.Updating) && ((a1.IV.Since == a2.IV.Since) && true)))) ( .leaf (.inl false)) ( .br (a1.Seq != a2.Seq) ( .leaf (.inl false)) ( .br (!(a1.Relay == a2.Relay)) ( .leaf (.inl false)) ( .br (!(a1.Befriends == a2.Befriends)) ( .leaf (.inl false)) ( .br (a1.Stored != a2.Stored) ( .leaf (.inl false)) ( .br (!(a1.Up == a2.Up)) ( .leaf (.inl false)) ( .leaf (.inr (.b4 a1 a2)))))))))))))
  | .b4 a0 a1 => .bind 4 (Z1S a0.Groups a1.Groups) (fun (x1 : Bool) => .br x1 ( .bind 4 (Z2S a0.Transport a1.Transport) (fun (x2 : Bool) => .br x2 ( .bind 4 (Z4P a0.Friend a1.Friend) (fun (x3 : Bool) => .br x3 ( .bind 4 (Z8A a0.Low a1.Low) (fun (x4 : Bool) => .br x4 ( .bind 4 (Z5C a0.Out a1.Out) (fun (x5 : Bool) => .leaf (.inl x5))) ( .leaf (.inl false)))) ( .leaf (.inl false)))) ( .leaf (.inl false)))) ( .leaf (.inl false)))
noncomputable def Ze6 (a0 a1 : Z8) : Option Bool := flow Z0v (.b0 a0 a1)
noncomputable def ZsQ : Mod U := ⟨[50, 50], 4, fun x => Ze6 x.1 x.2.1, by decide⟩
def ZfE : Lay := ⟨[2, 3], [[.keep], [.keep]], [.var k0, .var k0], ⟨[.one (.ptr 0), .one (.ptr 1)], [.var 50 46 (.agg [.v 50 46 true]), .var 50 46 (.agg [.v 50 46 true])]⟩⟩
def Zfq : Lay := ⟨[2, 3, 5], [[.keep], [.keep], [.keep]], [.var k0, .var k0], ⟨[.one (.ptr 0), .one (.ptr 1), .one (.v 3 1 false)], [.var 50 46 (.agg [.v 50 46 true]), .var 50 46 (.agg [.v 50 46 true])]⟩⟩
def Zfp : Lay := ⟨[2, 3, 6], [[.keep], [.keep], [.keep]], [.var k0, .var k0], ⟨[.one (.ptr 0), .one (.ptr 1), .one (.v 3 1 false)], [.var 50 46 (.agg [.v 50 46 true]), .var 50 46 (.agg [.v 50 46 true])]⟩⟩
def Zfz : Lay := ⟨[2, 3], [[.keep], [.keep]], [.var k0, .var k0], ⟨[.one (.ptr 0), .one (.ptr 1)], [.var 50 46 (.agg [.v 50 46 true]), .var 50 46 (.agg [.v 50 46 true])]⟩⟩
def Zs0 : Nat → Option Lay
  | 3 => some ZfE
  | 4 => some Zfq
  | 9 => some Zfp
  | 15 => some Zfz
  | _ => none
noncomputable def ZpD : ZeQ → Spot U
  | .b0 a0 a1 => entP Tryz.f13 [50, 50] (a0, a1, ())
  | .b1 a0 a1 => spL Tryz.f13 [1, 1, 0, 0] ZfE (((), ((), ())), ((a0, ()), ((a1, ()), ())))
  | .b2 a0 a1 a2 => spL Tryz.f13 [1, 1, 0, 1, 0, 0, 0, 0] Zfq (((), ((), ((a0, ()), ()))), ((a1, ()), ((a2, ()), ())))
  | .b3 a0 a1 a2 => spL Tryz.f13 [1, 1, 1, 0, 1, 0, 0, 0, 0] Zfp (((), ((), ((a0, ()), ()))), ((a1, ()), ((a2, ()), ())))
  | .b4 a0 a1 => spL Tryz.f13 [1, 1, 1, 1, 1, 0] Zfz (((), ((), ())), ((a0, ()), ((a1, ()), ())))
theorem ZnI : BlkP 13 Tryz.f13 (mc Z3K (mc Zap (mc Zf3 (mc Zj0 (mc Zgj msN))))) hsN Zs0 4 Z0v ZpD
  | .b0 _ _ => by kernel_rfl
  | .b1 _ _ => by kernel_rfl
  | .b2 _ _ _ => by kernel_rfl
  | .b3 _ _ _ => by kernel_rfl
  | .b4 _ _ => by kernel_rfl
theorem Zq8 : FnOK Tryz.prog B0 13 ZsQ := okP ZnI (fun x => .b0 x.1 x.2.1) (by kernel_rfl) Tryz.func13 (by kernel_rfl) (by kernel_rfl) (fun _ => rfl) (fun _ => rfl)
inductive Z3J where
  | b0 (a0 : Z04) (a1 : Int) (a2 : Bool) (a3 : Int) (a4 : List Int)
noncomputable def Z3I : Z3J → Tr U (Bool ⊕ Z3J)
  | .b0 a0 a1 a2 a3 a4 => .bind 4 (Z8g) (fun (x1 : Bool) => .br (!x1) ( .leaf (.inl false)) ( .br (decide ((↑a4.length : Int) > (4096 : Int))) ( .leaf (.inl true)) ( .bind 52 (Z3E a0.A a0.Device a0.App a0.Net a0.Relay a0.Friends) (fun (x2 : Z8 × Int) => .br (x2.2 != (0 : Int)) ( .leaf (.inl true)) ( .bind 50 (Zf0 x2.1) (fun (x3 : Z8) => .chk (([] : List Int).length == 0) ( .chk (decide ((0 + a4.length) * 1 ≤ lim) && decide (0 + a4.length ≤ maxLen)) ( .chk ((([] : List Int) ++ a4).length == (([] : List Int) ++ a4).length) ( .bind 52 (Z5O x3 a1 a2 a3 (([] : List Int) ++ a4) (3 : Int)) (fun (x4 : Z8 × Int) => .bind 52 (ZdT x2.1 a1 a2 a3 a4 (3 : Int)) (fun (x5 : Z8 × Int) => .br (x4.2 == x5.2) ( .bind 4 (Ze6 x4.1 x5.1) (fun (x6 : Bool) => .leaf (.inl x6))) ( .leaf (.inl false)))))))))))))
noncomputable def Z7u (a0 : Z04) (a1 : Int) (a2 : Bool) (a3 : Int) (a4 : List Int) : Option Bool := flow Z3I (.b0 a0 a1 a2 a3 a4)
noncomputable def Z1y : Mod U := ⟨[26, 22, 4, 3, 27], 4, fun x => Z7u x.1 x.2.1 x.2.2.1 x.2.2.2.1 x.2.2.2.2.1, by decide⟩
noncomputable def Zcu : Z3J → Spot U
  | .b0 a0 a1 a2 a3 a4 => entP Tryz.f3 [26, 22, 4, 3, 27] (a0, a1, a2, a3, a4, ())
theorem ZbC : BlkP 3 Tryz.f3 (mc ZiQ (mc ZhM (mc Zg0 (mc Zpk (mc ZpR (mc Zq8 msN)))))) hsN AN 4 Z3I Zcu
  | .b0 _ _ _ _ _ => by kernel_rfl
theorem ZdH : FnOK Tryz.prog B0 3 Z1y := okP ZbC (fun x => .b0 x.1 x.2.1 x.2.2.1 x.2.2.2.1 x.2.2.2.2.1) (by kernel_rfl) Tryz.func3 (by kernel_rfl) (by kernel_rfl) (fun _ => rfl) (fun _ => rfl)
end Go.Proofs.YtefmbgacbhifdaaGreat
