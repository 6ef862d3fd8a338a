/-
  A part of the proof.
-/
import Derived.Test.YtefmbgacbhifdaaGreatL5
import Derived.Test.YtefmbgacbhifdaaGreatProg
import Derived.KernelRfl
namespace Go.Proofs.YtefmbgacbhifdaaGreat
open Go Go.Proofs.YtefmbgacbhifdaaGreat.Le
set_option maxRecDepth 100000
structure Z04 where
  A : Int
  B : Int
  Device : Int
  App : Int
  Net : Int
  Relay : Bool
  Friends : Bool
structure Zd where
  Key : Int
  NID : Int
  Encrypt : Int
  Hide : Int
  Beacon : Int
@[reducible] def Z6t : Zd := ⟨(0 : Int), (0 : Int), (0 : Int), (0 : Int), (0 : Int)⟩
structure ZK where
  Phase : Int
  Old : Zd
  New : Zd
@[reducible] def Z0L : ZK := ⟨(0 : Int), Z6t, Z6t⟩
structure ZM where
  Index : Int
  Updating : Bool
  Since : Int
@[reducible] def Z0a : ZM := ⟨(0 : Int), false, (0 : Int)⟩
structure Za where
  Src : Int
  IV : Int
  Seq : Int
structure Z6 where
  Dst : Int
  Src : Int
  App : Bool
  Zero : Int
  IV : Int
  Parts : List (List Int)
  Acked : Int
  Due : Int
  Tries : Int
  TTL : Int
@[reducible] def Z0g : Z6 := ⟨(0 : Int), (0 : Int), false, (0 : Int), (0 : Int), [], (0 : Int), (0 : Int), (0 : Int), (0 : Int)⟩
structure Z9 where
  Src : Int
  Dst : Int
  App : Bool
  Zero : Int
  IV : Int
  Last : Int
  Parts : List (List Int)
  Block : Int
  Due : Int
  TTL : Int
  Done : Bool
@[reducible] def Z1i : Z9 := ⟨(0 : Int), (0 : Int), false, (0 : Int), (0 : Int), (0 : Int), [], (0 : Int), (0 : Int), (0 : Int), false⟩
structure Z7 where
  Out : List Z6
  In : List Z9
structure Zc where
  IV : Int
  NID : Int
  Control : Bool
  TTL : Int
  Seq : Int
  Src : Int
  Dst : Int
  Payload : List Int
structure Z5 where
  Control : Bool
  Segmented : Bool
  App : Bool
  Zero : Int
  Index : Int
  Last : Int
  Opcode : Int
  Block : Int
  Friend : Bool
  Bytes : List Int
structure Ze where
  PDU : Zc
  Lower : Z5
structure Zk where
  Low : Int
  Queue : List Ze
  Subs : List Int
  Bit : Int
  Sent : Bool
  Polled : Int
  Counter : Int
  Dropped : Int
@[reducible] def Z4z : Zk := ⟨(0 : Int), [], [], (0 : Int), false, (0 : Int), (0 : Int), (0 : Int)⟩
structure Zm where
  Phase : Int
  Friend : Int
  Bit : Int
  Counter : Int
  Due : Int
  Tries : Int
  Subs : List Int
  Told : Int
  More : Bool
  Last : Int
@[reducible] def Z2A : Zm := ⟨(0 : Int), (0 : Int), (0 : Int), (0 : Int), (0 : Int), (0 : Int), [], (0 : Int), false, (0 : Int)⟩
structure Zb where
  Due : Int
  Bytes : List Int
  To : Int
structure Z8 where
  Address : Int
  Device : Int
  App : Int
  Keys : ZK
  IV : ZM
  Seq : Int
  Relay : Bool
  Befriends : Bool
  Groups : List Int
  Cache : List Za
  Replays : List Za
  Transport : Z7
  Friend : Zk
  Low : Zm
  Out : List Zb
  Stored : Int
  Up : Bool
@[reducible] def ZeC : Z8 := ⟨(0 : Int), (0 : Int), (0 : Int), Z0L, Z0a, (0 : Int), false, false, [], [], [], (⟨[], []⟩ : Z7), Z4z, Z2A, [], (0 : Int), false⟩
structure ZR where
  x0 : Int
  x1 : Int
structure Zf where
  Size : Int
  Value : Int
structure Zt where
  Src : Int
  Dst : Int
  App : Bool
  TTL : Int
  Seq : Za
  Bytes : List Int
structure Zi where
  Kind : Int
  Access : Zt
  Peer : Int
  Number : Int
structure Zg where
  Node : Z8
  f_now : Int
structure Z2f where
  Src : Int
  Dst : Int
  TTL : Int
  Lower : Z5
structure Zn where
  x0 : Int
  x1 : Int
  x2 : Int
  x3 : Int
  x4 : Int
  x5 : Int
@[reducible] def Z0h : Zn := ⟨(0 : Int), (0 : Int), (0 : Int), (0 : Int), (0 : Int), (0 : Int)⟩
structure Z6s where
  Low : Int
  Bit : Int
  Sent : Bool
  Polled : Int
  Counter : Int
  Dropped : Int
structure Z4i where
  Phase : Int
  Friend : Int
  Bit : Int
  Counter : Int
  Due : Int
  Tries : Int
  Told : Int
  More : Bool
  Last : Int
structure Zai where
  Address : Int
  Device : Int
  App : Int
  Keys : ZK
  IV : ZM
  Seq : Int
  Relay : Bool
  Befriends : Bool
  Friend : Z6s
  Low : Z4i
  Stored : Int
  Up : Bool
structure Z05 where
  Node : Zai
  f_now : Int
structure Z5k where
  q0 : Z8
  q1 : List Zi
  q2 : Int
  q3 : Bool
  q4 : Int
  q5 : List Int
  q6 : Int
structure Z2o where
  q0 : Zg
  q1 : Int
  q2 : Bool
  q3 : Int
  q4 : List Int
  q5 : Int
  q6 : List Zi
  q7 : List Z6
  q8 : List Z9
structure Zu where
  q0 : Int
  q1 : Zg
  q2 : List Zi
  q3 : List Z6
  q4 : List Z9
structure Z0N where
  q0 : Z7
structure ZC where
  q0 : Zg
  q1 : List Zi
structure Z0d where
  q0 : Bool
  q1 : Zg
  q2 : List Zi
structure Z00 where
  q0 : Zg
  q1 : List Zi
structure Z0k where
  q0 : List Int
structure Z0m where
  q0 : Int
  q1 : Zg
  q2 : List Zi
structure Z2W where
  q0 : Z8
structure Z0n where
  q0 : List Int
structure Z1n where
  q0 : List Za
structure Z14 where
  q0 : List Za
structure Z0J where
  q0 : List Z6
structure Z0I where
  q0 : List Z9
structure Z1f where
  q0 : List Ze
structure Z1k where
  q0 : List Zb
structure ZB where
  q0 : Bool
structure Zz where
  q0 : Int
structure Z0t where
  q0 : List Int
structure Z3L where
  q0 : List Int
structure Z66 where
  q0 : List Int
structure Z2F where
  q0 : List Int
  q1 : List Int
@[reducible] def Ty : Nat → Type
  | 1365 => Z5k
  | 1375 => Z2o
  | 1376 => Zu
  | 1385 => Z0N
  | 1381 => ZC
  | 1383 => Z0d
  | 1384 => Z00
  | 1374 => Z0k
  | 1382 => Z0m
  | 1366 => Z2W
  | 1367 => Z0n
  | 1368 => Z1n
  | 1369 => Z14
  | 1370 => Z0J
  | 1371 => Z0I
  | 1372 => Z1f
  | 1373 => Z1k
  | 1386 => ZB
  | 1387 => Zz
  | 1388 => Z0t
  | 1390 => Z3L
  | 1389 => Z66
  | 1391 => Z2F
  | 97 => Z05
  | 4 => Bool
  | 26 => Z04
  | 22 => Int
  | 3 => Int
  | 5 => Int
  | 27 => List Int
  | 64 => Za
  | 116 => Za
  | 101 => Z6
  | 104 => Z9
  | 108 => Ze
  | 62 => Zb
  | 50 => Z8
  | 51 => Int
  | 52 => Z8 × Int
  | 24 => Int
  | 30 => Zd
  | 9 => ByteArray
  | 23 => Int
  | 188 => List Int
  | 325 => ZR
  | 33 => Int
  | 73 => List (List Int)
  | 287 => Zf
  | 205 => (List Int) × Int
  | 285 => List Zf
  | 68 => Zi
  | 36 => List Int
  | 37 => List Za
  | 38 => List Za
  | 39 => List Z6
  | 32 => ZK
  | 35 => ZM
  | 40 => List Z9
  | 45 => Zk
  | 47 => Zm
  | 48 => List Zb
  | 43 => List Ze
  | 42 => Z7
  | 106 => Z5
  | 112 => List Z5
  | 113 => Z7 × (List Z5) × Int
  | 149 => Z2f
  | 90 => Zc
  | 230 => Int × (List Int)
  | 66 => Zt
  | 135 => List Zd
  | 296 => Zn
  | 240 => (List Int) × (List Int) × Int
  | 293 => List Int
  | 238 => Z8 × Int
  | _ => Empty
abbrev cu8 : Codec Ty Int := Codec.int .u8
abbrev cu16 : Codec Ty Int := Codec.int .u16
abbrev cu32 : Codec Ty Int := Codec.int .u32
abbrev cu64 : Codec Ty Int := Codec.int .u64
abbrev ci64 : Codec Ty Int := Codec.int .i64
abbrev cbo : Codec Ty Bool := Codec.bool
abbrev cst : Codec Ty ByteArray := Codec.str
def cd25 : Codec Ty Z04 := Codec.iso (fun x => (x.A, x.B, x.Device, x.App, x.Net, x.Relay, x.Friends, ())) (fun p => ⟨p.1, p.2.1, p.2.2.1, p.2.2.2.1, p.2.2.2.2.1, p.2.2.2.2.2.1, p.2.2.2.2.2.2.1⟩) (Codec.pair cu16 (Codec.pair cu16 (Codec.pair cu64 (Codec.pair cu64 (Codec.pair cu64 (Codec.pair cbo (Codec.pair cbo Codec.unit)))))))
def cd63 : Codec Ty Za := Codec.iso (fun x => (x.Src, x.IV, x.Seq, ())) (fun p => ⟨p.1, p.2.1, p.2.2.1⟩) (Codec.pair cu16 (Codec.pair cu32 (Codec.pair cu32 Codec.unit)))
def cd100 : Codec Ty Z6 := Codec.iso (fun x => (x.Dst, x.Src, x.App, x.Zero, x.IV, x.Parts, x.Acked, x.Due, x.Tries, x.TTL, ())) (fun p => ⟨p.1, p.2.1, p.2.2.1, p.2.2.2.1, p.2.2.2.2.1, p.2.2.2.2.2.1, p.2.2.2.2.2.2.1, p.2.2.2.2.2.2.2.1, p.2.2.2.2.2.2.2.2.1, p.2.2.2.2.2.2.2.2.2.1⟩) (Codec.pair cu16 (Codec.pair cu16 (Codec.pair cbo (Codec.pair cu32 (Codec.pair cu32 (Codec.pair (Codec.list 27 1 (fun (a : List Int) => ((Codec.list 5 1 (fun (a : Int) => cu8.oneV a) : Codec Ty (List (Ty 5)))).oneV a) : Codec Ty (List (Ty 27))) (Codec.pair cu32 (Codec.pair ci64 (Codec.pair ci64 (Codec.pair ci64 Codec.unit))))))))))
def cd103 : Codec Ty Z9 := Codec.iso (fun x => (x.Src, x.Dst, x.App, x.Zero, x.IV, x.Last, x.Parts, x.Block, x.Due, x.TTL, x.Done, ())) (fun p => ⟨p.1, p.2.1, p.2.2.1, p.2.2.2.1, p.2.2.2.2.1, p.2.2.2.2.2.1, p.2.2.2.2.2.2.1, p.2.2.2.2.2.2.2.1, p.2.2.2.2.2.2.2.2.1, p.2.2.2.2.2.2.2.2.2.1, p.2.2.2.2.2.2.2.2.2.2.1⟩) (Codec.pair cu16 (Codec.pair cu16 (Codec.pair cbo (Codec.pair cu32 (Codec.pair cu32 (Codec.pair ci64 (Codec.pair (Codec.list 27 1 (fun (a : List Int) => ((Codec.list 5 1 (fun (a : Int) => cu8.oneV a) : Codec Ty (List (Ty 5)))).oneV a) : Codec Ty (List (Ty 27))) (Codec.pair cu32 (Codec.pair ci64 (Codec.pair ci64 (Codec.pair cbo Codec.unit)))))))))))
def cd89 : Codec Ty Zc := Codec.iso (fun x => (x.IV, x.NID, x.Control, x.TTL, x.Seq, x.Src, x.Dst, x.Payload, ())) (fun p => ⟨p.1, p.2.1, p.2.2.1, p.2.2.2.1, p.2.2.2.2.1, p.2.2.2.2.2.1, p.2.2.2.2.2.2.1, p.2.2.2.2.2.2.2.1⟩) (Codec.pair cu32 (Codec.pair ci64 (Codec.pair cbo (Codec.pair ci64 (Codec.pair cu32 (Codec.pair cu16 (Codec.pair cu16 (Codec.pair (Codec.list 5 1 (fun (a : Int) => cu8.oneV a) : Codec Ty (List (Ty 5))) Codec.unit))))))))
def cd105 : Codec Ty Z5 := Codec.iso (fun x => (x.Control, x.Segmented, x.App, x.Zero, x.Index, x.Last, x.Opcode, x.Block, x.Friend, x.Bytes, ())) (fun p => ⟨p.1, p.2.1, p.2.2.1, p.2.2.2.1, p.2.2.2.2.1, p.2.2.2.2.2.1, p.2.2.2.2.2.2.1, p.2.2.2.2.2.2.2.1, p.2.2.2.2.2.2.2.2.1, p.2.2.2.2.2.2.2.2.2.1⟩) (Codec.pair cbo (Codec.pair cbo (Codec.pair cbo (Codec.pair ci64 (Codec.pair ci64 (Codec.pair ci64 (Codec.pair ci64 (Codec.pair cu32 (Codec.pair cbo (Codec.pair (Codec.list 5 1 (fun (a : Int) => cu8.oneV a) : Codec Ty (List (Ty 5))) Codec.unit))))))))))
def cd107 : Codec Ty Ze := Codec.iso (fun x => (x.PDU, x.Lower, ())) (fun p => ⟨p.1, p.2.1⟩) (Codec.pair cd89 (Codec.pair cd105 Codec.unit))
def cd61 : Codec Ty Zb := Codec.iso (fun x => (x.Due, x.Bytes, x.To, ())) (fun p => ⟨p.1, p.2.1, p.2.2.1⟩) (Codec.pair ci64 (Codec.pair (Codec.list 5 1 (fun (a : Int) => cu8.oneV a) : Codec Ty (List (Ty 5))) (Codec.pair cu16 Codec.unit)))
def cd29 : Codec Ty Zd := Codec.iso (fun x => (x.Key, x.NID, x.Encrypt, x.Hide, x.Beacon, ())) (fun p => ⟨p.1, p.2.1, p.2.2.1, p.2.2.2.1, p.2.2.2.2.1⟩) (Codec.pair cu64 (Codec.pair ci64 (Codec.pair cu64 (Codec.pair cu64 (Codec.pair cu64 Codec.unit)))))
def cd31 : Codec Ty ZK := Codec.iso (fun x => (x.Phase, x.Old, x.New, ())) (fun p => ⟨p.1, p.2.1, p.2.2.1⟩) (Codec.pair ci64 (Codec.pair cd29 (Codec.pair cd29 Codec.unit)))
def cd34 : Codec Ty ZM := Codec.iso (fun x => (x.Index, x.Updating, x.Since, ())) (fun p => ⟨p.1, p.2.1, p.2.2.1⟩) (Codec.pair cu32 (Codec.pair cbo (Codec.pair ci64 Codec.unit)))
def cd41 : Codec Ty Z7 := Codec.iso (fun x => (x.Out, x.In, ())) (fun p => ⟨p.1, p.2.1⟩) (Codec.pair (Codec.list 101 10 (fun (a : Z6) => .agg (cd100.encV a)) : Codec Ty (List (Ty 101))) (Codec.pair (Codec.list 104 11 (fun (a : Z9) => .agg (cd103.encV a)) : Codec Ty (List (Ty 104))) Codec.unit))
def cd44 : Codec Ty Zk := Codec.iso (fun x => (x.Low, x.Queue, x.Subs, x.Bit, x.Sent, x.Polled, x.Counter, x.Dropped, ())) (fun p => ⟨p.1, p.2.1, p.2.2.1, p.2.2.2.1, p.2.2.2.2.1, p.2.2.2.2.2.1, p.2.2.2.2.2.2.1, p.2.2.2.2.2.2.2.1⟩) (Codec.pair cu16 (Codec.pair (Codec.list 108 18 (fun (a : Ze) => .agg (cd107.encV a)) : Codec Ty (List (Ty 108))) (Codec.pair (Codec.list 22 1 (fun (a : Int) => cu16.oneV a) : Codec Ty (List (Ty 22))) (Codec.pair ci64 (Codec.pair cbo (Codec.pair ci64 (Codec.pair ci64 (Codec.pair ci64 Codec.unit))))))))
def cd46 : Codec Ty Zm := Codec.iso (fun x => (x.Phase, x.Friend, x.Bit, x.Counter, x.Due, x.Tries, x.Subs, x.Told, x.More, x.Last, ())) (fun p => ⟨p.1, p.2.1, p.2.2.1, p.2.2.2.1, p.2.2.2.2.1, p.2.2.2.2.2.1, p.2.2.2.2.2.2.1, p.2.2.2.2.2.2.2.1, p.2.2.2.2.2.2.2.2.1, p.2.2.2.2.2.2.2.2.2.1⟩) (Codec.pair ci64 (Codec.pair cu16 (Codec.pair ci64 (Codec.pair ci64 (Codec.pair ci64 (Codec.pair ci64 (Codec.pair (Codec.list 22 1 (fun (a : Int) => cu16.oneV a) : Codec Ty (List (Ty 22))) (Codec.pair ci64 (Codec.pair cbo (Codec.pair ci64 Codec.unit))))))))))
def cd49 : Codec Ty Z8 := Codec.iso (fun x => (x.Address, x.Device, x.App, x.Keys, x.IV, x.Seq, x.Relay, x.Befriends, x.Groups, x.Cache, x.Replays, x.Transport, x.Friend, x.Low, x.Out, x.Stored, x.Up, ())) (fun p => ⟨p.1, p.2.1, p.2.2.1, p.2.2.2.1, p.2.2.2.2.1, p.2.2.2.2.2.1, p.2.2.2.2.2.2.1, p.2.2.2.2.2.2.2.1, p.2.2.2.2.2.2.2.2.1, p.2.2.2.2.2.2.2.2.2.1, p.2.2.2.2.2.2.2.2.2.2.1, p.2.2.2.2.2.2.2.2.2.2.2.1, p.2.2.2.2.2.2.2.2.2.2.2.2.1, p.2.2.2.2.2.2.2.2.2.2.2.2.2.1, p.2.2.2.2.2.2.2.2.2.2.2.2.2.2.1, p.2.2.2.2.2.2.2.2.2.2.2.2.2.2.2.1, p.2.2.2.2.2.2.2.2.2.2.2.2.2.2.2.2.1⟩) (Codec.pair cu16 (Codec.pair cu64 (Codec.pair cu64 (Codec.pair cd31 (Codec.pair cd34 (Codec.pair cu32 (Codec.pair cbo (Codec.pair cbo (Codec.pair (Codec.list 22 1 (fun (a : Int) => cu16.oneV a) : Codec Ty (List (Ty 22))) (Codec.pair (Codec.list 64 3 (fun (a : Za) => .agg (cd63.encV a)) : Codec Ty (List (Ty 64))) (Codec.pair (Codec.list 116 3 (fun (a : Za) => .agg (cd63.encV a)) : Codec Ty (List (Ty 116))) (Codec.pair cd41 (Codec.pair cd44 (Codec.pair cd46 (Codec.pair (Codec.list 62 3 (fun (a : Zb) => .agg (cd61.encV a)) : Codec Ty (List (Ty 62))) (Codec.pair cu32 (Codec.pair cbo Codec.unit)))))))))))))))))
def cd324 : Codec Ty ZR := Codec.iso (fun x => (x.x0, x.x1, ())) (fun p => ⟨p.1, p.2.1⟩) (Codec.pair cu32 (Codec.pair cu32 Codec.unit))
def cd286 : Codec Ty Zf := Codec.iso (fun x => (x.Size, x.Value, ())) (fun p => ⟨p.1, p.2.1⟩) (Codec.pair ci64 (Codec.pair cu64 Codec.unit))
def cd65 : Codec Ty Zt := Codec.iso (fun x => (x.Src, x.Dst, x.App, x.TTL, x.Seq, x.Bytes, ())) (fun p => ⟨p.1, p.2.1, p.2.2.1, p.2.2.2.1, p.2.2.2.2.1, p.2.2.2.2.2.1⟩) (Codec.pair cu16 (Codec.pair cu16 (Codec.pair cbo (Codec.pair ci64 (Codec.pair cd63 (Codec.pair (Codec.list 5 1 (fun (a : Int) => cu8.oneV a) : Codec Ty (List (Ty 5))) Codec.unit))))))
def cd67 : Codec Ty Zi := Codec.iso (fun x => (x.Kind, x.Access, x.Peer, x.Number, ())) (fun p => ⟨p.1, p.2.1, p.2.2.1, p.2.2.2.1⟩) (Codec.pair ci64 (Codec.pair cd65 (Codec.pair cu16 (Codec.pair cu64 Codec.unit))))
def cd148 : Codec Ty Z2f := Codec.iso (fun x => (x.Src, x.Dst, x.TTL, x.Lower, ())) (fun p => ⟨p.1, p.2.1, p.2.2.1, p.2.2.2.1⟩) (Codec.pair cu16 (Codec.pair cu16 (Codec.pair ci64 (Codec.pair cd105 Codec.unit))))
def cd295 : Codec Ty Zn := Codec.iso (fun x => (x.x0, x.x1, x.x2, x.x3, x.x4, x.x5, ())) (fun p => ⟨p.1, p.2.1, p.2.2.1, p.2.2.2.1, p.2.2.2.2.1, p.2.2.2.2.2.1⟩) (Codec.pair cu8 (Codec.pair cu8 (Codec.pair cu8 (Codec.pair cu8 (Codec.pair cu8 (Codec.pair cu8 Codec.unit))))))
def cdw44 : Codec Ty Z6s := Codec.iso (fun x => (x.Low, (), (), x.Bit, x.Sent, x.Polled, x.Counter, x.Dropped, ())) (fun p => ⟨p.1, p.2.2.2.1, p.2.2.2.2.1, p.2.2.2.2.2.1, p.2.2.2.2.2.2.1, p.2.2.2.2.2.2.2.1⟩) (Codec.pair cu16 (Codec.pair Codec.skip (Codec.pair Codec.skip (Codec.pair ci64 (Codec.pair cbo (Codec.pair ci64 (Codec.pair ci64 (Codec.pair ci64 Codec.unit))))))))
def cdw46 : Codec Ty Z4i := Codec.iso (fun x => (x.Phase, x.Friend, x.Bit, x.Counter, x.Due, x.Tries, (), x.Told, x.More, x.Last, ())) (fun p => ⟨p.1, p.2.1, p.2.2.1, p.2.2.2.1, p.2.2.2.2.1, p.2.2.2.2.2.1, p.2.2.2.2.2.2.2.1, p.2.2.2.2.2.2.2.2.1, p.2.2.2.2.2.2.2.2.2.1⟩) (Codec.pair ci64 (Codec.pair cu16 (Codec.pair ci64 (Codec.pair ci64 (Codec.pair ci64 (Codec.pair ci64 (Codec.pair Codec.skip (Codec.pair ci64 (Codec.pair cbo (Codec.pair ci64 Codec.unit))))))))))
def cdw49 : Codec Ty Zai := Codec.iso (fun x => (x.Address, x.Device, x.App, x.Keys, x.IV, x.Seq, x.Relay, x.Befriends, (), (), (), (), (), x.Friend, x.Low, (), x.Stored, x.Up, ())) (fun p => ⟨p.1, p.2.1, p.2.2.1, p.2.2.2.1, p.2.2.2.2.1, p.2.2.2.2.2.1, p.2.2.2.2.2.2.1, p.2.2.2.2.2.2.2.1, p.2.2.2.2.2.2.2.2.2.2.2.2.2.1, p.2.2.2.2.2.2.2.2.2.2.2.2.2.2.1, p.2.2.2.2.2.2.2.2.2.2.2.2.2.2.2.2.1, p.2.2.2.2.2.2.2.2.2.2.2.2.2.2.2.2.2.1⟩) (Codec.pair cu16 (Codec.pair cu64 (Codec.pair cu64 (Codec.pair cd31 (Codec.pair cd34 (Codec.pair cu32 (Codec.pair cbo (Codec.pair cbo (Codec.pair Codec.skip (Codec.pair Codec.skip (Codec.pair Codec.skip (Codec.pair Codec.skip (Codec.pair Codec.skip (Codec.pair cdw44 (Codec.pair cdw46 (Codec.pair Codec.skip (Codec.pair cu32 (Codec.pair cbo Codec.unit))))))))))))))))))
def ZqY : Codec Ty Z05 := Codec.iso (fun x => (x.Node, x.f_now, (), ())) (fun p => ⟨p.1, p.2.1⟩) (Codec.pair cdw49 (Codec.pair ci64 (Codec.pair Codec.skip Codec.unit)))
@[reducible] def U : Univ where
  Ty := Ty
  esz := fun t => match t with
    | 4 => 1
    | 26 => 7
    | 22 => 1
    | 3 => 1
    | 5 => 1
    | 27 => 1
    | 64 => 3
    | 116 => 3
    | 101 => 10
    | 104 => 11
    | 108 => 18
    | 62 => 3
    | 50 => 46
    | 51 => 1
    | 52 => 1
    | 24 => 1
    | 30 => 5
    | 9 => 1
    | 23 => 1
    | 188 => 1
    | 325 => 2
    | 33 => 1
    | 73 => 1
    | 287 => 2
    | 205 => 1
    | 285 => 1
    | 68 => 11
    | 36 => 1
    | 37 => 1
    | 38 => 1
    | 39 => 1
    | 32 => 11
    | 35 => 3
    | 40 => 1
    | 45 => 8
    | 47 => 10
    | 48 => 1
    | 43 => 1
    | 42 => 2
    | 106 => 10
    | 112 => 1
    | 113 => 1
    | 149 => 13
    | 90 => 8
    | 230 => 1
    | 66 => 8
    | 135 => 1
    | 296 => 6
    | 240 => 1
    | 293 => 1
    | 238 => 1
    | _ => 0
  enc := fun t => match t with
    | 97 => fun (a : Z05) => ZqY.ptrV 48 a
    | 4 => fun (a : Bool) => cbo.oneV a
    | 26 => fun (a : Z04) => .agg (cd25.encV a)
    | 22 => fun (a : Int) => cu16.oneV a
    | 3 => fun (a : Int) => ci64.oneV a
    | 5 => fun (a : Int) => cu8.oneV a
    | 27 => fun (a : List Int) => ((Codec.list 5 1 (fun (a : Int) => cu8.oneV a) : Codec Ty (List (Ty 5)))).oneV a
    | 64 => fun (a : Za) => .agg (cd63.encV a)
    | 116 => fun (a : Za) => .agg (cd63.encV a)
    | 101 => fun (a : Z6) => .agg (cd100.encV a)
    | 104 => fun (a : Z9) => .agg (cd103.encV a)
    | 108 => fun (a : Ze) => .agg (cd107.encV a)
    | 62 => fun (a : Zb) => .agg (cd61.encV a)
    | 50 => fun (a : Z8) => .agg (cd49.encV a)
    | 51 => fun (a : Int) => ci64.oneV a
    | 52 => fun (a : Z8 × Int) => .tup [(.agg (cd49.encV a.1)), (ci64.oneV a.2)]
    | 24 => fun (a : Int) => cu64.oneV a
    | 30 => fun (a : Zd) => .agg (cd29.encV a)
    | 9 => fun (a : ByteArray) => cst.oneV a
    | 23 => fun (a : Int) => cu64.oneV a
    | 188 => fun (a : List Int) => ((Codec.list 23 1 (fun (a : Int) => cu64.oneV a) : Codec Ty (List (Ty 23)))).oneV a
    | 325 => fun (a : ZR) => .agg (cd324.encV a)
    | 33 => fun (a : Int) => cu32.oneV a
    | 73 => fun (a : List (List Int)) => ((Codec.list 27 1 (fun (a : List Int) => ((Codec.list 5 1 (fun (a : Int) => cu8.oneV a) : Codec Ty (List (Ty 5)))).oneV a) : Codec Ty (List (Ty 27)))).oneV a
    | 287 => fun (a : Zf) => .agg (cd286.encV a)
    | 205 => fun (a : (List Int) × Int) => .tup [(((Codec.list 5 1 (fun (a : Int) => cu8.oneV a) : Codec Ty (List (Ty 5)))).oneV a.1), (ci64.oneV a.2)]
    | 285 => fun (a : List Zf) => ((Codec.list 287 2 (fun (a : Zf) => .agg (cd286.encV a)) : Codec Ty (List (Ty 287)))).oneV a
    | 68 => fun (a : Zi) => .agg (cd67.encV a)
    | 36 => fun (a : List Int) => ((Codec.list 22 1 (fun (a : Int) => cu16.oneV a) : Codec Ty (List (Ty 22)))).oneV a
    | 37 => fun (a : List Za) => ((Codec.list 64 3 (fun (a : Za) => .agg (cd63.encV a)) : Codec Ty (List (Ty 64)))).oneV a
    | 38 => fun (a : List Za) => ((Codec.list 116 3 (fun (a : Za) => .agg (cd63.encV a)) : Codec Ty (List (Ty 116)))).oneV a
    | 39 => fun (a : List Z6) => ((Codec.list 101 10 (fun (a : Z6) => .agg (cd100.encV a)) : Codec Ty (List (Ty 101)))).oneV a
    | 32 => fun (a : ZK) => .agg (cd31.encV a)
    | 35 => fun (a : ZM) => .agg (cd34.encV a)
    | 40 => fun (a : List Z9) => ((Codec.list 104 11 (fun (a : Z9) => .agg (cd103.encV a)) : Codec Ty (List (Ty 104)))).oneV a
    | 45 => fun (a : Zk) => .agg (cd44.encV a)
    | 47 => fun (a : Zm) => .agg (cd46.encV a)
    | 48 => fun (a : List Zb) => ((Codec.list 62 3 (fun (a : Zb) => .agg (cd61.encV a)) : Codec Ty (List (Ty 62)))).oneV a
    | 43 => fun (a : List Ze) => ((Codec.list 108 18 (fun (a : Ze) => .agg (cd107.encV a)) : Codec Ty (List (Ty 108)))).oneV a
    | 42 => fun (a : Z7) => .agg (cd41.encV a)
    | 106 => fun (a : Z5) => .agg (cd105.encV a)
    | 112 => fun (a : List Z5) => ((Codec.list 106 10 (fun (a : Z5) => .agg (cd105.encV a)) : Codec Ty (List (Ty 106)))).oneV a
    | 113 => fun (a : Z7 × (List Z5) × Int) => .tup [(.agg (cd41.encV a.1)), (((Codec.list 106 10 (fun (a : Z5) => .agg (cd105.encV a)) : Codec Ty (List (Ty 106)))).oneV a.2.1), (ci64.oneV a.2.2)]
    | 149 => fun (a : Z2f) => .agg (cd148.encV a)
    | 90 => fun (a : Zc) => .agg (cd89.encV a)
    | 230 => fun (a : Int × (List Int)) => .tup [(cu64.oneV a.1), (((Codec.list 5 1 (fun (a : Int) => cu8.oneV a) : Codec Ty (List (Ty 5)))).oneV a.2)]
    | 66 => fun (a : Zt) => .agg (cd65.encV a)
    | 135 => fun (a : List Zd) => ((Codec.list 30 5 (fun (a : Zd) => .agg (cd29.encV a)) : Codec Ty (List (Ty 30)))).oneV a
    | 296 => fun (a : Zn) => .agg (cd295.encV a)
    | 240 => fun (a : (List Int) × (List Int) × Int) => .tup [(((Codec.list 23 1 (fun (a : Int) => cu64.oneV a) : Codec Ty (List (Ty 23)))).oneV a.1), (((Codec.list 5 1 (fun (a : Int) => cu8.oneV a) : Codec Ty (List (Ty 5)))).oneV a.2.1), (ci64.oneV a.2.2)]
    | 293 => fun (a : List Int) => ((Codec.list 3 1 (fun (a : Int) => ci64.oneV a) : Codec Ty (List (Ty 3)))).oneV a
    | 238 => fun (a : Z8 × Int) => .tup [(.agg (cd49.encV a.1)), (cu32.oneV a.2)]
    | _ => fun _ => .no
  encS := fun t => match t with
    | 97 => fun (a : Z05) => .raw (ZqY.ptrV 48 a)
    | 4 => fun (a : Bool) => cbo.oneS a
    | 26 => fun (a : Z04) => .agg (cd25.encS a)
    | 22 => fun (a : Int) => cu16.oneS a
    | 3 => fun (a : Int) => ci64.oneS a
    | 5 => fun (a : Int) => cu8.oneS a
    | 27 => fun (a : List Int) => ((Codec.list 5 1 (fun (a : Int) => cu8.oneV a) : Codec Ty (List (Ty 5)))).oneS a
    | 64 => fun (a : Za) => .agg (cd63.encS a)
    | 116 => fun (a : Za) => .agg (cd63.encS a)
    | 101 => fun (a : Z6) => .agg (cd100.encS a)
    | 104 => fun (a : Z9) => .agg (cd103.encS a)
    | 108 => fun (a : Ze) => .agg (cd107.encS a)
    | 62 => fun (a : Zb) => .agg (cd61.encS a)
    | 50 => fun (a : Z8) => .agg (cd49.encS a)
    | 51 => fun (a : Int) => ci64.oneS a
    | 52 => fun (a : Z8 × Int) => .tup [(.agg (cd49.encS a.1)), (ci64.oneS a.2)]
    | 24 => fun (a : Int) => cu64.oneS a
    | 30 => fun (a : Zd) => .agg (cd29.encS a)
    | 9 => fun (a : ByteArray) => cst.oneS a
    | 23 => fun (a : Int) => cu64.oneS a
    | 188 => fun (a : List Int) => ((Codec.list 23 1 (fun (a : Int) => cu64.oneV a) : Codec Ty (List (Ty 23)))).oneS a
    | 325 => fun (a : ZR) => .agg (cd324.encS a)
    | 33 => fun (a : Int) => cu32.oneS a
    | 73 => fun (a : List (List Int)) => ((Codec.list 27 1 (fun (a : List Int) => ((Codec.list 5 1 (fun (a : Int) => cu8.oneV a) : Codec Ty (List (Ty 5)))).oneV a) : Codec Ty (List (Ty 27)))).oneS a
    | 287 => fun (a : Zf) => .agg (cd286.encS a)
    | 205 => fun (a : (List Int) × Int) => .tup [(((Codec.list 5 1 (fun (a : Int) => cu8.oneV a) : Codec Ty (List (Ty 5)))).oneS a.1), (ci64.oneS a.2)]
    | 285 => fun (a : List Zf) => ((Codec.list 287 2 (fun (a : Zf) => .agg (cd286.encV a)) : Codec Ty (List (Ty 287)))).oneS a
    | 68 => fun (a : Zi) => .agg (cd67.encS a)
    | 36 => fun (a : List Int) => ((Codec.list 22 1 (fun (a : Int) => cu16.oneV a) : Codec Ty (List (Ty 22)))).oneS a
    | 37 => fun (a : List Za) => ((Codec.list 64 3 (fun (a : Za) => .agg (cd63.encV a)) : Codec Ty (List (Ty 64)))).oneS a
    | 38 => fun (a : List Za) => ((Codec.list 116 3 (fun (a : Za) => .agg (cd63.encV a)) : Codec Ty (List (Ty 116)))).oneS a
    | 39 => fun (a : List Z6) => ((Codec.list 101 10 (fun (a : Z6) => .agg (cd100.encV a)) : Codec Ty (List (Ty 101)))).oneS a
    | 32 => fun (a : ZK) => .agg (cd31.encS a)
    | 35 => fun (a : ZM) => .agg (cd34.encS a)
    | 40 => fun (a : List Z9) => ((Codec.list 104 11 (fun (a : Z9) => .agg (cd103.encV a)) : Codec Ty (List (Ty 104)))).oneS a
    | 45 => fun (a : Zk) => .agg (cd44.encS a)
    | 47 => fun (a : Zm) => .agg (cd46.encS a)
    | 48 => fun (a : List Zb) => ((Codec.list 62 3 (fun (a : Zb) => .agg (cd61.encV a)) : Codec Ty (List (Ty 62)))).oneS a
    | 43 => fun (a : List Ze) => ((Codec.list 108 18 (fun (a : Ze) => .agg (cd107.encV a)) : Codec Ty (List (Ty 108)))).oneS a
    | 42 => fun (a : Z7) => .agg (cd41.encS a)
    | 106 => fun (a : Z5) => .agg (cd105.encS a)
    | 112 => fun (a : List Z5) => ((Codec.list 106 10 (fun (a : Z5) => .agg (cd105.encV a)) : Codec Ty (List (Ty 106)))).oneS a
    | 113 => fun (a : Z7 × (List Z5) × Int) => .tup [(.agg (cd41.encS a.1)), (((Codec.list 106 10 (fun (a : Z5) => .agg (cd105.encV a)) : Codec Ty (List (Ty 106)))).oneS a.2.1), (ci64.oneS a.2.2)]
    | 149 => fun (a : Z2f) => .agg (cd148.encS a)
    | 90 => fun (a : Zc) => .agg (cd89.encS a)
    | 230 => fun (a : Int × (List Int)) => .tup [(cu64.oneS a.1), (((Codec.list 5 1 (fun (a : Int) => cu8.oneV a) : Codec Ty (List (Ty 5)))).oneS a.2)]
    | 66 => fun (a : Zt) => .agg (cd65.encS a)
    | 135 => fun (a : List Zd) => ((Codec.list 30 5 (fun (a : Zd) => .agg (cd29.encV a)) : Codec Ty (List (Ty 30)))).oneS a
    | 296 => fun (a : Zn) => .agg (cd295.encS a)
    | 240 => fun (a : (List Int) × (List Int) × Int) => .tup [(((Codec.list 23 1 (fun (a : Int) => cu64.oneV a) : Codec Ty (List (Ty 23)))).oneS a.1), (((Codec.list 5 1 (fun (a : Int) => cu8.oneV a) : Codec Ty (List (Ty 5)))).oneS a.2.1), (ci64.oneS a.2.2)]
    | 293 => fun (a : List Int) => ((Codec.list 3 1 (fun (a : Int) => ci64.oneV a) : Codec Ty (List (Ty 3)))).oneS a
    | 238 => fun (a : Z8 × Int) => .tup [(.agg (cd49.encS a.1)), (cu32.oneS a.2)]
    | _ => fun _ => .no
  decS := fun t => match t with
    | 97 => fun v => ZqY.ptrD 48 v
    | 4 => fun v => cbo.one v
    | 26 => fun v => cd25.agg v
    | 22 => fun v => cu16.one v
    | 3 => fun v => ci64.one v
    | 5 => fun v => cu8.one v
    | 27 => fun v => ((Codec.list 5 1 (fun (a : Int) => cu8.oneV a) : Codec Ty (List (Ty 5)))).one v
    | 64 => fun v => cd63.agg v
    | 116 => fun v => cd63.agg v
    | 101 => fun v => cd100.agg v
    | 104 => fun v => cd103.agg v
    | 108 => fun v => cd107.agg v
    | 62 => fun v => cd61.agg v
    | 50 => fun v => cd49.agg v
    | 51 => fun v => ci64.one v
    | 52 => fun _ => none
    | 24 => fun v => cu64.one v
    | 30 => fun v => cd29.agg v
    | 9 => fun v => cst.one v
    | 23 => fun v => cu64.one v
    | 188 => fun v => ((Codec.list 23 1 (fun (a : Int) => cu64.oneV a) : Codec Ty (List (Ty 23)))).one v
    | 325 => fun v => cd324.agg v
    | 33 => fun v => cu32.one v
    | 73 => fun v => ((Codec.list 27 1 (fun (a : List Int) => ((Codec.list 5 1 (fun (a : Int) => cu8.oneV a) : Codec Ty (List (Ty 5)))).oneV a) : Codec Ty (List (Ty 27)))).one v
    | 287 => fun v => cd286.agg v
    | 205 => fun _ => none
    | 285 => fun v => ((Codec.list 287 2 (fun (a : Zf) => .agg (cd286.encV a)) : Codec Ty (List (Ty 287)))).one v
    | 68 => fun v => cd67.agg v
    | 36 => fun v => ((Codec.list 22 1 (fun (a : Int) => cu16.oneV a) : Codec Ty (List (Ty 22)))).one v
    | 37 => fun v => ((Codec.list 64 3 (fun (a : Za) => .agg (cd63.encV a)) : Codec Ty (List (Ty 64)))).one v
    | 38 => fun v => ((Codec.list 116 3 (fun (a : Za) => .agg (cd63.encV a)) : Codec Ty (List (Ty 116)))).one v
    | 39 => fun v => ((Codec.list 101 10 (fun (a : Z6) => .agg (cd100.encV a)) : Codec Ty (List (Ty 101)))).one v
    | 32 => fun v => cd31.agg v
    | 35 => fun v => cd34.agg v
    | 40 => fun v => ((Codec.list 104 11 (fun (a : Z9) => .agg (cd103.encV a)) : Codec Ty (List (Ty 104)))).one v
    | 45 => fun v => cd44.agg v
    | 47 => fun v => cd46.agg v
    | 48 => fun v => ((Codec.list 62 3 (fun (a : Zb) => .agg (cd61.encV a)) : Codec Ty (List (Ty 62)))).one v
    | 43 => fun v => ((Codec.list 108 18 (fun (a : Ze) => .agg (cd107.encV a)) : Codec Ty (List (Ty 108)))).one v
    | 42 => fun v => cd41.agg v
    | 106 => fun v => cd105.agg v
    | 112 => fun v => ((Codec.list 106 10 (fun (a : Z5) => .agg (cd105.encV a)) : Codec Ty (List (Ty 106)))).one v
    | 113 => fun _ => none
    | 149 => fun v => cd148.agg v
    | 90 => fun v => cd89.agg v
    | 230 => fun _ => none
    | 66 => fun v => cd65.agg v
    | 135 => fun v => ((Codec.list 30 5 (fun (a : Zd) => .agg (cd29.encV a)) : Codec Ty (List (Ty 30)))).one v
    | 296 => fun v => cd295.agg v
    | 240 => fun _ => none
    | 293 => fun v => ((Codec.list 3 1 (fun (a : Int) => ci64.oneV a) : Codec Ty (List (Ty 3)))).one v
    | 238 => fun _ => none
    | _ => fun _ => none
  keys := [97, 4, 26, 22, 3, 5, 27, 64, 116, 101, 104, 108, 62, 50, 51, 52, 24, 30, 9, 23, 188, 325, 33, 73, 287, 205, 285, 68, 36, 37, 38, 39, 32, 35, 40, 45, 47, 48, 43, 42, 106, 112, 113, 149, 90, 230, 66, 135, 296, 240, 293, 238]
theorem Zmy : Z0 U cd25 [0, 0, 0, 0, 0, 0, 0] := Z0.iso ((Z0.int _).pair ((Z0.int _).pair ((Z0.int _).pair ((Z0.int _).pair ((Z0.int _).pair ((Z0.bool).pair ((Z0.bool).pair Z0.unit))))))) (fun _ => rfl) (fun _ => rfl)
theorem Z39 : Z0 U cd63 [0, 0, 0] := Z0.iso ((Z0.int _).pair ((Z0.int _).pair ((Z0.int _).pair Z0.unit))) (fun _ => rfl) (fun _ => rfl)
theorem Z84 : Z0 U cd100 [0, 0, 0, 0, 0, 1, 0, 0, 0, 0] := Z0.iso ((Z0.int _).pair ((Z0.int _).pair ((Z0.bool).pair ((Z0.int _).pair ((Z0.int _).pair ((Z0.list (U := U) (t := 27) (n := 1) (e := fun (a : List Int) => ((Codec.list 5 1 (fun (a : Int) => cu8.oneV a) : Codec Ty (List (Ty 5)))).oneV a) (fun _ => rfl) rfl (fun a => (Z0.list (U := U) (t := 5) (n := 1) (e := fun (a : Int) => cu8.oneV a) (fun _ => rfl) rfl (fun a => (Z0.int _ : Z0 U cu8 _).oneNr a) (fun a b h => (Z0.int _ : Z0 U cu8 _).Z0f h) : Z0 U (Codec.list 5 1 (fun (a : Int) => cu8.oneV a) : Codec Ty (List (Ty 5))) _).oneNr a) (fun a b h => (Z0.list (U := U) (t := 5) (n := 1) (e := fun (a : Int) => cu8.oneV a) (fun _ => rfl) rfl (fun a => (Z0.int _ : Z0 U cu8 _).oneNr a) (fun a b h => (Z0.int _ : Z0 U cu8 _).Z0f h) : Z0 U (Codec.list 5 1 (fun (a : Int) => cu8.oneV a) : Codec Ty (List (Ty 5))) _).Z0f h)).pair ((Z0.int _).pair ((Z0.int _).pair ((Z0.int _).pair ((Z0.int _).pair Z0.unit)))))))))) (fun _ => rfl) (fun _ => rfl)
theorem Z80 : Z0 U cd103 [0, 0, 0, 0, 0, 0, 1, 0, 0, 0, 0] := Z0.iso ((Z0.int _).pair ((Z0.int _).pair ((Z0.bool).pair ((Z0.int _).pair ((Z0.int _).pair ((Z0.int _).pair ((Z0.list (U := U) (t := 27) (n := 1) (e := fun (a : List Int) => ((Codec.list 5 1 (fun (a : Int) => cu8.oneV a) : Codec Ty (List (Ty 5)))).oneV a) (fun _ => rfl) rfl (fun a => (Z0.list (U := U) (t := 5) (n := 1) (e := fun (a : Int) => cu8.oneV a) (fun _ => rfl) rfl (fun a => (Z0.int _ : Z0 U cu8 _).oneNr a) (fun a b h => (Z0.int _ : Z0 U cu8 _).Z0f h) : Z0 U (Codec.list 5 1 (fun (a : Int) => cu8.oneV a) : Codec Ty (List (Ty 5))) _).oneNr a) (fun a b h => (Z0.list (U := U) (t := 5) (n := 1) (e := fun (a : Int) => cu8.oneV a) (fun _ => rfl) rfl (fun a => (Z0.int _ : Z0 U cu8 _).oneNr a) (fun a b h => (Z0.int _ : Z0 U cu8 _).Z0f h) : Z0 U (Codec.list 5 1 (fun (a : Int) => cu8.oneV a) : Codec Ty (List (Ty 5))) _).Z0f h)).pair ((Z0.int _).pair ((Z0.int _).pair ((Z0.int _).pair ((Z0.bool).pair Z0.unit))))))))))) (fun _ => rfl) (fun _ => rfl)
theorem ZjZ : Z0 U cd89 [0, 0, 0, 0, 0, 0, 0, 1] := Z0.iso ((Z0.int _).pair ((Z0.int _).pair ((Z0.bool).pair ((Z0.int _).pair ((Z0.int _).pair ((Z0.int _).pair ((Z0.int _).pair ((Z0.list (U := U) (t := 5) (n := 1) (e := fun (a : Int) => cu8.oneV a) (fun _ => rfl) rfl (fun a => (Z0.int _ : Z0 U cu8 _).oneNr a) (fun a b h => (Z0.int _ : Z0 U cu8 _).Z0f h)).pair Z0.unit)))))))) (fun _ => rfl) (fun _ => rfl)
theorem Z8c : Z0 U cd105 [0, 0, 0, 0, 0, 0, 0, 0, 0, 1] := Z0.iso ((Z0.bool).pair ((Z0.bool).pair ((Z0.bool).pair ((Z0.int _).pair ((Z0.int _).pair ((Z0.int _).pair ((Z0.int _).pair ((Z0.int _).pair ((Z0.bool).pair ((Z0.list (U := U) (t := 5) (n := 1) (e := fun (a : Int) => cu8.oneV a) (fun _ => rfl) rfl (fun a => (Z0.int _ : Z0 U cu8 _).oneNr a) (fun a b h => (Z0.int _ : Z0 U cu8 _).Z0f h)).pair Z0.unit)))))))))) (fun _ => rfl) (fun _ => rfl)
theorem Z7Z : Z0 U cd107 [0, 0, 0, 0, 0, 0, 0, 1, 0, 0, 0, 0, 0, 0, 0, 0, 0, 1] := Z0.iso ((ZjZ).pair ((Z8c).pair Z0.unit)) (fun _ => rfl) (fun _ => rfl)
theorem Zdr : Z0 U cd61 [0, 1, 0] := Z0.iso ((Z0.int _).pair ((Z0.list (U := U) (t := 5) (n := 1) (e := fun (a : Int) => cu8.oneV a) (fun _ => rfl) rfl (fun a => (Z0.int _ : Z0 U cu8 _).oneNr a) (fun a b h => (Z0.int _ : Z0 U cu8 _).Z0f h)).pair ((Z0.int _).pair Z0.unit))) (fun _ => rfl) (fun _ => rfl)
theorem ZdA : Z0 U cd29 [0, 0, 0, 0, 0] := Z0.iso ((Z0.int _).pair ((Z0.int _).pair ((Z0.int _).pair ((Z0.int _).pair ((Z0.int _).pair Z0.unit))))) (fun _ => rfl) (fun _ => rfl)
theorem ZhR : Z0 U cd31 [0, 0, 0, 0, 0, 0, 0, 0, 0, 0, 0] := Z0.iso ((Z0.int _).pair ((ZdA).pair ((ZdA).pair Z0.unit))) (fun _ => rfl) (fun _ => rfl)
theorem Zhp : Z0 U cd34 [0, 0, 0] := Z0.iso ((Z0.int _).pair ((Z0.bool).pair ((Z0.int _).pair Z0.unit))) (fun _ => rfl) (fun _ => rfl)
theorem ZjV : Z0 U cd41 [10, 11] := Z0.iso ((Z0.list (U := U) (t := 101) (n := 10) (e := fun (a : Z6) => .agg (cd100.encV a)) (fun _ => rfl) rfl (fun a => Z84.nr a) (fun a b h => Z84.inj _ _ (by injection h))).pair ((Z0.list (U := U) (t := 104) (n := 11) (e := fun (a : Z9) => .agg (cd103.encV a)) (fun _ => rfl) rfl (fun a => Z80.nr a) (fun a b h => Z80.inj _ _ (by injection h))).pair Z0.unit)) (fun _ => rfl) (fun _ => rfl)
theorem Zkt : Z0 U cd44 [0, 18, 1, 0, 0, 0, 0, 0] := Z0.iso ((Z0.int _).pair ((Z0.list (U := U) (t := 108) (n := 18) (e := fun (a : Ze) => .agg (cd107.encV a)) (fun _ => rfl) rfl (fun a => Z7Z.nr a) (fun a b h => Z7Z.inj _ _ (by injection h))).pair ((Z0.list (U := U) (t := 22) (n := 1) (e := fun (a : Int) => cu16.oneV a) (fun _ => rfl) rfl (fun a => (Z0.int _ : Z0 U cu16 _).oneNr a) (fun a b h => (Z0.int _ : Z0 U cu16 _).Z0f h)).pair ((Z0.int _).pair ((Z0.bool).pair ((Z0.int _).pair ((Z0.int _).pair ((Z0.int _).pair Z0.unit)))))))) (fun _ => rfl) (fun _ => rfl)
theorem Zka : Z0 U cd46 [0, 0, 0, 0, 0, 0, 1, 0, 0, 0] := Z0.iso ((Z0.int _).pair ((Z0.int _).pair ((Z0.int _).pair ((Z0.int _).pair ((Z0.int _).pair ((Z0.int _).pair ((Z0.list (U := U) (t := 22) (n := 1) (e := fun (a : Int) => cu16.oneV a) (fun _ => rfl) rfl (fun a => (Z0.int _ : Z0 U cu16 _).oneNr a) (fun a b h => (Z0.int _ : Z0 U cu16 _).Z0f h)).pair ((Z0.int _).pair ((Z0.bool).pair ((Z0.int _).pair Z0.unit)))))))))) (fun _ => rfl) (fun _ => rfl)
theorem Zmz : Z0 U cd49 [0, 0, 0, 0, 0, 0, 0, 0, 0, 0, 0, 0, 0, 0, 0, 0, 0, 0, 0, 0, 1, 3, 3, 10, 11, 0, 18, 1, 0, 0, 0, 0, 0, 0, 0, 0, 0, 0, 0, 1, 0, 0, 0, 3, 0, 0] := Z0.iso ((Z0.int _).pair ((Z0.int _).pair ((Z0.int _).pair ((ZhR).pair ((Zhp).pair ((Z0.int _).pair ((Z0.bool).pair ((Z0.bool).pair ((Z0.list (U := U) (t := 22) (n := 1) (e := fun (a : Int) => cu16.oneV a) (fun _ => rfl) rfl (fun a => (Z0.int _ : Z0 U cu16 _).oneNr a) (fun a b h => (Z0.int _ : Z0 U cu16 _).Z0f h)).pair ((Z0.list (U := U) (t := 64) (n := 3) (e := fun (a : Za) => .agg (cd63.encV a)) (fun _ => rfl) rfl (fun a => Z39.nr a) (fun a b h => Z39.inj _ _ (by injection h))).pair ((Z0.list (U := U) (t := 116) (n := 3) (e := fun (a : Za) => .agg (cd63.encV a)) (fun _ => rfl) rfl (fun a => Z39.nr a) (fun a b h => Z39.inj _ _ (by injection h))).pair ((ZjV).pair ((Zkt).pair ((Zka).pair ((Z0.list (U := U) (t := 62) (n := 3) (e := fun (a : Zb) => .agg (cd61.encV a)) (fun _ => rfl) rfl (fun a => Zdr.nr a) (fun a b h => Zdr.inj _ _ (by injection h))).pair ((Z0.int _).pair ((Z0.bool).pair Z0.unit))))))))))))))))) (fun _ => rfl) (fun _ => rfl)
theorem ZgZ : Z0 U cd324 [0, 0] := Z0.iso ((Z0.int _).pair ((Z0.int _).pair Z0.unit)) (fun _ => rfl) (fun _ => rfl)
theorem ZbO : Z0 U cd286 [0, 0] := Z0.iso ((Z0.int _).pair ((Z0.int _).pair Z0.unit)) (fun _ => rfl) (fun _ => rfl)
theorem ZjI : Z0 U cd65 [0, 0, 0, 0, 0, 0, 0, 1] := Z0.iso ((Z0.int _).pair ((Z0.int _).pair ((Z0.bool).pair ((Z0.int _).pair ((Z39).pair ((Z0.list (U := U) (t := 5) (n := 1) (e := fun (a : Int) => cu8.oneV a) (fun _ => rfl) rfl (fun a => (Z0.int _ : Z0 U cu8 _).oneNr a) (fun a b h => (Z0.int _ : Z0 U cu8 _).Z0f h)).pair Z0.unit)))))) (fun _ => rfl) (fun _ => rfl)
theorem Zn4 : Z0 U cd67 [0, 0, 0, 0, 0, 0, 0, 0, 1, 0, 0] := Z0.iso ((Z0.int _).pair ((ZjI).pair ((Z0.int _).pair ((Z0.int _).pair Z0.unit)))) (fun _ => rfl) (fun _ => rfl)
theorem Zia : Z0 U cd148 [0, 0, 0, 0, 0, 0, 0, 0, 0, 0, 0, 0, 1] := Z0.iso ((Z0.int _).pair ((Z0.int _).pair ((Z0.int _).pair ((Z8c).pair Z0.unit)))) (fun _ => rfl) (fun _ => rfl)
theorem Zi2 : Z0 U cd295 [0, 0, 0, 0, 0, 0] := Z0.iso ((Z0.int _).pair ((Z0.int _).pair ((Z0.int _).pair ((Z0.int _).pair ((Z0.int _).pair ((Z0.int _).pair Z0.unit)))))) (fun _ => rfl) (fun _ => rfl)
theorem rows4 : rowsOf Tryz.prog 4 = [0] := by kernel_rfl
theorem tyok4 {E : Env} (hE : E.rows = rowsOf Tryz.prog) : TyOK U E 4 :=
  have c : Z0 U cbo [0] := Z0.bool
  ⟨fun a => c.Z06 a, fun v a h => by rw [hE, rows4]; exact c.one h (Zy4 h), fun a => by first | rfl | exact (congrArg (fun x => [x]) (c.Z06 a).symm), fun a => c.oneNr a, fun a b h => c.Z0f h⟩
theorem ZyH : rowsOf Tryz.prog 26 = [0, 0, 0, 0, 0, 0, 0] := by kernel_rfl
theorem Zx8 {E : Env} (hE : E.rows = rowsOf Tryz.prog) : TyOK U E 26 := ⟨fun a => congrArg V.agg (Zmy.enc a), fun v a h => by rw [hE, ZyH]; exact Zmy.agg h, fun a => (Zmy.enc a).symm, fun a => Zmy.nr a, fun a b h => Zmy.inj _ _ (by injection h)⟩
theorem ZyQ : rowsOf Tryz.prog 22 = [0] := by kernel_rfl
theorem ZwI {E : Env} (hE : E.rows = rowsOf Tryz.prog) : TyOK U E 22 :=
  have c : Z0 U cu16 [0] := Z0.int _
  ⟨fun a => c.Z06 a, fun v a h => by rw [hE, ZyQ]; exact c.one h (Zh3 h), fun a => by first | rfl | exact (congrArg (fun x => [x]) (c.Z06 a).symm), fun a => c.oneNr a, fun a b h => c.Z0f h⟩
theorem rows3 : rowsOf Tryz.prog 3 = [0] := by kernel_rfl
theorem tyok3 {E : Env} (hE : E.rows = rowsOf Tryz.prog) : TyOK U E 3 :=
  have c : Z0 U ci64 [0] := Z0.int _
  ⟨fun a => c.Z06 a, fun v a h => by rw [hE, rows3]; exact c.one h (Zh3 h), fun a => by first | rfl | exact (congrArg (fun x => [x]) (c.Z06 a).symm), fun a => c.oneNr a, fun a b h => c.Z0f h⟩
theorem rows5 : rowsOf Tryz.prog 5 = [0] := by kernel_rfl
theorem tyok5 {E : Env} (hE : E.rows = rowsOf Tryz.prog) : TyOK U E 5 :=
  have c : Z0 U cu8 [0] := Z0.int _
  ⟨fun a => c.Z06 a, fun v a h => by rw [hE, rows5]; exact c.one h (Zh3 h), fun a => by first | rfl | exact (congrArg (fun x => [x]) (c.Z06 a).symm), fun a => c.oneNr a, fun a b h => c.Z0f h⟩
theorem Zzg : rowsOf Tryz.prog 27 = [1] := by kernel_rfl
theorem Z6h {E : Env} (hE : E.rows = rowsOf Tryz.prog) : TyOK U E 27 :=
  have c : Z0 U (Codec.list 5 1 (fun (a : Int) => cu8.oneV a) : Codec Ty (List (Ty 5))) [1] := Z0.list (U := U) (t := 5) (n := 1) (e := fun (a : Int) => cu8.oneV a) (fun _ => rfl) rfl (fun a => (Z0.int _ : Z0 U cu8 _).oneNr a) (fun a b h => (Z0.int _ : Z0 U cu8 _).Z0f h)
  ⟨fun a => c.Z06 a, fun v a h => by rw [hE, Zzg]; exact c.one h (Z3m (U := U) (t := 5) (n := 1) (e := fun (a : Int) => cu8.oneV a) h), fun a => by first | rfl | exact (congrArg (fun x => [x]) (c.Z06 a).symm), fun a => c.oneNr a, fun a b h => c.Z0f h⟩
theorem ZyG : rowsOf Tryz.prog 64 = [0, 0, 0] := by kernel_rfl
theorem ZwN {E : Env} (hE : E.rows = rowsOf Tryz.prog) : TyOK U E 64 := ⟨fun a => congrArg V.agg (Z39.enc a), fun v a h => by rw [hE, ZyG]; exact Z39.agg h, fun a => (Z39.enc a).symm, fun a => Z39.nr a, fun a b h => Z39.inj _ _ (by injection h)⟩
theorem Zxk : rowsOf Tryz.prog 116 = [0, 0, 0] := by kernel_rfl
theorem ZuN {E : Env} (hE : E.rows = rowsOf Tryz.prog) : TyOK U E 116 := ⟨fun a => congrArg V.agg (Z39.enc a), fun v a h => by rw [hE, Zxk]; exact Z39.agg h, fun a => (Z39.enc a).symm, fun a => Z39.nr a, fun a b h => Z39.inj _ _ (by injection h)⟩
theorem ZxX : rowsOf Tryz.prog 101 = [0, 0, 0, 0, 0, 1, 0, 0, 0, 0] := by kernel_rfl
theorem ZtN {E : Env} (hE : E.rows = rowsOf Tryz.prog) : TyOK U E 101 := ⟨fun a => congrArg V.agg (Z84.enc a), fun v a h => by rw [hE, ZxX]; exact Z84.agg h, fun a => (Z84.enc a).symm, fun a => Z84.nr a, fun a b h => Z84.inj _ _ (by injection h)⟩
theorem Zy5 : rowsOf Tryz.prog 104 = [0, 0, 0, 0, 0, 0, 1, 0, 0, 0, 0] := by kernel_rfl
theorem Zua {E : Env} (hE : E.rows = rowsOf Tryz.prog) : TyOK U E 104 := ⟨fun a => congrArg V.agg (Z80.enc a), fun v a h => by rw [hE, Zy5]; exact Z80.agg h, fun a => (Z80.enc a).symm, fun a => Z80.nr a, fun a b h => Z80.inj _ _ (by injection h)⟩
theorem ZxT : rowsOf Tryz.prog 108 = [0, 0, 0, 0, 0, 0, 0, 1, 0, 0, 0, 0, 0, 0, 0, 0, 0, 1] := by kernel_rfl
theorem ZtG {E : Env} (hE : E.rows = rowsOf Tryz.prog) : TyOK U E 108 := ⟨fun a => congrArg V.agg (Z7Z.enc a), fun v a h => by rw [hE, ZxT]; exact Z7Z.agg h, fun a => (Z7Z.enc a).symm, fun a => Z7Z.nr a, fun a b h => Z7Z.inj _ _ (by injection h)⟩
theorem Zz3 : rowsOf Tryz.prog 62 = [0, 1, 0] := by kernel_rfl
theorem Zx0 {E : Env} (hE : E.rows = rowsOf Tryz.prog) : TyOK U E 62 := ⟨fun a => congrArg V.agg (Zdr.enc a), fun v a h => by rw [hE, Zz3]; exact Zdr.agg h, fun a => (Zdr.enc a).symm, fun a => Zdr.nr a, fun a b h => Zdr.inj _ _ (by injection h)⟩
theorem Zyj : rowsOf Tryz.prog 50 = [0, 0, 0, 0, 0, 0, 0, 0, 0, 0, 0, 0, 0, 0, 0, 0, 0, 0, 0, 0, 1, 3, 3, 10, 11, 0, 18, 1, 0, 0, 0, 0, 0, 0, 0, 0, 0, 0, 0, 1, 0, 0, 0, 3, 0, 0] := by kernel_rfl
theorem ZaE {E : Env} (hE : E.rows = rowsOf Tryz.prog) : TyOK U E 50 := ⟨fun a => congrArg V.agg (Zmz.enc a), fun v a h => by rw [hE, Zyj]; exact Zmz.agg h, fun a => (Zmz.enc a).symm, fun a => Zmz.nr a, fun a b h => Zmz.inj _ _ (by injection h)⟩
theorem Zza : rowsOf Tryz.prog 51 = [0] := by kernel_rfl
theorem Z3C {E : Env} (hE : E.rows = rowsOf Tryz.prog) : TyOK U E 51 :=
  have c : Z0 U ci64 [0] := Z0.int _
  ⟨fun a => c.Z06 a, fun v a h => by rw [hE, Zza]; exact c.one h (Zh3 h), fun a => by first | rfl | exact (congrArg (fun x => [x]) (c.Z06 a).symm), fun a => c.oneNr a, fun a b h => c.Z0f h⟩
theorem ZwM {E : Env} (hE : E.rows = rowsOf Tryz.prog) : TyOK U E 52 := by
  refine ⟨fun a => ?_, fun v a h => (by cases h), fun a => ?_, fun a => ?_, fun a b h => ?_⟩
  · first | rfl | skip
    all_goals show V.tup _ = V.tup _
    all_goals congr 1
    all_goals simp only [toVs, show toV U (.agg (cd49.encS a.1)) = (.agg (cd49.encV a.1)) from (ZaE hE).encS a.1, show toV U (ci64.oneS a.2) = (ci64.oneV a.2) from (Z3C hE).encS a.2]
  · first | rfl | skip
    all_goals show [V.tup _] = [V.tup _]
    all_goals congr 2
    all_goals simp only [toVs, show toV U (.agg (cd49.encS a.1)) = (.agg (cd49.encV a.1)) from (ZaE hE).encS a.1, show toV U (ci64.oneS a.2) = (ci64.oneV a.2) from (Z3C hE).encS a.2]
  · show Zr [.agg (cd49.encV a.1), ci64.oneV a.2] = true
    simp only [Zr, show noRef (.agg (cd49.encV a.1)) = true from (ZaE hE).nr a.1, show noRef (ci64.oneV a.2) = true from (Z3C hE).nr a.2, Bool.and_self]
  · have h : V.tup [.agg (cd49.encV a.1), ci64.oneV a.2] = V.tup [.agg (cd49.encV b.1), ci64.oneV b.2] := h
    simp only [V.tup.injEq, List.cons.injEq, and_true] at h
    exact Prod.ext ((ZaE hE).inj _ _ h.1) ((Z3C hE).inj _ _ h.2)
theorem ZyD : rowsOf Tryz.prog 24 = [0] := by kernel_rfl
theorem ZwQ {E : Env} (hE : E.rows = rowsOf Tryz.prog) : TyOK U E 24 :=
  have c : Z0 U cu64 [0] := Z0.int _
  ⟨fun a => c.Z06 a, fun v a h => by rw [hE, ZyD]; exact c.one h (Zh3 h), fun a => by first | rfl | exact (congrArg (fun x => [x]) (c.Z06 a).symm), fun a => c.oneNr a, fun a b h => c.Z0f h⟩
theorem Zys : rowsOf Tryz.prog 30 = [0, 0, 0, 0, 0] := by kernel_rfl
theorem ZwP {E : Env} (hE : E.rows = rowsOf Tryz.prog) : TyOK U E 30 := ⟨fun a => congrArg V.agg (ZdA.enc a), fun v a h => by rw [hE, Zys]; exact ZdA.agg h, fun a => (ZdA.enc a).symm, fun a => ZdA.nr a, fun a b h => ZdA.inj _ _ (by injection h)⟩
theorem rows9 : rowsOf Tryz.prog 9 = [0] := by kernel_rfl
theorem tyok9 {E : Env} (hE : E.rows = rowsOf Tryz.prog) : TyOK U E 9 :=
  have c : Z0 U cst [0] := Z0.str
  ⟨fun a => c.Z06 a, fun v a h => by rw [hE, rows9]; exact c.one h (ZyM h), fun a => by first | rfl | exact (congrArg (fun x => [x]) (c.Z06 a).symm), fun a => c.oneNr a, fun a b h => c.Z0f h⟩
theorem Zz6 : rowsOf Tryz.prog 23 = [0] := by kernel_rfl
theorem Zk3 {E : Env} (hE : E.rows = rowsOf Tryz.prog) : TyOK U E 23 :=
  have c : Z0 U cu64 [0] := Z0.int _
  ⟨fun a => c.Z06 a, fun v a h => by rw [hE, Zz6]; exact c.one h (Zh3 h), fun a => by first | rfl | exact (congrArg (fun x => [x]) (c.Z06 a).symm), fun a => c.oneNr a, fun a b h => c.Z0f h⟩
theorem Zxr : rowsOf Tryz.prog 188 = [1] := by kernel_rfl
theorem Zeh {E : Env} (hE : E.rows = rowsOf Tryz.prog) : TyOK U E 188 :=
  have c : Z0 U (Codec.list 23 1 (fun (a : Int) => cu64.oneV a) : Codec Ty (List (Ty 23))) [1] := Z0.list (U := U) (t := 23) (n := 1) (e := fun (a : Int) => cu64.oneV a) (fun _ => rfl) rfl (fun a => (Z0.int _ : Z0 U cu64 _).oneNr a) (fun a b h => (Z0.int _ : Z0 U cu64 _).Z0f h)
  ⟨fun a => c.Z06 a, fun v a h => by rw [hE, Zxr]; exact c.one h (Z3m (U := U) (t := 23) (n := 1) (e := fun (a : Int) => cu64.oneV a) h), fun a => by first | rfl | exact (congrArg (fun x => [x]) (c.Z06 a).symm), fun a => c.oneNr a, fun a b h => c.Z0f h⟩
theorem ZxP : rowsOf Tryz.prog 325 = [0, 0] := by kernel_rfl
theorem ZtY {E : Env} (hE : E.rows = rowsOf Tryz.prog) : TyOK U E 325 := ⟨fun a => congrArg V.agg (ZgZ.enc a), fun v a h => by rw [hE, ZxP]; exact ZgZ.agg h, fun a => (ZgZ.enc a).symm, fun a => ZgZ.nr a, fun a b h => ZgZ.inj _ _ (by injection h)⟩
theorem Zyv : rowsOf Tryz.prog 33 = [0] := by kernel_rfl
theorem Zks {E : Env} (hE : E.rows = rowsOf Tryz.prog) : TyOK U E 33 :=
  have c : Z0 U cu32 [0] := Z0.int _
  ⟨fun a => c.Z06 a, fun v a h => by rw [hE, Zyv]; exact c.one h (Zh3 h), fun a => by first | rfl | exact (congrArg (fun x => [x]) (c.Z06 a).symm), fun a => c.oneNr a, fun a b h => c.Z0f h⟩
theorem Zzl : rowsOf Tryz.prog 73 = [1] := by kernel_rfl
theorem Zx1 {E : Env} (hE : E.rows = rowsOf Tryz.prog) : TyOK U E 73 :=
  have c : Z0 U (Codec.list 27 1 (fun (a : List Int) => ((Codec.list 5 1 (fun (a : Int) => cu8.oneV a) : Codec Ty (List (Ty 5)))).oneV a) : Codec Ty (List (Ty 27))) [1] := Z0.list (U := U) (t := 27) (n := 1) (e := fun (a : List Int) => ((Codec.list 5 1 (fun (a : Int) => cu8.oneV a) : Codec Ty (List (Ty 5)))).oneV a) (fun _ => rfl) rfl (fun a => (Z0.list (U := U) (t := 5) (n := 1) (e := fun (a : Int) => cu8.oneV a) (fun _ => rfl) rfl (fun a => (Z0.int _ : Z0 U cu8 _).oneNr a) (fun a b h => (Z0.int _ : Z0 U cu8 _).Z0f h) : Z0 U (Codec.list 5 1 (fun (a : Int) => cu8.oneV a) : Codec Ty (List (Ty 5))) _).oneNr a) (fun a b h => (Z0.list (U := U) (t := 5) (n := 1) (e := fun (a : Int) => cu8.oneV a) (fun _ => rfl) rfl (fun a => (Z0.int _ : Z0 U cu8 _).oneNr a) (fun a b h => (Z0.int _ : Z0 U cu8 _).Z0f h) : Z0 U (Codec.list 5 1 (fun (a : Int) => cu8.oneV a) : Codec Ty (List (Ty 5))) _).Z0f h)
  ⟨fun a => c.Z06 a, fun v a h => by rw [hE, Zzl]; exact c.one h (Z3m (U := U) (t := 27) (n := 1) (e := fun (a : List Int) => ((Codec.list 5 1 (fun (a : Int) => cu8.oneV a) : Codec Ty (List (Ty 5)))).oneV a) h), fun a => by first | rfl | exact (congrArg (fun x => [x]) (c.Z06 a).symm), fun a => c.oneNr a, fun a b h => c.Z0f h⟩
theorem ZxE : rowsOf Tryz.prog 287 = [0, 0] := by kernel_rfl
theorem Zvm {E : Env} (hE : E.rows = rowsOf Tryz.prog) : TyOK U E 287 := ⟨fun a => congrArg V.agg (ZbO.enc a), fun v a h => by rw [hE, ZxE]; exact ZbO.agg h, fun a => (ZbO.enc a).symm, fun a => ZbO.nr a, fun a b h => ZbO.inj _ _ (by injection h)⟩
theorem ZuX {E : Env} (hE : E.rows = rowsOf Tryz.prog) : TyOK U E 205 := by
  refine ⟨fun a => ?_, fun v a h => (by cases h), fun a => ?_, fun a => ?_, fun a b h => ?_⟩
  · first | rfl | skip
    all_goals show V.tup _ = V.tup _
    all_goals congr 1
    all_goals simp only [toVs, show toV U (((Codec.list 5 1 (fun (a : Int) => cu8.oneV a) : Codec Ty (List (Ty 5)))).oneS a.1) = (((Codec.list 5 1 (fun (a : Int) => cu8.oneV a) : Codec Ty (List (Ty 5)))).oneV a.1) from (Z6h hE).encS a.1, show toV U (ci64.oneS a.2) = (ci64.oneV a.2) from (Z3C hE).encS a.2]
  · first | rfl | skip
    all_goals show [V.tup _] = [V.tup _]
    all_goals congr 2
    all_goals simp only [toVs, show toV U (((Codec.list 5 1 (fun (a : Int) => cu8.oneV a) : Codec Ty (List (Ty 5)))).oneS a.1) = (((Codec.list 5 1 (fun (a : Int) => cu8.oneV a) : Codec Ty (List (Ty 5)))).oneV a.1) from (Z6h hE).encS a.1, show toV U (ci64.oneS a.2) = (ci64.oneV a.2) from (Z3C hE).encS a.2]
  · show Zr [((Codec.list 5 1 (fun (a : Int) => cu8.oneV a) : Codec Ty (List (Ty 5)))).oneV a.1, ci64.oneV a.2] = true
    simp only [Zr, show noRef (((Codec.list 5 1 (fun (a : Int) => cu8.oneV a) : Codec Ty (List (Ty 5)))).oneV a.1) = true from (Z6h hE).nr a.1, show noRef (ci64.oneV a.2) = true from (Z3C hE).nr a.2, Bool.and_self]
  · have h : V.tup [((Codec.list 5 1 (fun (a : Int) => cu8.oneV a) : Codec Ty (List (Ty 5)))).oneV a.1, ci64.oneV a.2] = V.tup [((Codec.list 5 1 (fun (a : Int) => cu8.oneV a) : Codec Ty (List (Ty 5)))).oneV b.1, ci64.oneV b.2] := h
    simp only [V.tup.injEq, List.cons.injEq, and_true] at h
    exact Prod.ext ((Z6h hE).inj _ _ h.1) ((Z3C hE).inj _ _ h.2)
theorem Zxh : rowsOf Tryz.prog 285 = [2] := by kernel_rfl
theorem ZtQ {E : Env} (hE : E.rows = rowsOf Tryz.prog) : TyOK U E 285 :=
  have c : Z0 U (Codec.list 287 2 (fun (a : Zf) => .agg (cd286.encV a)) : Codec Ty (List (Ty 287))) [2] := Z0.list (U := U) (t := 287) (n := 2) (e := fun (a : Zf) => .agg (cd286.encV a)) (fun _ => rfl) rfl (fun a => ZbO.nr a) (fun a b h => ZbO.inj _ _ (by injection h))
  ⟨fun a => c.Z06 a, fun v a h => by rw [hE, Zxh]; exact c.one h (Z3m (U := U) (t := 287) (n := 2) (e := fun (a : Zf) => .agg (cd286.encV a)) h), fun a => by first | rfl | exact (congrArg (fun x => [x]) (c.Z06 a).symm), fun a => c.oneNr a, fun a b h => c.Z0f h⟩
theorem Zyz : rowsOf Tryz.prog 68 = [0, 0, 0, 0, 0, 0, 0, 0, 1, 0, 0] := by kernel_rfl
theorem Zxa {E : Env} (hE : E.rows = rowsOf Tryz.prog) : TyOK U E 68 := ⟨fun a => congrArg V.agg (Zn4.enc a), fun v a h => by rw [hE, Zyz]; exact Zn4.agg h, fun a => (Zn4.enc a).symm, fun a => Zn4.nr a, fun a b h => Zn4.inj _ _ (by injection h)⟩
theorem Zyy : rowsOf Tryz.prog 36 = [1] := by kernel_rfl
theorem ZwY {E : Env} (hE : E.rows = rowsOf Tryz.prog) : TyOK U E 36 :=
  have c : Z0 U (Codec.list 22 1 (fun (a : Int) => cu16.oneV a) : Codec Ty (List (Ty 22))) [1] := Z0.list (U := U) (t := 22) (n := 1) (e := fun (a : Int) => cu16.oneV a) (fun _ => rfl) rfl (fun a => (Z0.int _ : Z0 U cu16 _).oneNr a) (fun a b h => (Z0.int _ : Z0 U cu16 _).Z0f h)
  ⟨fun a => c.Z06 a, fun v a h => by rw [hE, Zyy]; exact c.one h (Z3m (U := U) (t := 22) (n := 1) (e := fun (a : Int) => cu16.oneV a) h), fun a => by first | rfl | exact (congrArg (fun x => [x]) (c.Z06 a).symm), fun a => c.oneNr a, fun a b h => c.Z0f h⟩
theorem ZyR : rowsOf Tryz.prog 37 = [3] := by kernel_rfl
theorem Zx6 {E : Env} (hE : E.rows = rowsOf Tryz.prog) : TyOK U E 37 :=
  have c : Z0 U (Codec.list 64 3 (fun (a : Za) => .agg (cd63.encV a)) : Codec Ty (List (Ty 64))) [3] := Z0.list (U := U) (t := 64) (n := 3) (e := fun (a : Za) => .agg (cd63.encV a)) (fun _ => rfl) rfl (fun a => Z39.nr a) (fun a b h => Z39.inj _ _ (by injection h))
  ⟨fun a => c.Z06 a, fun v a h => by rw [hE, ZyR]; exact c.one h (Z3m (U := U) (t := 64) (n := 3) (e := fun (a : Za) => .agg (cd63.encV a)) h), fun a => by first | rfl | exact (congrArg (fun x => [x]) (c.Z06 a).symm), fun a => c.oneNr a, fun a b h => c.Z0f h⟩
theorem ZyS : rowsOf Tryz.prog 38 = [3] := by kernel_rfl
theorem ZwX {E : Env} (hE : E.rows = rowsOf Tryz.prog) : TyOK U E 38 :=
  have c : Z0 U (Codec.list 116 3 (fun (a : Za) => .agg (cd63.encV a)) : Codec Ty (List (Ty 116))) [3] := Z0.list (U := U) (t := 116) (n := 3) (e := fun (a : Za) => .agg (cd63.encV a)) (fun _ => rfl) rfl (fun a => Z39.nr a) (fun a b h => Z39.inj _ _ (by injection h))
  ⟨fun a => c.Z06 a, fun v a h => by rw [hE, ZyS]; exact c.one h (Z3m (U := U) (t := 116) (n := 3) (e := fun (a : Za) => .agg (cd63.encV a)) h), fun a => by first | rfl | exact (congrArg (fun x => [x]) (c.Z06 a).symm), fun a => c.oneNr a, fun a b h => c.Z0f h⟩
theorem Zzb : rowsOf Tryz.prog 39 = [10] := by kernel_rfl
theorem ZwL {E : Env} (hE : E.rows = rowsOf Tryz.prog) : TyOK U E 39 :=
  have c : Z0 U (Codec.list 101 10 (fun (a : Z6) => .agg (cd100.encV a)) : Codec Ty (List (Ty 101))) [10] := Z0.list (U := U) (t := 101) (n := 10) (e := fun (a : Z6) => .agg (cd100.encV a)) (fun _ => rfl) rfl (fun a => Z84.nr a) (fun a b h => Z84.inj _ _ (by injection h))
  ⟨fun a => c.Z06 a, fun v a h => by rw [hE, Zzb]; exact c.one h (Z3m (U := U) (t := 101) (n := 10) (e := fun (a : Z6) => .agg (cd100.encV a)) h), fun a => by first | rfl | exact (congrArg (fun x => [x]) (c.Z06 a).symm), fun a => c.oneNr a, fun a b h => c.Z0f h⟩
theorem ZyB : rowsOf Tryz.prog 32 = [0, 0, 0, 0, 0, 0, 0, 0, 0, 0, 0] := by kernel_rfl
theorem ZwZ {E : Env} (hE : E.rows = rowsOf Tryz.prog) : TyOK U E 32 := ⟨fun a => congrArg V.agg (ZhR.enc a), fun v a h => by rw [hE, ZyB]; exact ZhR.agg h, fun a => (ZhR.enc a).symm, fun a => ZhR.nr a, fun a b h => ZhR.inj _ _ (by injection h)⟩
theorem Zzd : rowsOf Tryz.prog 35 = [0, 0, 0] := by kernel_rfl
theorem ZwH {E : Env} (hE : E.rows = rowsOf Tryz.prog) : TyOK U E 35 := ⟨fun a => congrArg V.agg (Zhp.enc a), fun v a h => by rw [hE, Zzd]; exact Zhp.agg h, fun a => (Zhp.enc a).symm, fun a => Zhp.nr a, fun a b h => Zhp.inj _ _ (by injection h)⟩
theorem ZyF : rowsOf Tryz.prog 40 = [11] := by kernel_rfl
theorem ZwE {E : Env} (hE : E.rows = rowsOf Tryz.prog) : TyOK U E 40 :=
  have c : Z0 U (Codec.list 104 11 (fun (a : Z9) => .agg (cd103.encV a)) : Codec Ty (List (Ty 104))) [11] := Z0.list (U := U) (t := 104) (n := 11) (e := fun (a : Z9) => .agg (cd103.encV a)) (fun _ => rfl) rfl (fun a => Z80.nr a) (fun a b h => Z80.inj _ _ (by injection h))
  ⟨fun a => c.Z06 a, fun v a h => by rw [hE, ZyF]; exact c.one h (Z3m (U := U) (t := 104) (n := 11) (e := fun (a : Z9) => .agg (cd103.encV a)) h), fun a => by first | rfl | exact (congrArg (fun x => [x]) (c.Z06 a).symm), fun a => c.oneNr a, fun a b h => c.Z0f h⟩
theorem ZyX : rowsOf Tryz.prog 45 = [0, 18, 1, 0, 0, 0, 0, 0] := by kernel_rfl
theorem ZwR {E : Env} (hE : E.rows = rowsOf Tryz.prog) : TyOK U E 45 := ⟨fun a => congrArg V.agg (Zkt.enc a), fun v a h => by rw [hE, ZyX]; exact Zkt.agg h, fun a => (Zkt.enc a).symm, fun a => Zkt.nr a, fun a b h => Zkt.inj _ _ (by injection h)⟩
theorem Zyr : rowsOf Tryz.prog 47 = [0, 0, 0, 0, 0, 0, 1, 0, 0, 0] := by kernel_rfl
theorem Zxb {E : Env} (hE : E.rows = rowsOf Tryz.prog) : TyOK U E 47 := ⟨fun a => congrArg V.agg (Zka.enc a), fun v a h => by rw [hE, Zyr]; exact Zka.agg h, fun a => (Zka.enc a).symm, fun a => Zka.nr a, fun a b h => Zka.inj _ _ (by injection h)⟩
theorem ZyT : rowsOf Tryz.prog 48 = [3] := by kernel_rfl
theorem ZwU {E : Env} (hE : E.rows = rowsOf Tryz.prog) : TyOK U E 48 :=
  have c : Z0 U (Codec.list 62 3 (fun (a : Zb) => .agg (cd61.encV a)) : Codec Ty (List (Ty 62))) [3] := Z0.list (U := U) (t := 62) (n := 3) (e := fun (a : Zb) => .agg (cd61.encV a)) (fun _ => rfl) rfl (fun a => Zdr.nr a) (fun a b h => Zdr.inj _ _ (by injection h))
  ⟨fun a => c.Z06 a, fun v a h => by rw [hE, ZyT]; exact c.one h (Z3m (U := U) (t := 62) (n := 3) (e := fun (a : Zb) => .agg (cd61.encV a)) h), fun a => by first | rfl | exact (congrArg (fun x => [x]) (c.Z06 a).symm), fun a => c.oneNr a, fun a b h => c.Z0f h⟩
theorem Zyh : rowsOf Tryz.prog 43 = [18] := by kernel_rfl
theorem ZwJ {E : Env} (hE : E.rows = rowsOf Tryz.prog) : TyOK U E 43 :=
  have c : Z0 U (Codec.list 108 18 (fun (a : Ze) => .agg (cd107.encV a)) : Codec Ty (List (Ty 108))) [18] := Z0.list (U := U) (t := 108) (n := 18) (e := fun (a : Ze) => .agg (cd107.encV a)) (fun _ => rfl) rfl (fun a => Z7Z.nr a) (fun a b h => Z7Z.inj _ _ (by injection h))
  ⟨fun a => c.Z06 a, fun v a h => by rw [hE, Zyh]; exact c.one h (Z3m (U := U) (t := 108) (n := 18) (e := fun (a : Ze) => .agg (cd107.encV a)) h), fun a => by first | rfl | exact (congrArg (fun x => [x]) (c.Z06 a).symm), fun a => c.oneNr a, fun a b h => c.Z0f h⟩
theorem ZyN : rowsOf Tryz.prog 42 = [10, 11] := by kernel_rfl
theorem Zk1 {E : Env} (hE : E.rows = rowsOf Tryz.prog) : TyOK U E 42 := ⟨fun a => congrArg V.agg (ZjV.enc a), fun v a h => by rw [hE, ZyN]; exact ZjV.agg h, fun a => (ZjV.enc a).symm, fun a => ZjV.nr a, fun a b h => ZjV.inj _ _ (by injection h)⟩
theorem Zxn : rowsOf Tryz.prog 106 = [0, 0, 0, 0, 0, 0, 0, 0, 0, 1] := by kernel_rfl
theorem ZuU {E : Env} (hE : E.rows = rowsOf Tryz.prog) : TyOK U E 106 := ⟨fun a => congrArg V.agg (Z8c.enc a), fun v a h => by rw [hE, Zxn]; exact Z8c.agg h, fun a => (Z8c.enc a).symm, fun a => Z8c.nr a, fun a b h => Z8c.inj _ _ (by injection h)⟩
theorem Zy7 : rowsOf Tryz.prog 112 = [10] := by kernel_rfl
theorem Zfa {E : Env} (hE : E.rows = rowsOf Tryz.prog) : TyOK U E 112 :=
  have c : Z0 U (Codec.list 106 10 (fun (a : Z5) => .agg (cd105.encV a)) : Codec Ty (List (Ty 106))) [10] := Z0.list (U := U) (t := 106) (n := 10) (e := fun (a : Z5) => .agg (cd105.encV a)) (fun _ => rfl) rfl (fun a => Z8c.nr a) (fun a b h => Z8c.inj _ _ (by injection h))
  ⟨fun a => c.Z06 a, fun v a h => by rw [hE, Zy7]; exact c.one h (Z3m (U := U) (t := 106) (n := 10) (e := fun (a : Z5) => .agg (cd105.encV a)) h), fun a => by first | rfl | exact (congrArg (fun x => [x]) (c.Z06 a).symm), fun a => c.oneNr a, fun a b h => c.Z0f h⟩
theorem ZtS {E : Env} (hE : E.rows = rowsOf Tryz.prog) : TyOK U E 113 := by
  refine ⟨fun a => ?_, fun v a h => (by cases h), fun a => ?_, fun a => ?_, fun a b h => ?_⟩
  · first | rfl | skip
    all_goals show V.tup _ = V.tup _
    all_goals congr 1
    all_goals simp only [toVs, show toV U (.agg (cd41.encS a.1)) = (.agg (cd41.encV a.1)) from (Zk1 hE).encS a.1, show toV U (((Codec.list 106 10 (fun (a : Z5) => .agg (cd105.encV a)) : Codec Ty (List (Ty 106)))).oneS a.2.1) = (((Codec.list 106 10 (fun (a : Z5) => .agg (cd105.encV a)) : Codec Ty (List (Ty 106)))).oneV a.2.1) from (Zfa hE).encS a.2.1, show toV U (ci64.oneS a.2.2) = (ci64.oneV a.2.2) from (Z3C hE).encS a.2.2]
  · first | rfl | skip
    all_goals show [V.tup _] = [V.tup _]
    all_goals congr 2
    all_goals simp only [toVs, show toV U (.agg (cd41.encS a.1)) = (.agg (cd41.encV a.1)) from (Zk1 hE).encS a.1, show toV U (((Codec.list 106 10 (fun (a : Z5) => .agg (cd105.encV a)) : Codec Ty (List (Ty 106)))).oneS a.2.1) = (((Codec.list 106 10 (fun (a : Z5) => .agg (cd105.encV a)) : Codec Ty (List (Ty 106)))).oneV a.2.1) from (Zfa hE).encS a.2.1, show toV U (ci64.oneS a.2.2) = (ci64.oneV a.2.2) from (Z3C hE).encS a.2.2]
  · show Zr [.agg (cd41.encV a.1), ((Codec.list 106 10 (fun (a : Z5) => .agg (cd105.encV a)) : Codec Ty (List (Ty 106)))).oneV a.2.1, ci64.oneV a.2.2] = true
    simp only [Zr, show noRef (.agg (cd41.encV a.1)) = true from (Zk1 hE).nr a.1, show noRef (((Codec.list 106 10 (fun (a : Z5) => .agg (cd105.encV a)) : Codec Ty (List (Ty 106)))).oneV a.2.1) = true from (Zfa hE).nr a.2.1, show noRef (ci64.oneV a.2.2) = true from (Z3C hE).nr a.2.2, Bool.and_self]
  · have h : V.tup [.agg (cd41.encV a.1), ((Codec.list 106 10 (fun (a : Z5) => .agg (cd105.encV a)) : Codec Ty (List (Ty 106)))).oneV a.2.1, ci64.oneV a.2.2] = V.tup [.agg (cd41.encV b.1), ((Codec.list 106 10 (fun (a : Z5) => .agg (cd105.encV a)) : Codec Ty (List (Ty 106)))).oneV b.2.1, ci64.oneV b.2.2] := h
    simp only [V.tup.injEq, List.cons.injEq, and_true] at h
    exact Prod.ext ((Zk1 hE).inj _ _ h.1) (Prod.ext ((Zfa hE).inj _ _ h.2.1) ((Z3C hE).inj _ _ h.2.2))
theorem Zxl : rowsOf Tryz.prog 149 = [0, 0, 0, 0, 0, 0, 0, 0, 0, 0, 0, 0, 1] := by kernel_rfl
theorem ZuO {E : Env} (hE : E.rows = rowsOf Tryz.prog) : TyOK U E 149 := ⟨fun a => congrArg V.agg (Zia.enc a), fun v a h => by rw [hE, Zxl]; exact Zia.agg h, fun a => (Zia.enc a).symm, fun a => Zia.nr a, fun a b h => Zia.inj _ _ (by injection h)⟩
theorem Zyl : rowsOf Tryz.prog 90 = [0, 0, 0, 0, 0, 0, 0, 1] := by kernel_rfl
theorem ZwO {E : Env} (hE : E.rows = rowsOf Tryz.prog) : TyOK U E 90 := ⟨fun a => congrArg V.agg (ZjZ.enc a), fun v a h => by rw [hE, Zyl]; exact ZjZ.agg h, fun a => (ZjZ.enc a).symm, fun a => ZjZ.nr a, fun a b h => ZjZ.inj _ _ (by injection h)⟩
theorem ZtC {E : Env} (hE : E.rows = rowsOf Tryz.prog) : TyOK U E 230 := by
  refine ⟨fun a => ?_, fun v a h => (by cases h), fun a => ?_, fun a => ?_, fun a b h => ?_⟩
  · first | rfl | skip
    all_goals show V.tup _ = V.tup _
    all_goals congr 1
    all_goals simp only [toVs, show toV U (cu64.oneS a.1) = (cu64.oneV a.1) from (Zk3 hE).encS a.1, show toV U (((Codec.list 5 1 (fun (a : Int) => cu8.oneV a) : Codec Ty (List (Ty 5)))).oneS a.2) = (((Codec.list 5 1 (fun (a : Int) => cu8.oneV a) : Codec Ty (List (Ty 5)))).oneV a.2) from (Z6h hE).encS a.2]
  · first | rfl | skip
    all_goals show [V.tup _] = [V.tup _]
    all_goals congr 2
    all_goals simp only [toVs, show toV U (cu64.oneS a.1) = (cu64.oneV a.1) from (Zk3 hE).encS a.1, show toV U (((Codec.list 5 1 (fun (a : Int) => cu8.oneV a) : Codec Ty (List (Ty 5)))).oneS a.2) = (((Codec.list 5 1 (fun (a : Int) => cu8.oneV a) : Codec Ty (List (Ty 5)))).oneV a.2) from (Z6h hE).encS a.2]
  · show Zr [cu64.oneV a.1, ((Codec.list 5 1 (fun (a : Int) => cu8.oneV a) : Codec Ty (List (Ty 5)))).oneV a.2] = true
    simp only [Zr, show noRef (cu64.oneV a.1) = true from (Zk3 hE).nr a.1, show noRef (((Codec.list 5 1 (fun (a : Int) => cu8.oneV a) : Codec Ty (List (Ty 5)))).oneV a.2) = true from (Z6h hE).nr a.2, Bool.and_self]
  · have h : V.tup [cu64.oneV a.1, ((Codec.list 5 1 (fun (a : Int) => cu8.oneV a) : Codec Ty (List (Ty 5)))).oneV a.2] = V.tup [cu64.oneV b.1, ((Codec.list 5 1 (fun (a : Int) => cu8.oneV a) : Codec Ty (List (Ty 5)))).oneV b.2] := h
    simp only [V.tup.injEq, List.cons.injEq, and_true] at h
    exact Prod.ext ((Zk3 hE).inj _ _ h.1) ((Z6h hE).inj _ _ h.2)
theorem Zzh : rowsOf Tryz.prog 66 = [0, 0, 0, 0, 0, 0, 0, 1] := by kernel_rfl
theorem ZwT {E : Env} (hE : E.rows = rowsOf Tryz.prog) : TyOK U E 66 := ⟨fun a => congrArg V.agg (ZjI.enc a), fun v a h => by rw [hE, Zzh]; exact ZjI.agg h, fun a => (ZjI.enc a).symm, fun a => ZjI.nr a, fun a b h => ZjI.inj _ _ (by injection h)⟩
theorem ZxC : rowsOf Tryz.prog 135 = [5] := by kernel_rfl
theorem Zvx {E : Env} (hE : E.rows = rowsOf Tryz.prog) : TyOK U E 135 :=
  have c : Z0 U (Codec.list 30 5 (fun (a : Zd) => .agg (cd29.encV a)) : Codec Ty (List (Ty 30))) [5] := Z0.list (U := U) (t := 30) (n := 5) (e := fun (a : Zd) => .agg (cd29.encV a)) (fun _ => rfl) rfl (fun a => ZdA.nr a) (fun a b h => ZdA.inj _ _ (by injection h))
  ⟨fun a => c.Z06 a, fun v a h => by rw [hE, ZxC]; exact c.one h (Z3m (U := U) (t := 30) (n := 5) (e := fun (a : Zd) => .agg (cd29.encV a)) h), fun a => by first | rfl | exact (congrArg (fun x => [x]) (c.Z06 a).symm), fun a => c.oneNr a, fun a b h => c.Z0f h⟩
theorem ZxO : rowsOf Tryz.prog 296 = [0, 0, 0, 0, 0, 0] := by kernel_rfl
theorem ZtK {E : Env} (hE : E.rows = rowsOf Tryz.prog) : TyOK U E 296 := ⟨fun a => congrArg V.agg (Zi2.enc a), fun v a h => by rw [hE, ZxO]; exact Zi2.agg h, fun a => (Zi2.enc a).symm, fun a => Zi2.nr a, fun a b h => Zi2.inj _ _ (by injection h)⟩
theorem Zvf {E : Env} (hE : E.rows = rowsOf Tryz.prog) : TyOK U E 240 := by
  refine ⟨fun a => ?_, fun v a h => (by cases h), fun a => ?_, fun a => ?_, fun a b h => ?_⟩
  · first | rfl | skip
    all_goals show V.tup _ = V.tup _
    all_goals congr 1
    all_goals simp only [toVs, show toV U (((Codec.list 23 1 (fun (a : Int) => cu64.oneV a) : Codec Ty (List (Ty 23)))).oneS a.1) = (((Codec.list 23 1 (fun (a : Int) => cu64.oneV a) : Codec Ty (List (Ty 23)))).oneV a.1) from (Zeh hE).encS a.1, show toV U (((Codec.list 5 1 (fun (a : Int) => cu8.oneV a) : Codec Ty (List (Ty 5)))).oneS a.2.1) = (((Codec.list 5 1 (fun (a : Int) => cu8.oneV a) : Codec Ty (List (Ty 5)))).oneV a.2.1) from (Z6h hE).encS a.2.1, show toV U (ci64.oneS a.2.2) = (ci64.oneV a.2.2) from (Z3C hE).encS a.2.2]
  · first | rfl | skip
    all_goals show [V.tup _] = [V.tup _]
    all_goals congr 2
    all_goals simp only [toVs, show toV U (((Codec.list 23 1 (fun (a : Int) => cu64.oneV a) : Codec Ty (List (Ty 23)))).oneS a.1) = (((Codec.list 23 1 (fun (a : Int) => cu64.oneV a) : Codec Ty (List (Ty 23)))).oneV a.1) from (Zeh hE).encS a.1, show toV U (((Codec.list 5 1 (fun (a : Int) => cu8.oneV a) : Codec Ty (List (Ty 5)))).oneS a.2.1) = (((Codec.list 5 1 (fun (a : Int) => cu8.oneV a) : Codec Ty (List (Ty 5)))).oneV a.2.1) from (Z6h hE).encS a.2.1, show toV U (ci64.oneS a.2.2) = (ci64.oneV a.2.2) from (Z3C hE).encS a.2.2]
  · show Zr [((Codec.list 23 1 (fun (a : Int) => cu64.oneV a) : Codec Ty (List (Ty 23)))).oneV a.1, ((Codec.list 5 1 (fun (a : Int) => cu8.oneV a) : Codec Ty (List (Ty 5)))).oneV a.2.1, ci64.oneV a.2.2] = true
    simp only [Zr, show noRef (((Codec.list 23 1 (fun (a : Int) => cu64.oneV a) : Codec Ty (List (Ty 23)))).oneV a.1) = true from (Zeh hE).nr a.1, show noRef (((Codec.list 5 1 (fun (a : Int) => cu8.oneV a) : Codec Ty (List (Ty 5)))).oneV a.2.1) = true from (Z6h hE).nr a.2.1, show noRef (ci64.oneV a.2.2) = true from (Z3C hE).nr a.2.2, Bool.and_self]
  · have h : V.tup [((Codec.list 23 1 (fun (a : Int) => cu64.oneV a) : Codec Ty (List (Ty 23)))).oneV a.1, ((Codec.list 5 1 (fun (a : Int) => cu8.oneV a) : Codec Ty (List (Ty 5)))).oneV a.2.1, ci64.oneV a.2.2] = V.tup [((Codec.list 23 1 (fun (a : Int) => cu64.oneV a) : Codec Ty (List (Ty 23)))).oneV b.1, ((Codec.list 5 1 (fun (a : Int) => cu8.oneV a) : Codec Ty (List (Ty 5)))).oneV b.2.1, ci64.oneV b.2.2] := h
    simp only [V.tup.injEq, List.cons.injEq, and_true] at h
    exact Prod.ext ((Zeh hE).inj _ _ h.1) (Prod.ext ((Z6h hE).inj _ _ h.2.1) ((Z3C hE).inj _ _ h.2.2))
theorem Zy6 : rowsOf Tryz.prog 293 = [1] := by kernel_rfl
theorem ZuS {E : Env} (hE : E.rows = rowsOf Tryz.prog) : TyOK U E 293 :=
  have c : Z0 U (Codec.list 3 1 (fun (a : Int) => ci64.oneV a) : Codec Ty (List (Ty 3))) [1] := Z0.list (U := U) (t := 3) (n := 1) (e := fun (a : Int) => ci64.oneV a) (fun _ => rfl) rfl (fun a => (Z0.int _ : Z0 U ci64 _).oneNr a) (fun a b h => (Z0.int _ : Z0 U ci64 _).Z0f h)
  ⟨fun a => c.Z06 a, fun v a h => by rw [hE, Zy6]; exact c.one h (Z3m (U := U) (t := 3) (n := 1) (e := fun (a : Int) => ci64.oneV a) h), fun a => by first | rfl | exact (congrArg (fun x => [x]) (c.Z06 a).symm), fun a => c.oneNr a, fun a b h => c.Z0f h⟩
theorem Zue {E : Env} (hE : E.rows = rowsOf Tryz.prog) : TyOK U E 238 := by
  refine ⟨fun a => ?_, fun v a h => (by cases h), fun a => ?_, fun a => ?_, fun a b h => ?_⟩
  · first | rfl | skip
    all_goals show V.tup _ = V.tup _
    all_goals congr 1
    all_goals simp only [toVs, show toV U (.agg (cd49.encS a.1)) = (.agg (cd49.encV a.1)) from (ZaE hE).encS a.1, show toV U (cu32.oneS a.2) = (cu32.oneV a.2) from (Zks hE).encS a.2]
  · first | rfl | skip
    all_goals show [V.tup _] = [V.tup _]
    all_goals congr 2
    all_goals simp only [toVs, show toV U (.agg (cd49.encS a.1)) = (.agg (cd49.encV a.1)) from (ZaE hE).encS a.1, show toV U (cu32.oneS a.2) = (cu32.oneV a.2) from (Zks hE).encS a.2]
  · show Zr [.agg (cd49.encV a.1), cu32.oneV a.2] = true
    simp only [Zr, show noRef (.agg (cd49.encV a.1)) = true from (ZaE hE).nr a.1, show noRef (cu32.oneV a.2) = true from (Zks hE).nr a.2, Bool.and_self]
  · have h : V.tup [.agg (cd49.encV a.1), cu32.oneV a.2] = V.tup [.agg (cd49.encV b.1), cu32.oneV b.2] := h
    simp only [V.tup.injEq, List.cons.injEq, and_true] at h
    exact Prod.ext ((ZaE hE).inj _ _ h.1) ((Zks hE).inj _ _ h.2)
theorem ZxM : Z0 U cdw44 [0, 0, 0, 0, 0, 0, 0, 0] := Z0.iso ((Z0.int _).pair ((Z0.skip).pair ((Z0.skip).pair ((Z0.int _).pair ((Z0.bool).pair ((Z0.int _).pair ((Z0.int _).pair ((Z0.int _).pair Z0.unit)))))))) (fun _ => rfl) (fun _ => rfl)
theorem Zxz : Z0 U cdw46 [0, 0, 0, 0, 0, 0, 0, 0, 0, 0] := Z0.iso ((Z0.int _).pair ((Z0.int _).pair ((Z0.int _).pair ((Z0.int _).pair ((Z0.int _).pair ((Z0.int _).pair ((Z0.skip).pair ((Z0.int _).pair ((Z0.bool).pair ((Z0.int _).pair Z0.unit)))))))))) (fun _ => rfl) (fun _ => rfl)
theorem ZxG : Z0 U cdw49 [0, 0, 0, 0, 0, 0, 0, 0, 0, 0, 0, 0, 0, 0, 0, 0, 0, 0, 0, 0, 0, 0, 0, 0, 0, 0, 0, 0, 0, 0, 0, 0, 0, 0, 0, 0, 0, 0, 0, 0, 0, 0, 0, 0, 0, 0] := Z0.iso ((Z0.int _).pair ((Z0.int _).pair ((Z0.int _).pair ((ZhR).pair ((Zhp).pair ((Z0.int _).pair ((Z0.bool).pair ((Z0.bool).pair ((Z0.skip).pair ((Z0.skip).pair ((Z0.skip).pair ((Z0.skip).pair ((Z0.skip).pair ((ZxM).pair ((Zxz).pair ((Z0.skip).pair ((Z0.int _).pair ((Z0.bool).pair Z0.unit)))))))))))))))))) (fun _ => rfl) (fun _ => rfl)
theorem Zm1 : Z0 U ZqY [0, 0, 0, 0, 0, 0, 0, 0, 0, 0, 0, 0, 0, 0, 0, 0, 0, 0, 0, 0, 0, 0, 0, 0, 0, 0, 0, 0, 0, 0, 0, 0, 0, 0, 0, 0, 0, 0, 0, 0, 0, 0, 0, 0, 0, 0, 0, 0] := Z0.iso ((ZxG).pair ((Z0.int _).pair ((Z0.skip).pair Z0.unit))) (fun _ => rfl) (fun _ => rfl)
theorem Zx7 {E : Env} (hE : E.rows = rowsOf Tryz.prog) : TyOK U E 97 := ⟨fun a => rfl, fun v a h => Zm1.Zxs h _, fun a => rfl, fun a => Zm1.Zyc 48 a, fun a b h => Zm1.Zxj h⟩
theorem Zwm (t : Nat) (h4 : ¬ t = 4) (h26 : ¬ t = 26) (h22 : ¬ t = 22) (h3 : ¬ t = 3) (h5 : ¬ t = 5) (h27 : ¬ t = 27) (h64 : ¬ t = 64) (h116 : ¬ t = 116) (h101 : ¬ t = 101) (h104 : ¬ t = 104) (h108 : ¬ t = 108) (h62 : ¬ t = 62) (h50 : ¬ t = 50) (h51 : ¬ t = 51) (h52 : ¬ t = 52) (h24 : ¬ t = 24) (h30 : ¬ t = 30) (h9 : ¬ t = 9) (h23 : ¬ t = 23) (h188 : ¬ t = 188) (h325 : ¬ t = 325) (h33 : ¬ t = 33) (h73 : ¬ t = 73) (h287 : ¬ t = 287) (h205 : ¬ t = 205) (h285 : ¬ t = 285) (h68 : ¬ t = 68) (h36 : ¬ t = 36) (h37 : ¬ t = 37) (h38 : ¬ t = 38) (h39 : ¬ t = 39) (h32 : ¬ t = 32) (h35 : ¬ t = 35) (h40 : ¬ t = 40) (h45 : ¬ t = 45) (h47 : ¬ t = 47) (h48 : ¬ t = 48) (h43 : ¬ t = 43) (h42 : ¬ t = 42) (h106 : ¬ t = 106) (h112 : ¬ t = 112) (h113 : ¬ t = 113) (h149 : ¬ t = 149) (h90 : ¬ t = 90) (h230 : ¬ t = 230) (h66 : ¬ t = 66) (h135 : ¬ t = 135) (h296 : ¬ t = 296) (h240 : ¬ t = 240) (h293 : ¬ t = 293) (h238 : ¬ t = 238) (h97 : ¬ t = 97) (h1365 : ¬ t = 1365) (h1375 : ¬ t = 1375) (h1376 : ¬ t = 1376) (h1385 : ¬ t = 1385) (h1381 : ¬ t = 1381) (h1383 : ¬ t = 1383) (h1384 : ¬ t = 1384) (h1374 : ¬ t = 1374) (h1382 : ¬ t = 1382) (h1366 : ¬ t = 1366) (h1367 : ¬ t = 1367) (h1368 : ¬ t = 1368) (h1369 : ¬ t = 1369) (h1370 : ¬ t = 1370) (h1371 : ¬ t = 1371) (h1372 : ¬ t = 1372) (h1373 : ¬ t = 1373) (h1386 : ¬ t = 1386) (h1387 : ¬ t = 1387) (h1388 : ¬ t = 1388) (h1390 : ¬ t = 1390) (h1389 : ¬ t = 1389) (h1391 : ¬ t = 1391) (a : Ty t) : False := by
  unfold Ty at a
  split at a <;> first | contradiction | exact a.elim
theorem TyOK.four {E : Env} {t : Nat} (h : TyOK U E t) : (∀ a, toV U (U.encS t a) = U.enc t a) ∧ (∀ v a, U.decS t v = some a → Z0i (E.rows t) (toV U v) = U.enc t a) ∧ (∀ a, (U.enc t a).cells = toVs U (cellsS (U.encS t a))) ∧ (∀ a, noRef (U.enc t a) = true) := ⟨h.encS, h.dec, h.cells, h.nr⟩
theorem ZqV (E : Env) (hE : E.rows = rowsOf Tryz.prog) (t : Nat) : (∀ a, toV U (U.encS t a) = U.enc t a) ∧ (∀ v a, U.decS t v = some a → Z0i (E.rows t) (toV U v) = U.enc t a) ∧ (∀ a, (U.enc t a).cells = toVs U (cellsS (U.encS t a))) ∧ (∀ a, noRef (U.enc t a) = true) := by
  by_cases h4 : t = 4
  · subst h4; exact TyOK.four (tyok4 hE)
  by_cases h26 : t = 26
  · subst h26; exact TyOK.four (Zx8 hE)
  by_cases h22 : t = 22
  · subst h22; exact TyOK.four (ZwI hE)
  by_cases h3 : t = 3
  · subst h3; exact TyOK.four (tyok3 hE)
  by_cases h5 : t = 5
  · subst h5; exact TyOK.four (tyok5 hE)
  by_cases h27 : t = 27
  · subst h27; exact TyOK.four (Z6h hE)
  by_cases h64 : t = 64
  · subst h64; exact TyOK.four (ZwN hE)
  by_cases h116 : t = 116
  · subst h116; exact TyOK.four (ZuN hE)
  by_cases h101 : t = 101
  · subst h101; exact TyOK.four (ZtN hE)
  by_cases h104 : t = 104
  · subst h104; exact TyOK.four (Zua hE)
  by_cases h108 : t = 108
  · subst h108; exact TyOK.four (ZtG hE)
  by_cases h62 : t = 62
  · subst h62; exact TyOK.four (Zx0 hE)
  by_cases h50 : t = 50
  · subst h50; exact TyOK.four (ZaE hE)
  by_cases h51 : t = 51
  · subst h51; exact TyOK.four (Z3C hE)
  by_cases h52 : t = 52
  · subst h52; exact TyOK.four (ZwM hE)
  by_cases h24 : t = 24
  · subst h24; exact TyOK.four (ZwQ hE)
  by_cases h30 : t = 30
  · subst h30; exact TyOK.four (ZwP hE)
  by_cases h9 : t = 9
  · subst h9; exact TyOK.four (tyok9 hE)
  by_cases h23 : t = 23
  · subst h23; exact TyOK.four (Zk3 hE)
  by_cases h188 : t = 188
  · subst h188; exact TyOK.four (Zeh hE)
  by_cases h325 : t = 325
  · subst h325; exact TyOK.four (ZtY hE)
  by_cases h33 : t = 33
  · subst h33; exact TyOK.four (Zks hE)
  by_cases h73 : t = 73
  · subst h73; exact TyOK.four (Zx1 hE)
  by_cases h287 : t = 287
  · subst h287; exact TyOK.four (Zvm hE)
  by_cases h205 : t = 205
  · subst h205; exact TyOK.four (ZuX hE)
  by_cases h285 : t = 285
  · subst h285; exact TyOK.four (ZtQ hE)
  by_cases h68 : t = 68
  · subst h68; exact TyOK.four (Zxa hE)
  by_cases h36 : t = 36
  · subst h36; exact TyOK.four (ZwY hE)
  by_cases h37 : t = 37
  · subst h37; exact TyOK.four (Zx6 hE)
  by_cases h38 : t = 38
  · subst h38; exact TyOK.four (ZwX hE)
  by_cases h39 : t = 39
  · subst h39; exact TyOK.four (ZwL hE)
  by_cases h32 : t = 32
  · subst h32; exact TyOK.four (ZwZ hE)
  by_cases h35 : t = 35
  · subst h35; exact TyOK.four (ZwH hE)
  by_cases h40 : t = 40
  · subst h40; exact TyOK.four (ZwE hE)
  by_cases h45 : t = 45
  · subst h45; exact TyOK.four (ZwR hE)
  by_cases h47 : t = 47
  · subst h47; exact TyOK.four (Zxb hE)
  by_cases h48 : t = 48
  · subst h48; exact TyOK.four (ZwU hE)
  by_cases h43 : t = 43
  · subst h43; exact TyOK.four (ZwJ hE)
  by_cases h42 : t = 42
  · subst h42; exact TyOK.four (Zk1 hE)
  by_cases h106 : t = 106
  · subst h106; exact TyOK.four (ZuU hE)
  by_cases h112 : t = 112
  · subst h112; exact TyOK.four (Zfa hE)
  by_cases h113 : t = 113
  · subst h113; exact TyOK.four (ZtS hE)
  by_cases h149 : t = 149
  · subst h149; exact TyOK.four (ZuO hE)
  by_cases h90 : t = 90
  · subst h90; exact TyOK.four (ZwO hE)
  by_cases h230 : t = 230
  · subst h230; exact TyOK.four (ZtC hE)
  by_cases h66 : t = 66
  · subst h66; exact TyOK.four (ZwT hE)
  by_cases h135 : t = 135
  · subst h135; exact TyOK.four (Zvx hE)
  by_cases h296 : t = 296
  · subst h296; exact TyOK.four (ZtK hE)
  by_cases h240 : t = 240
  · subst h240; exact TyOK.four (Zvf hE)
  by_cases h293 : t = 293
  · subst h293; exact TyOK.four (ZuS hE)
  by_cases h238 : t = 238
  · subst h238; exact TyOK.four (Zue hE)
  by_cases h97 : t = 97
  · subst h97; exact TyOK.four (Zx7 hE)
  by_cases h1365 : t = 1365
  · subst h1365; exact ⟨fun a => rfl, (fun v a h => nomatch h), fun a => rfl, fun a => rfl⟩
  by_cases h1375 : t = 1375
  · subst h1375; exact ⟨fun a => rfl, (fun v a h => nomatch h), fun a => rfl, fun a => rfl⟩
  by_cases h1376 : t = 1376
  · subst h1376; exact ⟨fun a => rfl, (fun v a h => nomatch h), fun a => rfl, fun a => rfl⟩
  by_cases h1385 : t = 1385
  · subst h1385; exact ⟨fun a => rfl, (fun v a h => nomatch h), fun a => rfl, fun a => rfl⟩
  by_cases h1381 : t = 1381
  · subst h1381; exact ⟨fun a => rfl, (fun v a h => nomatch h), fun a => rfl, fun a => rfl⟩
  by_cases h1383 : t = 1383
  · subst h1383; exact ⟨fun a => rfl, (fun v a h => nomatch h), fun a => rfl, fun a => rfl⟩
  by_cases h1384 : t = 1384
  · subst h1384; exact ⟨fun a => rfl, (fun v a h => nomatch h), fun a => rfl, fun a => rfl⟩
  by_cases h1374 : t = 1374
  · subst h1374; exact ⟨fun a => rfl, (fun v a h => nomatch h), fun a => rfl, fun a => rfl⟩
  by_cases h1382 : t = 1382
  · subst h1382; exact ⟨fun a => rfl, (fun v a h => nomatch h), fun a => rfl, fun a => rfl⟩
  by_cases h1366 : t = 1366
  · subst h1366; exact ⟨fun a => rfl, (fun v a h => nomatch h), fun a => rfl, fun a => rfl⟩
  by_cases h1367 : t = 1367
  · subst h1367; exact ⟨fun a => rfl, (fun v a h => nomatch h), fun a => rfl, fun a => rfl⟩
  by_cases h1368 : t = 1368
  · subst h1368; exact ⟨fun a => rfl, (fun v a h => nomatch h), fun a => rfl, fun a => rfl⟩
  by_cases h1369 : t = 1369
  · subst h1369; exact ⟨fun a => rfl, (fun v a h => nomatch h), fun a => rfl, fun a => rfl⟩
  by_cases h1370 : t = 1370
  · subst h1370; exact ⟨fun a => rfl, (fun v a h => nomatch h), fun a => rfl, fun a => rfl⟩
  by_cases h1371 : t = 1371
  · subst h1371; exact ⟨fun a => rfl, (fun v a h => nomatch h), fun a => rfl, fun a => rfl⟩
  by_cases h1372 : t = 1372
  · subst h1372; exact ⟨fun a => rfl, (fun v a h => nomatch h), fun a => rfl, fun a => rfl⟩
  by_cases h1373 : t = 1373
  · subst h1373; exact ⟨fun a => rfl, (fun v a h => nomatch h), fun a => rfl, fun a => rfl⟩
  by_cases h1386 : t = 1386
  · subst h1386; exact ⟨fun a => rfl, (fun v a h => nomatch h), fun a => rfl, fun a => rfl⟩
  by_cases h1387 : t = 1387
  · subst h1387; exact ⟨fun a => rfl, (fun v a h => nomatch h), fun a => rfl, fun a => rfl⟩
  by_cases h1388 : t = 1388
  · subst h1388; exact ⟨fun a => rfl, (fun v a h => nomatch h), fun a => rfl, fun a => rfl⟩
  by_cases h1390 : t = 1390
  · subst h1390; exact ⟨fun a => rfl, (fun v a h => nomatch h), fun a => rfl, fun a => rfl⟩
  by_cases h1389 : t = 1389
  · subst h1389; exact ⟨fun a => rfl, (fun v a h => nomatch h), fun a => rfl, fun a => rfl⟩
  by_cases h1391 : t = 1391
  · subst h1391; exact ⟨fun a => rfl, (fun v a h => nomatch h), fun a => rfl, fun a => rfl⟩
  have e := fun a => Zwm t h4 h26 h22 h3 h5 h27 h64 h116 h101 h104 h108 h62 h50 h51 h52 h24 h30 h9 h23 h188 h325 h33 h73 h287 h205 h285 h68 h36 h37 h38 h39 h32 h35 h40 h45 h47 h48 h43 h42 h106 h112 h113 h149 h90 h230 h66 h135 h296 h240 h293 h238 h97 h1365 h1375 h1376 h1385 h1381 h1383 h1384 h1374 h1382 h1366 h1367 h1368 h1369 h1370 h1371 h1372 h1373 h1386 h1387 h1388 h1390 h1389 h1391 a
  exact ⟨fun a => (e a).elim, fun v a h => (e a).elim, fun a => (e a).elim, fun a => (e a).elim⟩
theorem Ztx (E : Env) (hE : E.rows = rowsOf Tryz.prog) : ZQ U E := by
  refine ⟨fun t => (ZqV E hE t).1, fun t => (ZqV E hE t).2.1, fun t => (ZqV E hE t).2.2.1, fun t => (ZqV E hE t).2.2.2, ?_⟩
  · intro t ht
    by_cases h4 : t = 4
    · subst h4; exact (tyok4 hE).inj
    by_cases h26 : t = 26
    · subst h26; exact (Zx8 hE).inj
    by_cases h22 : t = 22
    · subst h22; exact (ZwI hE).inj
    by_cases h3 : t = 3
    · subst h3; exact (tyok3 hE).inj
    by_cases h5 : t = 5
    · subst h5; exact (tyok5 hE).inj
    by_cases h27 : t = 27
    · subst h27; exact (Z6h hE).inj
    by_cases h64 : t = 64
    · subst h64; exact (ZwN hE).inj
    by_cases h116 : t = 116
    · subst h116; exact (ZuN hE).inj
    by_cases h101 : t = 101
    · subst h101; exact (ZtN hE).inj
    by_cases h104 : t = 104
    · subst h104; exact (Zua hE).inj
    by_cases h108 : t = 108
    · subst h108; exact (ZtG hE).inj
    by_cases h62 : t = 62
    · subst h62; exact (Zx0 hE).inj
    by_cases h50 : t = 50
    · subst h50; exact (ZaE hE).inj
    by_cases h51 : t = 51
    · subst h51; exact (Z3C hE).inj
    by_cases h52 : t = 52
    · subst h52; exact (ZwM hE).inj
    by_cases h24 : t = 24
    · subst h24; exact (ZwQ hE).inj
    by_cases h30 : t = 30
    · subst h30; exact (ZwP hE).inj
    by_cases h9 : t = 9
    · subst h9; exact (tyok9 hE).inj
    by_cases h23 : t = 23
    · subst h23; exact (Zk3 hE).inj
    by_cases h188 : t = 188
    · subst h188; exact (Zeh hE).inj
    by_cases h325 : t = 325
    · subst h325; exact (ZtY hE).inj
    by_cases h33 : t = 33
    · subst h33; exact (Zks hE).inj
    by_cases h73 : t = 73
    · subst h73; exact (Zx1 hE).inj
    by_cases h287 : t = 287
    · subst h287; exact (Zvm hE).inj
    by_cases h205 : t = 205
    · subst h205; exact (ZuX hE).inj
    by_cases h285 : t = 285
    · subst h285; exact (ZtQ hE).inj
    by_cases h68 : t = 68
    · subst h68; exact (Zxa hE).inj
    by_cases h36 : t = 36
    · subst h36; exact (ZwY hE).inj
    by_cases h37 : t = 37
    · subst h37; exact (Zx6 hE).inj
    by_cases h38 : t = 38
    · subst h38; exact (ZwX hE).inj
    by_cases h39 : t = 39
    · subst h39; exact (ZwL hE).inj
    by_cases h32 : t = 32
    · subst h32; exact (ZwZ hE).inj
    by_cases h35 : t = 35
    · subst h35; exact (ZwH hE).inj
    by_cases h40 : t = 40
    · subst h40; exact (ZwE hE).inj
    by_cases h45 : t = 45
    · subst h45; exact (ZwR hE).inj
    by_cases h47 : t = 47
    · subst h47; exact (Zxb hE).inj
    by_cases h48 : t = 48
    · subst h48; exact (ZwU hE).inj
    by_cases h43 : t = 43
    · subst h43; exact (ZwJ hE).inj
    by_cases h42 : t = 42
    · subst h42; exact (Zk1 hE).inj
    by_cases h106 : t = 106
    · subst h106; exact (ZuU hE).inj
    by_cases h112 : t = 112
    · subst h112; exact (Zfa hE).inj
    by_cases h113 : t = 113
    · subst h113; exact (ZtS hE).inj
    by_cases h149 : t = 149
    · subst h149; exact (ZuO hE).inj
    by_cases h90 : t = 90
    · subst h90; exact (ZwO hE).inj
    by_cases h230 : t = 230
    · subst h230; exact (ZtC hE).inj
    by_cases h66 : t = 66
    · subst h66; exact (ZwT hE).inj
    by_cases h135 : t = 135
    · subst h135; exact (Zvx hE).inj
    by_cases h296 : t = 296
    · subst h296; exact (ZtK hE).inj
    by_cases h240 : t = 240
    · subst h240; exact (Zvf hE).inj
    by_cases h293 : t = 293
    · subst h293; exact (ZuS hE).inj
    by_cases h238 : t = 238
    · subst h238; exact (Zue hE).inj
    by_cases h97 : t = 97
    · subst h97; exact (Zx7 hE).inj
    exact absurd ht (by simp [h97, h4, h26, h22, h3, h5, h27, h64, h116, h101, h104, h108, h62, h50, h51, h52, h24, h30, h9, h23, h188, h325, h33, h73, h287, h205, h285, h68, h36, h37, h38, h39, h32, h35, h40, h45, h47, h48, h43, h42, h106, h112, h113, h149, h90, h230, h66, h135, h296, h240, h293, h238])
noncomputable def gl : Nat → Option (List V) := fun _ => none
theorem ZaM : Tryz.prog.follows .mixedOrders = true := by kernel_rfl
noncomputable def noH : FuncId → List FuncId → Option (HMod U) := fun _ _ => none
noncomputable def B0 : Env := EV (U := U) Tryz.prog gl 0 (fun _ => none) noH
abbrev MS := {ms : FuncId → Option (Mod U) // ∀ g m, ms g = some m → FnOK Tryz.prog B0 g m}
abbrev HS := {hs : FuncId → List FuncId → Option (HMod U) // ∀ g k m, hs g k = some m → HFnOK Tryz.prog B0 g m}
noncomputable def msN : MS := ⟨fun _ => none, fun _ _ h => nomatch h⟩
noncomputable def hsN : HS := ⟨fun _ _ => none, fun _ _ _ h => nomatch h⟩
noncomputable def mc {f : FuncId} {m : Mod U} (h : FnOK Tryz.prog B0 f m) (s : MS) : MS := ⟨fun g => bif Nat.beq g f then some m else s.1 g, fun g m' e => by
  cases hb : Nat.beq g f with
  | true => dsimp only at e; rw [hb] at e; cases e; exact (Nat.eq_of_beq_eq_true hb) ▸ h
  | false => dsimp only at e; rw [hb] at e; exact s.2 g m' e⟩
noncomputable def hc {f : FuncId} {m : HMod U} (k : List FuncId) (h : HFnOK Tryz.prog B0 f m) (s : HS) : HS := ⟨fun g k' => bif Nat.beq g f && k' == k then some m else s.1 g k', fun g k' m' e => by
  cases hb : (Nat.beq g f && k' == k) with
  | true => dsimp only at e; rw [hb] at e; cases e; exact (Nat.eq_of_beq_eq_true ((Bool.and_eq_true _ _).mp hb).1) ▸ h
  | false => dsimp only at e; rw [hb] at e; exact s.2 g k' m' e⟩
def AN : Nat → Option Lay := fun _ => none
noncomputable def entP (fn : Func) (ts : List Nat) (x : Args U ts) : Spot U := ⟨ZiB fn, [], Znm ts x fn.ntmps, false⟩
noncomputable def entH (fn : Func) (sh : Shape) (x : sh.X U) : Spot U := ⟨ZiB fn, [], Znv (sh.enc x) fn.ntmps, false⟩
noncomputable def spL (fn : Func) (p : List Nat) (L : Lay) (x : L.sh.X U) : Spot U := spot (ZiB fn) p fn.ntmps L.keep (L.sh.enc x)
abbrev BlkP (f : FuncId) (fn : Func) (ms : MS) (hs : HS) (A : Nat → Option Lay) (rt : Nat) {Pt : Type} (T : Pt → Tr U (U.Ty rt ⊕ Pt)) (sp : Pt → Spot U) : Prop :=
  ∀ p, Le.runL (EV Tryz.prog gl f ms.1 hs.1) (mdlOf ms.1 hs.1) A f fn 0 (doneP (EV Tryz.prog gl f ms.1 hs.1) fn) 1000 (.run (sp p).c) (sp p).K (sp p).st (sp p).sk = (T p).map (ZjE (outP (U := U) rt) sp)
abbrev BlkH (f : FuncId) (fn : Func) (ms : MS) (hs : HS) (A : Nat → Option Lay) (fa : List (List Fk)) (fb : List Bf) (k : Nat) (m : HMod U) {Pt : Type} (T : Pt → Tr U (U.Ty m.ky ⊕ Pt)) (sp : Pt → Spot U) : Prop :=
  ∀ p, Le.runL (EV Tryz.prog gl f ms.1 hs.1) (mdlOf ms.1 hs.1) A f fn k (doneX (EV Tryz.prog gl f ms.1 hs.1) fn fa fb k m.sout m.one) 1000 (.run (sp p).c) (sp p).K (sp p).st (sp p).sk = (T p).map (ZjE m.out sp)
theorem okP {f : FuncId} {fn : Func} {ms : MS} {hs : HS} {A : Nat → Option Lay} {m : Mod U} {Pt : Type} {T : Pt → Tr U (U.Ty m.rt ⊕ Pt)} {sp : Pt → Spot U} (h : BlkP f fn ms hs A m.rt T sp) (b0 : Args U m.ts → Pt)
    (hc : calmC (EV Tryz.prog gl f ms.1 hs.1) f (ZiB fn) = true) (hfn : Tryz.prog.funcs[f]? = some fn) (hn : (fn.name == "runtime.NumGoroutine") = false) (hb : fn.body = some (ZiB fn))
    (hm : ∀ x, m.fn x = flow T (b0 x)) (hsp : ∀ x, sp (b0 x) = entP fn m.ts x) : FnOK Tryz.prog B0 f m :=
  ZvJ rfl (Ztx _ rfl) ZaM ms.2 hs.2 hfn hn hb hc m T sp h b0 hm hsp
theorem okH {f : FuncId} {fn : Func} {ms : MS} {hs : HS} {A : Nat → Option Lay} {fa : List (List Fk)} {fb : List Bf} {k : Nat} {m : HMod U} {Pt : Type} {T : Pt → Tr U (U.Ty m.ky ⊕ Pt)} {sp : Pt → Spot U} (h : BlkH f fn ms hs A fa fb k m T sp) (b0 : m.sin.X U → Pt)
    (hk : ∀ x : m.sin.X U, (m.sin.enc x).2.length = k) (hc : calmC (EV Tryz.prog gl f ms.1 hs.1) f (ZiB fn) = true) (hfn : Tryz.prog.funcs[f]? = some fn) (hn : (fn.name == "runtime.NumGoroutine") = false) (hb : fn.body = some (ZiB fn))
    (hm : ∀ x : m.sin.X U, m.fn x = flow T (b0 x)) (hsp : ∀ x : m.sin.X U, sp (b0 x) = entH fn m.sin x) : HFnOK Tryz.prog B0 f m :=
  Zvn rfl (Ztx _ rfl) ZaM ms.2 hs.2 hfn hn hb hc m hk T sp h b0 hm hsp
abbrev k0 : List Fk := [.keep, .keep, .keep, .keep, .keep, .keep, .keep, .keep, .keep, .keep, .keep, .keep, .keep, .keep, .keep, .keep, .keep, .keep, .keep, .keep, .s 22 1, .s 64 3, .s 116 3, .s 101 10, .s 104 11, .keep, .s 108 18, .s 22 1, .keep, .keep, .keep, .keep, .keep, .keep, .keep, .keep, .keep, .keep, .keep, .s 22 1, .keep, .keep, .keep, .s 62 3, .keep, .keep]
abbrev k1 : List Fk := [.keep, .keep, .keep, .keep, .keep, .keep, .keep, .keep, .keep, .s 5 1]
abbrev k2 : List Fk := [.keep, .keep, .keep, .keep, .keep, .keep, .keep, .s 5 1]
abbrev k3 : List Fk := [.keep, .keep, .keep, .keep, .keep, .keep, .keep, .keep, .keep, .keep, .keep, .keep, .keep, .keep, .keep, .keep, .keep, .keep, .keep, .keep, .own 22 1, .own 64 3, .own 116 3, .s 101 10, .s 104 11, .keep, .own 108 18, .own 22 1, .keep, .keep, .keep, .keep, .keep, .keep, .keep, .keep, .keep, .keep, .keep, .own 22 1, .keep, .keep, .keep, .own 62 3, .keep, .keep, .keep, .keep]
abbrev k4 : List Fk := [.keep, .s 108 18, .s 22 1, .keep, .keep, .keep, .keep, .keep]
abbrev k5 : List Fk := [.keep, .keep, .keep, .keep, .keep, .keep, .keep, .keep, .keep, .keep, .keep, .keep, .keep, .keep, .keep, .keep, .keep, .keep, .keep, .keep, .own 22 1, .own 64 3, .own 116 3, .own 101 10, .own 104 11, .keep, .own 108 18, .own 22 1, .keep, .keep, .keep, .keep, .keep, .keep, .keep, .keep, .keep, .keep, .keep, .own 22 1, .keep, .keep, .keep, .own 62 3, .keep, .keep]
abbrev k6 : List Fk := [.keep, .keep, .keep]
abbrev k7 : List Fk := [.keep, .keep, .keep, .keep, .keep, .keep]
abbrev k8 : List Fk := [.keep, .keep, .keep, .keep, .keep, .own 27 1, .keep, .keep, .keep, .keep]
abbrev k9 : List Fk := [.keep, .keep, .keep, .keep, .keep, .keep, .keep, .keep, .keep, .keep, .keep, .keep, .keep, .keep, .keep, .keep, .keep, .keep, .keep, .keep, .own 22 1, .own 64 3, .own 116 3, .own 101 10, .own 104 11, .keep, .own 108 18, .own 22 1, .keep, .keep, .keep, .keep, .keep, .keep, .keep, .keep, .keep, .keep, .keep, .own 22 1, .keep, .keep, .keep, .own 62 3, .keep, .keep, .keep, .keep]
abbrev k10 : List Fk := [.keep, .keep, .keep, .keep, .keep]
abbrev k11 : List Fk := [.keep, .keep, .keep, .keep, .keep, .keep, .keep, .keep, .keep, .keep, .keep, .keep, .s 5 1]
abbrev k12 : List Fk := [.keep, .keep, .keep, .keep, .keep, .keep, .keep, .keep, .keep, .keep, .keep, .keep, .keep, .keep, .keep, .keep, .keep, .keep, .keep, .keep, .own 22 1, .own 64 3, .own 116 3, .own 101 10, .own 104 11, .keep, .s 108 18, .s 22 1, .keep, .keep, .keep, .keep, .keep, .keep, .keep, .keep, .keep, .keep, .keep, .s 22 1, .keep, .keep, .keep, .s 62 3, .keep, .keep]
abbrev k13 : List Fk := [.keep, .keep, .keep, .keep, .keep, .keep, .keep, .keep, .keep, .keep, .keep, .keep, .keep, .keep, .keep, .keep, .keep, .keep, .keep, .keep, .own 22 1, .own 64 3, .own 116 3, .s 101 10, .s 104 11, .keep, .s 108 18, .s 22 1, .keep, .keep, .keep, .keep, .keep, .keep, .keep, .keep, .keep, .keep, .keep, .s 22 1, .keep, .keep, .keep, .s 62 3, .keep, .keep]
end Go.Proofs.YtefmbgacbhifdaaGreat
