/-
  A part of the proof.
-/
import Derived.Test.YtefmbgacbhifdaaGreatL6
import Derived.Test.YtefmbgacbhifdaaGreatProg
import Derived.KernelRfl
namespace Go.Proofs.YtefmbgacbhifdaaGreat
open Go Go.Proofs.YtefmbgacbhifdaaGreat.Le
set_option maxRecDepth 100000
structure ZX where
 A : Int
 B : Int
 Device : Int
 App : Int
 Net : Int
 Z06 : Bool
 Z1U : Bool
structure Zn where
 Key : Int
 NID : Int
 Zfd : Int
 Hide : Int
 ZBL : Int
@[reducible] def Z16 : Zn := ⟨(0 : Int), (0 : Int), (0 : Int), (0 : Int), (0 : Int)⟩
structure Z0R where
 Z0j : Int
 Old : Zn
 New : Zn
@[reducible] def Zeq : Z0R := ⟨(0 : Int), Z16, Z16⟩
structure Z0D where
 Index : Int
 Zk2 : Bool
 Since : Int
@[reducible] def Z1I : Z0D := ⟨(0 : Int), false, (0 : Int)⟩
structure Zd where
 Src : Int
 IV : Int
 Seq : Int
structure Zl where
 Dst : Int
 Src : Int
 App : Bool
 Zero : Int
 IV : Int
 Parts : List (List Int)
 Zyl : Int
 Due : Int
 Z0S : Int
 TTL : Int
@[reducible] def Z0T : Zl := ⟨(0 : Int), (0 : Int), false, (0 : Int), (0 : Int), [], (0 : Int), (0 : Int), (0 : Int), (0 : Int)⟩
structure Zo where
 Src : Int
 Dst : Int
 App : Bool
 Zero : Int
 IV : Int
 Last : Int
 Parts : List (List Int)
 Block : Int
 Due : Int
 TTL : Int
 Done : Bool
@[reducible] def Z2t : Zo := ⟨(0 : Int), (0 : Int), false, (0 : Int), (0 : Int), (0 : Int), [], (0 : Int), (0 : Int), (0 : Int), false⟩
structure Zf where
 Out : List Zl
 In : List Zo
structure Zm where
 IV : Int
 NID : Int
 Control : Bool
 TTL : Int
 Seq : Int
 Src : Int
 Dst : Int
 Payload : List Int
@[reducible] def Z3I : Zm := ⟨(0 : Int), (0 : Int), false, (0 : Int), (0 : Int), (0 : Int), (0 : Int), []⟩
structure Zj where
 Control : Bool
 Z1Z : Bool
 App : Bool
 Zero : Int
 Index : Int
 Last : Int
 Z4F : Int
 Block : Int
 Z4 : Bool
 Bytes : List Int
@[reducible] def Zlc : Zj := ⟨false, false, false, (0 : Int), (0 : Int), (0 : Int), (0 : Int), (0 : Int), false, []⟩
structure ZJ where
 PDU : Zm
 Lower : Zj
structure ZC where
 Low : Int
 Zi : List ZJ
 Zk : List Int
 Bit : Int
 Sent : Bool
 Z04 : Int
 Counter : Int
 Dropped : Int
@[reducible] def Z78 : ZC := ⟨(0 : Int), [], [], (0 : Int), false, (0 : Int), (0 : Int), (0 : Int)⟩
structure ZA where
 Z0j : Int
 Z4 : Int
 Bit : Int
 Counter : Int
 Due : Int
 Z0S : Int
 Zk : List Int
 Told : Int
 More : Bool
 Last : Int
@[reducible] def Z4D : ZA := ⟨(0 : Int), (0 : Int), (0 : Int), (0 : Int), (0 : Int), (0 : Int), [], (0 : Int), false, (0 : Int)⟩
structure ZG where
 Due : Int
 Bytes : List Int
 To : Int
structure Zg where
 Address : Int
 Device : Int
 App : Int
 Keys : Z0R
 IV : Z0D
 Seq : Int
 Z06 : Bool
 Zw : Bool
 Zb : List Int
 Cache : List Zd
 Z9 : List Zd
 Z5 : Zf
 Z4 : ZC
 Low : ZA
 Out : List ZG
 ZP : Int
 Up : Bool
@[reducible] def Zi5 : Zg := ⟨(0 : Int), (0 : Int), (0 : Int), Zeq, Z1I, (0 : Int), false, false, [], [], [], (⟨[], []⟩ : Zf), Z78, Z4D, [], (0 : Int), false⟩
structure Zt where
 Src : Int
 Dst : Int
 App : Bool
 TTL : Int
 Seq : Zd
 Bytes : List Int
structure Za where
 Kind : Int
 Znk : Zt
 Peer : Int
 Number : Int
structure Z0m where
 x0 : Int
 x1 : Int
structure Zx where
 Size : Int
 Value : Int
structure Ze where
 Node : Zg
 Z0M : Int
structure Z3J where
 Src : Int
 Dst : Int
 TTL : Int
 Lower : Zj
structure ZB where
 x0 : Int
 x1 : Int
 x2 : Int
 x3 : Int
 x4 : Int
 x5 : Int
@[reducible] def Z0V : ZB := ⟨(0 : Int), (0 : Int), (0 : Int), (0 : Int), (0 : Int), (0 : Int)⟩
structure Z0c where
 ZM : Zm
 Zux : Zn
 Z9e : Bool
structure Zq where
 Z65 : List Zd
 Z9o : Int
structure Zr where
 Z65 : List Zd
 Z9o : Int
structure Z70 where
 Low : Int
 Bit : Int
 Sent : Bool
 Z04 : Int
 Counter : Int
 Dropped : Int
structure Z4H where
 Z0j : Int
 Z4 : Int
 Bit : Int
 Counter : Int
 Due : Int
 Z0S : Int
 Told : Int
 More : Bool
 Last : Int
structure Zai where
 Address : Int
 Device : Int
 App : Int
 Keys : Z0R
 IV : Z0D
 Seq : Int
 Z06 : Bool
 Zw : Bool
 Z4 : Z70
 Low : Z4H
 ZP : Int
 Up : Bool
structure Z0g where
 Node : Zai
 Z0M : Int
structure Z89 where
 q0 : Zg
 q1 : List Za
 q2 : Int
 q3 : Bool
 q4 : Int
 q5 : List Int
 q6 : Int
structure Z40 where
 q0 : Ze
 q1 : Int
 q2 : Bool
 q3 : Int
 q4 : List Int
 q5 : Int
 q6 : List Za
 q7 : List Zl
 q8 : List Zo
structure ZR where
 q0 : Int
 q1 : Ze
 q2 : List Za
 q3 : List Zl
 q4 : List Zo
structure Z1k where
 q0 : Zf
structure Z07 where
 q0 : Ze
 q1 : List Za
structure Z0N where
 q0 : Bool
 q1 : Ze
 q2 : List Za
structure Z0y where
 q0 : Ze
 q1 : List Za
structure Z0Z where
 q0 : List Int
structure Z17 where
 q0 : Int
 q1 : Ze
 q2 : List Za
structure Z4d where
 q0 : Zg
structure Z12 where
 q0 : List Int
structure Z1g where
 q0 : List Zd
structure Z0x where
 q0 : List Zd
structure Z1G where
 q0 : List Zl
structure Z1M where
 q0 : List Zo
structure Z2h where
 q0 : List ZJ
structure Z2z where
 q0 : List ZG
structure Z03 where
 q0 : Bool
structure Z01 where
 q0 : Int
structure Z52 where
 q0 : Zg
 q1 : List Za
 q2 : List Int
structure Z44 where
 q0 : Ze
 q1 : List Int
 q2 : List Za
 q3 : List Zd
 q4 : List Zd
 q5 : List Zl
 q6 : List Zo
structure ZQ where
 q0 : Ze
 q1 : List Za
 q2 : List Zd
 q3 : List Zd
 q4 : List Zl
 q5 : List Zo
structure ZV where
 q0 : Z0c
 q1 : Bool
 q2 : Ze
 q3 : List Za
structure Z0O where
 q0 : Bool
 q1 : Ze
 q2 : List Za
structure Z0z where
 q0 : Ze
 q1 : List Za
structure Z00 where
 q0 : Bool
 q1 : Ze
 q2 : List Za
structure Z0v where
 q0 : Ze
 q1 : List Za
 q2 : List Zd
 q3 : List Zl
 q4 : List Zo
structure Z08 where
 q0 : Int
 q1 : Int
structure Z3k where
 q0 : Bool
 q1 : Int
structure Z53 where
 q0 : List Za
structure Zap where
 q0 : List Int
@[reducible] def Ty : Nat -> Type
 | 1365 => Z89
 | 1375 => Z40
 | 1376 => ZR
 | 1385 => Z1k
 | 1381 => Z07
 | 1383 => Z0N
 | 1384 => Z0y
 | 1374 => Z0Z
 | 1382 => Z17
 | 1366 => Z4d
 | 1367 => Z12
 | 1368 => Z1g
 | 1369 => Z0x
 | 1370 => Z1G
 | 1371 => Z1M
 | 1372 => Z2h
 | 1373 => Z2z
 | 1386 => Z03
 | 1387 => Z01
 | 1388 => Z52
 | 1389 => Z44
 | 1390 => ZQ
 | 1391 => ZV
 | 1392 => Z0O
 | 1393 => Z0z
 | 1397 => Z00
 | 1398 => Z0v
 | 1399 => Z08
 | 1400 => Z3k
 | 1396 => Z53
 | 1401 => Zap
 | 97 => Z0g
 | 4 => Bool
 | 26 => ZX
 | 24 => Int
 | 5 => Int
 | 27 => List Int
 | 22 => Int
 | 64 => Zd
 | 116 => Zd
 | 101 => Zl
 | 104 => Zo
 | 108 => ZJ
 | 62 => ZG
 | 50 => Zg
 | 51 => Int
 | 52 => Zg × Int
 | 68 => Za
 | 58 => List Za
 | 59 => Zg × (List Za)
 | 30 => Zn
 | 9 => ByteArray
 | 23 => Int
 | 188 => List Int
 | 325 => Z0m
 | 3 => Int
 | 33 => Int
 | 73 => List (List Int)
 | 287 => Zx
 | 205 => (List Int) × Int
 | 285 => List Zx
 | 36 => List Int
 | 37 => List Zd
 | 38 => List Zd
 | 39 => List Zl
 | 32 => Z0R
 | 35 => Z0D
 | 40 => List Zo
 | 45 => ZC
 | 47 => ZA
 | 48 => List ZG
 | 43 => List ZJ
 | 42 => Zf
 | 106 => Zj
 | 112 => List Zj
 | 113 => Zf × (List Zj) × Int
 | 149 => Z3J
 | 90 => Zm
 | 230 => Int × (List Int)
 | 66 => Zt
 | 135 => List Zn
 | 296 => ZB
 | 240 => (List Int) × (List Int) × Int
 | 293 => List Int
 | 131 => Int × Int × Int
 | 133 => Int × Bool
 | 137 => Zm × Int
 | 176 => Z0c
 | 183 => Zj × Int
 | 260 => List Zt
 | 261 => Zf × (List Zt) × Bool
 | 265 => (List Zd) × Int
 | 246 => Zq
 | 317 => Zr
 | _ => Empty
abbrev cu8 : Z8 Ty Int := Z8.int .u8
abbrev Z8B : Z8 Ty Int := Z8.int .u16
abbrev ZeB : Z8 Ty Int := Z8.int .u32
abbrev Z75 : Z8 Ty Int := Z8.int .u64
abbrev Z0h : Z8 Ty Int := Z8.int .i64
abbrev cbo : Z8 Ty Bool := Z8.bool
abbrev cst : Z8 Ty ByteArray := Z8.str
def ZBp : Z8 Ty ZX := Z8.iso (fun x => (x.A, x.B, x.Device, x.App, x.Net, x.Z06, x.Z1U, ())) (fun p => ⟨p.1, p.2.1, p.2.2.1, p.2.2.2.1, p.2.2.2.2.1, p.2.2.2.2.2.1, p.2.2.2.2.2.2.1⟩) (Z8.pair Z8B (Z8.pair Z8B (Z8.pair Z75 (Z8.pair Z75 (Z8.pair Z75 (Z8.pair cbo (Z8.pair cbo Z8.unit)))))))
def ZbQ : Z8 Ty Zd := Z8.iso (fun x => (x.Src, x.IV, x.Seq, ())) (fun p => ⟨p.1, p.2.1, p.2.2.1⟩) (Z8.pair Z8B (Z8.pair ZeB (Z8.pair ZeB Z8.unit)))
def Zj7 : Z8 Ty Zl := Z8.iso (fun x => (x.Dst, x.Src, x.App, x.Zero, x.IV, x.Parts, x.Zyl, x.Due, x.Z0S, x.TTL, ())) (fun p => ⟨p.1, p.2.1, p.2.2.1, p.2.2.2.1, p.2.2.2.2.1, p.2.2.2.2.2.1, p.2.2.2.2.2.2.1, p.2.2.2.2.2.2.2.1, p.2.2.2.2.2.2.2.2.1, p.2.2.2.2.2.2.2.2.2.1⟩) (Z8.pair Z8B (Z8.pair Z8B (Z8.pair cbo (Z8.pair ZeB (Z8.pair ZeB (Z8.pair (Z8.list 27 1 (fun (a : List Int) => ((Z8.list 5 1 (fun (a : Int) => cu8.ZF a) : Z8 Ty (List (Ty 5)))).ZF a) : Z8 Ty (List (Ty 27))) (Z8.pair ZeB (Z8.pair Z0h (Z8.pair Z0h (Z8.pair Z0h Z8.unit))))))))))
def ZjQ : Z8 Ty Zo := Z8.iso (fun x => (x.Src, x.Dst, x.App, x.Zero, x.IV, x.Last, x.Parts, x.Block, x.Due, x.TTL, x.Done, ())) (fun p => ⟨p.1, p.2.1, p.2.2.1, p.2.2.2.1, p.2.2.2.2.1, p.2.2.2.2.2.1, p.2.2.2.2.2.2.1, p.2.2.2.2.2.2.2.1, p.2.2.2.2.2.2.2.2.1, p.2.2.2.2.2.2.2.2.2.1, p.2.2.2.2.2.2.2.2.2.2.1⟩) (Z8.pair Z8B (Z8.pair Z8B (Z8.pair cbo (Z8.pair ZeB (Z8.pair ZeB (Z8.pair Z0h (Z8.pair (Z8.list 27 1 (fun (a : List Int) => ((Z8.list 5 1 (fun (a : Int) => cu8.ZF a) : Z8 Ty (List (Ty 5)))).ZF a) : Z8 Ty (List (Ty 27))) (Z8.pair ZeB (Z8.pair Z0h (Z8.pair Z0h (Z8.pair cbo Z8.unit)))))))))))
def ZrC : Z8 Ty Zm := Z8.iso (fun x => (x.IV, x.NID, x.Control, x.TTL, x.Seq, x.Src, x.Dst, x.Payload, ())) (fun p => ⟨p.1, p.2.1, p.2.2.1, p.2.2.2.1, p.2.2.2.2.1, p.2.2.2.2.2.1, p.2.2.2.2.2.2.1, p.2.2.2.2.2.2.2.1⟩) (Z8.pair ZeB (Z8.pair Z0h (Z8.pair cbo (Z8.pair Z0h (Z8.pair ZeB (Z8.pair Z8B (Z8.pair Z8B (Z8.pair (Z8.list 5 1 (fun (a : Int) => cu8.ZF a) : Z8 Ty (List (Ty 5))) Z8.unit))))))))
def Z4E : Z8 Ty Zj := Z8.iso (fun x => (x.Control, x.Z1Z, x.App, x.Zero, x.Index, x.Last, x.Z4F, x.Block, x.Z4, x.Bytes, ())) (fun p => ⟨p.1, p.2.1, p.2.2.1, p.2.2.2.1, p.2.2.2.2.1, p.2.2.2.2.2.1, p.2.2.2.2.2.2.1, p.2.2.2.2.2.2.2.1, p.2.2.2.2.2.2.2.2.1, p.2.2.2.2.2.2.2.2.2.1⟩) (Z8.pair cbo (Z8.pair cbo (Z8.pair cbo (Z8.pair Z0h (Z8.pair Z0h (Z8.pair Z0h (Z8.pair Z0h (Z8.pair ZeB (Z8.pair cbo (Z8.pair (Z8.list 5 1 (fun (a : Int) => cu8.ZF a) : Z8 Ty (List (Ty 5))) Z8.unit))))))))))
def ZjN : Z8 Ty ZJ := Z8.iso (fun x => (x.PDU, x.Lower, ())) (fun p => ⟨p.1, p.2.1⟩) (Z8.pair ZrC (Z8.pair Z4E Z8.unit))
def Zvi : Z8 Ty ZG := Z8.iso (fun x => (x.Due, x.Bytes, x.To, ())) (fun p => ⟨p.1, p.2.1, p.2.2.1⟩) (Z8.pair Z0h (Z8.pair (Z8.list 5 1 (fun (a : Int) => cu8.ZF a) : Z8 Ty (List (Ty 5))) (Z8.pair Z8B Z8.unit)))
def Zuz : Z8 Ty Zn := Z8.iso (fun x => (x.Key, x.NID, x.Zfd, x.Hide, x.ZBL, ())) (fun p => ⟨p.1, p.2.1, p.2.2.1, p.2.2.2.1, p.2.2.2.2.1⟩) (Z8.pair Z75 (Z8.pair Z0h (Z8.pair Z75 (Z8.pair Z75 (Z8.pair Z75 Z8.unit)))))
def ZBx : Z8 Ty Z0R := Z8.iso (fun x => (x.Z0j, x.Old, x.New, ())) (fun p => ⟨p.1, p.2.1, p.2.2.1⟩) (Z8.pair Z0h (Z8.pair Zuz (Z8.pair Zuz Z8.unit)))
def ZBw : Z8 Ty Z0D := Z8.iso (fun x => (x.Index, x.Zk2, x.Since, ())) (fun p => ⟨p.1, p.2.1, p.2.2.1⟩) (Z8.pair ZeB (Z8.pair cbo (Z8.pair Z0h Z8.unit)))
def ZjD : Z8 Ty Zf := Z8.iso (fun x => (x.Out, x.In, ())) (fun p => ⟨p.1, p.2.1⟩) (Z8.pair (Z8.list 101 10 (fun (a : Zl) => .agg (Zj7.ZU a)) : Z8 Ty (List (Ty 101))) (Z8.pair (Z8.list 104 11 (fun (a : Zo) => .agg (ZjQ.ZU a)) : Z8 Ty (List (Ty 104))) Z8.unit))
def ZCp : Z8 Ty ZC := Z8.iso (fun x => (x.Low, x.Zi, x.Zk, x.Bit, x.Sent, x.Z04, x.Counter, x.Dropped, ())) (fun p => ⟨p.1, p.2.1, p.2.2.1, p.2.2.2.1, p.2.2.2.2.1, p.2.2.2.2.2.1, p.2.2.2.2.2.2.1, p.2.2.2.2.2.2.2.1⟩) (Z8.pair Z8B (Z8.pair (Z8.list 108 18 (fun (a : ZJ) => .agg (ZjN.ZU a)) : Z8 Ty (List (Ty 108))) (Z8.pair (Z8.list 22 1 (fun (a : Int) => Z8B.ZF a) : Z8 Ty (List (Ty 22))) (Z8.pair Z0h (Z8.pair cbo (Z8.pair Z0h (Z8.pair Z0h (Z8.pair Z0h Z8.unit))))))))
def ZDc : Z8 Ty ZA := Z8.iso (fun x => (x.Z0j, x.Z4, x.Bit, x.Counter, x.Due, x.Z0S, x.Zk, x.Told, x.More, x.Last, ())) (fun p => ⟨p.1, p.2.1, p.2.2.1, p.2.2.2.1, p.2.2.2.2.1, p.2.2.2.2.2.1, p.2.2.2.2.2.2.1, p.2.2.2.2.2.2.2.1, p.2.2.2.2.2.2.2.2.1, p.2.2.2.2.2.2.2.2.2.1⟩) (Z8.pair Z0h (Z8.pair Z8B (Z8.pair Z0h (Z8.pair Z0h (Z8.pair Z0h (Z8.pair Z0h (Z8.pair (Z8.list 22 1 (fun (a : Int) => Z8B.ZF a) : Z8 Ty (List (Ty 22))) (Z8.pair Z0h (Z8.pair cbo (Z8.pair Z0h Z8.unit))))))))))
def ZjT : Z8 Ty Zg := Z8.iso (fun x => (x.Address, x.Device, x.App, x.Keys, x.IV, x.Seq, x.Z06, x.Zw, x.Zb, x.Cache, x.Z9, x.Z5, x.Z4, x.Low, x.Out, x.ZP, x.Up, ())) (fun p => ⟨p.1, p.2.1, p.2.2.1, p.2.2.2.1, p.2.2.2.2.1, p.2.2.2.2.2.1, p.2.2.2.2.2.2.1, p.2.2.2.2.2.2.2.1, p.2.2.2.2.2.2.2.2.1, p.2.2.2.2.2.2.2.2.2.1, p.2.2.2.2.2.2.2.2.2.2.1, p.2.2.2.2.2.2.2.2.2.2.2.1, p.2.2.2.2.2.2.2.2.2.2.2.2.1, p.2.2.2.2.2.2.2.2.2.2.2.2.2.1, p.2.2.2.2.2.2.2.2.2.2.2.2.2.2.1, p.2.2.2.2.2.2.2.2.2.2.2.2.2.2.2.1, p.2.2.2.2.2.2.2.2.2.2.2.2.2.2.2.2.1⟩) (Z8.pair Z8B (Z8.pair Z75 (Z8.pair Z75 (Z8.pair ZBx (Z8.pair ZBw (Z8.pair ZeB (Z8.pair cbo (Z8.pair cbo (Z8.pair (Z8.list 22 1 (fun (a : Int) => Z8B.ZF a) : Z8 Ty (List (Ty 22))) (Z8.pair (Z8.list 64 3 (fun (a : Zd) => .agg (ZbQ.ZU a)) : Z8 Ty (List (Ty 64))) (Z8.pair (Z8.list 116 3 (fun (a : Zd) => .agg (ZbQ.ZU a)) : Z8 Ty (List (Ty 116))) (Z8.pair ZjD (Z8.pair ZCp (Z8.pair ZDc (Z8.pair (Z8.list 62 3 (fun (a : ZG) => .agg (Zvi.ZU a)) : Z8 Ty (List (Ty 62))) (Z8.pair ZeB (Z8.pair cbo Z8.unit)))))))))))))))))
def Zmi : Z8 Ty Zt := Z8.iso (fun x => (x.Src, x.Dst, x.App, x.TTL, x.Seq, x.Bytes, ())) (fun p => ⟨p.1, p.2.1, p.2.2.1, p.2.2.2.1, p.2.2.2.2.1, p.2.2.2.2.2.1⟩) (Z8.pair Z8B (Z8.pair Z8B (Z8.pair cbo (Z8.pair Z0h (Z8.pair ZbQ (Z8.pair (Z8.list 5 1 (fun (a : Int) => cu8.ZF a) : Z8 Ty (List (Ty 5))) Z8.unit))))))
def Znc : Z8 Ty Za := Z8.iso (fun x => (x.Kind, x.Znk, x.Peer, x.Number, ())) (fun p => ⟨p.1, p.2.1, p.2.2.1, p.2.2.2.1⟩) (Z8.pair Z0h (Z8.pair Zmi (Z8.pair Z8B (Z8.pair Z75 Z8.unit))))
def Zy6 : Z8 Ty Z0m := Z8.iso (fun x => (x.x0, x.x1, ())) (fun p => ⟨p.1, p.2.1⟩) (Z8.pair ZeB (Z8.pair ZeB Z8.unit))
def ZlY : Z8 Ty Zx := Z8.iso (fun x => (x.Size, x.Value, ())) (fun p => ⟨p.1, p.2.1⟩) (Z8.pair Z0h (Z8.pair Z75 Z8.unit))
def Zyk : Z8 Ty Z3J := Z8.iso (fun x => (x.Src, x.Dst, x.TTL, x.Lower, ())) (fun p => ⟨p.1, p.2.1, p.2.2.1, p.2.2.2.1⟩) (Z8.pair Z8B (Z8.pair Z8B (Z8.pair Z0h (Z8.pair Z4E Z8.unit))))
def ZyK : Z8 Ty ZB := Z8.iso (fun x => (x.x0, x.x1, x.x2, x.x3, x.x4, x.x5, ())) (fun p => ⟨p.1, p.2.1, p.2.2.1, p.2.2.2.1, p.2.2.2.2.1, p.2.2.2.2.2.1⟩) (Z8.pair cu8 (Z8.pair cu8 (Z8.pair cu8 (Z8.pair cu8 (Z8.pair cu8 (Z8.pair cu8 Z8.unit))))))
def ZyQ : Z8 Ty Z0c := Z8.iso (fun x => (x.ZM, x.Zux, x.Z9e, ())) (fun p => ⟨p.1, p.2.1, p.2.2.1⟩) (Z8.pair ZrC (Z8.pair Zuz (Z8.pair cbo Z8.unit)))
def Zy0 : Z8 Ty Zq := Z8.iso (fun x => (x.Z65, x.Z9o, ())) (fun p => ⟨p.1, p.2.1⟩) (Z8.pair (Z8.list 64 3 (fun (a : Zd) => .agg (ZbQ.ZU a)) : Z8 Ty (List (Ty 64))) (Z8.pair Z0h Z8.unit))
def Zy7 : Z8 Ty Zr := Z8.iso (fun x => (x.Z65, x.Z9o, ())) (fun p => ⟨p.1, p.2.1⟩) (Z8.pair (Z8.list 116 3 (fun (a : Zd) => .agg (ZbQ.ZU a)) : Z8 Ty (List (Ty 116))) (Z8.pair Z0h Z8.unit))
def ZDb : Z8 Ty Z70 := Z8.iso (fun x => (x.Low, (), (), x.Bit, x.Sent, x.Z04, x.Counter, x.Dropped, ())) (fun p => ⟨p.1, p.2.2.2.1, p.2.2.2.2.1, p.2.2.2.2.2.1, p.2.2.2.2.2.2.1, p.2.2.2.2.2.2.2.1⟩) (Z8.pair Z8B (Z8.pair Z8.skip (Z8.pair Z8.skip (Z8.pair Z0h (Z8.pair cbo (Z8.pair Z0h (Z8.pair Z0h (Z8.pair Z0h Z8.unit))))))))
def ZCo : Z8 Ty Z4H := Z8.iso (fun x => (x.Z0j, x.Z4, x.Bit, x.Counter, x.Due, x.Z0S, (), x.Told, x.More, x.Last, ())) (fun p => ⟨p.1, p.2.1, p.2.2.1, p.2.2.2.1, p.2.2.2.2.1, p.2.2.2.2.2.1, p.2.2.2.2.2.2.2.1, p.2.2.2.2.2.2.2.2.1, p.2.2.2.2.2.2.2.2.2.1⟩) (Z8.pair Z0h (Z8.pair Z8B (Z8.pair Z0h (Z8.pair Z0h (Z8.pair Z0h (Z8.pair Z0h (Z8.pair Z8.skip (Z8.pair Z0h (Z8.pair cbo (Z8.pair Z0h Z8.unit))))))))))
def ZCS : Z8 Ty Zai := Z8.iso (fun x => (x.Address, x.Device, x.App, x.Keys, x.IV, x.Seq, x.Z06, x.Zw, (), (), (), (), (), x.Z4, x.Low, (), x.ZP, x.Up, ())) (fun p => ⟨p.1, p.2.1, p.2.2.1, p.2.2.2.1, p.2.2.2.2.1, p.2.2.2.2.2.1, p.2.2.2.2.2.2.1, p.2.2.2.2.2.2.2.1, p.2.2.2.2.2.2.2.2.2.2.2.2.2.1, p.2.2.2.2.2.2.2.2.2.2.2.2.2.2.1, p.2.2.2.2.2.2.2.2.2.2.2.2.2.2.2.2.1, p.2.2.2.2.2.2.2.2.2.2.2.2.2.2.2.2.2.1⟩) (Z8.pair Z8B (Z8.pair Z75 (Z8.pair Z75 (Z8.pair ZBx (Z8.pair ZBw (Z8.pair ZeB (Z8.pair cbo (Z8.pair cbo (Z8.pair Z8.skip (Z8.pair Z8.skip (Z8.pair Z8.skip (Z8.pair Z8.skip (Z8.pair Z8.skip (Z8.pair ZDb (Z8.pair ZCo (Z8.pair Z8.skip (Z8.pair ZeB (Z8.pair cbo Z8.unit))))))))))))))))))
def Zt0 : Z8 Ty Z0g := Z8.iso (fun x => (x.Node, x.Z0M, (), ())) (fun p => ⟨p.1, p.2.1⟩) (Z8.pair ZCS (Z8.pair Z0h (Z8.pair Z8.skip Z8.unit)))
@[reducible] def U : Z9c where
 Ty := Ty
 esz := fun t => match t with
  | 4 => 1
  | 26 => 7
  | 24 => 1
  | 5 => 1
  | 27 => 1
  | 22 => 1
  | 64 => 3
  | 116 => 3
  | 101 => 10
  | 104 => 11
  | 108 => 18
  | 62 => 3
  | 50 => 46
  | 51 => 1
  | 52 => 1
  | 68 => 11
  | 58 => 1
  | 59 => 1
  | 30 => 5
  | 9 => 1
  | 23 => 1
  | 188 => 1
  | 325 => 2
  | 3 => 1
  | 33 => 1
  | 73 => 1
  | 287 => 2
  | 205 => 1
  | 285 => 1
  | 36 => 1
  | 37 => 1
  | 38 => 1
  | 39 => 1
  | 32 => 11
  | 35 => 3
  | 40 => 1
  | 45 => 8
  | 47 => 10
  | 48 => 1
  | 43 => 1
  | 42 => 2
  | 106 => 10
  | 112 => 1
  | 113 => 1
  | 149 => 13
  | 90 => 8
  | 230 => 1
  | 66 => 8
  | 135 => 1
  | 296 => 6
  | 240 => 1
  | 293 => 1
  | 131 => 1
  | 133 => 1
  | 137 => 1
  | 176 => 14
  | 183 => 1
  | 260 => 1
  | 261 => 1
  | 265 => 1
  | 246 => 2
  | 317 => 2
  | _ => 0
 enc := fun t => match t with
  | 97 => fun (a : Z0g) => Zt0.ZxZ 48 a
  | 4 => fun (a : Bool) => cbo.ZF a
  | 26 => fun (a : ZX) => .agg (ZBp.ZU a)
  | 24 => fun (a : Int) => Z75.ZF a
  | 5 => fun (a : Int) => cu8.ZF a
  | 27 => fun (a : List Int) => ((Z8.list 5 1 (fun (a : Int) => cu8.ZF a) : Z8 Ty (List (Ty 5)))).ZF a
  | 22 => fun (a : Int) => Z8B.ZF a
  | 64 => fun (a : Zd) => .agg (ZbQ.ZU a)
  | 116 => fun (a : Zd) => .agg (ZbQ.ZU a)
  | 101 => fun (a : Zl) => .agg (Zj7.ZU a)
  | 104 => fun (a : Zo) => .agg (ZjQ.ZU a)
  | 108 => fun (a : ZJ) => .agg (ZjN.ZU a)
  | 62 => fun (a : ZG) => .agg (Zvi.ZU a)
  | 50 => fun (a : Zg) => .agg (ZjT.ZU a)
  | 51 => fun (a : Int) => Z0h.ZF a
  | 52 => fun (a : Zg × Int) => .tup [(.agg (ZjT.ZU a.1)), (Z0h.ZF a.2)]
  | 68 => fun (a : Za) => .agg (Znc.ZU a)
  | 58 => fun (a : List Za) => ((Z8.list 68 11 (fun (a : Za) => .agg (Znc.ZU a)) : Z8 Ty (List (Ty 68)))).ZF a
  | 59 => fun (a : Zg × (List Za)) => .tup [(.agg (ZjT.ZU a.1)), (((Z8.list 68 11 (fun (a : Za) => .agg (Znc.ZU a)) : Z8 Ty (List (Ty 68)))).ZF a.2)]
  | 30 => fun (a : Zn) => .agg (Zuz.ZU a)
  | 9 => fun (a : ByteArray) => cst.ZF a
  | 23 => fun (a : Int) => Z75.ZF a
  | 188 => fun (a : List Int) => ((Z8.list 23 1 (fun (a : Int) => Z75.ZF a) : Z8 Ty (List (Ty 23)))).ZF a
  | 325 => fun (a : Z0m) => .agg (Zy6.ZU a)
  | 3 => fun (a : Int) => Z0h.ZF a
  | 33 => fun (a : Int) => ZeB.ZF a
  | 73 => fun (a : List (List Int)) => ((Z8.list 27 1 (fun (a : List Int) => ((Z8.list 5 1 (fun (a : Int) => cu8.ZF a) : Z8 Ty (List (Ty 5)))).ZF a) : Z8 Ty (List (Ty 27)))).ZF a
  | 287 => fun (a : Zx) => .agg (ZlY.ZU a)
  | 205 => fun (a : (List Int) × Int) => .tup [(((Z8.list 5 1 (fun (a : Int) => cu8.ZF a) : Z8 Ty (List (Ty 5)))).ZF a.1), (Z0h.ZF a.2)]
  | 285 => fun (a : List Zx) => ((Z8.list 287 2 (fun (a : Zx) => .agg (ZlY.ZU a)) : Z8 Ty (List (Ty 287)))).ZF a
  | 36 => fun (a : List Int) => ((Z8.list 22 1 (fun (a : Int) => Z8B.ZF a) : Z8 Ty (List (Ty 22)))).ZF a
  | 37 => fun (a : List Zd) => ((Z8.list 64 3 (fun (a : Zd) => .agg (ZbQ.ZU a)) : Z8 Ty (List (Ty 64)))).ZF a
  | 38 => fun (a : List Zd) => ((Z8.list 116 3 (fun (a : Zd) => .agg (ZbQ.ZU a)) : Z8 Ty (List (Ty 116)))).ZF a
  | 39 => fun (a : List Zl) => ((Z8.list 101 10 (fun (a : Zl) => .agg (Zj7.ZU a)) : Z8 Ty (List (Ty 101)))).ZF a
  | 32 => fun (a : Z0R) => .agg (ZBx.ZU a)
  | 35 => fun (a : Z0D) => .agg (ZBw.ZU a)
  | 40 => fun (a : List Zo) => ((Z8.list 104 11 (fun (a : Zo) => .agg (ZjQ.ZU a)) : Z8 Ty (List (Ty 104)))).ZF a
  | 45 => fun (a : ZC) => .agg (ZCp.ZU a)
  | 47 => fun (a : ZA) => .agg (ZDc.ZU a)
  | 48 => fun (a : List ZG) => ((Z8.list 62 3 (fun (a : ZG) => .agg (Zvi.ZU a)) : Z8 Ty (List (Ty 62)))).ZF a
  | 43 => fun (a : List ZJ) => ((Z8.list 108 18 (fun (a : ZJ) => .agg (ZjN.ZU a)) : Z8 Ty (List (Ty 108)))).ZF a
  | 42 => fun (a : Zf) => .agg (ZjD.ZU a)
  | 106 => fun (a : Zj) => .agg (Z4E.ZU a)
  | 112 => fun (a : List Zj) => ((Z8.list 106 10 (fun (a : Zj) => .agg (Z4E.ZU a)) : Z8 Ty (List (Ty 106)))).ZF a
  | 113 => fun (a : Zf × (List Zj) × Int) => .tup [(.agg (ZjD.ZU a.1)), (((Z8.list 106 10 (fun (a : Zj) => .agg (Z4E.ZU a)) : Z8 Ty (List (Ty 106)))).ZF a.2.1), (Z0h.ZF a.2.2)]
  | 149 => fun (a : Z3J) => .agg (Zyk.ZU a)
  | 90 => fun (a : Zm) => .agg (ZrC.ZU a)
  | 230 => fun (a : Int × (List Int)) => .tup [(Z75.ZF a.1), (((Z8.list 5 1 (fun (a : Int) => cu8.ZF a) : Z8 Ty (List (Ty 5)))).ZF a.2)]
  | 66 => fun (a : Zt) => .agg (Zmi.ZU a)
  | 135 => fun (a : List Zn) => ((Z8.list 30 5 (fun (a : Zn) => .agg (Zuz.ZU a)) : Z8 Ty (List (Ty 30)))).ZF a
  | 296 => fun (a : ZB) => .agg (ZyK.ZU a)
  | 240 => fun (a : (List Int) × (List Int) × Int) => .tup [(((Z8.list 23 1 (fun (a : Int) => Z75.ZF a) : Z8 Ty (List (Ty 23)))).ZF a.1), (((Z8.list 5 1 (fun (a : Int) => cu8.ZF a) : Z8 Ty (List (Ty 5)))).ZF a.2.1), (Z0h.ZF a.2.2)]
  | 293 => fun (a : List Int) => ((Z8.list 3 1 (fun (a : Int) => Z0h.ZF a) : Z8 Ty (List (Ty 3)))).ZF a
  | 131 => fun (a : Int × Int × Int) => .tup [(Z0h.ZF a.1), (Z0h.ZF a.2.1), (Z0h.ZF a.2.2)]
  | 133 => fun (a : Int × Bool) => .tup [(ZeB.ZF a.1), (cbo.ZF a.2)]
  | 137 => fun (a : Zm × Int) => .tup [(.agg (ZrC.ZU a.1)), (Z0h.ZF a.2)]
  | 176 => fun (a : Z0c) => .agg (ZyQ.ZU a)
  | 183 => fun (a : Zj × Int) => .tup [(.agg (Z4E.ZU a.1)), (Z0h.ZF a.2)]
  | 260 => fun (a : List Zt) => ((Z8.list 66 8 (fun (a : Zt) => .agg (Zmi.ZU a)) : Z8 Ty (List (Ty 66)))).ZF a
  | 261 => fun (a : Zf × (List Zt) × Bool) => .tup [(.agg (ZjD.ZU a.1)), (((Z8.list 66 8 (fun (a : Zt) => .agg (Zmi.ZU a)) : Z8 Ty (List (Ty 66)))).ZF a.2.1), (cbo.ZF a.2.2)]
  | 265 => fun (a : (List Zd) × Int) => .tup [(((Z8.list 116 3 (fun (a : Zd) => .agg (ZbQ.ZU a)) : Z8 Ty (List (Ty 116)))).ZF a.1), (Z0h.ZF a.2)]
  | 246 => fun (a : Zq) => .agg (Zy0.ZU a)
  | 317 => fun (a : Zr) => .agg (Zy7.ZU a)
  | _ => fun _ => .no
 encS := fun t => match t with
  | 97 => fun (a : Z0g) => .raw (Zt0.ZxZ 48 a)
  | 4 => fun (a : Bool) => cbo.Z22 a
  | 26 => fun (a : ZX) => .agg (ZBp.encS a)
  | 24 => fun (a : Int) => Z75.Z22 a
  | 5 => fun (a : Int) => cu8.Z22 a
  | 27 => fun (a : List Int) => ((Z8.list 5 1 (fun (a : Int) => cu8.ZF a) : Z8 Ty (List (Ty 5)))).Z22 a
  | 22 => fun (a : Int) => Z8B.Z22 a
  | 64 => fun (a : Zd) => .agg (ZbQ.encS a)
  | 116 => fun (a : Zd) => .agg (ZbQ.encS a)
  | 101 => fun (a : Zl) => .agg (Zj7.encS a)
  | 104 => fun (a : Zo) => .agg (ZjQ.encS a)
  | 108 => fun (a : ZJ) => .agg (ZjN.encS a)
  | 62 => fun (a : ZG) => .agg (Zvi.encS a)
  | 50 => fun (a : Zg) => .agg (ZjT.encS a)
  | 51 => fun (a : Int) => Z0h.Z22 a
  | 52 => fun (a : Zg × Int) => .tup [(.agg (ZjT.encS a.1)), (Z0h.Z22 a.2)]
  | 68 => fun (a : Za) => .agg (Znc.encS a)
  | 58 => fun (a : List Za) => ((Z8.list 68 11 (fun (a : Za) => .agg (Znc.ZU a)) : Z8 Ty (List (Ty 68)))).Z22 a
  | 59 => fun (a : Zg × (List Za)) => .tup [(.agg (ZjT.encS a.1)), (((Z8.list 68 11 (fun (a : Za) => .agg (Znc.ZU a)) : Z8 Ty (List (Ty 68)))).Z22 a.2)]
  | 30 => fun (a : Zn) => .agg (Zuz.encS a)
  | 9 => fun (a : ByteArray) => cst.Z22 a
  | 23 => fun (a : Int) => Z75.Z22 a
  | 188 => fun (a : List Int) => ((Z8.list 23 1 (fun (a : Int) => Z75.ZF a) : Z8 Ty (List (Ty 23)))).Z22 a
  | 325 => fun (a : Z0m) => .agg (Zy6.encS a)
  | 3 => fun (a : Int) => Z0h.Z22 a
  | 33 => fun (a : Int) => ZeB.Z22 a
  | 73 => fun (a : List (List Int)) => ((Z8.list 27 1 (fun (a : List Int) => ((Z8.list 5 1 (fun (a : Int) => cu8.ZF a) : Z8 Ty (List (Ty 5)))).ZF a) : Z8 Ty (List (Ty 27)))).Z22 a
  | 287 => fun (a : Zx) => .agg (ZlY.encS a)
  | 205 => fun (a : (List Int) × Int) => .tup [(((Z8.list 5 1 (fun (a : Int) => cu8.ZF a) : Z8 Ty (List (Ty 5)))).Z22 a.1), (Z0h.Z22 a.2)]
  | 285 => fun (a : List Zx) => ((Z8.list 287 2 (fun (a : Zx) => .agg (ZlY.ZU a)) : Z8 Ty (List (Ty 287)))).Z22 a
  | 36 => fun (a : List Int) => ((Z8.list 22 1 (fun (a : Int) => Z8B.ZF a) : Z8 Ty (List (Ty 22)))).Z22 a
  | 37 => fun (a : List Zd) => ((Z8.list 64 3 (fun (a : Zd) => .agg (ZbQ.ZU a)) : Z8 Ty (List (Ty 64)))).Z22 a
  | 38 => fun (a : List Zd) => ((Z8.list 116 3 (fun (a : Zd) => .agg (ZbQ.ZU a)) : Z8 Ty (List (Ty 116)))).Z22 a
  | 39 => fun (a : List Zl) => ((Z8.list 101 10 (fun (a : Zl) => .agg (Zj7.ZU a)) : Z8 Ty (List (Ty 101)))).Z22 a
  | 32 => fun (a : Z0R) => .agg (ZBx.encS a)
  | 35 => fun (a : Z0D) => .agg (ZBw.encS a)
  | 40 => fun (a : List Zo) => ((Z8.list 104 11 (fun (a : Zo) => .agg (ZjQ.ZU a)) : Z8 Ty (List (Ty 104)))).Z22 a
  | 45 => fun (a : ZC) => .agg (ZCp.encS a)
  | 47 => fun (a : ZA) => .agg (ZDc.encS a)
  | 48 => fun (a : List ZG) => ((Z8.list 62 3 (fun (a : ZG) => .agg (Zvi.ZU a)) : Z8 Ty (List (Ty 62)))).Z22 a
  | 43 => fun (a : List ZJ) => ((Z8.list 108 18 (fun (a : ZJ) => .agg (ZjN.ZU a)) : Z8 Ty (List (Ty 108)))).Z22 a
  | 42 => fun (a : Zf) => .agg (ZjD.encS a)
  | 106 => fun (a : Zj) => .agg (Z4E.encS a)
  | 112 => fun (a : List Zj) => ((Z8.list 106 10 (fun (a : Zj) => .agg (Z4E.ZU a)) : Z8 Ty (List (Ty 106)))).Z22 a
  | 113 => fun (a : Zf × (List Zj) × Int) => .tup [(.agg (ZjD.encS a.1)), (((Z8.list 106 10 (fun (a : Zj) => .agg (Z4E.ZU a)) : Z8 Ty (List (Ty 106)))).Z22 a.2.1), (Z0h.Z22 a.2.2)]
  | 149 => fun (a : Z3J) => .agg (Zyk.encS a)
  | 90 => fun (a : Zm) => .agg (ZrC.encS a)
  | 230 => fun (a : Int × (List Int)) => .tup [(Z75.Z22 a.1), (((Z8.list 5 1 (fun (a : Int) => cu8.ZF a) : Z8 Ty (List (Ty 5)))).Z22 a.2)]
  | 66 => fun (a : Zt) => .agg (Zmi.encS a)
  | 135 => fun (a : List Zn) => ((Z8.list 30 5 (fun (a : Zn) => .agg (Zuz.ZU a)) : Z8 Ty (List (Ty 30)))).Z22 a
  | 296 => fun (a : ZB) => .agg (ZyK.encS a)
  | 240 => fun (a : (List Int) × (List Int) × Int) => .tup [(((Z8.list 23 1 (fun (a : Int) => Z75.ZF a) : Z8 Ty (List (Ty 23)))).Z22 a.1), (((Z8.list 5 1 (fun (a : Int) => cu8.ZF a) : Z8 Ty (List (Ty 5)))).Z22 a.2.1), (Z0h.Z22 a.2.2)]
  | 293 => fun (a : List Int) => ((Z8.list 3 1 (fun (a : Int) => Z0h.ZF a) : Z8 Ty (List (Ty 3)))).Z22 a
  | 131 => fun (a : Int × Int × Int) => .tup [(Z0h.Z22 a.1), (Z0h.Z22 a.2.1), (Z0h.Z22 a.2.2)]
  | 133 => fun (a : Int × Bool) => .tup [(ZeB.Z22 a.1), (cbo.Z22 a.2)]
  | 137 => fun (a : Zm × Int) => .tup [(.agg (ZrC.encS a.1)), (Z0h.Z22 a.2)]
  | 176 => fun (a : Z0c) => .agg (ZyQ.encS a)
  | 183 => fun (a : Zj × Int) => .tup [(.agg (Z4E.encS a.1)), (Z0h.Z22 a.2)]
  | 260 => fun (a : List Zt) => ((Z8.list 66 8 (fun (a : Zt) => .agg (Zmi.ZU a)) : Z8 Ty (List (Ty 66)))).Z22 a
  | 261 => fun (a : Zf × (List Zt) × Bool) => .tup [(.agg (ZjD.encS a.1)), (((Z8.list 66 8 (fun (a : Zt) => .agg (Zmi.ZU a)) : Z8 Ty (List (Ty 66)))).Z22 a.2.1), (cbo.Z22 a.2.2)]
  | 265 => fun (a : (List Zd) × Int) => .tup [(((Z8.list 116 3 (fun (a : Zd) => .agg (ZbQ.ZU a)) : Z8 Ty (List (Ty 116)))).Z22 a.1), (Z0h.Z22 a.2)]
  | 246 => fun (a : Zq) => .agg (Zy0.encS a)
  | 317 => fun (a : Zr) => .agg (Zy7.encS a)
  | _ => fun _ => .no
 Zpw := fun t => match t with
  | 97 => fun v => Zt0.ptrD 48 v
  | 4 => fun v => cbo.one v
  | 26 => fun v => ZBp.agg v
  | 24 => fun v => Z75.one v
  | 5 => fun v => cu8.one v
  | 27 => fun v => ((Z8.list 5 1 (fun (a : Int) => cu8.ZF a) : Z8 Ty (List (Ty 5)))).one v
  | 22 => fun v => Z8B.one v
  | 64 => fun v => ZbQ.agg v
  | 116 => fun v => ZbQ.agg v
  | 101 => fun v => Zj7.agg v
  | 104 => fun v => ZjQ.agg v
  | 108 => fun v => ZjN.agg v
  | 62 => fun v => Zvi.agg v
  | 50 => fun v => ZjT.agg v
  | 51 => fun v => Z0h.one v
  | 52 => fun _ => none
  | 68 => fun v => Znc.agg v
  | 58 => fun v => ((Z8.list 68 11 (fun (a : Za) => .agg (Znc.ZU a)) : Z8 Ty (List (Ty 68)))).one v
  | 59 => fun _ => none
  | 30 => fun v => Zuz.agg v
  | 9 => fun v => cst.one v
  | 23 => fun v => Z75.one v
  | 188 => fun v => ((Z8.list 23 1 (fun (a : Int) => Z75.ZF a) : Z8 Ty (List (Ty 23)))).one v
  | 325 => fun v => Zy6.agg v
  | 3 => fun v => Z0h.one v
  | 33 => fun v => ZeB.one v
  | 73 => fun v => ((Z8.list 27 1 (fun (a : List Int) => ((Z8.list 5 1 (fun (a : Int) => cu8.ZF a) : Z8 Ty (List (Ty 5)))).ZF a) : Z8 Ty (List (Ty 27)))).one v
  | 287 => fun v => ZlY.agg v
  | 205 => fun _ => none
  | 285 => fun v => ((Z8.list 287 2 (fun (a : Zx) => .agg (ZlY.ZU a)) : Z8 Ty (List (Ty 287)))).one v
  | 36 => fun v => ((Z8.list 22 1 (fun (a : Int) => Z8B.ZF a) : Z8 Ty (List (Ty 22)))).one v
  | 37 => fun v => ((Z8.list 64 3 (fun (a : Zd) => .agg (ZbQ.ZU a)) : Z8 Ty (List (Ty 64)))).one v
  | 38 => fun v => ((Z8.list 116 3 (fun (a : Zd) => .agg (ZbQ.ZU a)) : Z8 Ty (List (Ty 116)))).one v
  | 39 => fun v => ((Z8.list 101 10 (fun (a : Zl) => .agg (Zj7.ZU a)) : Z8 Ty (List (Ty 101)))).one v
  | 32 => fun v => ZBx.agg v
  | 35 => fun v => ZBw.agg v
  | 40 => fun v => ((Z8.list 104 11 (fun (a : Zo) => .agg (ZjQ.ZU a)) : Z8 Ty (List (Ty 104)))).one v
  | 45 => fun v => ZCp.agg v
  | 47 => fun v => ZDc.agg v
  | 48 => fun v => ((Z8.list 62 3 (fun (a : ZG) => .agg (Zvi.ZU a)) : Z8 Ty (List (Ty 62)))).one v
  | 43 => fun v => ((Z8.list 108 18 (fun (a : ZJ) => .agg (ZjN.ZU a)) : Z8 Ty (List (Ty 108)))).one v
  | 42 => fun v => ZjD.agg v
  | 106 => fun v => Z4E.agg v
  | 112 => fun v => ((Z8.list 106 10 (fun (a : Zj) => .agg (Z4E.ZU a)) : Z8 Ty (List (Ty 106)))).one v
  | 113 => fun _ => none
  | 149 => fun v => Zyk.agg v
  | 90 => fun v => ZrC.agg v
  | 230 => fun _ => none
  | 66 => fun v => Zmi.agg v
  | 135 => fun v => ((Z8.list 30 5 (fun (a : Zn) => .agg (Zuz.ZU a)) : Z8 Ty (List (Ty 30)))).one v
  | 296 => fun v => ZyK.agg v
  | 240 => fun _ => none
  | 293 => fun v => ((Z8.list 3 1 (fun (a : Int) => Z0h.ZF a) : Z8 Ty (List (Ty 3)))).one v
  | 131 => fun _ => none
  | 133 => fun _ => none
  | 137 => fun _ => none
  | 176 => fun v => ZyQ.agg v
  | 183 => fun _ => none
  | 260 => fun v => ((Z8.list 66 8 (fun (a : Zt) => .agg (Zmi.ZU a)) : Z8 Ty (List (Ty 66)))).one v
  | 261 => fun _ => none
  | 265 => fun _ => none
  | 246 => fun v => Zy0.agg v
  | 317 => fun v => Zy7.agg v
  | _ => fun _ => none
 keys := [97, 4, 26, 24, 5, 27, 22, 64, 116, 101, 104, 108, 62, 50, 51, 52, 68, 58, 59, 30, 9, 23, 188, 325, 3, 33, 73, 287, 205, 285, 36, 37, 38, 39, 32, 35, 40, 45, 47, 48, 43, 42, 106, 112, 113, 149, 90, 230, 66, 135, 296, 240, 293, 131, 133, 137, 176, 183, 260, 261, 265, 246, 317]
theorem Zrn : Z7 U ZBp [0, 0, 0, 0, 0, 0, 0] := Z7.iso ((Z7.int _).pair ((Z7.int _).pair ((Z7.int _).pair ((Z7.int _).pair ((Z7.int _).pair ((Z7.bool).pair ((Z7.bool).pair Z7.unit))))))) (fun _ => rfl) (fun _ => rfl)
theorem Z3P : Z7 U ZbQ [0, 0, 0] := Z7.iso ((Z7.int _).pair ((Z7.int _).pair ((Z7.int _).pair Z7.unit))) (fun _ => rfl) (fun _ => rfl)
theorem Zbk : Z7 U Zj7 [0, 0, 0, 0, 0, 1, 0, 0, 0, 0] := Z7.iso ((Z7.int _).pair ((Z7.int _).pair ((Z7.bool).pair ((Z7.int _).pair ((Z7.int _).pair ((Z7.list (U := U) (t := 27) (n := 1) (e := fun (a : List Int) => ((Z8.list 5 1 (fun (a : Int) => cu8.ZF a) : Z8 Ty (List (Ty 5)))).ZF a) (fun _ => rfl) rfl (fun a => (Z7.list (U := U) (t := 5) (n := 1) (e := fun (a : Int) => cu8.ZF a) (fun _ => rfl) rfl (fun a => (Z7.int _ : Z7 U cu8 _).Z27 a) (fun a b h => (Z7.int _ : Z7 U cu8 _).Z0L h) : Z7 U (Z8.list 5 1 (fun (a : Int) => cu8.ZF a) : Z8 Ty (List (Ty 5))) _).Z27 a) (fun a b h => (Z7.list (U := U) (t := 5) (n := 1) (e := fun (a : Int) => cu8.ZF a) (fun _ => rfl) rfl (fun a => (Z7.int _ : Z7 U cu8 _).Z27 a) (fun a b h => (Z7.int _ : Z7 U cu8 _).Z0L h) : Z7 U (Z8.list 5 1 (fun (a : Int) => cu8.ZF a) : Z8 Ty (List (Ty 5))) _).Z0L h)).pair ((Z7.int _).pair ((Z7.int _).pair ((Z7.int _).pair ((Z7.int _).pair Z7.unit)))))))))) (fun _ => rfl) (fun _ => rfl)
theorem ZaS : Z7 U ZjQ [0, 0, 0, 0, 0, 0, 1, 0, 0, 0, 0] := Z7.iso ((Z7.int _).pair ((Z7.int _).pair ((Z7.bool).pair ((Z7.int _).pair ((Z7.int _).pair ((Z7.int _).pair ((Z7.list (U := U) (t := 27) (n := 1) (e := fun (a : List Int) => ((Z8.list 5 1 (fun (a : Int) => cu8.ZF a) : Z8 Ty (List (Ty 5)))).ZF a) (fun _ => rfl) rfl (fun a => (Z7.list (U := U) (t := 5) (n := 1) (e := fun (a : Int) => cu8.ZF a) (fun _ => rfl) rfl (fun a => (Z7.int _ : Z7 U cu8 _).Z27 a) (fun a b h => (Z7.int _ : Z7 U cu8 _).Z0L h) : Z7 U (Z8.list 5 1 (fun (a : Int) => cu8.ZF a) : Z8 Ty (List (Ty 5))) _).Z27 a) (fun a b h => (Z7.list (U := U) (t := 5) (n := 1) (e := fun (a : Int) => cu8.ZF a) (fun _ => rfl) rfl (fun a => (Z7.int _ : Z7 U cu8 _).Z27 a) (fun a b h => (Z7.int _ : Z7 U cu8 _).Z0L h) : Z7 U (Z8.list 5 1 (fun (a : Int) => cu8.ZF a) : Z8 Ty (List (Ty 5))) _).Z0L h)).pair ((Z7.int _).pair ((Z7.int _).pair ((Z7.int _).pair ((Z7.bool).pair Z7.unit))))))))))) (fun _ => rfl) (fun _ => rfl)
theorem ZlW : Z7 U ZrC [0, 0, 0, 0, 0, 0, 0, 1] := Z7.iso ((Z7.int _).pair ((Z7.int _).pair ((Z7.bool).pair ((Z7.int _).pair ((Z7.int _).pair ((Z7.int _).pair ((Z7.int _).pair ((Z7.list (U := U) (t := 5) (n := 1) (e := fun (a : Int) => cu8.ZF a) (fun _ => rfl) rfl (fun a => (Z7.int _ : Z7 U cu8 _).Z27 a) (fun a b h => (Z7.int _ : Z7 U cu8 _).Z0L h)).pair Z7.unit)))))))) (fun _ => rfl) (fun _ => rfl)
theorem Zbq : Z7 U Z4E [0, 0, 0, 0, 0, 0, 0, 0, 0, 1] := Z7.iso ((Z7.bool).pair ((Z7.bool).pair ((Z7.bool).pair ((Z7.int _).pair ((Z7.int _).pair ((Z7.int _).pair ((Z7.int _).pair ((Z7.int _).pair ((Z7.bool).pair ((Z7.list (U := U) (t := 5) (n := 1) (e := fun (a : Int) => cu8.ZF a) (fun _ => rfl) rfl (fun a => (Z7.int _ : Z7 U cu8 _).Z27 a) (fun a b h => (Z7.int _ : Z7 U cu8 _).Z0L h)).pair Z7.unit)))))))))) (fun _ => rfl) (fun _ => rfl)
theorem Zbx : Z7 U ZjN [0, 0, 0, 0, 0, 0, 0, 1, 0, 0, 0, 0, 0, 0, 0, 0, 0, 1] := Z7.iso ((ZlW).pair ((Zbq).pair Z7.unit)) (fun _ => rfl) (fun _ => rfl)
theorem ZgP : Z7 U Zvi [0, 1, 0] := Z7.iso ((Z7.int _).pair ((Z7.list (U := U) (t := 5) (n := 1) (e := fun (a : Int) => cu8.ZF a) (fun _ => rfl) rfl (fun a => (Z7.int _ : Z7 U cu8 _).Z27 a) (fun a b h => (Z7.int _ : Z7 U cu8 _).Z0L h)).pair ((Z7.int _).pair Z7.unit))) (fun _ => rfl) (fun _ => rfl)
theorem Zev : Z7 U Zuz [0, 0, 0, 0, 0] := Z7.iso ((Z7.int _).pair ((Z7.int _).pair ((Z7.int _).pair ((Z7.int _).pair ((Z7.int _).pair Z7.unit))))) (fun _ => rfl) (fun _ => rfl)
theorem ZkL : Z7 U ZBx [0, 0, 0, 0, 0, 0, 0, 0, 0, 0, 0] := Z7.iso ((Z7.int _).pair ((Zev).pair ((Zev).pair Z7.unit))) (fun _ => rfl) (fun _ => rfl)
theorem Zkz : Z7 U ZBw [0, 0, 0] := Z7.iso ((Z7.int _).pair ((Z7.bool).pair ((Z7.int _).pair Z7.unit))) (fun _ => rfl) (fun _ => rfl)
theorem Znw : Z7 U ZjD [10, 11] := Z7.iso ((Z7.list (U := U) (t := 101) (n := 10) (e := fun (a : Zl) => .agg (Zj7.ZU a)) (fun _ => rfl) rfl (fun a => Zbk.nr a) (fun a b h => Zbk.inj _ _ (by injection h))).pair ((Z7.list (U := U) (t := 104) (n := 11) (e := fun (a : Zo) => .agg (ZjQ.ZU a)) (fun _ => rfl) rfl (fun a => ZaS.nr a) (fun a b h => ZaS.inj _ _ (by injection h))).pair Z7.unit)) (fun _ => rfl) (fun _ => rfl)
theorem ZnN : Z7 U ZCp [0, 18, 1, 0, 0, 0, 0, 0] := Z7.iso ((Z7.int _).pair ((Z7.list (U := U) (t := 108) (n := 18) (e := fun (a : ZJ) => .agg (ZjN.ZU a)) (fun _ => rfl) rfl (fun a => Zbx.nr a) (fun a b h => Zbx.inj _ _ (by injection h))).pair ((Z7.list (U := U) (t := 22) (n := 1) (e := fun (a : Int) => Z8B.ZF a) (fun _ => rfl) rfl (fun a => (Z7.int _ : Z7 U Z8B _).Z27 a) (fun a b h => (Z7.int _ : Z7 U Z8B _).Z0L h)).pair ((Z7.int _).pair ((Z7.bool).pair ((Z7.int _).pair ((Z7.int _).pair ((Z7.int _).pair Z7.unit)))))))) (fun _ => rfl) (fun _ => rfl)
theorem ZnM : Z7 U ZDc [0, 0, 0, 0, 0, 0, 1, 0, 0, 0] := Z7.iso ((Z7.int _).pair ((Z7.int _).pair ((Z7.int _).pair ((Z7.int _).pair ((Z7.int _).pair ((Z7.int _).pair ((Z7.list (U := U) (t := 22) (n := 1) (e := fun (a : Int) => Z8B.ZF a) (fun _ => rfl) rfl (fun a => (Z7.int _ : Z7 U Z8B _).Z27 a) (fun a b h => (Z7.int _ : Z7 U Z8B _).Z0L h)).pair ((Z7.int _).pair ((Z7.bool).pair ((Z7.int _).pair Z7.unit)))))))))) (fun _ => rfl) (fun _ => rfl)
theorem ZqV : Z7 U ZjT [0, 0, 0, 0, 0, 0, 0, 0, 0, 0, 0, 0, 0, 0, 0, 0, 0, 0, 0, 0, 1, 3, 3, 10, 11, 0, 18, 1, 0, 0, 0, 0, 0, 0, 0, 0, 0, 0, 0, 1, 0, 0, 0, 3, 0, 0] := Z7.iso ((Z7.int _).pair ((Z7.int _).pair ((Z7.int _).pair ((ZkL).pair ((Zkz).pair ((Z7.int _).pair ((Z7.bool).pair ((Z7.bool).pair ((Z7.list (U := U) (t := 22) (n := 1) (e := fun (a : Int) => Z8B.ZF a) (fun _ => rfl) rfl (fun a => (Z7.int _ : Z7 U Z8B _).Z27 a) (fun a b h => (Z7.int _ : Z7 U Z8B _).Z0L h)).pair ((Z7.list (U := U) (t := 64) (n := 3) (e := fun (a : Zd) => .agg (ZbQ.ZU a)) (fun _ => rfl) rfl (fun a => Z3P.nr a) (fun a b h => Z3P.inj _ _ (by injection h))).pair ((Z7.list (U := U) (t := 116) (n := 3) (e := fun (a : Zd) => .agg (ZbQ.ZU a)) (fun _ => rfl) rfl (fun a => Z3P.nr a) (fun a b h => Z3P.inj _ _ (by injection h))).pair ((Znw).pair ((ZnN).pair ((ZnM).pair ((Z7.list (U := U) (t := 62) (n := 3) (e := fun (a : ZG) => .agg (Zvi.ZU a)) (fun _ => rfl) rfl (fun a => ZgP.nr a) (fun a b h => ZgP.inj _ _ (by injection h))).pair ((Z7.int _).pair ((Z7.bool).pair Z7.unit))))))))))))))))) (fun _ => rfl) (fun _ => rfl)
theorem ZiV : Z7 U Zmi [0, 0, 0, 0, 0, 0, 0, 1] := Z7.iso ((Z7.int _).pair ((Z7.int _).pair ((Z7.bool).pair ((Z7.int _).pair ((Z3P).pair ((Z7.list (U := U) (t := 5) (n := 1) (e := fun (a : Int) => cu8.ZF a) (fun _ => rfl) rfl (fun a => (Z7.int _ : Z7 U cu8 _).Z27 a) (fun a b h => (Z7.int _ : Z7 U cu8 _).Z0L h)).pair Z7.unit)))))) (fun _ => rfl) (fun _ => rfl)
theorem ZkS : Z7 U Znc [0, 0, 0, 0, 0, 0, 0, 0, 1, 0, 0] := Z7.iso ((Z7.int _).pair ((ZiV).pair ((Z7.int _).pair ((Z7.int _).pair Z7.unit)))) (fun _ => rfl) (fun _ => rfl)
theorem Zlj : Z7 U Zy6 [0, 0] := Z7.iso ((Z7.int _).pair ((Z7.int _).pair Z7.unit)) (fun _ => rfl) (fun _ => rfl)
theorem ZfA : Z7 U ZlY [0, 0] := Z7.iso ((Z7.int _).pair ((Z7.int _).pair Z7.unit)) (fun _ => rfl) (fun _ => rfl)
theorem Zlx : Z7 U Zyk [0, 0, 0, 0, 0, 0, 0, 0, 0, 0, 0, 0, 1] := Z7.iso ((Z7.int _).pair ((Z7.int _).pair ((Z7.int _).pair ((Zbq).pair Z7.unit)))) (fun _ => rfl) (fun _ => rfl)
theorem ZlO : Z7 U ZyK [0, 0, 0, 0, 0, 0] := Z7.iso ((Z7.int _).pair ((Z7.int _).pair ((Z7.int _).pair ((Z7.int _).pair ((Z7.int _).pair ((Z7.int _).pair Z7.unit)))))) (fun _ => rfl) (fun _ => rfl)
theorem Zll : Z7 U ZyQ [0, 0, 0, 0, 0, 0, 0, 1, 0, 0, 0, 0, 0, 0] := Z7.iso ((ZlW).pair ((Zev).pair ((Z7.bool).pair Z7.unit))) (fun _ => rfl) (fun _ => rfl)
theorem ZlI : Z7 U Zy0 [3, 0] := Z7.iso ((Z7.list (U := U) (t := 64) (n := 3) (e := fun (a : Zd) => .agg (ZbQ.ZU a)) (fun _ => rfl) rfl (fun a => Z3P.nr a) (fun a b h => Z3P.inj _ _ (by injection h))).pair ((Z7.int _).pair Z7.unit)) (fun _ => rfl) (fun _ => rfl)
theorem ZlS : Z7 U Zy7 [3, 0] := Z7.iso ((Z7.list (U := U) (t := 116) (n := 3) (e := fun (a : Zd) => .agg (ZbQ.ZU a)) (fun _ => rfl) rfl (fun a => Z3P.nr a) (fun a b h => Z3P.inj _ _ (by injection h))).pair ((Z7.int _).pair Z7.unit)) (fun _ => rfl) (fun _ => rfl)
theorem rows4 : rowsOf Tryz.prog 4 = [0] := by kernel_rfl
theorem ZmY {E : Env} (hE : E.rows = rowsOf Tryz.prog) : Z0W U E 4 :=
 have c : Z7 U cbo [0] := Z7.bool
 ⟨fun a => c.Z0o a, fun v a h => by rw [hE, rows4]; exact c.one h (ZAa h), fun a => by first | rfl | exact (congrArg (fun x => [x]) (c.Z0o a).symm), fun a => c.Z27 a, fun a b h => c.Z0L h⟩
theorem ZCy : rowsOf Tryz.prog 26 = [0, 0, 0, 0, 0, 0, 0] := by kernel_rfl
theorem ZzV {E : Env} (hE : E.rows = rowsOf Tryz.prog) : Z0W U E 26 := ⟨fun a => congrArg V.agg (Zrn.enc a), fun v a h => by rw [hE, ZCy]; exact Zrn.agg h, fun a => (Zrn.enc a).symm, fun a => Zrn.nr a, fun a b h => Zrn.inj _ _ (by injection h)⟩
theorem ZDa : rowsOf Tryz.prog 24 = [0] := by kernel_rfl
theorem ZzH {E : Env} (hE : E.rows = rowsOf Tryz.prog) : Z0W U E 24 :=
 have c : Z7 U Z75 [0] := Z7.int _
 ⟨fun a => c.Z0o a, fun v a h => by rw [hE, ZDa]; exact c.one h (Zku h), fun a => by first | rfl | exact (congrArg (fun x => [x]) (c.Z0o a).symm), fun a => c.Z27 a, fun a b h => c.Z0L h⟩
theorem rows5 : rowsOf Tryz.prog 5 = [0] := by kernel_rfl
theorem ZC9 {E : Env} (hE : E.rows = rowsOf Tryz.prog) : Z0W U E 5 :=
 have c : Z7 U cu8 [0] := Z7.int _
 ⟨fun a => c.Z0o a, fun v a h => by rw [hE, rows5]; exact c.one h (Zku h), fun a => by first | rfl | exact (congrArg (fun x => [x]) (c.Z0o a).symm), fun a => c.Z27 a, fun a b h => c.Z0L h⟩
theorem ZCU : rowsOf Tryz.prog 27 = [1] := by kernel_rfl
theorem Z9A {E : Env} (hE : E.rows = rowsOf Tryz.prog) : Z0W U E 27 :=
 have c : Z7 U (Z8.list 5 1 (fun (a : Int) => cu8.ZF a) : Z8 Ty (List (Ty 5))) [1] := Z7.list (U := U) (t := 5) (n := 1) (e := fun (a : Int) => cu8.ZF a) (fun _ => rfl) rfl (fun a => (Z7.int _ : Z7 U cu8 _).Z27 a) (fun a b h => (Z7.int _ : Z7 U cu8 _).Z0L h)
 ⟨fun a => c.Z0o a, fun v a h => by rw [hE, ZCU]; exact c.one h (Z4w (U := U) (t := 5) (n := 1) (e := fun (a : Int) => cu8.ZF a) h), fun a => by first | rfl | exact (congrArg (fun x => [x]) (c.Z0o a).symm), fun a => c.Z27 a, fun a b h => c.Z0L h⟩
theorem ZD8 : rowsOf Tryz.prog 22 = [0] := by kernel_rfl
theorem Zzu {E : Env} (hE : E.rows = rowsOf Tryz.prog) : Z0W U E 22 :=
 have c : Z7 U Z8B [0] := Z7.int _
 ⟨fun a => c.Z0o a, fun v a h => by rw [hE, ZD8]; exact c.one h (Zku h), fun a => by first | rfl | exact (congrArg (fun x => [x]) (c.Z0o a).symm), fun a => c.Z27 a, fun a b h => c.Z0L h⟩
theorem ZCn : rowsOf Tryz.prog 64 = [0, 0, 0] := by kernel_rfl
theorem ZzW {E : Env} (hE : E.rows = rowsOf Tryz.prog) : Z0W U E 64 := ⟨fun a => congrArg V.agg (Z3P.enc a), fun v a h => by rw [hE, ZCn]; exact Z3P.agg h, fun a => (Z3P.enc a).symm, fun a => Z3P.nr a, fun a b h => Z3P.inj _ _ (by injection h)⟩
theorem ZA6 : rowsOf Tryz.prog 116 = [0, 0, 0] := by kernel_rfl
theorem Zvv {E : Env} (hE : E.rows = rowsOf Tryz.prog) : Z0W U E 116 := ⟨fun a => congrArg V.agg (Z3P.enc a), fun v a h => by rw [hE, ZA6]; exact Z3P.agg h, fun a => (Z3P.enc a).symm, fun a => Z3P.nr a, fun a b h => Z3P.inj _ _ (by injection h)⟩
theorem ZA0 : rowsOf Tryz.prog 101 = [0, 0, 0, 0, 0, 1, 0, 0, 0, 0] := by kernel_rfl
theorem Zxn {E : Env} (hE : E.rows = rowsOf Tryz.prog) : Z0W U E 101 := ⟨fun a => congrArg V.agg (Zbk.enc a), fun v a h => by rw [hE, ZA0]; exact Zbk.agg h, fun a => (Zbk.enc a).symm, fun a => Zbk.nr a, fun a b h => Zbk.inj _ _ (by injection h)⟩
theorem ZB9 : rowsOf Tryz.prog 104 = [0, 0, 0, 0, 0, 0, 1, 0, 0, 0, 0] := by kernel_rfl
theorem ZwU {E : Env} (hE : E.rows = rowsOf Tryz.prog) : Z0W U E 104 := ⟨fun a => congrArg V.agg (ZaS.enc a), fun v a h => by rw [hE, ZB9]; exact ZaS.agg h, fun a => (ZaS.enc a).symm, fun a => ZaS.nr a, fun a b h => ZaS.inj _ _ (by injection h)⟩
theorem ZBj : rowsOf Tryz.prog 108 = [0, 0, 0, 0, 0, 0, 0, 1, 0, 0, 0, 0, 0, 0, 0, 0, 0, 1] := by kernel_rfl
theorem ZvS {E : Env} (hE : E.rows = rowsOf Tryz.prog) : Z0W U E 108 := ⟨fun a => congrArg V.agg (Zbx.enc a), fun v a h => by rw [hE, ZBj]; exact Zbx.agg h, fun a => (Zbx.enc a).symm, fun a => Zbx.nr a, fun a b h => Zbx.inj _ _ (by injection h)⟩
theorem ZCw : rowsOf Tryz.prog 62 = [0, 1, 0] := by kernel_rfl
theorem ZzO {E : Env} (hE : E.rows = rowsOf Tryz.prog) : Z0W U E 62 := ⟨fun a => congrArg V.agg (ZgP.enc a), fun v a h => by rw [hE, ZCw]; exact ZgP.agg h, fun a => (ZgP.enc a).symm, fun a => ZgP.nr a, fun a b h => ZgP.inj _ _ (by injection h)⟩
theorem ZCl : rowsOf Tryz.prog 50 = [0, 0, 0, 0, 0, 0, 0, 0, 0, 0, 0, 0, 0, 0, 0, 0, 0, 0, 0, 0, 1, 3, 3, 10, 11, 0, 18, 1, 0, 0, 0, 0, 0, 0, 0, 0, 0, 0, 0, 1, 0, 0, 0, 3, 0, 0] := by kernel_rfl
theorem Zez {E : Env} (hE : E.rows = rowsOf Tryz.prog) : Z0W U E 50 := ⟨fun a => congrArg V.agg (ZqV.enc a), fun v a h => by rw [hE, ZCl]; exact ZqV.agg h, fun a => (ZqV.enc a).symm, fun a => ZqV.nr a, fun a b h => ZqV.inj _ _ (by injection h)⟩
theorem ZBJ : rowsOf Tryz.prog 51 = [0] := by kernel_rfl
theorem Z1A {E : Env} (hE : E.rows = rowsOf Tryz.prog) : Z0W U E 51 :=
 have c : Z7 U Z0h [0] := Z7.int _
 ⟨fun a => c.Z0o a, fun v a h => by rw [hE, ZBJ]; exact c.one h (Zku h), fun a => by first | rfl | exact (congrArg (fun x => [x]) (c.Z0o a).symm), fun a => c.Z27 a, fun a b h => c.Z0L h⟩
theorem ZzQ {E : Env} (hE : E.rows = rowsOf Tryz.prog) : Z0W U E 52 := by
 refine ⟨fun a => ?_, fun v a h => (by cases h), fun a => ?_, fun a => ?_, fun a b h => ?_⟩
 ·first | rfl | skip
  all_goals show V.tup _ = V.tup _
  all_goals congr 1
  all_goals simp only [ZY, show toV U (.agg (ZjT.encS a.1)) = (.agg (ZjT.ZU a.1)) from (Zez hE).encS a.1, show toV U (Z0h.Z22 a.2) = (Z0h.ZF a.2) from (Z1A hE).encS a.2]
 ·first | rfl | skip
  all_goals show [V.tup _] = [V.tup _]
  all_goals congr 2
  all_goals simp only [ZY, show toV U (.agg (ZjT.encS a.1)) = (.agg (ZjT.ZU a.1)) from (Zez hE).encS a.1, show toV U (Z0h.Z22 a.2) = (Z0h.ZF a.2) from (Z1A hE).encS a.2]
 ·show ZH [.agg (ZjT.ZU a.1), Z0h.ZF a.2] = true
  simp only [ZH, show Z05 (.agg (ZjT.ZU a.1)) = true from (Zez hE).nr a.1, show Z05 (Z0h.ZF a.2) = true from (Z1A hE).nr a.2, Bool.and_self]
 ·have h : V.tup [.agg (ZjT.ZU a.1), Z0h.ZF a.2] = V.tup [.agg (ZjT.ZU b.1), Z0h.ZF b.2] := h
  simp only [V.tup.injEq, List.cons.injEq, and_true] at h
  exact Prod.ext ((Zez hE).inj _ _ h.1) ((Z1A hE).inj _ _ h.2)
theorem ZC0 : rowsOf Tryz.prog 68 = [0, 0, 0, 0, 0, 0, 0, 0, 1, 0, 0] := by kernel_rfl
theorem Zzn {E : Env} (hE : E.rows = rowsOf Tryz.prog) : Z0W U E 68 := ⟨fun a => congrArg V.agg (ZkS.enc a), fun v a h => by rw [hE, ZC0]; exact ZkS.agg h, fun a => (ZkS.enc a).symm, fun a => ZkS.nr a, fun a b h => ZkS.inj _ _ (by injection h)⟩
theorem ZCW : rowsOf Tryz.prog 58 = [11] := by kernel_rfl
theorem ZnX {E : Env} (hE : E.rows = rowsOf Tryz.prog) : Z0W U E 58 :=
 have c : Z7 U (Z8.list 68 11 (fun (a : Za) => .agg (Znc.ZU a)) : Z8 Ty (List (Ty 68))) [11] := Z7.list (U := U) (t := 68) (n := 11) (e := fun (a : Za) => .agg (Znc.ZU a)) (fun _ => rfl) rfl (fun a => ZkS.nr a) (fun a b h => ZkS.inj _ _ (by injection h))
 ⟨fun a => c.Z0o a, fun v a h => by rw [hE, ZCW]; exact c.one h (Z4w (U := U) (t := 68) (n := 11) (e := fun (a : Za) => .agg (Znc.ZU a)) h), fun a => by first | rfl | exact (congrArg (fun x => [x]) (c.Z0o a).symm), fun a => c.Z27 a, fun a b h => c.Z0L h⟩
theorem ZzJ {E : Env} (hE : E.rows = rowsOf Tryz.prog) : Z0W U E 59 := by
 refine ⟨fun a => ?_, fun v a h => (by cases h), fun a => ?_, fun a => ?_, fun a b h => ?_⟩
 ·first | rfl | skip
  all_goals show V.tup _ = V.tup _
  all_goals congr 1
  all_goals simp only [ZY, show toV U (.agg (ZjT.encS a.1)) = (.agg (ZjT.ZU a.1)) from (Zez hE).encS a.1, show toV U (((Z8.list 68 11 (fun (a : Za) => .agg (Znc.ZU a)) : Z8 Ty (List (Ty 68)))).Z22 a.2) = (((Z8.list 68 11 (fun (a : Za) => .agg (Znc.ZU a)) : Z8 Ty (List (Ty 68)))).ZF a.2) from (ZnX hE).encS a.2]
 ·first | rfl | skip
  all_goals show [V.tup _] = [V.tup _]
  all_goals congr 2
  all_goals simp only [ZY, show toV U (.agg (ZjT.encS a.1)) = (.agg (ZjT.ZU a.1)) from (Zez hE).encS a.1, show toV U (((Z8.list 68 11 (fun (a : Za) => .agg (Znc.ZU a)) : Z8 Ty (List (Ty 68)))).Z22 a.2) = (((Z8.list 68 11 (fun (a : Za) => .agg (Znc.ZU a)) : Z8 Ty (List (Ty 68)))).ZF a.2) from (ZnX hE).encS a.2]
 ·show ZH [.agg (ZjT.ZU a.1), ((Z8.list 68 11 (fun (a : Za) => .agg (Znc.ZU a)) : Z8 Ty (List (Ty 68)))).ZF a.2] = true
  simp only [ZH, show Z05 (.agg (ZjT.ZU a.1)) = true from (Zez hE).nr a.1, show Z05 (((Z8.list 68 11 (fun (a : Za) => .agg (Znc.ZU a)) : Z8 Ty (List (Ty 68)))).ZF a.2) = true from (ZnX hE).nr a.2, Bool.and_self]
 ·have h : V.tup [.agg (ZjT.ZU a.1), ((Z8.list 68 11 (fun (a : Za) => .agg (Znc.ZU a)) : Z8 Ty (List (Ty 68)))).ZF a.2] = V.tup [.agg (ZjT.ZU b.1), ((Z8.list 68 11 (fun (a : Za) => .agg (Znc.ZU a)) : Z8 Ty (List (Ty 68)))).ZF b.2] := h
  simp only [V.tup.injEq, List.cons.injEq, and_true] at h
  exact Prod.ext ((Zez hE).inj _ _ h.1) ((ZnX hE).inj _ _ h.2)
theorem ZCA : rowsOf Tryz.prog 30 = [0, 0, 0, 0, 0] := by kernel_rfl
theorem Zzs {E : Env} (hE : E.rows = rowsOf Tryz.prog) : Z0W U E 30 := ⟨fun a => congrArg V.agg (Zev.enc a), fun v a h => by rw [hE, ZCA]; exact Zev.agg h, fun a => (Zev.enc a).symm, fun a => Zev.nr a, fun a b h => Zev.inj _ _ (by injection h)⟩
theorem rows9 : rowsOf Tryz.prog 9 = [0] := by kernel_rfl
theorem ZBX {E : Env} (hE : E.rows = rowsOf Tryz.prog) : Z0W U E 9 :=
 have c : Z7 U cst [0] := Z7.str
 ⟨fun a => c.Z0o a, fun v a h => by rw [hE, rows9]; exact c.one h (ZD2 h), fun a => by first | rfl | exact (congrArg (fun x => [x]) (c.Z0o a).symm), fun a => c.Z27 a, fun a b h => c.Z0L h⟩
theorem ZD9 : rowsOf Tryz.prog 23 = [0] := by kernel_rfl
theorem Znl {E : Env} (hE : E.rows = rowsOf Tryz.prog) : Z0W U E 23 :=
 have c : Z7 U Z75 [0] := Z7.int _
 ⟨fun a => c.Z0o a, fun v a h => by rw [hE, ZD9]; exact c.one h (Zku h), fun a => by first | rfl | exact (congrArg (fun x => [x]) (c.Z0o a).symm), fun a => c.Z27 a, fun a b h => c.Z0L h⟩
theorem ZAU : rowsOf Tryz.prog 188 = [1] := by kernel_rfl
theorem ZiF {E : Env} (hE : E.rows = rowsOf Tryz.prog) : Z0W U E 188 :=
 have c : Z7 U (Z8.list 23 1 (fun (a : Int) => Z75.ZF a) : Z8 Ty (List (Ty 23))) [1] := Z7.list (U := U) (t := 23) (n := 1) (e := fun (a : Int) => Z75.ZF a) (fun _ => rfl) rfl (fun a => (Z7.int _ : Z7 U Z75 _).Z27 a) (fun a b h => (Z7.int _ : Z7 U Z75 _).Z0L h)
 ⟨fun a => c.Z0o a, fun v a h => by rw [hE, ZAU]; exact c.one h (Z4w (U := U) (t := 23) (n := 1) (e := fun (a : Int) => Z75.ZF a) h), fun a => by first | rfl | exact (congrArg (fun x => [x]) (c.Z0o a).symm), fun a => c.Z27 a, fun a b h => c.Z0L h⟩
theorem ZAq : rowsOf Tryz.prog 325 = [0, 0] := by kernel_rfl
theorem Zx6 {E : Env} (hE : E.rows = rowsOf Tryz.prog) : Z0W U E 325 := ⟨fun a => congrArg V.agg (Zlj.enc a), fun v a h => by rw [hE, ZAq]; exact Zlj.agg h, fun a => (Zlj.enc a).symm, fun a => Zlj.nr a, fun a b h => Zlj.inj _ _ (by injection h)⟩
theorem rows3 : rowsOf Tryz.prog 3 = [0] := by kernel_rfl
theorem Zmg {E : Env} (hE : E.rows = rowsOf Tryz.prog) : Z0W U E 3 :=
 have c : Z7 U Z0h [0] := Z7.int _
 ⟨fun a => c.Z0o a, fun v a h => by rw [hE, rows3]; exact c.one h (Zku h), fun a => by first | rfl | exact (congrArg (fun x => [x]) (c.Z0o a).symm), fun a => c.Z27 a, fun a b h => c.Z0L h⟩
theorem ZCq : rowsOf Tryz.prog 33 = [0] := by kernel_rfl
theorem ZnO {E : Env} (hE : E.rows = rowsOf Tryz.prog) : Z0W U E 33 :=
 have c : Z7 U ZeB [0] := Z7.int _
 ⟨fun a => c.Z0o a, fun v a h => by rw [hE, ZCq]; exact c.one h (Zku h), fun a => by first | rfl | exact (congrArg (fun x => [x]) (c.Z0o a).symm), fun a => c.Z27 a, fun a b h => c.Z0L h⟩
theorem ZCD : rowsOf Tryz.prog 73 = [1] := by kernel_rfl
theorem Zzm {E : Env} (hE : E.rows = rowsOf Tryz.prog) : Z0W U E 73 :=
 have c : Z7 U (Z8.list 27 1 (fun (a : List Int) => ((Z8.list 5 1 (fun (a : Int) => cu8.ZF a) : Z8 Ty (List (Ty 5)))).ZF a) : Z8 Ty (List (Ty 27))) [1] := Z7.list (U := U) (t := 27) (n := 1) (e := fun (a : List Int) => ((Z8.list 5 1 (fun (a : Int) => cu8.ZF a) : Z8 Ty (List (Ty 5)))).ZF a) (fun _ => rfl) rfl (fun a => (Z7.list (U := U) (t := 5) (n := 1) (e := fun (a : Int) => cu8.ZF a) (fun _ => rfl) rfl (fun a => (Z7.int _ : Z7 U cu8 _).Z27 a) (fun a b h => (Z7.int _ : Z7 U cu8 _).Z0L h) : Z7 U (Z8.list 5 1 (fun (a : Int) => cu8.ZF a) : Z8 Ty (List (Ty 5))) _).Z27 a) (fun a b h => (Z7.list (U := U) (t := 5) (n := 1) (e := fun (a : Int) => cu8.ZF a) (fun _ => rfl) rfl (fun a => (Z7.int _ : Z7 U cu8 _).Z27 a) (fun a b h => (Z7.int _ : Z7 U cu8 _).Z0L h) : Z7 U (Z8.list 5 1 (fun (a : Int) => cu8.ZF a) : Z8 Ty (List (Ty 5))) _).Z0L h)
 ⟨fun a => c.Z0o a, fun v a h => by rw [hE, ZCD]; exact c.one h (Z4w (U := U) (t := 27) (n := 1) (e := fun (a : List Int) => ((Z8.list 5 1 (fun (a : Int) => cu8.ZF a) : Z8 Ty (List (Ty 5)))).ZF a) h), fun a => by first | rfl | exact (congrArg (fun x => [x]) (c.Z0o a).symm), fun a => c.Z27 a, fun a b h => c.Z0L h⟩
theorem ZAp : rowsOf Tryz.prog 287 = [0, 0] := by kernel_rfl
theorem ZxK {E : Env} (hE : E.rows = rowsOf Tryz.prog) : Z0W U E 287 := ⟨fun a => congrArg V.agg (ZfA.enc a), fun v a h => by rw [hE, ZAp]; exact ZfA.agg h, fun a => (ZfA.enc a).symm, fun a => ZfA.nr a, fun a b h => ZfA.inj _ _ (by injection h)⟩
theorem Zvt {E : Env} (hE : E.rows = rowsOf Tryz.prog) : Z0W U E 205 := by
 refine ⟨fun a => ?_, fun v a h => (by cases h), fun a => ?_, fun a => ?_, fun a b h => ?_⟩
 ·first | rfl | skip
  all_goals show V.tup _ = V.tup _
  all_goals congr 1
  all_goals simp only [ZY, show toV U (((Z8.list 5 1 (fun (a : Int) => cu8.ZF a) : Z8 Ty (List (Ty 5)))).Z22 a.1) = (((Z8.list 5 1 (fun (a : Int) => cu8.ZF a) : Z8 Ty (List (Ty 5)))).ZF a.1) from (Z9A hE).encS a.1, show toV U (Z0h.Z22 a.2) = (Z0h.ZF a.2) from (Z1A hE).encS a.2]
 ·first | rfl | skip
  all_goals show [V.tup _] = [V.tup _]
  all_goals congr 2
  all_goals simp only [ZY, show toV U (((Z8.list 5 1 (fun (a : Int) => cu8.ZF a) : Z8 Ty (List (Ty 5)))).Z22 a.1) = (((Z8.list 5 1 (fun (a : Int) => cu8.ZF a) : Z8 Ty (List (Ty 5)))).ZF a.1) from (Z9A hE).encS a.1, show toV U (Z0h.Z22 a.2) = (Z0h.ZF a.2) from (Z1A hE).encS a.2]
 ·show ZH [((Z8.list 5 1 (fun (a : Int) => cu8.ZF a) : Z8 Ty (List (Ty 5)))).ZF a.1, Z0h.ZF a.2] = true
  simp only [ZH, show Z05 (((Z8.list 5 1 (fun (a : Int) => cu8.ZF a) : Z8 Ty (List (Ty 5)))).ZF a.1) = true from (Z9A hE).nr a.1, show Z05 (Z0h.ZF a.2) = true from (Z1A hE).nr a.2, Bool.and_self]
 ·have h : V.tup [((Z8.list 5 1 (fun (a : Int) => cu8.ZF a) : Z8 Ty (List (Ty 5)))).ZF a.1, Z0h.ZF a.2] = V.tup [((Z8.list 5 1 (fun (a : Int) => cu8.ZF a) : Z8 Ty (List (Ty 5)))).ZF b.1, Z0h.ZF b.2] := h
  simp only [V.tup.injEq, List.cons.injEq, and_true] at h
  exact Prod.ext ((Z9A hE).inj _ _ h.1) ((Z1A hE).inj _ _ h.2)
theorem ZB6 : rowsOf Tryz.prog 285 = [2] := by kernel_rfl
theorem Zxp {E : Env} (hE : E.rows = rowsOf Tryz.prog) : Z0W U E 285 :=
 have c : Z7 U (Z8.list 287 2 (fun (a : Zx) => .agg (ZlY.ZU a)) : Z8 Ty (List (Ty 287))) [2] := Z7.list (U := U) (t := 287) (n := 2) (e := fun (a : Zx) => .agg (ZlY.ZU a)) (fun _ => rfl) rfl (fun a => ZfA.nr a) (fun a b h => ZfA.inj _ _ (by injection h))
 ⟨fun a => c.Z0o a, fun v a h => by rw [hE, ZB6]; exact c.one h (Z4w (U := U) (t := 287) (n := 2) (e := fun (a : Zx) => .agg (ZlY.ZU a)) h), fun a => by first | rfl | exact (congrArg (fun x => [x]) (c.Z0o a).symm), fun a => c.Z27 a, fun a b h => c.Z0L h⟩
theorem ZD0 : rowsOf Tryz.prog 36 = [1] := by kernel_rfl
theorem ZzG {E : Env} (hE : E.rows = rowsOf Tryz.prog) : Z0W U E 36 :=
 have c : Z7 U (Z8.list 22 1 (fun (a : Int) => Z8B.ZF a) : Z8 Ty (List (Ty 22))) [1] := Z7.list (U := U) (t := 22) (n := 1) (e := fun (a : Int) => Z8B.ZF a) (fun _ => rfl) rfl (fun a => (Z7.int _ : Z7 U Z8B _).Z27 a) (fun a b h => (Z7.int _ : Z7 U Z8B _).Z0L h)
 ⟨fun a => c.Z0o a, fun v a h => by rw [hE, ZD0]; exact c.one h (Z4w (U := U) (t := 22) (n := 1) (e := fun (a : Int) => Z8B.ZF a) h), fun a => by first | rfl | exact (congrArg (fun x => [x]) (c.Z0o a).symm), fun a => c.Z27 a, fun a b h => c.Z0L h⟩
theorem ZC1 : rowsOf Tryz.prog 37 = [3] := by kernel_rfl
theorem ZzC {E : Env} (hE : E.rows = rowsOf Tryz.prog) : Z0W U E 37 :=
 have c : Z7 U (Z8.list 64 3 (fun (a : Zd) => .agg (ZbQ.ZU a)) : Z8 Ty (List (Ty 64))) [3] := Z7.list (U := U) (t := 64) (n := 3) (e := fun (a : Zd) => .agg (ZbQ.ZU a)) (fun _ => rfl) rfl (fun a => Z3P.nr a) (fun a b h => Z3P.inj _ _ (by injection h))
 ⟨fun a => c.Z0o a, fun v a h => by rw [hE, ZC1]; exact c.one h (Z4w (U := U) (t := 64) (n := 3) (e := fun (a : Zd) => .agg (ZbQ.ZU a)) h), fun a => by first | rfl | exact (congrArg (fun x => [x]) (c.Z0o a).symm), fun a => c.Z27 a, fun a b h => c.Z0L h⟩
theorem ZBP : rowsOf Tryz.prog 38 = [3] := by kernel_rfl
theorem ZnF {E : Env} (hE : E.rows = rowsOf Tryz.prog) : Z0W U E 38 :=
 have c : Z7 U (Z8.list 116 3 (fun (a : Zd) => .agg (ZbQ.ZU a)) : Z8 Ty (List (Ty 116))) [3] := Z7.list (U := U) (t := 116) (n := 3) (e := fun (a : Zd) => .agg (ZbQ.ZU a)) (fun _ => rfl) rfl (fun a => Z3P.nr a) (fun a b h => Z3P.inj _ _ (by injection h))
 ⟨fun a => c.Z0o a, fun v a h => by rw [hE, ZBP]; exact c.one h (Z4w (U := U) (t := 116) (n := 3) (e := fun (a : Zd) => .agg (ZbQ.ZU a)) h), fun a => by first | rfl | exact (congrArg (fun x => [x]) (c.Z0o a).symm), fun a => c.Z27 a, fun a b h => c.Z0L h⟩
theorem ZBE : rowsOf Tryz.prog 39 = [10] := by kernel_rfl
theorem ZzT {E : Env} (hE : E.rows = rowsOf Tryz.prog) : Z0W U E 39 :=
 have c : Z7 U (Z8.list 101 10 (fun (a : Zl) => .agg (Zj7.ZU a)) : Z8 Ty (List (Ty 101))) [10] := Z7.list (U := U) (t := 101) (n := 10) (e := fun (a : Zl) => .agg (Zj7.ZU a)) (fun _ => rfl) rfl (fun a => Zbk.nr a) (fun a b h => Zbk.inj _ _ (by injection h))
 ⟨fun a => c.Z0o a, fun v a h => by rw [hE, ZBE]; exact c.one h (Z4w (U := U) (t := 101) (n := 10) (e := fun (a : Zl) => .agg (Zj7.ZU a)) h), fun a => by first | rfl | exact (congrArg (fun x => [x]) (c.Z0o a).symm), fun a => c.Z27 a, fun a b h => c.Z0L h⟩
theorem ZCz : rowsOf Tryz.prog 32 = [0, 0, 0, 0, 0, 0, 0, 0, 0, 0, 0] := by kernel_rfl
theorem ZzL {E : Env} (hE : E.rows = rowsOf Tryz.prog) : Z0W U E 32 := ⟨fun a => congrArg V.agg (ZkL.enc a), fun v a h => by rw [hE, ZCz]; exact ZkL.agg h, fun a => (ZkL.enc a).symm, fun a => ZkL.nr a, fun a b h => ZkL.inj _ _ (by injection h)⟩
theorem ZBO : rowsOf Tryz.prog 35 = [0, 0, 0] := by kernel_rfl
theorem ZzR {E : Env} (hE : E.rows = rowsOf Tryz.prog) : Z0W U E 35 := ⟨fun a => congrArg V.agg (Zkz.enc a), fun v a h => by rw [hE, ZBO]; exact Zkz.agg h, fun a => (Zkz.enc a).symm, fun a => Zkz.nr a, fun a b h => Zkz.inj _ _ (by injection h)⟩
theorem ZBG : rowsOf Tryz.prog 40 = [11] := by kernel_rfl
theorem ZzF {E : Env} (hE : E.rows = rowsOf Tryz.prog) : Z0W U E 40 :=
 have c : Z7 U (Z8.list 104 11 (fun (a : Zo) => .agg (ZjQ.ZU a)) : Z8 Ty (List (Ty 104))) [11] := Z7.list (U := U) (t := 104) (n := 11) (e := fun (a : Zo) => .agg (ZjQ.ZU a)) (fun _ => rfl) rfl (fun a => ZaS.nr a) (fun a b h => ZaS.inj _ _ (by injection h))
 ⟨fun a => c.Z0o a, fun v a h => by rw [hE, ZBG]; exact c.one h (Z4w (U := U) (t := 104) (n := 11) (e := fun (a : Zo) => .agg (ZjQ.ZU a)) h), fun a => by first | rfl | exact (congrArg (fun x => [x]) (c.Z0o a).symm), fun a => c.Z27 a, fun a b h => c.Z0L h⟩
theorem ZCf : rowsOf Tryz.prog 45 = [0, 18, 1, 0, 0, 0, 0, 0] := by kernel_rfl
theorem ZzK {E : Env} (hE : E.rows = rowsOf Tryz.prog) : Z0W U E 45 := ⟨fun a => congrArg V.agg (ZnN.enc a), fun v a h => by rw [hE, ZCf]; exact ZnN.agg h, fun a => (ZnN.enc a).symm, fun a => ZnN.nr a, fun a b h => ZnN.inj _ _ (by injection h)⟩
theorem ZCN : rowsOf Tryz.prog 47 = [0, 0, 0, 0, 0, 0, 1, 0, 0, 0] := by kernel_rfl
theorem Zzw {E : Env} (hE : E.rows = rowsOf Tryz.prog) : Z0W U E 47 := ⟨fun a => congrArg V.agg (ZnM.enc a), fun v a h => by rw [hE, ZCN]; exact ZnM.agg h, fun a => (ZnM.enc a).symm, fun a => ZnM.nr a, fun a b h => ZnM.inj _ _ (by injection h)⟩
theorem ZBW : rowsOf Tryz.prog 48 = [3] := by kernel_rfl
theorem Zzz {E : Env} (hE : E.rows = rowsOf Tryz.prog) : Z0W U E 48 :=
 have c : Z7 U (Z8.list 62 3 (fun (a : ZG) => .agg (Zvi.ZU a)) : Z8 Ty (List (Ty 62))) [3] := Z7.list (U := U) (t := 62) (n := 3) (e := fun (a : ZG) => .agg (Zvi.ZU a)) (fun _ => rfl) rfl (fun a => ZgP.nr a) (fun a b h => ZgP.inj _ _ (by injection h))
 ⟨fun a => c.Z0o a, fun v a h => by rw [hE, ZBW]; exact c.one h (Z4w (U := U) (t := 62) (n := 3) (e := fun (a : ZG) => .agg (Zvi.ZU a)) h), fun a => by first | rfl | exact (congrArg (fun x => [x]) (c.Z0o a).symm), fun a => c.Z27 a, fun a b h => c.Z0L h⟩
theorem ZBQ : rowsOf Tryz.prog 43 = [18] := by kernel_rfl
theorem Zzx {E : Env} (hE : E.rows = rowsOf Tryz.prog) : Z0W U E 43 :=
 have c : Z7 U (Z8.list 108 18 (fun (a : ZJ) => .agg (ZjN.ZU a)) : Z8 Ty (List (Ty 108))) [18] := Z7.list (U := U) (t := 108) (n := 18) (e := fun (a : ZJ) => .agg (ZjN.ZU a)) (fun _ => rfl) rfl (fun a => Zbx.nr a) (fun a b h => Zbx.inj _ _ (by injection h))
 ⟨fun a => c.Z0o a, fun v a h => by rw [hE, ZBQ]; exact c.one h (Z4w (U := U) (t := 108) (n := 18) (e := fun (a : ZJ) => .agg (ZjN.ZU a)) h), fun a => by first | rfl | exact (congrArg (fun x => [x]) (c.Z0o a).symm), fun a => c.Z27 a, fun a b h => c.Z0L h⟩
theorem ZCK : rowsOf Tryz.prog 42 = [10, 11] := by kernel_rfl
theorem Zeh {E : Env} (hE : E.rows = rowsOf Tryz.prog) : Z0W U E 42 := ⟨fun a => congrArg V.agg (Znw.enc a), fun v a h => by rw [hE, ZCK]; exact Znw.agg h, fun a => (Znw.enc a).symm, fun a => Znw.nr a, fun a b h => Znw.inj _ _ (by injection h)⟩
theorem ZAt : rowsOf Tryz.prog 106 = [0, 0, 0, 0, 0, 0, 0, 0, 0, 1] := by kernel_rfl
theorem Zif {E : Env} (hE : E.rows = rowsOf Tryz.prog) : Z0W U E 106 := ⟨fun a => congrArg V.agg (Zbq.enc a), fun v a h => by rw [hE, ZAt]; exact Zbq.agg h, fun a => (Zbq.enc a).symm, fun a => Zbq.nr a, fun a b h => Zbq.inj _ _ (by injection h)⟩
theorem ZA3 : rowsOf Tryz.prog 112 = [10] := by kernel_rfl
theorem Zib {E : Env} (hE : E.rows = rowsOf Tryz.prog) : Z0W U E 112 :=
 have c : Z7 U (Z8.list 106 10 (fun (a : Zj) => .agg (Z4E.ZU a)) : Z8 Ty (List (Ty 106))) [10] := Z7.list (U := U) (t := 106) (n := 10) (e := fun (a : Zj) => .agg (Z4E.ZU a)) (fun _ => rfl) rfl (fun a => Zbq.nr a) (fun a b h => Zbq.inj _ _ (by injection h))
 ⟨fun a => c.Z0o a, fun v a h => by rw [hE, ZA3]; exact c.one h (Z4w (U := U) (t := 106) (n := 10) (e := fun (a : Zj) => .agg (Z4E.ZU a)) h), fun a => by first | rfl | exact (congrArg (fun x => [x]) (c.Z0o a).symm), fun a => c.Z27 a, fun a b h => c.Z0L h⟩
theorem Zwb {E : Env} (hE : E.rows = rowsOf Tryz.prog) : Z0W U E 113 := by
 refine ⟨fun a => ?_, fun v a h => (by cases h), fun a => ?_, fun a => ?_, fun a b h => ?_⟩
 ·first | rfl | skip
  all_goals show V.tup _ = V.tup _
  all_goals congr 1
  all_goals simp only [ZY, show toV U (.agg (ZjD.encS a.1)) = (.agg (ZjD.ZU a.1)) from (Zeh hE).encS a.1, show toV U (((Z8.list 106 10 (fun (a : Zj) => .agg (Z4E.ZU a)) : Z8 Ty (List (Ty 106)))).Z22 a.2.1) = (((Z8.list 106 10 (fun (a : Zj) => .agg (Z4E.ZU a)) : Z8 Ty (List (Ty 106)))).ZF a.2.1) from (Zib hE).encS a.2.1, show toV U (Z0h.Z22 a.2.2) = (Z0h.ZF a.2.2) from (Z1A hE).encS a.2.2]
 ·first | rfl | skip
  all_goals show [V.tup _] = [V.tup _]
  all_goals congr 2
  all_goals simp only [ZY, show toV U (.agg (ZjD.encS a.1)) = (.agg (ZjD.ZU a.1)) from (Zeh hE).encS a.1, show toV U (((Z8.list 106 10 (fun (a : Zj) => .agg (Z4E.ZU a)) : Z8 Ty (List (Ty 106)))).Z22 a.2.1) = (((Z8.list 106 10 (fun (a : Zj) => .agg (Z4E.ZU a)) : Z8 Ty (List (Ty 106)))).ZF a.2.1) from (Zib hE).encS a.2.1, show toV U (Z0h.Z22 a.2.2) = (Z0h.ZF a.2.2) from (Z1A hE).encS a.2.2]
 ·show ZH [.agg (ZjD.ZU a.1), ((Z8.list 106 10 (fun (a : Zj) => .agg (Z4E.ZU a)) : Z8 Ty (List (Ty 106)))).ZF a.2.1, Z0h.ZF a.2.2] = true
  simp only [ZH, show Z05 (.agg (ZjD.ZU a.1)) = true from (Zeh hE).nr a.1, show Z05 (((Z8.list 106 10 (fun (a : Zj) => .agg (Z4E.ZU a)) : Z8 Ty (List (Ty 106)))).ZF a.2.1) = true from (Zib hE).nr a.2.1, show Z05 (Z0h.ZF a.2.2) = true from (Z1A hE).nr a.2.2, Bool.and_self]
 ·have h : V.tup [.agg (ZjD.ZU a.1), ((Z8.list 106 10 (fun (a : Zj) => .agg (Z4E.ZU a)) : Z8 Ty (List (Ty 106)))).ZF a.2.1, Z0h.ZF a.2.2] = V.tup [.agg (ZjD.ZU b.1), ((Z8.list 106 10 (fun (a : Zj) => .agg (Z4E.ZU a)) : Z8 Ty (List (Ty 106)))).ZF b.2.1, Z0h.ZF b.2.2] := h
  simp only [V.tup.injEq, List.cons.injEq, and_true] at h
  exact Prod.ext ((Zeh hE).inj _ _ h.1) (Prod.ext ((Zib hE).inj _ _ h.2.1) ((Z1A hE).inj _ _ h.2.2))
theorem ZBa : rowsOf Tryz.prog 149 = [0, 0, 0, 0, 0, 0, 0, 0, 0, 0, 0, 0, 1] := by kernel_rfl
theorem ZvO {E : Env} (hE : E.rows = rowsOf Tryz.prog) : Z0W U E 149 := ⟨fun a => congrArg V.agg (Zlx.enc a), fun v a h => by rw [hE, ZBa]; exact Zlx.agg h, fun a => (Zlx.enc a).symm, fun a => Zlx.nr a, fun a b h => Zlx.inj _ _ (by injection h)⟩
theorem ZC8 : rowsOf Tryz.prog 90 = [0, 0, 0, 0, 0, 0, 0, 1] := by kernel_rfl
theorem ZnH {E : Env} (hE : E.rows = rowsOf Tryz.prog) : Z0W U E 90 := ⟨fun a => congrArg V.agg (ZlW.enc a), fun v a h => by rw [hE, ZC8]; exact ZlW.agg h, fun a => (ZlW.enc a).symm, fun a => ZlW.nr a, fun a b h => ZlW.inj _ _ (by injection h)⟩
theorem ZwH {E : Env} (hE : E.rows = rowsOf Tryz.prog) : Z0W U E 230 := by
 refine ⟨fun a => ?_, fun v a h => (by cases h), fun a => ?_, fun a => ?_, fun a b h => ?_⟩
 ·first | rfl | skip
  all_goals show V.tup _ = V.tup _
  all_goals congr 1
  all_goals simp only [ZY, show toV U (Z75.Z22 a.1) = (Z75.ZF a.1) from (Znl hE).encS a.1, show toV U (((Z8.list 5 1 (fun (a : Int) => cu8.ZF a) : Z8 Ty (List (Ty 5)))).Z22 a.2) = (((Z8.list 5 1 (fun (a : Int) => cu8.ZF a) : Z8 Ty (List (Ty 5)))).ZF a.2) from (Z9A hE).encS a.2]
 ·first | rfl | skip
  all_goals show [V.tup _] = [V.tup _]
  all_goals congr 2
  all_goals simp only [ZY, show toV U (Z75.Z22 a.1) = (Z75.ZF a.1) from (Znl hE).encS a.1, show toV U (((Z8.list 5 1 (fun (a : Int) => cu8.ZF a) : Z8 Ty (List (Ty 5)))).Z22 a.2) = (((Z8.list 5 1 (fun (a : Int) => cu8.ZF a) : Z8 Ty (List (Ty 5)))).ZF a.2) from (Z9A hE).encS a.2]
 ·show ZH [Z75.ZF a.1, ((Z8.list 5 1 (fun (a : Int) => cu8.ZF a) : Z8 Ty (List (Ty 5)))).ZF a.2] = true
  simp only [ZH, show Z05 (Z75.ZF a.1) = true from (Znl hE).nr a.1, show Z05 (((Z8.list 5 1 (fun (a : Int) => cu8.ZF a) : Z8 Ty (List (Ty 5)))).ZF a.2) = true from (Z9A hE).nr a.2, Bool.and_self]
 ·have h : V.tup [Z75.ZF a.1, ((Z8.list 5 1 (fun (a : Int) => cu8.ZF a) : Z8 Ty (List (Ty 5)))).ZF a.2] = V.tup [Z75.ZF b.1, ((Z8.list 5 1 (fun (a : Int) => cu8.ZF a) : Z8 Ty (List (Ty 5)))).ZF b.2] := h
  simp only [V.tup.injEq, List.cons.injEq, and_true] at h
  exact Prod.ext ((Znl hE).inj _ _ h.1) ((Z9A hE).inj _ _ h.2)
theorem ZC4 : rowsOf Tryz.prog 66 = [0, 0, 0, 0, 0, 0, 0, 1] := by kernel_rfl
theorem Zzq {E : Env} (hE : E.rows = rowsOf Tryz.prog) : Z0W U E 66 := ⟨fun a => congrArg V.agg (ZiV.enc a), fun v a h => by rw [hE, ZC4]; exact ZiV.agg h, fun a => (ZiV.enc a).symm, fun a => ZiV.nr a, fun a b h => ZiV.inj _ _ (by injection h)⟩
theorem ZAQ : rowsOf Tryz.prog 135 = [5] := by kernel_rfl
theorem Zxx {E : Env} (hE : E.rows = rowsOf Tryz.prog) : Z0W U E 135 :=
 have c : Z7 U (Z8.list 30 5 (fun (a : Zn) => .agg (Zuz.ZU a)) : Z8 Ty (List (Ty 30))) [5] := Z7.list (U := U) (t := 30) (n := 5) (e := fun (a : Zn) => .agg (Zuz.ZU a)) (fun _ => rfl) rfl (fun a => Zev.nr a) (fun a b h => Zev.inj _ _ (by injection h))
 ⟨fun a => c.Z0o a, fun v a h => by rw [hE, ZAQ]; exact c.one h (Z4w (U := U) (t := 30) (n := 5) (e := fun (a : Zn) => .agg (Zuz.ZU a)) h), fun a => by first | rfl | exact (congrArg (fun x => [x]) (c.Z0o a).symm), fun a => c.Z27 a, fun a b h => c.Z0L h⟩
theorem ZAu : rowsOf Tryz.prog 296 = [0, 0, 0, 0, 0, 0] := by kernel_rfl
theorem ZxJ {E : Env} (hE : E.rows = rowsOf Tryz.prog) : Z0W U E 296 := ⟨fun a => congrArg V.agg (ZlO.enc a), fun v a h => by rw [hE, ZAu]; exact ZlO.agg h, fun a => (ZlO.enc a).symm, fun a => ZlO.nr a, fun a b h => ZlO.inj _ _ (by injection h)⟩
theorem ZxB {E : Env} (hE : E.rows = rowsOf Tryz.prog) : Z0W U E 240 := by
 refine ⟨fun a => ?_, fun v a h => (by cases h), fun a => ?_, fun a => ?_, fun a b h => ?_⟩
 ·first | rfl | skip
  all_goals show V.tup _ = V.tup _
  all_goals congr 1
  all_goals simp only [ZY, show toV U (((Z8.list 23 1 (fun (a : Int) => Z75.ZF a) : Z8 Ty (List (Ty 23)))).Z22 a.1) = (((Z8.list 23 1 (fun (a : Int) => Z75.ZF a) : Z8 Ty (List (Ty 23)))).ZF a.1) from (ZiF hE).encS a.1, show toV U (((Z8.list 5 1 (fun (a : Int) => cu8.ZF a) : Z8 Ty (List (Ty 5)))).Z22 a.2.1) = (((Z8.list 5 1 (fun (a : Int) => cu8.ZF a) : Z8 Ty (List (Ty 5)))).ZF a.2.1) from (Z9A hE).encS a.2.1, show toV U (Z0h.Z22 a.2.2) = (Z0h.ZF a.2.2) from (Z1A hE).encS a.2.2]
 ·first | rfl | skip
  all_goals show [V.tup _] = [V.tup _]
  all_goals congr 2
  all_goals simp only [ZY, show toV U (((Z8.list 23 1 (fun (a : Int) => Z75.ZF a) : Z8 Ty (List (Ty 23)))).Z22 a.1) = (((Z8.list 23 1 (fun (a : Int) => Z75.ZF a) : Z8 Ty (List (Ty 23)))).ZF a.1) from (ZiF hE).encS a.1, show toV U (((Z8.list 5 1 (fun (a : Int) => cu8.ZF a) : Z8 Ty (List (Ty 5)))).Z22 a.2.1) = (((Z8.list 5 1 (fun (a : Int) => cu8.ZF a) : Z8 Ty (List (Ty 5)))).ZF a.2.1) from (Z9A hE).encS a.2.1, show toV U (Z0h.Z22 a.2.2) = (Z0h.ZF a.2.2) from (Z1A hE).encS a.2.2]
 ·show ZH [((Z8.list 23 1 (fun (a : Int) => Z75.ZF a) : Z8 Ty (List (Ty 23)))).ZF a.1, ((Z8.list 5 1 (fun (a : Int) => cu8.ZF a) : Z8 Ty (List (Ty 5)))).ZF a.2.1, Z0h.ZF a.2.2] = true
  simp only [ZH, show Z05 (((Z8.list 23 1 (fun (a : Int) => Z75.ZF a) : Z8 Ty (List (Ty 23)))).ZF a.1) = true from (ZiF hE).nr a.1, show Z05 (((Z8.list 5 1 (fun (a : Int) => cu8.ZF a) : Z8 Ty (List (Ty 5)))).ZF a.2.1) = true from (Z9A hE).nr a.2.1, show Z05 (Z0h.ZF a.2.2) = true from (Z1A hE).nr a.2.2, Bool.and_self]
 ·have h : V.tup [((Z8.list 23 1 (fun (a : Int) => Z75.ZF a) : Z8 Ty (List (Ty 23)))).ZF a.1, ((Z8.list 5 1 (fun (a : Int) => cu8.ZF a) : Z8 Ty (List (Ty 5)))).ZF a.2.1, Z0h.ZF a.2.2] = V.tup [((Z8.list 23 1 (fun (a : Int) => Z75.ZF a) : Z8 Ty (List (Ty 23)))).ZF b.1, ((Z8.list 5 1 (fun (a : Int) => cu8.ZF a) : Z8 Ty (List (Ty 5)))).ZF b.2.1, Z0h.ZF b.2.2] := h
  simp only [V.tup.injEq, List.cons.injEq, and_true] at h
  exact Prod.ext ((ZiF hE).inj _ _ h.1) (Prod.ext ((Z9A hE).inj _ _ h.2.1) ((Z1A hE).inj _ _ h.2.2))
theorem ZB7 : rowsOf Tryz.prog 293 = [1] := by kernel_rfl
theorem Zwf {E : Env} (hE : E.rows = rowsOf Tryz.prog) : Z0W U E 293 :=
 have c : Z7 U (Z8.list 3 1 (fun (a : Int) => Z0h.ZF a) : Z8 Ty (List (Ty 3))) [1] := Z7.list (U := U) (t := 3) (n := 1) (e := fun (a : Int) => Z0h.ZF a) (fun _ => rfl) rfl (fun a => (Z7.int _ : Z7 U Z0h _).Z27 a) (fun a b h => (Z7.int _ : Z7 U Z0h _).Z0L h)
 ⟨fun a => c.Z0o a, fun v a h => by rw [hE, ZB7]; exact c.one h (Z4w (U := U) (t := 3) (n := 1) (e := fun (a : Int) => Z0h.ZF a) h), fun a => by first | rfl | exact (congrArg (fun x => [x]) (c.Z0o a).symm), fun a => c.Z27 a, fun a b h => c.Z0L h⟩
theorem ZxP {E : Env} (hE : E.rows = rowsOf Tryz.prog) : Z0W U E 131 := by
 refine ⟨fun a => ?_, fun v a h => (by cases h), fun a => ?_, fun a => ?_, fun a b h => ?_⟩
 ·first | rfl | skip
  all_goals show V.tup _ = V.tup _
  all_goals congr 1
  all_goals simp only [ZY, show toV U (Z0h.Z22 a.1) = (Z0h.ZF a.1) from (Zmg hE).encS a.1, show toV U (Z0h.Z22 a.2.1) = (Z0h.ZF a.2.1) from (Zmg hE).encS a.2.1, show toV U (Z0h.Z22 a.2.2) = (Z0h.ZF a.2.2) from (Z1A hE).encS a.2.2]
 ·first | rfl | skip
  all_goals show [V.tup _] = [V.tup _]
  all_goals congr 2
  all_goals simp only [ZY, show toV U (Z0h.Z22 a.1) = (Z0h.ZF a.1) from (Zmg hE).encS a.1, show toV U (Z0h.Z22 a.2.1) = (Z0h.ZF a.2.1) from (Zmg hE).encS a.2.1, show toV U (Z0h.Z22 a.2.2) = (Z0h.ZF a.2.2) from (Z1A hE).encS a.2.2]
 ·show ZH [Z0h.ZF a.1, Z0h.ZF a.2.1, Z0h.ZF a.2.2] = true
  simp only [ZH, show Z05 (Z0h.ZF a.1) = true from (Zmg hE).nr a.1, show Z05 (Z0h.ZF a.2.1) = true from (Zmg hE).nr a.2.1, show Z05 (Z0h.ZF a.2.2) = true from (Z1A hE).nr a.2.2, Bool.and_self]
 ·have h : V.tup [Z0h.ZF a.1, Z0h.ZF a.2.1, Z0h.ZF a.2.2] = V.tup [Z0h.ZF b.1, Z0h.ZF b.2.1, Z0h.ZF b.2.2] := h
  simp only [V.tup.injEq, List.cons.injEq, and_true] at h
  exact Prod.ext ((Zmg hE).inj _ _ h.1) (Prod.ext ((Zmg hE).inj _ _ h.2.1) ((Z1A hE).inj _ _ h.2.2))
theorem Zx1 {E : Env} (hE : E.rows = rowsOf Tryz.prog) : Z0W U E 133 := by
 refine ⟨fun a => ?_, fun v a h => (by cases h), fun a => ?_, fun a => ?_, fun a b h => ?_⟩
 ·first | rfl | skip
  all_goals show V.tup _ = V.tup _
  all_goals congr 1
  all_goals simp only [ZY, show toV U (ZeB.Z22 a.1) = (ZeB.ZF a.1) from (ZnO hE).encS a.1, show toV U (cbo.Z22 a.2) = (cbo.ZF a.2) from (ZmY hE).encS a.2]
 ·first | rfl | skip
  all_goals show [V.tup _] = [V.tup _]
  all_goals congr 2
  all_goals simp only [ZY, show toV U (ZeB.Z22 a.1) = (ZeB.ZF a.1) from (ZnO hE).encS a.1, show toV U (cbo.Z22 a.2) = (cbo.ZF a.2) from (ZmY hE).encS a.2]
 ·show ZH [ZeB.ZF a.1, cbo.ZF a.2] = true
  simp only [ZH, show Z05 (ZeB.ZF a.1) = true from (ZnO hE).nr a.1, show Z05 (cbo.ZF a.2) = true from (ZmY hE).nr a.2, Bool.and_self]
 ·have h : V.tup [ZeB.ZF a.1, cbo.ZF a.2] = V.tup [ZeB.ZF b.1, cbo.ZF b.2] := h
  simp only [V.tup.injEq, List.cons.injEq, and_true] at h
  exact Prod.ext ((ZnO hE).inj _ _ h.1) ((ZmY hE).inj _ _ h.2)
theorem ZxR {E : Env} (hE : E.rows = rowsOf Tryz.prog) : Z0W U E 137 := by
 refine ⟨fun a => ?_, fun v a h => (by cases h), fun a => ?_, fun a => ?_, fun a b h => ?_⟩
 ·first | rfl | skip
  all_goals show V.tup _ = V.tup _
  all_goals congr 1
  all_goals simp only [ZY, show toV U (.agg (ZrC.encS a.1)) = (.agg (ZrC.ZU a.1)) from (ZnH hE).encS a.1, show toV U (Z0h.Z22 a.2) = (Z0h.ZF a.2) from (Z1A hE).encS a.2]
 ·first | rfl | skip
  all_goals show [V.tup _] = [V.tup _]
  all_goals congr 2
  all_goals simp only [ZY, show toV U (.agg (ZrC.encS a.1)) = (.agg (ZrC.ZU a.1)) from (ZnH hE).encS a.1, show toV U (Z0h.Z22 a.2) = (Z0h.ZF a.2) from (Z1A hE).encS a.2]
 ·show ZH [.agg (ZrC.ZU a.1), Z0h.ZF a.2] = true
  simp only [ZH, show Z05 (.agg (ZrC.ZU a.1)) = true from (ZnH hE).nr a.1, show Z05 (Z0h.ZF a.2) = true from (Z1A hE).nr a.2, Bool.and_self]
 ·have h : V.tup [.agg (ZrC.ZU a.1), Z0h.ZF a.2] = V.tup [.agg (ZrC.ZU b.1), Z0h.ZF b.2] := h
  simp only [V.tup.injEq, List.cons.injEq, and_true] at h
  exact Prod.ext ((ZnH hE).inj _ _ h.1) ((Z1A hE).inj _ _ h.2)
theorem ZAn : rowsOf Tryz.prog 176 = [0, 0, 0, 0, 0, 0, 0, 1, 0, 0, 0, 0, 0, 0] := by kernel_rfl
theorem Zx8 {E : Env} (hE : E.rows = rowsOf Tryz.prog) : Z0W U E 176 := ⟨fun a => congrArg V.agg (Zll.enc a), fun v a h => by rw [hE, ZAn]; exact Zll.agg h, fun a => (Zll.enc a).symm, fun a => Zll.nr a, fun a b h => Zll.inj _ _ (by injection h)⟩
theorem Zxa {E : Env} (hE : E.rows = rowsOf Tryz.prog) : Z0W U E 183 := by
 refine ⟨fun a => ?_, fun v a h => (by cases h), fun a => ?_, fun a => ?_, fun a b h => ?_⟩
 ·first | rfl | skip
  all_goals show V.tup _ = V.tup _
  all_goals congr 1
  all_goals simp only [ZY, show toV U (.agg (Z4E.encS a.1)) = (.agg (Z4E.ZU a.1)) from (Zif hE).encS a.1, show toV U (Z0h.Z22 a.2) = (Z0h.ZF a.2) from (Z1A hE).encS a.2]
 ·first | rfl | skip
  all_goals show [V.tup _] = [V.tup _]
  all_goals congr 2
  all_goals simp only [ZY, show toV U (.agg (Z4E.encS a.1)) = (.agg (Z4E.ZU a.1)) from (Zif hE).encS a.1, show toV U (Z0h.Z22 a.2) = (Z0h.ZF a.2) from (Z1A hE).encS a.2]
 ·show ZH [.agg (Z4E.ZU a.1), Z0h.ZF a.2] = true
  simp only [ZH, show Z05 (.agg (Z4E.ZU a.1)) = true from (Zif hE).nr a.1, show Z05 (Z0h.ZF a.2) = true from (Z1A hE).nr a.2, Bool.and_self]
 ·have h : V.tup [.agg (Z4E.ZU a.1), Z0h.ZF a.2] = V.tup [.agg (Z4E.ZU b.1), Z0h.ZF b.2] := h
  simp only [V.tup.injEq, List.cons.injEq, and_true] at h
  exact Prod.ext ((Zif hE).inj _ _ h.1) ((Z1A hE).inj _ _ h.2)
theorem ZBk : rowsOf Tryz.prog 260 = [8] := by kernel_rfl
theorem ZhV {E : Env} (hE : E.rows = rowsOf Tryz.prog) : Z0W U E 260 :=
 have c : Z7 U (Z8.list 66 8 (fun (a : Zt) => .agg (Zmi.ZU a)) : Z8 Ty (List (Ty 66))) [8] := Z7.list (U := U) (t := 66) (n := 8) (e := fun (a : Zt) => .agg (Zmi.ZU a)) (fun _ => rfl) rfl (fun a => ZiV.nr a) (fun a b h => ZiV.inj _ _ (by injection h))
 ⟨fun a => c.Z0o a, fun v a h => by rw [hE, ZBk]; exact c.one h (Z4w (U := U) (t := 66) (n := 8) (e := fun (a : Zt) => .agg (Zmi.ZU a)) h), fun a => by first | rfl | exact (congrArg (fun x => [x]) (c.Z0o a).symm), fun a => c.Z27 a, fun a b h => c.Z0L h⟩
theorem Zw9 {E : Env} (hE : E.rows = rowsOf Tryz.prog) : Z0W U E 261 := by
 refine ⟨fun a => ?_, fun v a h => (by cases h), fun a => ?_, fun a => ?_, fun a b h => ?_⟩
 ·first | rfl | skip
  all_goals show V.tup _ = V.tup _
  all_goals congr 1
  all_goals simp only [ZY, show toV U (.agg (ZjD.encS a.1)) = (.agg (ZjD.ZU a.1)) from (Zeh hE).encS a.1, show toV U (((Z8.list 66 8 (fun (a : Zt) => .agg (Zmi.ZU a)) : Z8 Ty (List (Ty 66)))).Z22 a.2.1) = (((Z8.list 66 8 (fun (a : Zt) => .agg (Zmi.ZU a)) : Z8 Ty (List (Ty 66)))).ZF a.2.1) from (ZhV hE).encS a.2.1, show toV U (cbo.Z22 a.2.2) = (cbo.ZF a.2.2) from (ZmY hE).encS a.2.2]
 ·first | rfl | skip
  all_goals show [V.tup _] = [V.tup _]
  all_goals congr 2
  all_goals simp only [ZY, show toV U (.agg (ZjD.encS a.1)) = (.agg (ZjD.ZU a.1)) from (Zeh hE).encS a.1, show toV U (((Z8.list 66 8 (fun (a : Zt) => .agg (Zmi.ZU a)) : Z8 Ty (List (Ty 66)))).Z22 a.2.1) = (((Z8.list 66 8 (fun (a : Zt) => .agg (Zmi.ZU a)) : Z8 Ty (List (Ty 66)))).ZF a.2.1) from (ZhV hE).encS a.2.1, show toV U (cbo.Z22 a.2.2) = (cbo.ZF a.2.2) from (ZmY hE).encS a.2.2]
 ·show ZH [.agg (ZjD.ZU a.1), ((Z8.list 66 8 (fun (a : Zt) => .agg (Zmi.ZU a)) : Z8 Ty (List (Ty 66)))).ZF a.2.1, cbo.ZF a.2.2] = true
  simp only [ZH, show Z05 (.agg (ZjD.ZU a.1)) = true from (Zeh hE).nr a.1, show Z05 (((Z8.list 66 8 (fun (a : Zt) => .agg (Zmi.ZU a)) : Z8 Ty (List (Ty 66)))).ZF a.2.1) = true from (ZhV hE).nr a.2.1, show Z05 (cbo.ZF a.2.2) = true from (ZmY hE).nr a.2.2, Bool.and_self]
 ·have h : V.tup [.agg (ZjD.ZU a.1), ((Z8.list 66 8 (fun (a : Zt) => .agg (Zmi.ZU a)) : Z8 Ty (List (Ty 66)))).ZF a.2.1, cbo.ZF a.2.2] = V.tup [.agg (ZjD.ZU b.1), ((Z8.list 66 8 (fun (a : Zt) => .agg (Zmi.ZU a)) : Z8 Ty (List (Ty 66)))).ZF b.2.1, cbo.ZF b.2.2] := h
  simp only [V.tup.injEq, List.cons.injEq, and_true] at h
  exact Prod.ext ((Zeh hE).inj _ _ h.1) (Prod.ext ((ZhV hE).inj _ _ h.2.1) ((ZmY hE).inj _ _ h.2.2))
theorem Zx7 {E : Env} (hE : E.rows = rowsOf Tryz.prog) : Z0W U E 265 := by
 refine ⟨fun a => ?_, fun v a h => (by cases h), fun a => ?_, fun a => ?_, fun a b h => ?_⟩
 ·first | rfl | skip
  all_goals show V.tup _ = V.tup _
  all_goals congr 1
  all_goals simp only [ZY, show toV U (((Z8.list 116 3 (fun (a : Zd) => .agg (ZbQ.ZU a)) : Z8 Ty (List (Ty 116)))).Z22 a.1) = (((Z8.list 116 3 (fun (a : Zd) => .agg (ZbQ.ZU a)) : Z8 Ty (List (Ty 116)))).ZF a.1) from (ZnF hE).encS a.1, show toV U (Z0h.Z22 a.2) = (Z0h.ZF a.2) from (Z1A hE).encS a.2]
 ·first | rfl | skip
  all_goals show [V.tup _] = [V.tup _]
  all_goals congr 2
  all_goals simp only [ZY, show toV U (((Z8.list 116 3 (fun (a : Zd) => .agg (ZbQ.ZU a)) : Z8 Ty (List (Ty 116)))).Z22 a.1) = (((Z8.list 116 3 (fun (a : Zd) => .agg (ZbQ.ZU a)) : Z8 Ty (List (Ty 116)))).ZF a.1) from (ZnF hE).encS a.1, show toV U (Z0h.Z22 a.2) = (Z0h.ZF a.2) from (Z1A hE).encS a.2]
 ·show ZH [((Z8.list 116 3 (fun (a : Zd) => .agg (ZbQ.ZU a)) : Z8 Ty (List (Ty 116)))).ZF a.1, Z0h.ZF a.2] = true
  simp only [ZH, show Z05 (((Z8.list 116 3 (fun (a : Zd) => .agg (ZbQ.ZU a)) : Z8 Ty (List (Ty 116)))).ZF a.1) = true from (ZnF hE).nr a.1, show Z05 (Z0h.ZF a.2) = true from (Z1A hE).nr a.2, Bool.and_self]
 ·have h : V.tup [((Z8.list 116 3 (fun (a : Zd) => .agg (ZbQ.ZU a)) : Z8 Ty (List (Ty 116)))).ZF a.1, Z0h.ZF a.2] = V.tup [((Z8.list 116 3 (fun (a : Zd) => .agg (ZbQ.ZU a)) : Z8 Ty (List (Ty 116)))).ZF b.1, Z0h.ZF b.2] := h
  simp only [V.tup.injEq, List.cons.injEq, and_true] at h
  exact Prod.ext ((ZnF hE).inj _ _ h.1) ((Z1A hE).inj _ _ h.2)
theorem ZAP : rowsOf Tryz.prog 246 = [3, 0] := by kernel_rfl
theorem Zwv {E : Env} (hE : E.rows = rowsOf Tryz.prog) : Z0W U E 246 := ⟨fun a => congrArg V.agg (ZlI.enc a), fun v a h => by rw [hE, ZAP]; exact ZlI.agg h, fun a => (ZlI.enc a).symm, fun a => ZlI.nr a, fun a b h => ZlI.inj _ _ (by injection h)⟩
theorem ZBe : rowsOf Tryz.prog 317 = [3, 0] := by kernel_rfl
theorem Zwa {E : Env} (hE : E.rows = rowsOf Tryz.prog) : Z0W U E 317 := ⟨fun a => congrArg V.agg (ZlS.enc a), fun v a h => by rw [hE, ZBe]; exact ZlS.agg h, fun a => (ZlS.enc a).symm, fun a => ZlS.nr a, fun a b h => ZlS.inj _ _ (by injection h)⟩
theorem ZAZ : Z7 U ZDb [0, 0, 0, 0, 0, 0, 0, 0] := Z7.iso ((Z7.int _).pair ((Z7.skip).pair ((Z7.skip).pair ((Z7.int _).pair ((Z7.bool).pair ((Z7.int _).pair ((Z7.int _).pair ((Z7.int _).pair Z7.unit)))))))) (fun _ => rfl) (fun _ => rfl)
theorem ZA4 : Z7 U ZCo [0, 0, 0, 0, 0, 0, 0, 0, 0, 0] := Z7.iso ((Z7.int _).pair ((Z7.int _).pair ((Z7.int _).pair ((Z7.int _).pair ((Z7.int _).pair ((Z7.int _).pair ((Z7.skip).pair ((Z7.int _).pair ((Z7.bool).pair ((Z7.int _).pair Z7.unit)))))))))) (fun _ => rfl) (fun _ => rfl)
theorem ZA1 : Z7 U ZCS [0, 0, 0, 0, 0, 0, 0, 0, 0, 0, 0, 0, 0, 0, 0, 0, 0, 0, 0, 0, 0, 0, 0, 0, 0, 0, 0, 0, 0, 0, 0, 0, 0, 0, 0, 0, 0, 0, 0, 0, 0, 0, 0, 0, 0, 0] := Z7.iso ((Z7.int _).pair ((Z7.int _).pair ((Z7.int _).pair ((ZkL).pair ((Zkz).pair ((Z7.int _).pair ((Z7.bool).pair ((Z7.bool).pair ((Z7.skip).pair ((Z7.skip).pair ((Z7.skip).pair ((Z7.skip).pair ((Z7.skip).pair ((ZAZ).pair ((ZA4).pair ((Z7.skip).pair ((Z7.int _).pair ((Z7.bool).pair Z7.unit)))))))))))))))))) (fun _ => rfl) (fun _ => rfl)
theorem Zou : Z7 U Zt0 [0, 0, 0, 0, 0, 0, 0, 0, 0, 0, 0, 0, 0, 0, 0, 0, 0, 0, 0, 0, 0, 0, 0, 0, 0, 0, 0, 0, 0, 0, 0, 0, 0, 0, 0, 0, 0, 0, 0, 0, 0, 0, 0, 0, 0, 0, 0, 0] := Z7.iso ((ZA1).pair ((Z7.int _).pair ((Z7.skip).pair Z7.unit))) (fun _ => rfl) (fun _ => rfl)
theorem Zzl {E : Env} (hE : E.rows = rowsOf Tryz.prog) : Z0W U E 97 := ⟨fun a => rfl, fun v a h => Zou.ZAs h _, fun a => rfl, fun a => Zou.ZCT 48 a, fun a b h => Zou.ZAb h⟩
theorem ZyT (t : Nat) (h4 : ¬ t = 4) (h26 : ¬ t = 26) (h24 : ¬ t = 24) (h5 : ¬ t = 5) (h27 : ¬ t = 27) (h22 : ¬ t = 22) (h64 : ¬ t = 64) (h116 : ¬ t = 116) (h101 : ¬ t = 101) (h104 : ¬ t = 104) (h108 : ¬ t = 108) (h62 : ¬ t = 62) (h50 : ¬ t = 50) (h51 : ¬ t = 51) (h52 : ¬ t = 52) (h68 : ¬ t = 68) (h58 : ¬ t = 58) (h59 : ¬ t = 59) (h30 : ¬ t = 30) (h9 : ¬ t = 9) (h23 : ¬ t = 23) (h188 : ¬ t = 188) (h325 : ¬ t = 325) (h3 : ¬ t = 3) (h33 : ¬ t = 33) (h73 : ¬ t = 73) (h287 : ¬ t = 287) (h205 : ¬ t = 205) (h285 : ¬ t = 285) (h36 : ¬ t = 36) (h37 : ¬ t = 37) (h38 : ¬ t = 38) (h39 : ¬ t = 39) (h32 : ¬ t = 32) (h35 : ¬ t = 35) (h40 : ¬ t = 40) (h45 : ¬ t = 45) (h47 : ¬ t = 47) (h48 : ¬ t = 48) (h43 : ¬ t = 43) (h42 : ¬ t = 42) (h106 : ¬ t = 106) (h112 : ¬ t = 112) (h113 : ¬ t = 113) (h149 : ¬ t = 149) (h90 : ¬ t = 90) (h230 : ¬ t = 230) (h66 : ¬ t = 66) (h135 : ¬ t = 135) (h296 : ¬ t = 296) (h240 : ¬ t = 240) (h293 : ¬ t = 293) (h131 : ¬ t = 131) (h133 : ¬ t = 133) (h137 : ¬ t = 137) (h176 : ¬ t = 176) (h183 : ¬ t = 183) (h260 : ¬ t = 260) (h261 : ¬ t = 261) (h265 : ¬ t = 265) (h246 : ¬ t = 246) (h317 : ¬ t = 317) (h97 : ¬ t = 97) (h1365 : ¬ t = 1365) (h1375 : ¬ t = 1375) (h1376 : ¬ t = 1376) (h1385 : ¬ t = 1385) (h1381 : ¬ t = 1381) (h1383 : ¬ t = 1383) (h1384 : ¬ t = 1384) (h1374 : ¬ t = 1374) (h1382 : ¬ t = 1382) (h1366 : ¬ t = 1366) (h1367 : ¬ t = 1367) (h1368 : ¬ t = 1368) (h1369 : ¬ t = 1369) (h1370 : ¬ t = 1370) (h1371 : ¬ t = 1371) (h1372 : ¬ t = 1372) (h1373 : ¬ t = 1373) (h1386 : ¬ t = 1386) (h1387 : ¬ t = 1387) (h1388 : ¬ t = 1388) (h1389 : ¬ t = 1389) (h1390 : ¬ t = 1390) (h1391 : ¬ t = 1391) (h1392 : ¬ t = 1392) (h1393 : ¬ t = 1393) (h1397 : ¬ t = 1397) (h1398 : ¬ t = 1398) (h1399 : ¬ t = 1399) (h1400 : ¬ t = 1400) (h1396 : ¬ t = 1396) (h1401 : ¬ t = 1401) (a : Ty t) : False := by
 unfold Ty at a
 split at a <;> first | contradiction | exact a.elim
theorem Z0W.four {E : Env} {t : Nat} (h : Z0W U E t) : (∀ a, toV U (U.encS t a) = U.enc t a) /\ (∀ v a, U.Zpw t v = some a -> Z0Y (E.rows t) (toV U v) = U.enc t a) /\ (∀ a, (U.enc t a).cells = ZY U (cellsS (U.encS t a))) /\ (∀ a, Z05 (U.enc t a) = true) := ⟨h.encS, h.dec, h.cells, h.nr⟩
theorem Zt7 (E : Env) (hE : E.rows = rowsOf Tryz.prog) (t : Nat) : (∀ a, toV U (U.encS t a) = U.enc t a) /\ (∀ v a, U.Zpw t v = some a -> Z0Y (E.rows t) (toV U v) = U.enc t a) /\ (∀ a, (U.enc t a).cells = ZY U (cellsS (U.encS t a))) /\ (∀ a, Z05 (U.enc t a) = true) := by
 by_cases h4 : t = 4
 ·subst h4; exact Z0W.four (ZmY hE)
 by_cases h26 : t = 26
 ·subst h26; exact Z0W.four (ZzV hE)
 by_cases h24 : t = 24
 ·subst h24; exact Z0W.four (ZzH hE)
 by_cases h5 : t = 5
 ·subst h5; exact Z0W.four (ZC9 hE)
 by_cases h27 : t = 27
 ·subst h27; exact Z0W.four (Z9A hE)
 by_cases h22 : t = 22
 ·subst h22; exact Z0W.four (Zzu hE)
 by_cases h64 : t = 64
 ·subst h64; exact Z0W.four (ZzW hE)
 by_cases h116 : t = 116
 ·subst h116; exact Z0W.four (Zvv hE)
 by_cases h101 : t = 101
 ·subst h101; exact Z0W.four (Zxn hE)
 by_cases h104 : t = 104
 ·subst h104; exact Z0W.four (ZwU hE)
 by_cases h108 : t = 108
 ·subst h108; exact Z0W.four (ZvS hE)
 by_cases h62 : t = 62
 ·subst h62; exact Z0W.four (ZzO hE)
 by_cases h50 : t = 50
 ·subst h50; exact Z0W.four (Zez hE)
 by_cases h51 : t = 51
 ·subst h51; exact Z0W.four (Z1A hE)
 by_cases h52 : t = 52
 ·subst h52; exact Z0W.four (ZzQ hE)
 by_cases h68 : t = 68
 ·subst h68; exact Z0W.four (Zzn hE)
 by_cases h58 : t = 58
 ·subst h58; exact Z0W.four (ZnX hE)
 by_cases h59 : t = 59
 ·subst h59; exact Z0W.four (ZzJ hE)
 by_cases h30 : t = 30
 ·subst h30; exact Z0W.four (Zzs hE)
 by_cases h9 : t = 9
 ·subst h9; exact Z0W.four (ZBX hE)
 by_cases h23 : t = 23
 ·subst h23; exact Z0W.four (Znl hE)
 by_cases h188 : t = 188
 ·subst h188; exact Z0W.four (ZiF hE)
 by_cases h325 : t = 325
 ·subst h325; exact Z0W.four (Zx6 hE)
 by_cases h3 : t = 3
 ·subst h3; exact Z0W.four (Zmg hE)
 by_cases h33 : t = 33
 ·subst h33; exact Z0W.four (ZnO hE)
 by_cases h73 : t = 73
 ·subst h73; exact Z0W.four (Zzm hE)
 by_cases h287 : t = 287
 ·subst h287; exact Z0W.four (ZxK hE)
 by_cases h205 : t = 205
 ·subst h205; exact Z0W.four (Zvt hE)
 by_cases h285 : t = 285
 ·subst h285; exact Z0W.four (Zxp hE)
 by_cases h36 : t = 36
 ·subst h36; exact Z0W.four (ZzG hE)
 by_cases h37 : t = 37
 ·subst h37; exact Z0W.four (ZzC hE)
 by_cases h38 : t = 38
 ·subst h38; exact Z0W.four (ZnF hE)
 by_cases h39 : t = 39
 ·subst h39; exact Z0W.four (ZzT hE)
 by_cases h32 : t = 32
 ·subst h32; exact Z0W.four (ZzL hE)
 by_cases h35 : t = 35
 ·subst h35; exact Z0W.four (ZzR hE)
 by_cases h40 : t = 40
 ·subst h40; exact Z0W.four (ZzF hE)
 by_cases h45 : t = 45
 ·subst h45; exact Z0W.four (ZzK hE)
 by_cases h47 : t = 47
 ·subst h47; exact Z0W.four (Zzw hE)
 by_cases h48 : t = 48
 ·subst h48; exact Z0W.four (Zzz hE)
 by_cases h43 : t = 43
 ·subst h43; exact Z0W.four (Zzx hE)
 by_cases h42 : t = 42
 ·subst h42; exact Z0W.four (Zeh hE)
 by_cases h106 : t = 106
 ·subst h106; exact Z0W.four (Zif hE)
 by_cases h112 : t = 112
 ·subst h112; exact Z0W.four (Zib hE)
 by_cases h113 : t = 113
 ·subst h113; exact Z0W.four (Zwb hE)
 by_cases h149 : t = 149
 ·subst h149; exact Z0W.four (ZvO hE)
 by_cases h90 : t = 90
 ·subst h90; exact Z0W.four (ZnH hE)
 by_cases h230 : t = 230
 ·subst h230; exact Z0W.four (ZwH hE)
 by_cases h66 : t = 66
 ·subst h66; exact Z0W.four (Zzq hE)
 by_cases h135 : t = 135
 ·subst h135; exact Z0W.four (Zxx hE)
 by_cases h296 : t = 296
 ·subst h296; exact Z0W.four (ZxJ hE)
 by_cases h240 : t = 240
 ·subst h240; exact Z0W.four (ZxB hE)
 by_cases h293 : t = 293
 ·subst h293; exact Z0W.four (Zwf hE)
 by_cases h131 : t = 131
 ·subst h131; exact Z0W.four (ZxP hE)
 by_cases h133 : t = 133
 ·subst h133; exact Z0W.four (Zx1 hE)
 by_cases h137 : t = 137
 ·subst h137; exact Z0W.four (ZxR hE)
 by_cases h176 : t = 176
 ·subst h176; exact Z0W.four (Zx8 hE)
 by_cases h183 : t = 183
 ·subst h183; exact Z0W.four (Zxa hE)
 by_cases h260 : t = 260
 ·subst h260; exact Z0W.four (ZhV hE)
 by_cases h261 : t = 261
 ·subst h261; exact Z0W.four (Zw9 hE)
 by_cases h265 : t = 265
 ·subst h265; exact Z0W.four (Zx7 hE)
 by_cases h246 : t = 246
 ·subst h246; exact Z0W.four (Zwv hE)
 by_cases h317 : t = 317
 ·subst h317; exact Z0W.four (Zwa hE)
 by_cases h97 : t = 97
 ·subst h97; exact Z0W.four (Zzl hE)
 by_cases h1365 : t = 1365
 ·subst h1365; exact ⟨fun a => rfl, (fun v a h => nomatch h), fun a => rfl, fun a => rfl⟩
 by_cases h1375 : t = 1375
 ·subst h1375; exact ⟨fun a => rfl, (fun v a h => nomatch h), fun a => rfl, fun a => rfl⟩
 by_cases h1376 : t = 1376
 ·subst h1376; exact ⟨fun a => rfl, (fun v a h => nomatch h), fun a => rfl, fun a => rfl⟩
 by_cases h1385 : t = 1385
 ·subst h1385; exact ⟨fun a => rfl, (fun v a h => nomatch h), fun a => rfl, fun a => rfl⟩
 by_cases h1381 : t = 1381
 ·subst h1381; exact ⟨fun a => rfl, (fun v a h => nomatch h), fun a => rfl, fun a => rfl⟩
 by_cases h1383 : t = 1383
 ·subst h1383; exact ⟨fun a => rfl, (fun v a h => nomatch h), fun a => rfl, fun a => rfl⟩
 by_cases h1384 : t = 1384
 ·subst h1384; exact ⟨fun a => rfl, (fun v a h => nomatch h), fun a => rfl, fun a => rfl⟩
 by_cases h1374 : t = 1374
 ·subst h1374; exact ⟨fun a => rfl, (fun v a h => nomatch h), fun a => rfl, fun a => rfl⟩
 by_cases h1382 : t = 1382
 ·subst h1382; exact ⟨fun a => rfl, (fun v a h => nomatch h), fun a => rfl, fun a => rfl⟩
 by_cases h1366 : t = 1366
 ·subst h1366; exact ⟨fun a => rfl, (fun v a h => nomatch h), fun a => rfl, fun a => rfl⟩
 by_cases h1367 : t = 1367
 ·subst h1367; exact ⟨fun a => rfl, (fun v a h => nomatch h), fun a => rfl, fun a => rfl⟩
 by_cases h1368 : t = 1368
 ·subst h1368; exact ⟨fun a => rfl, (fun v a h => nomatch h), fun a => rfl, fun a => rfl⟩
 by_cases h1369 : t = 1369
 ·subst h1369; exact ⟨fun a => rfl, (fun v a h => nomatch h), fun a => rfl, fun a => rfl⟩
 by_cases h1370 : t = 1370
 ·subst h1370; exact ⟨fun a => rfl, (fun v a h => nomatch h), fun a => rfl, fun a => rfl⟩
 by_cases h1371 : t = 1371
 ·subst h1371; exact ⟨fun a => rfl, (fun v a h => nomatch h), fun a => rfl, fun a => rfl⟩
 by_cases h1372 : t = 1372
 ·subst h1372; exact ⟨fun a => rfl, (fun v a h => nomatch h), fun a => rfl, fun a => rfl⟩
 by_cases h1373 : t = 1373
 ·subst h1373; exact ⟨fun a => rfl, (fun v a h => nomatch h), fun a => rfl, fun a => rfl⟩
 by_cases h1386 : t = 1386
 ·subst h1386; exact ⟨fun a => rfl, (fun v a h => nomatch h), fun a => rfl, fun a => rfl⟩
 by_cases h1387 : t = 1387
 ·subst h1387; exact ⟨fun a => rfl, (fun v a h => nomatch h), fun a => rfl, fun a => rfl⟩
 by_cases h1388 : t = 1388
 ·subst h1388; exact ⟨fun a => rfl, (fun v a h => nomatch h), fun a => rfl, fun a => rfl⟩
 by_cases h1389 : t = 1389
 ·subst h1389; exact ⟨fun a => rfl, (fun v a h => nomatch h), fun a => rfl, fun a => rfl⟩
 by_cases h1390 : t = 1390
 ·subst h1390; exact ⟨fun a => rfl, (fun v a h => nomatch h), fun a => rfl, fun a => rfl⟩
 by_cases h1391 : t = 1391
 ·subst h1391; exact ⟨fun a => rfl, (fun v a h => nomatch h), fun a => rfl, fun a => rfl⟩
 by_cases h1392 : t = 1392
 ·subst h1392; exact ⟨fun a => rfl, (fun v a h => nomatch h), fun a => rfl, fun a => rfl⟩
 by_cases h1393 : t = 1393
 ·subst h1393; exact ⟨fun a => rfl, (fun v a h => nomatch h), fun a => rfl, fun a => rfl⟩
 by_cases h1397 : t = 1397
 ·subst h1397; exact ⟨fun a => rfl, (fun v a h => nomatch h), fun a => rfl, fun a => rfl⟩
 by_cases h1398 : t = 1398
 ·subst h1398; exact ⟨fun a => rfl, (fun v a h => nomatch h), fun a => rfl, fun a => rfl⟩
 by_cases h1399 : t = 1399
 ·subst h1399; exact ⟨fun a => rfl, (fun v a h => nomatch h), fun a => rfl, fun a => rfl⟩
 by_cases h1400 : t = 1400
 ·subst h1400; exact ⟨fun a => rfl, (fun v a h => nomatch h), fun a => rfl, fun a => rfl⟩
 by_cases h1396 : t = 1396
 ·subst h1396; exact ⟨fun a => rfl, (fun v a h => nomatch h), fun a => rfl, fun a => rfl⟩
 by_cases h1401 : t = 1401
 ·subst h1401; exact ⟨fun a => rfl, (fun v a h => nomatch h), fun a => rfl, fun a => rfl⟩
 have e := fun a => ZyT t h4 h26 h24 h5 h27 h22 h64 h116 h101 h104 h108 h62 h50 h51 h52 h68 h58 h59 h30 h9 h23 h188 h325 h3 h33 h73 h287 h205 h285 h36 h37 h38 h39 h32 h35 h40 h45 h47 h48 h43 h42 h106 h112 h113 h149 h90 h230 h66 h135 h296 h240 h293 h131 h133 h137 h176 h183 h260 h261 h265 h246 h317 h97 h1365 h1375 h1376 h1385 h1381 h1383 h1384 h1374 h1382 h1366 h1367 h1368 h1369 h1370 h1371 h1372 h1373 h1386 h1387 h1388 h1389 h1390 h1391 h1392 h1393 h1397 h1398 h1399 h1400 h1396 h1401 a
 exact ⟨fun a => (e a).elim, fun v a h => (e a).elim, fun a => (e a).elim, fun a => (e a).elim⟩
theorem Zwd (E : Env) (hE : E.rows = rowsOf Tryz.prog) : Z0n U E := by
 refine ⟨fun t => (Zt7 E hE t).1, fun t => (Zt7 E hE t).2.1, fun t => (Zt7 E hE t).2.2.1, fun t => (Zt7 E hE t).2.2.2, ?_⟩
 ·intro t ht
  by_cases h4 : t = 4
  ·subst h4; exact (ZmY hE).inj
  by_cases h26 : t = 26
  ·subst h26; exact (ZzV hE).inj
  by_cases h24 : t = 24
  ·subst h24; exact (ZzH hE).inj
  by_cases h5 : t = 5
  ·subst h5; exact (ZC9 hE).inj
  by_cases h27 : t = 27
  ·subst h27; exact (Z9A hE).inj
  by_cases h22 : t = 22
  ·subst h22; exact (Zzu hE).inj
  by_cases h64 : t = 64
  ·subst h64; exact (ZzW hE).inj
  by_cases h116 : t = 116
  ·subst h116; exact (Zvv hE).inj
  by_cases h101 : t = 101
  ·subst h101; exact (Zxn hE).inj
  by_cases h104 : t = 104
  ·subst h104; exact (ZwU hE).inj
  by_cases h108 : t = 108
  ·subst h108; exact (ZvS hE).inj
  by_cases h62 : t = 62
  ·subst h62; exact (ZzO hE).inj
  by_cases h50 : t = 50
  ·subst h50; exact (Zez hE).inj
  by_cases h51 : t = 51
  ·subst h51; exact (Z1A hE).inj
  by_cases h52 : t = 52
  ·subst h52; exact (ZzQ hE).inj
  by_cases h68 : t = 68
  ·subst h68; exact (Zzn hE).inj
  by_cases h58 : t = 58
  ·subst h58; exact (ZnX hE).inj
  by_cases h59 : t = 59
  ·subst h59; exact (ZzJ hE).inj
  by_cases h30 : t = 30
  ·subst h30; exact (Zzs hE).inj
  by_cases h9 : t = 9
  ·subst h9; exact (ZBX hE).inj
  by_cases h23 : t = 23
  ·subst h23; exact (Znl hE).inj
  by_cases h188 : t = 188
  ·subst h188; exact (ZiF hE).inj
  by_cases h325 : t = 325
  ·subst h325; exact (Zx6 hE).inj
  by_cases h3 : t = 3
  ·subst h3; exact (Zmg hE).inj
  by_cases h33 : t = 33
  ·subst h33; exact (ZnO hE).inj
  by_cases h73 : t = 73
  ·subst h73; exact (Zzm hE).inj
  by_cases h287 : t = 287
  ·subst h287; exact (ZxK hE).inj
  by_cases h205 : t = 205
  ·subst h205; exact (Zvt hE).inj
  by_cases h285 : t = 285
  ·subst h285; exact (Zxp hE).inj
  by_cases h36 : t = 36
  ·subst h36; exact (ZzG hE).inj
  by_cases h37 : t = 37
  ·subst h37; exact (ZzC hE).inj
  by_cases h38 : t = 38
  ·subst h38; exact (ZnF hE).inj
  by_cases h39 : t = 39
  ·subst h39; exact (ZzT hE).inj
  by_cases h32 : t = 32
  ·subst h32; exact (ZzL hE).inj
  by_cases h35 : t = 35
  ·subst h35; exact (ZzR hE).inj
  by_cases h40 : t = 40
  ·subst h40; exact (ZzF hE).inj
  by_cases h45 : t = 45
  ·subst h45; exact (ZzK hE).inj
  by_cases h47 : t = 47
  ·subst h47; exact (Zzw hE).inj
  by_cases h48 : t = 48
  ·subst h48; exact (Zzz hE).inj
  by_cases h43 : t = 43
  ·subst h43; exact (Zzx hE).inj
  by_cases h42 : t = 42
  ·subst h42; exact (Zeh hE).inj
  by_cases h106 : t = 106
  ·subst h106; exact (Zif hE).inj
  by_cases h112 : t = 112
  ·subst h112; exact (Zib hE).inj
  by_cases h113 : t = 113
  ·subst h113; exact (Zwb hE).inj
  by_cases h149 : t = 149
  ·subst h149; exact (ZvO hE).inj
  by_cases h90 : t = 90
  ·subst h90; exact (ZnH hE).inj
  by_cases h230 : t = 230
  ·subst h230; exact (ZwH hE).inj
  by_cases h66 : t = 66
  ·subst h66; exact (Zzq hE).inj
  by_cases h135 : t = 135
  ·subst h135; exact (Zxx hE).inj
  by_cases h296 : t = 296
  ·subst h296; exact (ZxJ hE).inj
  by_cases h240 : t = 240
  ·subst h240; exact (ZxB hE).inj
  by_cases h293 : t = 293
  ·subst h293; exact (Zwf hE).inj
  by_cases h131 : t = 131
  ·subst h131; exact (ZxP hE).inj
  by_cases h133 : t = 133
  ·subst h133; exact (Zx1 hE).inj
  by_cases h137 : t = 137
  ·subst h137; exact (ZxR hE).inj
  by_cases h176 : t = 176
  ·subst h176; exact (Zx8 hE).inj
  by_cases h183 : t = 183
  ·subst h183; exact (Zxa hE).inj
  by_cases h260 : t = 260
  ·subst h260; exact (ZhV hE).inj
  by_cases h261 : t = 261
  ·subst h261; exact (Zw9 hE).inj
  by_cases h265 : t = 265
  ·subst h265; exact (Zx7 hE).inj
  by_cases h246 : t = 246
  ·subst h246; exact (Zwv hE).inj
  by_cases h317 : t = 317
  ·subst h317; exact (Zwa hE).inj
  by_cases h97 : t = 97
  ·subst h97; exact (Zzl hE).inj
  exact absurd ht (by simp [h97, h4, h26, h24, h5, h27, h22, h64, h116, h101, h104, h108, h62, h50, h51, h52, h68, h58, h59, h30, h9, h23, h188, h325, h3, h33, h73, h287, h205, h285, h36, h37, h38, h39, h32, h35, h40, h45, h47, h48, h43, h42, h106, h112, h113, h149, h90, h230, h66, h135, h296, h240, h293, h131, h133, h137, h176, h183, h260, h261, h265, h246, h317])
noncomputable def gl : Nat -> Option (List V) := fun _ => none
theorem Zem : Tryz.prog.follows .mixedOrders = true := by kernel_rfl
noncomputable def noH : FuncId -> List FuncId -> Option (HMod U) := fun _ _ => none
noncomputable def B0 : Env := EV (U := U) Tryz.prog gl 0 (fun _ => none) noH
abbrev MS := {ms : FuncId -> Option (Mod U) // ∀ g m, ms g = some m -> Z1p Tryz.prog B0 g m}
abbrev HS := {hs : FuncId -> List FuncId -> Option (HMod U) // ∀ g k m, hs g k = some m -> Z29 Tryz.prog B0 g m}
noncomputable def msN : MS := ⟨fun _ => none, fun _ _ h => nomatch h⟩
noncomputable def hsN : HS := ⟨fun _ _ => none, fun _ _ _ h => nomatch h⟩
noncomputable def mc {f : FuncId} {m : Mod U} (h : Z1p Tryz.prog B0 f m) (s : MS) : MS := ⟨fun g => bif Nat.beq g f then some m else s.1 g, fun g m' e => by
 cases hb : Nat.beq g f with
 | true => dsimp only at e; rw [hb] at e; cases e; exact (Nat.eq_of_beq_eq_true hb) ▸ h
 | false => dsimp only at e; rw [hb] at e; exact s.2 g m' e⟩
noncomputable def hc {f : FuncId} {m : HMod U} (k : List FuncId) (h : Z29 Tryz.prog B0 f m) (s : HS) : HS := ⟨fun g k' => bif Nat.beq g f && k' == k then some m else s.1 g k', fun g k' m' e => by
 cases hb : (Nat.beq g f && k' == k) with
 | true => dsimp only at e; rw [hb] at e; cases e; exact (Nat.eq_of_beq_eq_true ((Bool.and_eq_true _ _).mp hb).1) ▸ h
 | false => dsimp only at e; rw [hb] at e; exact s.2 g k' m' e⟩
def AN : Nat -> Option Lay := fun _ => none
noncomputable def Z26 (fn : Func) (ts : List Nat) (x : ZjY U ts) : Z14 U := ⟨ZkM fn, [], Zq3 ts x fn.ntmps, false⟩
noncomputable def ZjS (fn : Func) (sh : Shape) (x : sh.X U) : Z14 U := ⟨ZkM fn, [], ZqC (sh.enc x) fn.ntmps, false⟩
noncomputable def spL (fn : Func) (p : List Nat) (L : Lay) (x : L.sh.X U) : Z14 U := spot (ZkM fn) p fn.ntmps L.keep (L.sh.enc x)
abbrev Z28 (f : FuncId) (fn : Func) (ms : MS) (hs : HS) (A : Nat -> Option Lay) (rt : Nat) {Pt : Type} (T : Pt -> Tr U (U.Ty rt ⊕ Pt)) (sp : Pt -> Z14 U) : Prop :=
 ∀ p, Le.ZcN (EV Tryz.prog gl f ms.1 hs.1) (Zs4 ms.1 hs.1) A f fn 0 (ZyM (EV Tryz.prog gl f ms.1 hs.1) fn) 1000 (.run (sp p).c) (sp p).K (sp p).st (sp p).sk = (T p).map (Znt (outP (U := U) rt) sp)
abbrev Zk6 (f : FuncId) (fn : Func) (ms : MS) (hs : HS) (A : Nat -> Option Lay) (fa : List (List Fk)) (fb : List Bf) (k : Nat) (m : HMod U) {Pt : Type} (T : Pt -> Tr U (U.Ty m.ky ⊕ Pt)) (sp : Pt -> Z14 U) : Prop :=
 ∀ p, Le.ZcN (EV Tryz.prog gl f ms.1 hs.1) (Zs4 ms.1 hs.1) A f fn k (ZyH (EV Tryz.prog gl f ms.1 hs.1) fn fa fb k m.ZtF m.one) 1000 (.run (sp p).c) (sp p).K (sp p).st (sp p).sk = (T p).map (Znt m.out sp)
theorem okP {f : FuncId} {fn : Func} {ms : MS} {hs : HS} {A : Nat -> Option Lay} {m : Mod U} {Pt : Type} {T : Pt -> Tr U (U.Ty m.rt ⊕ Pt)} {sp : Pt -> Z14 U} (h : Z28 f fn ms hs A m.rt T sp) (b0 : ZjY U m.ts -> Pt)
  (hc : Z5L (EV Tryz.prog gl f ms.1 hs.1) f (ZkM fn) = true) (hfn : Tryz.prog.funcs[f]? = some fn) (hn : (fn.name == "runtime.NumGoroutine") = false) (hb : fn.body = some (ZkM fn))
  (hm : ∀ x, m.fn x = ZT T (b0 x)) (hsp : ∀ x, sp (b0 x) = Z26 fn m.ts x) : Z1p Tryz.prog B0 f m :=
 ZyW rfl (Zwd _ rfl) Zem ms.2 hs.2 hfn hn hb hc m T sp h b0 hm hsp
theorem okH {f : FuncId} {fn : Func} {ms : MS} {hs : HS} {A : Nat -> Option Lay} {fa : List (List Fk)} {fb : List Bf} {k : Nat} {m : HMod U} {Pt : Type} {T : Pt -> Tr U (U.Ty m.ky ⊕ Pt)} {sp : Pt -> Z14 U} (h : Zk6 f fn ms hs A fa fb k m T sp) (b0 : m.sin.X U -> Pt)
  (hk : ∀ x : m.sin.X U, (m.sin.enc x).2.length = k) (hc : Z5L (EV Tryz.prog gl f ms.1 hs.1) f (ZkM fn) = true) (hfn : Tryz.prog.funcs[f]? = some fn) (hn : (fn.name == "runtime.NumGoroutine") = false) (hb : fn.body = some (ZkM fn))
  (hm : ∀ x : m.sin.X U, m.fn x = ZT T (b0 x)) (hsp : ∀ x : m.sin.X U, sp (b0 x) = ZjS fn m.sin x) : Z29 Tryz.prog B0 f m :=
 Zxy rfl (Zwd _ rfl) Zem ms.2 hs.2 hfn hn hb hc m hk T sp h b0 hm hsp
abbrev k0 : List Fk := [.keep, .keep, .keep, .keep, .keep, .keep, .keep, .keep, .keep, .s 5 1]
abbrev k1 : List Fk := [.keep, .keep, .keep, .keep, .keep, .keep, .keep, .keep, .keep, .keep, .keep, .keep, .keep, .keep, .keep, .keep, .keep, .keep, .keep, .keep, .own 22 1, .own 64 3, .own 116 3, .s 101 10, .s 104 11, .keep, .own 108 18, .own 22 1, .keep, .keep, .keep, .keep, .keep, .keep, .keep, .keep, .keep, .keep, .keep, .own 22 1, .keep, .keep, .keep, .own 62 3, .keep, .keep, .keep, .keep]
abbrev k2 : List Fk := [.keep, .keep, .keep, .keep, .keep, .keep, .keep, .keep, .keep, .keep, .keep, .keep, .keep, .keep, .keep, .keep, .keep, .keep, .keep, .keep, .own 22 1, .own 64 3, .own 116 3, .own 101 10, .own 104 11, .keep, .own 108 18, .own 22 1, .keep, .keep, .keep, .keep, .keep, .keep, .keep, .keep, .keep, .keep, .keep, .own 22 1, .keep, .keep, .keep, .own 62 3, .keep, .keep, .keep, .keep]
abbrev k3 : List Fk := [.keep, .keep, .keep]
abbrev k4 : List Fk := [.keep, .keep, .keep, .keep, .keep, .keep, .keep, .s 5 1]
abbrev k5 : List Fk := [.keep, .keep, .keep, .keep, .keep, .keep, .keep, .keep, .keep, .keep, .keep, .keep, .keep, .keep, .keep, .keep, .keep, .keep, .keep, .keep, .own 22 1, .s 64 3, .own 116 3, .own 101 10, .own 104 11, .keep, .own 108 18, .own 22 1, .keep, .keep, .keep, .keep, .keep, .keep, .keep, .keep, .keep, .keep, .keep, .own 22 1, .keep, .keep, .keep, .own 62 3, .keep, .keep, .keep, .keep]
abbrev k6 : List Fk := [.keep, .keep, .keep, .keep, .keep, .keep, .keep, .keep, .keep, .keep, .keep, .keep, .keep, .keep, .keep, .keep, .keep, .keep, .keep, .keep, .s 22 1, .s 64 3, .s 116 3, .s 101 10, .s 104 11, .keep, .s 108 18, .s 22 1, .keep, .keep, .keep, .keep, .keep, .keep, .keep, .keep, .keep, .keep, .keep, .s 22 1, .keep, .keep, .keep, .s 62 3, .keep, .keep]
abbrev k7 : List Fk := [.keep, .keep, .keep, .keep, .keep, .keep, .keep, .s 5 1, .keep, .keep, .keep, .keep, .keep, .keep]
abbrev k8 : List Fk := [.keep, .keep, .keep, .keep, .keep, .keep, .keep, .keep, .keep, .keep, .keep, .keep, .keep, .keep, .keep, .keep, .keep, .keep, .keep, .keep, .own 22 1, .own 64 3, .own 116 3, .own 101 10, .own 104 11, .keep, .own 108 18, .own 22 1, .keep, .keep, .keep, .keep, .keep, .keep, .keep, .keep, .keep, .keep, .keep, .own 22 1, .keep, .keep, .keep, .own 62 3, .keep, .keep]
abbrev k9 : List Fk := [.keep, .keep, .keep, .keep, .keep, .keep]
abbrev k10 : List Fk := [.keep, .keep, .keep, .keep, .keep]
abbrev k11 : List Fk := [.keep, .keep, .keep, .keep, .keep, .keep, .keep, .keep, .keep, .keep, .keep, .keep, .keep, .keep, .keep, .keep, .keep, .keep, .keep, .keep, .own 22 1, .s 64 3, .s 116 3, .s 101 10, .s 104 11, .keep, .own 108 18, .own 22 1, .keep, .keep, .keep, .keep, .keep, .keep, .keep, .keep, .keep, .keep, .keep, .own 22 1, .keep, .keep, .keep, .own 62 3, .keep, .keep, .keep, .keep]
abbrev k12 : List Fk := [.keep, .keep, .keep, .keep, .keep, .keep, .keep, .own 5 1, .keep, .keep, .keep, .keep, .keep, .keep]
abbrev k13 : List Fk := [.keep, .keep, .keep, .keep, .keep, .keep, .keep]
abbrev k14 : List Fk := [.keep, .keep, .keep, .keep, .keep, .own 27 1, .keep, .keep, .keep, .keep]
abbrev k15 : List Fk := [.keep, .keep, .keep, .keep, .keep, .keep, .keep, .keep, .keep, .keep, .keep, .keep, .s 5 1]
end Go.Proofs.YtefmbgacbhifdaaGreat
