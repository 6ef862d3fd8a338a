/-
  A part of the proof.
-/
import Derived.Test.YtjodhcdmhobmoaaGreatDoorL6
import Derived.Test.YtjodhcdmhobmoaaGreatDoorProg
import Derived.KernelRfl
set_option linter.unusedVariables false
set_option linter.unusedSimpArgs false
namespace Go.Proofs.YtjodhcdmhobmoaaGreatDoor
open Go Go.Proofs.YtjodhcdmhobmoaaGreatDoor.Le
set_option maxRecDepth 100000
structure ZM where
 Z1E:Int
 Z0r:Int
 Z0j:Int
 Z0o:Int
 Z1g:Int
@[reducible] def Zr:ZM:=⟨(0:Int),(0:Int),(0:Int),(0:Int),(0:Int)⟩
structure Zy where
 Z3W:Int
 ZOI:Int
 Zt:ZM
 Map:Int
 Hop:Int
 PPM:Int
 Z2K:Int
@[reducible] def Zdw:Zy:=⟨(0:Int),(0:Int),Zr,(0:Int),(0:Int),(0:Int),(0:Int)⟩
structure ZM3 where
 x0:Int
 x1:Int
structure Zd where
 Z5f:Int
 Payload:List Int
structure Z22 where
 Side:Int
 Kind:Int
 ZF:Zd
 Zt:ZM
 Map:Int
 Number:Int
 Key:Int
structure Zq where
 ZOg:List Z22
 ZQK:Int
 ZQB:Int
structure Z01 where
 ZN:Zy
 Keys:ZM3
 Zld:Int
 Events:List Zq
 Z1z:Int
 ZF:Int
structure ZK where
 SN:Int
 Zda:Int
 Zu:List Zd
 Open:Bool
 Empty:Bool
 Z1U:Int
 Taken:Int
@[reducible] def Z4y:ZK:=⟨(0:Int),(0:Int),[],false,false,(0:Int),(0:Int)⟩
structure Zk where
 Z0o:Int
 Z3y:Int
 Full:Bool
@[reducible] def ZoJ:Zk:=⟨(0:Int),(0:Int),false⟩
structure Z4 where
 Kind:Int
 Zt:ZM
 Map:Int
 ZQ:Int
 Z05:Int
 Z13:Int
 Z5R:Int
 Mark:Int
 ZZ:Int
 Version:Int
 Length:Int
@[reducible] def Z0x:Z4:=⟨(0:Int),Zr,(0:Int),(0:Int),(0:Int),(0:Int),(0:Int),(0:Int),(0:Int),(0:Int),(0:Int)⟩
structure Z8 where
 Kind:Int
 ZQ:Int
 Zt:ZM
 Map:Int
@[reducible] def Z0A:Z8:=⟨(0:Int),(0:Int),Zr,(0:Int)⟩
structure Z7 where
 Z1z:Int
 Own:Int
 Since:Int
 Zf:List Z4
 Other:Int
 Z0C:Int
 Zo:List Z8
 Told:Bool
 ZZ:Int
 Z4Y:Int
 Z74:Bool
 Z0q:Bool
 Version:Int
 Length:Int
 Limit:Int
 Z5R:Int
 Zpv:Int
 Mark:Int
 Z29:Int
 Z1n:Int
@[reducible] def ZI:Z7:=⟨(0:Int),(0:Int),(0:Int),[],(0:Int),(0:Int),[],false,(0:Int),(0:Int),false,false,(0:Int),(0:Int),(0:Int),(0:Int),(0:Int),(0:Int),(0:Int),(0:Int)⟩
structure Zv where
 Z1z:Int
 Key:Int
 Z5R:Int
 ZP1:Bool
 ZOj:Bool
 Tx:Int
 Rx:Int
@[reducible] def Z31:Zv:=⟨(0:Int),(0:Int),(0:Int),false,false,(0:Int),(0:Int)⟩
structure Zj where
 Good:Int
 Bad:Int
structure Z9 where
 Z1z:Int
 ZN:Zy
 Clock:Int
 Event:Int
 Last:Int
 Z19:Int
 Size:Int
 Sync:Int
 Z2W:Int
 Z2C:Bool
 Got:Bool
 Good:Bool
 Z1U:Bool
 More:Bool
 Arq:ZK
 Z0y:Zk
 Ze:Z7
 Z0h:Zv
 Key:Int
 Zw:List Zj
 Zb:List Z4
 Z05:Int
 Zld:Int
@[reducible] def ZH:Z9:=⟨(0:Int),Zdw,(0:Int),(0:Int),(0:Int),(0:Int),(0:Int),(0:Int),(0:Int),false,false,false,false,false,Z4y,ZoJ,ZI,Z31,(0:Int),[],[],(0:Int),(0:Int)⟩
structure Z5 where
 Kind:Int
 Event:Int
 ZF:Zd
 Z6Z:Z8
 Number:Int
 Zt:ZM
structure ZT where
 x0:Z9
 x1:Z9
structure Z4b where
 Start:Int
 End:Int
structure Zn where
 SN:Int
 Zda:Int
 MD:Int
 ZF:Zd
@[reducible] def Z15:Zn:=⟨(0:Int),(0:Int),(0:Int),(⟨(0:Int),[]⟩:Zd)⟩
structure Zg where
 Z74:Bool
 Zt:Bool
 Map:Bool
 ZQ:Bool
 Z05:Bool
 Z13:Bool
 Z5R:Bool
 Mark:Bool
 ZZ:Bool
 Version:Bool
 Length:Bool
@[reducible] def Z0w:Zg:=⟨false,false,false,false,false,false,false,false,false,false,false⟩
structure ZE where
 Link:Z9
 Zz:List Z5
structure Zm where
 Ze:Z7
 Z2B:Int
 Z6c:Int
 f_out:List Z4
 ZR:List Z5
structure Zc7 where
 SN:Int
 Zda:Int
 Open:Bool
 Empty:Bool
 Z1U:Int
 Taken:Int
structure Z3U where
 Z1z:Int
 Own:Int
 Since:Int
 Other:Int
 Z0C:Int
 Told:Bool
 ZZ:Int
 Z4Y:Int
 Z74:Bool
 Z0q:Bool
 Version:Int
 Length:Int
 Limit:Int
 Z5R:Int
 Zpv:Int
 Mark:Int
 Z29:Int
 Z1n:Int
structure Z8B where
 Z1z:Int
 ZN:Zy
 Clock:Int
 Event:Int
 Last:Int
 Z19:Int
 Size:Int
 Sync:Int
 Z2W:Int
 Z2C:Bool
 Got:Bool
 Good:Bool
 Z1U:Bool
 More:Bool
 Arq:Zc7
 Z0y:Zk
 Ze:Z3U
 Z0h:Zv
 Key:Int
 Z05:Int
 Zld:Int
structure Z0N where
 Link:Z8B
structure Z1m where
 Ze:Z3U
 Z2B:Int
 Z6c:Int
structure Z1r where
 q0:List Int
structure Z0u where
 q0:List Z4
structure Z0B where
 q0:List Z8
structure Z1P where
 q0:List Zj
structure Z1C where
 q0:List Int
structure Z2U where
 q0:List Int
structure Z4H where
 q0:List Int
structure Z5y where
 q0:List Int
structure Z3N where
 q0:List Int
structure Z2z where
 q0:Zm
structure Z0T where
 q0:Zm
structure Z11 where
 q0:Zm
structure Z6x where
 q0:ZE
structure Z21 where
 q0:ZE
 q1:List Zj
structure Z3q where
 q0:List Zj
structure Z1p where
 q0:ZE
structure Z10 where
 q0:ZE
 q1:List Z5
structure Z0p where
 q0:Int
 q1:ZE
structure Z20 where
 q0:ZE
@[reducible] def Ty:Nat->Type
 | 1344=>Z1r
 | 1345=>Z0u
 | 1346=>Z0B
 | 1347=>Z1P
 | 1349=>Z1C
 | 1351=>Z2U
 | 1352=>Z4H
 | 1350=>Z5y
 | 1348=>Z3N
 | 1363=>Z2z
 | 1366=>Z0T
 | 1365=>Z11
 | 1353=>Z6x
 | 1354=>Z21
 | 1367=>Z3q
 | 1359=>Z1p
 | 1360=>Z10
 | 1361=>Z0p
 | 1362=>Z20
 | 115=>Z0N
 | 206=>Z1m
 | 4=>Bool
 | 5=>Int
 | 83=>Z22
 | 113=>Zq
 | 59=>Z01
 | 3=>Int
 | 68=>Zd
 | 156=>Z4
 | 138=>Z8
 | 99=>Zj
 | 44=>Z9
 | 60=>Z9×Int×Bool
 | 148=>Z5
 | 77=>List Z5
 | 78=>Z9×(List Z5)
 | 31=>List Zd
 | 39=>Z7
 | 36=>List Z4
 | 62=>List Int
 | 37=>List Z8
 | 42=>List Zj
 | 109=>ZT
 | 45=>Int
 | 46=>Z9×Int
 | 110=>ZT×Int
 | 28=>Zy
 | 29=>Int
 | 25=>Int
 | 52=>Z4b
 | 33=>ZK
 | 35=>Zk
 | 24=>ZM
 | 26=>Int
 | 226=>List Int
 | 63=>Z9×(List Int)
 | 86=>Z9×(List Z5)×Bool
 | 70=>Zn
 | 75=>ZK×Zn
 | 71=>Zn×Int
 | 120=>(List Int)×Int
 | 104=>Int×Int
 | 30=>Int
 | 22=>Int
 | 189=>ZK×Int
 | 262=>Zg
 | 41=>Zv
 | 129=>Zk×Int
 | 135=>Z7×(List Z8)
 | 140=>Z7×(List Z4)
 | 208=>(List Z8)×(List Z8)
 | 216=>Z7×Z4
 | 269=>(List Z8)×Int
 | 222=>Z7×(List Z4)×Int
 | 9=>ByteArray
 | 254=>List Int
 | 163=>ZK×Zd×Bool×Bool
 | 231=>Z4×Int
 | 233=>Z7×(List Z5)
 | 237=>Z7×(List Z4)×(List Z5)
 | _=>Empty
abbrev cu8:Za Ty Int:=Za.int .u8
abbrev ZMG:Za Ty Int:=Za.int .u16
abbrev ZOk:Za Ty Int:=Za.int .u32
abbrev Z5S:Za Ty Int:=Za.int .u64
abbrev Z06:Za Ty Int:=Za.int .i64
abbrev cbo:Za Ty Bool:=Za.bool
abbrev cst:Za Ty ByteArray:=Za.str
def ZlP:Za Ty Zd:=Za.iso (fun x=>(x.Z5f,x.Payload,())) (fun p=>⟨p.1,p.2.1⟩) (Za.pair Z06 (Za.pair (Za.list 5 1 (fun(a:Int)=>cu8.ZU a):Za Ty (List (Ty 5))) Za.unit))
def ZIV:Za Ty ZM:=Za.iso (fun x=>(x.Z1E,x.Z0r,x.Z0j,x.Z0o,x.Z1g,())) (fun p=>⟨p.1,p.2.1,p.2.2.1,p.2.2.2.1,p.2.2.2.2.1⟩) (Za.pair Z06 (Za.pair Z06 (Za.pair Z06 (Za.pair Z06 (Za.pair Z06 Za.unit)))))
def ZOo:Za Ty Z22:=Za.iso (fun x=>(x.Side,x.Kind,x.ZF,x.Zt,x.Map,x.Number,x.Key,())) (fun p=>⟨p.1,p.2.1,p.2.2.1,p.2.2.2.1,p.2.2.2.2.1,p.2.2.2.2.2.1,p.2.2.2.2.2.2.1⟩) (Za.pair Z06 (Za.pair Z06 (Za.pair ZlP (Za.pair ZIV (Za.pair Z5S (Za.pair Z5S (Za.pair Z5S Za.unit)))))))
def Zyz:Za Ty Zq:=Za.iso (fun x=>(x.ZOg,x.ZQK,x.ZQB,())) (fun p=>⟨p.1,p.2.1,p.2.2.1⟩) (Za.pair (Za.list 83 12 (fun(a:Z22)=>.agg (ZOo.ZJ a)):Za Ty (List (Ty 83))) (Za.pair Z06 (Za.pair Z06 Za.unit)))
def ZNj:Za Ty Zy:=Za.iso (fun x=>(x.Z3W,x.ZOI,x.Zt,x.Map,x.Hop,x.PPM,x.Z2K,())) (fun p=>⟨p.1,p.2.1,p.2.2.1,p.2.2.2.1,p.2.2.2.2.1,p.2.2.2.2.2.1,p.2.2.2.2.2.2.1⟩) (Za.pair ZOk (Za.pair ZOk (Za.pair ZIV (Za.pair Z5S (Za.pair Z06 (Za.pair Z06 (Za.pair Z06 Za.unit)))))))
def ZSz:Za Ty ZM3:=Za.iso (fun x=>(x.x0,x.x1,())) (fun p=>⟨p.1,p.2.1⟩) (Za.pair Z5S (Za.pair Z5S Za.unit))
def ZQF:Za Ty Z01:=Za.iso (fun x=>(x.ZN,x.Keys,x.Zld,x.Events,x.Z1z,x.ZF,())) (fun p=>⟨p.1,p.2.1,p.2.2.1,p.2.2.2.1,p.2.2.2.2.1,p.2.2.2.2.2.1⟩) (Za.pair ZNj (Za.pair ZSz (Za.pair Z5S (Za.pair (Za.list 113 3 (fun(a:Zq)=>.agg (Zyz.ZJ a)):Za Ty (List (Ty 113))) (Za.pair Z06 (Za.pair Z06 Za.unit))))))
def Z14:Za Ty Z4:=Za.iso (fun x=>(x.Kind,x.Zt,x.Map,x.ZQ,x.Z05,x.Z13,x.Z5R,x.Mark,x.ZZ,x.Version,x.Length,())) (fun p=>⟨p.1,p.2.1,p.2.2.1,p.2.2.2.1,p.2.2.2.2.1,p.2.2.2.2.2.1,p.2.2.2.2.2.2.1,p.2.2.2.2.2.2.2.1,p.2.2.2.2.2.2.2.2.1,p.2.2.2.2.2.2.2.2.2.1,p.2.2.2.2.2.2.2.2.2.2.1⟩) (Za.pair Z06 (Za.pair ZIV (Za.pair Z5S (Za.pair ZMG (Za.pair Z06 (Za.pair Z06 (Za.pair Z5S (Za.pair Z5S (Za.pair Z5S (Za.pair Z06 (Za.pair Z06 Za.unit)))))))))))
def Z1B:Za Ty Z8:=Za.iso (fun x=>(x.Kind,x.ZQ,x.Zt,x.Map,())) (fun p=>⟨p.1,p.2.1,p.2.2.1,p.2.2.2.1⟩) (Za.pair Z06 (Za.pair ZMG (Za.pair ZIV (Za.pair Z5S Za.unit))))
def ZIX:Za Ty Zj:=Za.iso (fun x=>(x.Good,x.Bad,())) (fun p=>⟨p.1,p.2.1⟩) (Za.pair Z06 (Za.pair Z06 Za.unit))
def Zeq:Za Ty ZK:=Za.iso (fun x=>(x.SN,x.Zda,x.Zu,x.Open,x.Empty,x.Z1U,x.Taken,())) (fun p=>⟨p.1,p.2.1,p.2.2.1,p.2.2.2.1,p.2.2.2.2.1,p.2.2.2.2.2.1,p.2.2.2.2.2.2.1⟩) (Za.pair Z06 (Za.pair Z06 (Za.pair (Za.list 68 2 (fun(a:Zd)=>.agg (ZlP.ZJ a)):Za Ty (List (Ty 68))) (Za.pair cbo (Za.pair cbo (Za.pair Z06 (Za.pair Z06 Za.unit)))))))
def ZB4:Za Ty Zk:=Za.iso (fun x=>(x.Z0o,x.Z3y,x.Full,())) (fun p=>⟨p.1,p.2.1,p.2.2.1⟩) (Za.pair Z06 (Za.pair Z06 (Za.pair cbo Za.unit)))
def Z4x:Za Ty Z7:=Za.iso (fun x=>(x.Z1z,x.Own,x.Since,x.Zf,x.Other,x.Z0C,x.Zo,x.Told,x.ZZ,x.Z4Y,x.Z74,x.Z0q,x.Version,x.Length,x.Limit,x.Z5R,x.Zpv,x.Mark,x.Z29,x.Z1n,())) (fun p=>⟨p.1,p.2.1,p.2.2.1,p.2.2.2.1,p.2.2.2.2.1,p.2.2.2.2.2.1,p.2.2.2.2.2.2.1,p.2.2.2.2.2.2.2.1,p.2.2.2.2.2.2.2.2.1,p.2.2.2.2.2.2.2.2.2.1,p.2.2.2.2.2.2.2.2.2.2.1,p.2.2.2.2.2.2.2.2.2.2.2.1,p.2.2.2.2.2.2.2.2.2.2.2.2.1,p.2.2.2.2.2.2.2.2.2.2.2.2.2.1,p.2.2.2.2.2.2.2.2.2.2.2.2.2.2.1,p.2.2.2.2.2.2.2.2.2.2.2.2.2.2.2.1,p.2.2.2.2.2.2.2.2.2.2.2.2.2.2.2.2.1,p.2.2.2.2.2.2.2.2.2.2.2.2.2.2.2.2.2.1,p.2.2.2.2.2.2.2.2.2.2.2.2.2.2.2.2.2.2.1,p.2.2.2.2.2.2.2.2.2.2.2.2.2.2.2.2.2.2.2.1⟩) (Za.pair Z06 (Za.pair Z06 (Za.pair Z06 (Za.pair (Za.list 156 15 (fun(a:Z4)=>.agg (Z14.ZJ a)):Za Ty (List (Ty 156))) (Za.pair Z06 (Za.pair Z06 (Za.pair (Za.list 138 8 (fun(a:Z8)=>.agg (Z1B.ZJ a)):Za Ty (List (Ty 138))) (Za.pair cbo (Za.pair Z5S (Za.pair Z5S (Za.pair cbo (Za.pair cbo (Za.pair Z06 (Za.pair Z06 (Za.pair Z06 (Za.pair Z5S (Za.pair Z5S (Za.pair Z5S (Za.pair Z06 (Za.pair Z06 Za.unit))))))))))))))))))))
def ZQG:Za Ty Zv:=Za.iso (fun x=>(x.Z1z,x.Key,x.Z5R,x.ZP1,x.ZOj,x.Tx,x.Rx,())) (fun p=>⟨p.1,p.2.1,p.2.2.1,p.2.2.2.1,p.2.2.2.2.1,p.2.2.2.2.2.1,p.2.2.2.2.2.2.1⟩) (Za.pair Z06 (Za.pair Z5S (Za.pair Z5S (Za.pair cbo (Za.pair cbo (Za.pair Z5S (Za.pair Z5S Za.unit)))))))
def Z61:Za Ty Z9:=Za.iso (fun x=>(x.Z1z,x.ZN,x.Clock,x.Event,x.Last,x.Z19,x.Size,x.Sync,x.Z2W,x.Z2C,x.Got,x.Good,x.Z1U,x.More,x.Arq,x.Z0y,x.Ze,x.Z0h,x.Key,x.Zw,x.Zb,x.Z05,x.Zld,())) (fun p=>⟨p.1,p.2.1,p.2.2.1,p.2.2.2.1,p.2.2.2.2.1,p.2.2.2.2.2.1,p.2.2.2.2.2.2.1,p.2.2.2.2.2.2.2.1,p.2.2.2.2.2.2.2.2.1,p.2.2.2.2.2.2.2.2.2.1,p.2.2.2.2.2.2.2.2.2.2.1,p.2.2.2.2.2.2.2.2.2.2.2.1,p.2.2.2.2.2.2.2.2.2.2.2.2.1,p.2.2.2.2.2.2.2.2.2.2.2.2.2.1,p.2.2.2.2.2.2.2.2.2.2.2.2.2.2.1,p.2.2.2.2.2.2.2.2.2.2.2.2.2.2.2.1,p.2.2.2.2.2.2.2.2.2.2.2.2.2.2.2.2.1,p.2.2.2.2.2.2.2.2.2.2.2.2.2.2.2.2.2.1,p.2.2.2.2.2.2.2.2.2.2.2.2.2.2.2.2.2.2.1,p.2.2.2.2.2.2.2.2.2.2.2.2.2.2.2.2.2.2.2.1,p.2.2.2.2.2.2.2.2.2.2.2.2.2.2.2.2.2.2.2.2.1,p.2.2.2.2.2.2.2.2.2.2.2.2.2.2.2.2.2.2.2.2.2.1,p.2.2.2.2.2.2.2.2.2.2.2.2.2.2.2.2.2.2.2.2.2.2.1⟩) (Za.pair Z06 (Za.pair ZNj (Za.pair Z06 (Za.pair ZMG (Za.pair Z06 (Za.pair Z06 (Za.pair Z06 (Za.pair Z06 (Za.pair Z06 (Za.pair cbo (Za.pair cbo (Za.pair cbo (Za.pair cbo (Za.pair cbo (Za.pair Zeq (Za.pair ZB4 (Za.pair Z4x (Za.pair ZQG (Za.pair Z5S (Za.pair (Za.list 99 2 (fun(a:Zj)=>.agg (ZIX.ZJ a)):Za Ty (List (Ty 99))) (Za.pair (Za.list 156 15 (fun(a:Z4)=>.agg (Z14.ZJ a)):Za Ty (List (Ty 156))) (Za.pair Z06 (Za.pair Z5S Za.unit)))))))))))))))))))))))
def Z1O:Za Ty Z5:=Za.iso (fun x=>(x.Kind,x.Event,x.ZF,x.Z6Z,x.Number,x.Zt,())) (fun p=>⟨p.1,p.2.1,p.2.2.1,p.2.2.2.1,p.2.2.2.2.1,p.2.2.2.2.2.1⟩) (Za.pair Z06 (Za.pair ZMG (Za.pair ZlP (Za.pair Z1B (Za.pair Z5S (Za.pair ZIV Za.unit))))))
def ZkE:Za Ty ZT:=Za.iso (fun x=>(x.x0,x.x1,())) (fun p=>⟨p.1,p.2.1⟩) (Za.pair Z61 (Za.pair Z61 Za.unit))
def ZSy:Za Ty Z4b:=Za.iso (fun x=>(x.Start,x.End,())) (fun p=>⟨p.1,p.2.1⟩) (Za.pair Z06 (Za.pair Z06 Za.unit))
def Zon:Za Ty Zn:=Za.iso (fun x=>(x.SN,x.Zda,x.MD,x.ZF,())) (fun p=>⟨p.1,p.2.1,p.2.2.1,p.2.2.2.1⟩) (Za.pair Z06 (Za.pair Z06 (Za.pair Z06 (Za.pair ZlP Za.unit))))
def ZNl:Za Ty Zg:=Za.iso (fun x=>(x.Z74,x.Zt,x.Map,x.ZQ,x.Z05,x.Z13,x.Z5R,x.Mark,x.ZZ,x.Version,x.Length,())) (fun p=>⟨p.1,p.2.1,p.2.2.1,p.2.2.2.1,p.2.2.2.2.1,p.2.2.2.2.2.1,p.2.2.2.2.2.2.1,p.2.2.2.2.2.2.2.1,p.2.2.2.2.2.2.2.2.1,p.2.2.2.2.2.2.2.2.2.1,p.2.2.2.2.2.2.2.2.2.2.1⟩) (Za.pair cbo (Za.pair cbo (Za.pair cbo (Za.pair cbo (Za.pair cbo (Za.pair cbo (Za.pair cbo (Za.pair cbo (Za.pair cbo (Za.pair cbo (Za.pair cbo Za.unit)))))))))))
def ZSf:Za Ty Zc7:=Za.iso (fun x=>(x.SN,x.Zda,(),x.Open,x.Empty,x.Z1U,x.Taken,())) (fun p=>⟨p.1,p.2.1,p.2.2.2.1,p.2.2.2.2.1,p.2.2.2.2.2.1,p.2.2.2.2.2.2.1⟩) (Za.pair Z06 (Za.pair Z06 (Za.pair Za.skip (Za.pair cbo (Za.pair cbo (Za.pair Z06 (Za.pair Z06 Za.unit)))))))
def ZPi:Za Ty Z3U:=Za.iso (fun x=>(x.Z1z,x.Own,x.Since,(),x.Other,x.Z0C,(),x.Told,x.ZZ,x.Z4Y,x.Z74,x.Z0q,x.Version,x.Length,x.Limit,x.Z5R,x.Zpv,x.Mark,x.Z29,x.Z1n,())) (fun p=>⟨p.1,p.2.1,p.2.2.1,p.2.2.2.2.1,p.2.2.2.2.2.1,p.2.2.2.2.2.2.2.1,p.2.2.2.2.2.2.2.2.1,p.2.2.2.2.2.2.2.2.2.1,p.2.2.2.2.2.2.2.2.2.2.1,p.2.2.2.2.2.2.2.2.2.2.2.1,p.2.2.2.2.2.2.2.2.2.2.2.2.1,p.2.2.2.2.2.2.2.2.2.2.2.2.2.1,p.2.2.2.2.2.2.2.2.2.2.2.2.2.2.1,p.2.2.2.2.2.2.2.2.2.2.2.2.2.2.2.1,p.2.2.2.2.2.2.2.2.2.2.2.2.2.2.2.2.1,p.2.2.2.2.2.2.2.2.2.2.2.2.2.2.2.2.2.1,p.2.2.2.2.2.2.2.2.2.2.2.2.2.2.2.2.2.2.1,p.2.2.2.2.2.2.2.2.2.2.2.2.2.2.2.2.2.2.2.1⟩) (Za.pair Z06 (Za.pair Z06 (Za.pair Z06 (Za.pair Za.skip (Za.pair Z06 (Za.pair Z06 (Za.pair Za.skip (Za.pair cbo (Za.pair Z5S (Za.pair Z5S (Za.pair cbo (Za.pair cbo (Za.pair Z06 (Za.pair Z06 (Za.pair Z06 (Za.pair Z5S (Za.pair Z5S (Za.pair Z5S (Za.pair Z06 (Za.pair Z06 Za.unit))))))))))))))))))))
def ZRZ:Za Ty Z8B:=Za.iso (fun x=>(x.Z1z,x.ZN,x.Clock,x.Event,x.Last,x.Z19,x.Size,x.Sync,x.Z2W,x.Z2C,x.Got,x.Good,x.Z1U,x.More,x.Arq,x.Z0y,x.Ze,x.Z0h,x.Key,(),(),x.Z05,x.Zld,())) (fun p=>⟨p.1,p.2.1,p.2.2.1,p.2.2.2.1,p.2.2.2.2.1,p.2.2.2.2.2.1,p.2.2.2.2.2.2.1,p.2.2.2.2.2.2.2.1,p.2.2.2.2.2.2.2.2.1,p.2.2.2.2.2.2.2.2.2.1,p.2.2.2.2.2.2.2.2.2.2.1,p.2.2.2.2.2.2.2.2.2.2.2.1,p.2.2.2.2.2.2.2.2.2.2.2.2.1,p.2.2.2.2.2.2.2.2.2.2.2.2.2.1,p.2.2.2.2.2.2.2.2.2.2.2.2.2.2.1,p.2.2.2.2.2.2.2.2.2.2.2.2.2.2.2.1,p.2.2.2.2.2.2.2.2.2.2.2.2.2.2.2.2.1,p.2.2.2.2.2.2.2.2.2.2.2.2.2.2.2.2.2.1,p.2.2.2.2.2.2.2.2.2.2.2.2.2.2.2.2.2.2.1,p.2.2.2.2.2.2.2.2.2.2.2.2.2.2.2.2.2.2.2.2.2.1,p.2.2.2.2.2.2.2.2.2.2.2.2.2.2.2.2.2.2.2.2.2.2.1⟩) (Za.pair Z06 (Za.pair ZNj (Za.pair Z06 (Za.pair ZMG (Za.pair Z06 (Za.pair Z06 (Za.pair Z06 (Za.pair Z06 (Za.pair Z06 (Za.pair cbo (Za.pair cbo (Za.pair cbo (Za.pair cbo (Za.pair cbo (Za.pair ZSf (Za.pair ZB4 (Za.pair ZPi (Za.pair ZQG (Za.pair Z5S (Za.pair Za.skip (Za.pair Za.skip (Za.pair Z06 (Za.pair Z5S Za.unit)))))))))))))))))))))))
def ZFf:Za Ty Z0N:=Za.iso (fun x=>(x.Link,(),())) (fun p=>⟨p.1⟩) (Za.pair ZRZ (Za.pair Za.skip Za.unit))
def ZFn:Za Ty Z1m:=Za.iso (fun x=>(x.Ze,x.Z2B,x.Z6c,(),(),())) (fun p=>⟨p.1,p.2.1,p.2.2.1⟩) (Za.pair ZPi (Za.pair ZMG (Za.pair Z06 (Za.pair Za.skip (Za.pair Za.skip Za.unit)))))
@[reducible] def U:Z5V where
 Ty:=Ty
 esz:=fun t=>match t with
  | 4=>1
  | 5=>1
  | 83=>12
  | 113=>3
  | 59=>17
  | 3=>1
  | 68=>2
  | 156=>15
  | 138=>8
  | 99=>2
  | 44=>66
  | 60=>1
  | 148=>18
  | 77=>1
  | 78=>1
  | 31=>1
  | 39=>20
  | 36=>1
  | 62=>1
  | 37=>1
  | 42=>1
  | 109=>132
  | 45=>1
  | 46=>1
  | 110=>1
  | 28=>11
  | 29=>1
  | 25=>1
  | 52=>2
  | 33=>7
  | 35=>3
  | 24=>5
  | 26=>1
  | 226=>1
  | 63=>1
  | 86=>1
  | 70=>5
  | 75=>1
  | 71=>1
  | 120=>1
  | 104=>1
  | 30=>1
  | 22=>1
  | 189=>1
  | 262=>11
  | 41=>7
  | 129=>1
  | 135=>1
  | 140=>1
  | 208=>1
  | 216=>1
  | 269=>1
  | 222=>1
  | 9=>1
  | 254=>1
  | 163=>1
  | 231=>1
  | 233=>1
  | 237=>1
  | _=>0
 enc:=fun t=>match t with
  | 115=>fun(a:Z0N)=>ZFf.ZJV 67 a
  | 206=>fun(a:Z1m)=>ZFn.ZJV 24 a
  | 4=>fun(a:Bool)=>cbo.ZU a
  | 5=>fun(a:Int)=>cu8.ZU a
  | 83=>fun(a:Z22)=>.agg (ZOo.ZJ a)
  | 113=>fun(a:Zq)=>.agg (Zyz.ZJ a)
  | 59=>fun(a:Z01)=>.agg (ZQF.ZJ a)
  | 3=>fun(a:Int)=>Z06.ZU a
  | 68=>fun(a:Zd)=>.agg (ZlP.ZJ a)
  | 156=>fun(a:Z4)=>.agg (Z14.ZJ a)
  | 138=>fun(a:Z8)=>.agg (Z1B.ZJ a)
  | 99=>fun(a:Zj)=>.agg (ZIX.ZJ a)
  | 44=>fun(a:Z9)=>.agg (Z61.ZJ a)
  | 60=>fun(a:Z9×Int×Bool)=>.tup [(.agg (Z61.ZJ a.1)),(Z06.ZU a.2.1),(cbo.ZU a.2.2)]
  | 148=>fun(a:Z5)=>.agg (Z1O.ZJ a)
  | 77=>fun(a:List Z5)=>((Za.list 148 18 (fun(a:Z5)=>.agg (Z1O.ZJ a)):Za Ty (List (Ty 148)))).ZU a
  | 78=>fun(a:Z9×(List Z5))=>.tup [(.agg (Z61.ZJ a.1)),(((Za.list 148 18 (fun(a:Z5)=>.agg (Z1O.ZJ a)):Za Ty (List (Ty 148)))).ZU a.2)]
  | 31=>fun(a:List Zd)=>((Za.list 68 2 (fun(a:Zd)=>.agg (ZlP.ZJ a)):Za Ty (List (Ty 68)))).ZU a
  | 39=>fun(a:Z7)=>.agg (Z4x.ZJ a)
  | 36=>fun(a:List Z4)=>((Za.list 156 15 (fun(a:Z4)=>.agg (Z14.ZJ a)):Za Ty (List (Ty 156)))).ZU a
  | 62=>fun(a:List Int)=>((Za.list 5 1 (fun(a:Int)=>cu8.ZU a):Za Ty (List (Ty 5)))).ZU a
  | 37=>fun(a:List Z8)=>((Za.list 138 8 (fun(a:Z8)=>.agg (Z1B.ZJ a)):Za Ty (List (Ty 138)))).ZU a
  | 42=>fun(a:List Zj)=>((Za.list 99 2 (fun(a:Zj)=>.agg (ZIX.ZJ a)):Za Ty (List (Ty 99)))).ZU a
  | 109=>fun(a:ZT)=>.agg (ZkE.ZJ a)
  | 45=>fun(a:Int)=>Z06.ZU a
  | 46=>fun(a:Z9×Int)=>.tup [(.agg (Z61.ZJ a.1)),(Z06.ZU a.2)]
  | 110=>fun(a:ZT×Int)=>.tup [(.agg (ZkE.ZJ a.1)),(Z06.ZU a.2)]
  | 28=>fun(a:Zy)=>.agg (ZNj.ZJ a)
  | 29=>fun(a:Int)=>Z5S.ZU a
  | 25=>fun(a:Int)=>Z5S.ZU a
  | 52=>fun(a:Z4b)=>.agg (ZSy.ZJ a)
  | 33=>fun(a:ZK)=>.agg (Zeq.ZJ a)
  | 35=>fun(a:Zk)=>.agg (ZB4.ZJ a)
  | 24=>fun(a:ZM)=>.agg (ZIV.ZJ a)
  | 26=>fun(a:Int)=>Z5S.ZU a
  | 226=>fun(a:List Int)=>((Za.list 3 1 (fun(a:Int)=>Z06.ZU a):Za Ty (List (Ty 3)))).ZU a
  | 63=>fun(a:Z9×(List Int))=>.tup [(.agg (Z61.ZJ a.1)),(((Za.list 5 1 (fun(a:Int)=>cu8.ZU a):Za Ty (List (Ty 5)))).ZU a.2)]
  | 86=>fun(a:Z9×(List Z5)×Bool)=>.tup [(.agg (Z61.ZJ a.1)),(((Za.list 148 18 (fun(a:Z5)=>.agg (Z1O.ZJ a)):Za Ty (List (Ty 148)))).ZU a.2.1),(cbo.ZU a.2.2)]
  | 70=>fun(a:Zn)=>.agg (Zon.ZJ a)
  | 75=>fun(a:ZK×Zn)=>.tup [(.agg (Zeq.ZJ a.1)),(.agg (Zon.ZJ a.2))]
  | 71=>fun(a:Zn×Int)=>.tup [(.agg (Zon.ZJ a.1)),(Z06.ZU a.2)]
  | 120=>fun(a:(List Int)×Int)=>.tup [(((Za.list 5 1 (fun(a:Int)=>cu8.ZU a):Za Ty (List (Ty 5)))).ZU a.1),(Z06.ZU a.2)]
  | 104=>fun(a:Int×Int)=>.tup [(Z06.ZU a.1),(Z06.ZU a.2)]
  | 30=>fun(a:Int)=>ZMG.ZU a
  | 22=>fun(a:Int)=>ZOk.ZU a
  | 189=>fun(a:ZK×Int)=>.tup [(.agg (Zeq.ZJ a.1)),(Z06.ZU a.2)]
  | 262=>fun(a:Zg)=>.agg (ZNl.ZJ a)
  | 41=>fun(a:Zv)=>.agg (ZQG.ZJ a)
  | 129=>fun(a:Zk×Int)=>.tup [(.agg (ZB4.ZJ a.1)),(Z06.ZU a.2)]
  | 135=>fun(a:Z7×(List Z8))=>.tup [(.agg (Z4x.ZJ a.1)),(((Za.list 138 8 (fun(a:Z8)=>.agg (Z1B.ZJ a)):Za Ty (List (Ty 138)))).ZU a.2)]
  | 140=>fun(a:Z7×(List Z4))=>.tup [(.agg (Z4x.ZJ a.1)),(((Za.list 156 15 (fun(a:Z4)=>.agg (Z14.ZJ a)):Za Ty (List (Ty 156)))).ZU a.2)]
  | 208=>fun(a:(List Z8)×(List Z8))=>.tup [(((Za.list 138 8 (fun(a:Z8)=>.agg (Z1B.ZJ a)):Za Ty (List (Ty 138)))).ZU a.1),(((Za.list 138 8 (fun(a:Z8)=>.agg (Z1B.ZJ a)):Za Ty (List (Ty 138)))).ZU a.2)]
  | 216=>fun(a:Z7×Z4)=>.tup [(.agg (Z4x.ZJ a.1)),(.agg (Z14.ZJ a.2))]
  | 269=>fun(a:(List Z8)×Int)=>.tup [(((Za.list 138 8 (fun(a:Z8)=>.agg (Z1B.ZJ a)):Za Ty (List (Ty 138)))).ZU a.1),(Z06.ZU a.2)]
  | 222=>fun(a:Z7×(List Z4)×Int)=>.tup [(.agg (Z4x.ZJ a.1)),(((Za.list 156 15 (fun(a:Z4)=>.agg (Z14.ZJ a)):Za Ty (List (Ty 156)))).ZU a.2.1),(Z06.ZU a.2.2)]
  | 9=>fun(a:ByteArray)=>cst.ZU a
  | 254=>fun(a:List Int)=>((Za.list 25 1 (fun(a:Int)=>Z5S.ZU a):Za Ty (List (Ty 25)))).ZU a
  | 163=>fun(a:ZK×Zd×Bool×Bool)=>.tup [(.agg (Zeq.ZJ a.1)),(.agg (ZlP.ZJ a.2.1)),(cbo.ZU a.2.2.1),(cbo.ZU a.2.2.2)]
  | 231=>fun(a:Z4×Int)=>.tup [(.agg (Z14.ZJ a.1)),(Z06.ZU a.2)]
  | 233=>fun(a:Z7×(List Z5))=>.tup [(.agg (Z4x.ZJ a.1)),(((Za.list 148 18 (fun(a:Z5)=>.agg (Z1O.ZJ a)):Za Ty (List (Ty 148)))).ZU a.2)]
  | 237=>fun(a:Z7×(List Z4)×(List Z5))=>.tup [(.agg (Z4x.ZJ a.1)),(((Za.list 156 15 (fun(a:Z4)=>.agg (Z14.ZJ a)):Za Ty (List (Ty 156)))).ZU a.2.1),(((Za.list 148 18 (fun(a:Z5)=>.agg (Z1O.ZJ a)):Za Ty (List (Ty 148)))).ZU a.2.2)]
  | _=>fun _=>.no
 encS:=fun t=>match t with
  | 115=>fun(a:Z0N)=>.raw (ZFf.ZJV 67 a)
  | 206=>fun(a:Z1m)=>.raw (ZFn.ZJV 24 a)
  | 4=>fun(a:Bool)=>cbo.Z1F a
  | 5=>fun(a:Int)=>cu8.Z1F a
  | 83=>fun(a:Z22)=>.agg (ZOo.encS a)
  | 113=>fun(a:Zq)=>.agg (Zyz.encS a)
  | 59=>fun(a:Z01)=>.agg (ZQF.encS a)
  | 3=>fun(a:Int)=>Z06.Z1F a
  | 68=>fun(a:Zd)=>.agg (ZlP.encS a)
  | 156=>fun(a:Z4)=>.agg (Z14.encS a)
  | 138=>fun(a:Z8)=>.agg (Z1B.encS a)
  | 99=>fun(a:Zj)=>.agg (ZIX.encS a)
  | 44=>fun(a:Z9)=>.agg (Z61.encS a)
  | 60=>fun(a:Z9×Int×Bool)=>.tup [(.agg (Z61.encS a.1)),(Z06.Z1F a.2.1),(cbo.Z1F a.2.2)]
  | 148=>fun(a:Z5)=>.agg (Z1O.encS a)
  | 77=>fun(a:List Z5)=>((Za.list 148 18 (fun(a:Z5)=>.agg (Z1O.ZJ a)):Za Ty (List (Ty 148)))).Z1F a
  | 78=>fun(a:Z9×(List Z5))=>.tup [(.agg (Z61.encS a.1)),(((Za.list 148 18 (fun(a:Z5)=>.agg (Z1O.ZJ a)):Za Ty (List (Ty 148)))).Z1F a.2)]
  | 31=>fun(a:List Zd)=>((Za.list 68 2 (fun(a:Zd)=>.agg (ZlP.ZJ a)):Za Ty (List (Ty 68)))).Z1F a
  | 39=>fun(a:Z7)=>.agg (Z4x.encS a)
  | 36=>fun(a:List Z4)=>((Za.list 156 15 (fun(a:Z4)=>.agg (Z14.ZJ a)):Za Ty (List (Ty 156)))).Z1F a
  | 62=>fun(a:List Int)=>((Za.list 5 1 (fun(a:Int)=>cu8.ZU a):Za Ty (List (Ty 5)))).Z1F a
  | 37=>fun(a:List Z8)=>((Za.list 138 8 (fun(a:Z8)=>.agg (Z1B.ZJ a)):Za Ty (List (Ty 138)))).Z1F a
  | 42=>fun(a:List Zj)=>((Za.list 99 2 (fun(a:Zj)=>.agg (ZIX.ZJ a)):Za Ty (List (Ty 99)))).Z1F a
  | 109=>fun(a:ZT)=>.agg (ZkE.encS a)
  | 45=>fun(a:Int)=>Z06.Z1F a
  | 46=>fun(a:Z9×Int)=>.tup [(.agg (Z61.encS a.1)),(Z06.Z1F a.2)]
  | 110=>fun(a:ZT×Int)=>.tup [(.agg (ZkE.encS a.1)),(Z06.Z1F a.2)]
  | 28=>fun(a:Zy)=>.agg (ZNj.encS a)
  | 29=>fun(a:Int)=>Z5S.Z1F a
  | 25=>fun(a:Int)=>Z5S.Z1F a
  | 52=>fun(a:Z4b)=>.agg (ZSy.encS a)
  | 33=>fun(a:ZK)=>.agg (Zeq.encS a)
  | 35=>fun(a:Zk)=>.agg (ZB4.encS a)
  | 24=>fun(a:ZM)=>.agg (ZIV.encS a)
  | 26=>fun(a:Int)=>Z5S.Z1F a
  | 226=>fun(a:List Int)=>((Za.list 3 1 (fun(a:Int)=>Z06.ZU a):Za Ty (List (Ty 3)))).Z1F a
  | 63=>fun(a:Z9×(List Int))=>.tup [(.agg (Z61.encS a.1)),(((Za.list 5 1 (fun(a:Int)=>cu8.ZU a):Za Ty (List (Ty 5)))).Z1F a.2)]
  | 86=>fun(a:Z9×(List Z5)×Bool)=>.tup [(.agg (Z61.encS a.1)),(((Za.list 148 18 (fun(a:Z5)=>.agg (Z1O.ZJ a)):Za Ty (List (Ty 148)))).Z1F a.2.1),(cbo.Z1F a.2.2)]
  | 70=>fun(a:Zn)=>.agg (Zon.encS a)
  | 75=>fun(a:ZK×Zn)=>.tup [(.agg (Zeq.encS a.1)),(.agg (Zon.encS a.2))]
  | 71=>fun(a:Zn×Int)=>.tup [(.agg (Zon.encS a.1)),(Z06.Z1F a.2)]
  | 120=>fun(a:(List Int)×Int)=>.tup [(((Za.list 5 1 (fun(a:Int)=>cu8.ZU a):Za Ty (List (Ty 5)))).Z1F a.1),(Z06.Z1F a.2)]
  | 104=>fun(a:Int×Int)=>.tup [(Z06.Z1F a.1),(Z06.Z1F a.2)]
  | 30=>fun(a:Int)=>ZMG.Z1F a
  | 22=>fun(a:Int)=>ZOk.Z1F a
  | 189=>fun(a:ZK×Int)=>.tup [(.agg (Zeq.encS a.1)),(Z06.Z1F a.2)]
  | 262=>fun(a:Zg)=>.agg (ZNl.encS a)
  | 41=>fun(a:Zv)=>.agg (ZQG.encS a)
  | 129=>fun(a:Zk×Int)=>.tup [(.agg (ZB4.encS a.1)),(Z06.Z1F a.2)]
  | 135=>fun(a:Z7×(List Z8))=>.tup [(.agg (Z4x.encS a.1)),(((Za.list 138 8 (fun(a:Z8)=>.agg (Z1B.ZJ a)):Za Ty (List (Ty 138)))).Z1F a.2)]
  | 140=>fun(a:Z7×(List Z4))=>.tup [(.agg (Z4x.encS a.1)),(((Za.list 156 15 (fun(a:Z4)=>.agg (Z14.ZJ a)):Za Ty (List (Ty 156)))).Z1F a.2)]
  | 208=>fun(a:(List Z8)×(List Z8))=>.tup [(((Za.list 138 8 (fun(a:Z8)=>.agg (Z1B.ZJ a)):Za Ty (List (Ty 138)))).Z1F a.1),(((Za.list 138 8 (fun(a:Z8)=>.agg (Z1B.ZJ a)):Za Ty (List (Ty 138)))).Z1F a.2)]
  | 216=>fun(a:Z7×Z4)=>.tup [(.agg (Z4x.encS a.1)),(.agg (Z14.encS a.2))]
  | 269=>fun(a:(List Z8)×Int)=>.tup [(((Za.list 138 8 (fun(a:Z8)=>.agg (Z1B.ZJ a)):Za Ty (List (Ty 138)))).Z1F a.1),(Z06.Z1F a.2)]
  | 222=>fun(a:Z7×(List Z4)×Int)=>.tup [(.agg (Z4x.encS a.1)),(((Za.list 156 15 (fun(a:Z4)=>.agg (Z14.ZJ a)):Za Ty (List (Ty 156)))).Z1F a.2.1),(Z06.Z1F a.2.2)]
  | 9=>fun(a:ByteArray)=>cst.Z1F a
  | 254=>fun(a:List Int)=>((Za.list 25 1 (fun(a:Int)=>Z5S.ZU a):Za Ty (List (Ty 25)))).Z1F a
  | 163=>fun(a:ZK×Zd×Bool×Bool)=>.tup [(.agg (Zeq.encS a.1)),(.agg (ZlP.encS a.2.1)),(cbo.Z1F a.2.2.1),(cbo.Z1F a.2.2.2)]
  | 231=>fun(a:Z4×Int)=>.tup [(.agg (Z14.encS a.1)),(Z06.Z1F a.2)]
  | 233=>fun(a:Z7×(List Z5))=>.tup [(.agg (Z4x.encS a.1)),(((Za.list 148 18 (fun(a:Z5)=>.agg (Z1O.ZJ a)):Za Ty (List (Ty 148)))).Z1F a.2)]
  | 237=>fun(a:Z7×(List Z4)×(List Z5))=>.tup [(.agg (Z4x.encS a.1)),(((Za.list 156 15 (fun(a:Z4)=>.agg (Z14.ZJ a)):Za Ty (List (Ty 156)))).Z1F a.2.1),(((Za.list 148 18 (fun(a:Z5)=>.agg (Z1O.ZJ a)):Za Ty (List (Ty 148)))).Z1F a.2.2)]
  | _=>fun _=>.no
 ZwQ:=fun t=>match t with
  | 115=>fun v=>ZFf.ZSx 67 v
  | 206=>fun v=>ZFn.ZSx 24 v
  | 4=>fun v=>cbo.one v
  | 5=>fun v=>cu8.one v
  | 83=>fun v=>ZOo.agg v
  | 113=>fun v=>Zyz.agg v
  | 59=>fun v=>ZQF.agg v
  | 3=>fun v=>Z06.one v
  | 68=>fun v=>ZlP.agg v
  | 156=>fun v=>Z14.agg v
  | 138=>fun v=>Z1B.agg v
  | 99=>fun v=>ZIX.agg v
  | 44=>fun v=>Z61.agg v
  | 60=>fun _=>none
  | 148=>fun v=>Z1O.agg v
  | 77=>fun v=>((Za.list 148 18 (fun(a:Z5)=>.agg (Z1O.ZJ a)):Za Ty (List (Ty 148)))).one v
  | 78=>fun _=>none
  | 31=>fun v=>((Za.list 68 2 (fun(a:Zd)=>.agg (ZlP.ZJ a)):Za Ty (List (Ty 68)))).one v
  | 39=>fun v=>Z4x.agg v
  | 36=>fun v=>((Za.list 156 15 (fun(a:Z4)=>.agg (Z14.ZJ a)):Za Ty (List (Ty 156)))).one v
  | 62=>fun v=>((Za.list 5 1 (fun(a:Int)=>cu8.ZU a):Za Ty (List (Ty 5)))).one v
  | 37=>fun v=>((Za.list 138 8 (fun(a:Z8)=>.agg (Z1B.ZJ a)):Za Ty (List (Ty 138)))).one v
  | 42=>fun v=>((Za.list 99 2 (fun(a:Zj)=>.agg (ZIX.ZJ a)):Za Ty (List (Ty 99)))).one v
  | 109=>fun v=>ZkE.agg v
  | 45=>fun v=>Z06.one v
  | 46=>fun _=>none
  | 110=>fun _=>none
  | 28=>fun v=>ZNj.agg v
  | 29=>fun v=>Z5S.one v
  | 25=>fun v=>Z5S.one v
  | 52=>fun v=>ZSy.agg v
  | 33=>fun v=>Zeq.agg v
  | 35=>fun v=>ZB4.agg v
  | 24=>fun v=>ZIV.agg v
  | 26=>fun v=>Z5S.one v
  | 226=>fun v=>((Za.list 3 1 (fun(a:Int)=>Z06.ZU a):Za Ty (List (Ty 3)))).one v
  | 63=>fun _=>none
  | 86=>fun _=>none
  | 70=>fun v=>Zon.agg v
  | 75=>fun _=>none
  | 71=>fun _=>none
  | 120=>fun _=>none
  | 104=>fun _=>none
  | 30=>fun v=>ZMG.one v
  | 22=>fun v=>ZOk.one v
  | 189=>fun _=>none
  | 262=>fun v=>ZNl.agg v
  | 41=>fun v=>ZQG.agg v
  | 129=>fun _=>none
  | 135=>fun _=>none
  | 140=>fun _=>none
  | 208=>fun _=>none
  | 216=>fun _=>none
  | 269=>fun _=>none
  | 222=>fun _=>none
  | 9=>fun v=>cst.one v
  | 254=>fun v=>((Za.list 25 1 (fun(a:Int)=>Z5S.ZU a):Za Ty (List (Ty 25)))).one v
  | 163=>fun _=>none
  | 231=>fun _=>none
  | 233=>fun _=>none
  | 237=>fun _=>none
  | _=>fun _=>none
 keys:=[115,206,4,5,83,113,59,3,68,156,138,99,44,60,148,77,78,31,39,36,62,37,42,109,45,46,110,28,29,25,52,33,35,24,26,226,63,86,70,75,71,120,104,30,22,189,262,41,129,135,140,208,216,269,222,9,254,163,231,233,237]
theorem ZdD:Zc U ZlP [0,1]:=Zc.iso ((Zc.int _).pair ((Zc.list (U:=U) (t:=5) (n:=1) (e:=fun(a:Int)=>cu8.ZU a) (fun _=>rfl) rfl (fun a=>(Zc.int _:Zc U cu8 _).Za9 a) (fun a b h=>(Zc.int _:Zc U cu8 _).Z4k h)).pair Zc.unit)) (fun _=>rfl) (fun _=>rfl)
theorem ZgO:Zc U ZIV [0,0,0,0,0]:=Zc.iso ((Zc.int _).pair ((Zc.int _).pair ((Zc.int _).pair ((Zc.int _).pair ((Zc.int _).pair Zc.unit))))) (fun _=>rfl) (fun _=>rfl)
theorem Zqv:Zc U ZOo [0,0,0,1,0,0,0,0,0,0,0,0]:=Zc.iso ((Zc.int _).pair ((Zc.int _).pair ((ZdD).pair ((ZgO).pair ((Zc.int _).pair ((Zc.int _).pair ((Zc.int _).pair Zc.unit))))))) (fun _=>rfl) (fun _=>rfl)
theorem Zi0:Zc U Zyz [12,0,0]:=Zc.iso ((Zc.list (U:=U) (t:=83) (n:=12) (e:=fun(a:Z22)=>.agg (ZOo.ZJ a)) (fun _=>rfl) rfl (fun a=>Zqv.nr a) (fun a b h=>Zqv.inj _ _ (by injection h))).pair ((Zc.int _).pair ((Zc.int _).pair Zc.unit))) (fun _=>rfl) (fun _=>rfl)
theorem Znt:Zc U ZNj [0,0,0,0,0,0,0,0,0,0,0]:=Zc.iso ((Zc.int _).pair ((Zc.int _).pair ((ZgO).pair ((Zc.int _).pair ((Zc.int _).pair ((Zc.int _).pair ((Zc.int _).pair Zc.unit))))))) (fun _=>rfl) (fun _=>rfl)
theorem ZRN:Zc U ZSz [0,0]:=Zc.iso ((Zc.int _).pair ((Zc.int _).pair Zc.unit)) (fun _=>rfl) (fun _=>rfl)
theorem ZzY:Zc U ZQF [0,0,0,0,0,0,0,0,0,0,0,0,0,0,3,0,0]:=Zc.iso ((Znt).pair ((ZRN).pair ((Zc.int _).pair ((Zc.list (U:=U) (t:=113) (n:=3) (e:=fun(a:Zq)=>.agg (Zyz.ZJ a)) (fun _=>rfl) rfl (fun a=>Zi0.nr a) (fun a b h=>Zi0.inj _ _ (by injection h))).pair ((Zc.int _).pair ((Zc.int _).pair Zc.unit)))))) (fun _=>rfl) (fun _=>rfl)
theorem Z9O:Zc U Z14 [0,0,0,0,0,0,0,0,0,0,0,0,0,0,0]:=Zc.iso ((Zc.int _).pair ((ZgO).pair ((Zc.int _).pair ((Zc.int _).pair ((Zc.int _).pair ((Zc.int _).pair ((Zc.int _).pair ((Zc.int _).pair ((Zc.int _).pair ((Zc.int _).pair ((Zc.int _).pair Zc.unit))))))))))) (fun _=>rfl) (fun _=>rfl)
theorem Zb0:Zc U Z1B [0,0,0,0,0,0,0,0]:=Zc.iso ((Zc.int _).pair ((Zc.int _).pair ((ZgO).pair ((Zc.int _).pair Zc.unit)))) (fun _=>rfl) (fun _=>rfl)
theorem Zj7:Zc U ZIX [0,0]:=Zc.iso ((Zc.int _).pair ((Zc.int _).pair Zc.unit)) (fun _=>rfl) (fun _=>rfl)
theorem Zt8:Zc U Zeq [0,0,2,0,0,0,0]:=Zc.iso ((Zc.int _).pair ((Zc.int _).pair ((Zc.list (U:=U) (t:=68) (n:=2) (e:=fun(a:Zd)=>.agg (ZlP.ZJ a)) (fun _=>rfl) rfl (fun a=>ZdD.nr a) (fun a b h=>ZdD.inj _ _ (by injection h))).pair ((Zc.bool).pair ((Zc.bool).pair ((Zc.int _).pair ((Zc.int _).pair Zc.unit))))))) (fun _=>rfl) (fun _=>rfl)
theorem Zr0:Zc U ZB4 [0,0,0]:=Zc.iso ((Zc.int _).pair ((Zc.int _).pair ((Zc.bool).pair Zc.unit))) (fun _=>rfl) (fun _=>rfl)
theorem Zt2:Zc U Z4x [0,0,0,15,0,0,8,0,0,0,0,0,0,0,0,0,0,0,0,0]:=Zc.iso ((Zc.int _).pair ((Zc.int _).pair ((Zc.int _).pair ((Zc.list (U:=U) (t:=156) (n:=15) (e:=fun(a:Z4)=>.agg (Z14.ZJ a)) (fun _=>rfl) rfl (fun a=>Z9O.nr a) (fun a b h=>Z9O.inj _ _ (by injection h))).pair ((Zc.int _).pair ((Zc.int _).pair ((Zc.list (U:=U) (t:=138) (n:=8) (e:=fun(a:Z8)=>.agg (Z1B.ZJ a)) (fun _=>rfl) rfl (fun a=>Zb0.nr a) (fun a b h=>Zb0.inj _ _ (by injection h))).pair ((Zc.bool).pair ((Zc.int _).pair ((Zc.int _).pair ((Zc.bool).pair ((Zc.bool).pair ((Zc.int _).pair ((Zc.int _).pair ((Zc.int _).pair ((Zc.int _).pair ((Zc.int _).pair ((Zc.int _).pair ((Zc.int _).pair ((Zc.int _).pair Zc.unit)))))))))))))))))))) (fun _=>rfl) (fun _=>rfl)
theorem Zp4:Zc U ZQG [0,0,0,0,0,0,0]:=Zc.iso ((Zc.int _).pair ((Zc.int _).pair ((Zc.int _).pair ((Zc.bool).pair ((Zc.bool).pair ((Zc.int _).pair ((Zc.int _).pair Zc.unit))))))) (fun _=>rfl) (fun _=>rfl)
theorem ZoD:Zc U Z61 [0,0,0,0,0,0,0,0,0,0,0,0,0,0,0,0,0,0,0,0,0,0,0,0,0,0,2,0,0,0,0,0,0,0,0,0,0,15,0,0,8,0,0,0,0,0,0,0,0,0,0,0,0,0,0,0,0,0,0,0,0,0,2,15,0,0]:=Zc.iso ((Zc.int _).pair ((Znt).pair ((Zc.int _).pair ((Zc.int _).pair ((Zc.int _).pair ((Zc.int _).pair ((Zc.int _).pair ((Zc.int _).pair ((Zc.int _).pair ((Zc.bool).pair ((Zc.bool).pair ((Zc.bool).pair ((Zc.bool).pair ((Zc.bool).pair ((Zt8).pair ((Zr0).pair ((Zt2).pair ((Zp4).pair ((Zc.int _).pair ((Zc.list (U:=U) (t:=99) (n:=2) (e:=fun(a:Zj)=>.agg (ZIX.ZJ a)) (fun _=>rfl) rfl (fun a=>Zj7.nr a) (fun a b h=>Zj7.inj _ _ (by injection h))).pair ((Zc.list (U:=U) (t:=156) (n:=15) (e:=fun(a:Z4)=>.agg (Z14.ZJ a)) (fun _=>rfl) rfl (fun a=>Z9O.nr a) (fun a b h=>Z9O.inj _ _ (by injection h))).pair ((Zc.int _).pair ((Zc.int _).pair Zc.unit))))))))))))))))))))))) (fun _=>rfl) (fun _=>rfl)
theorem ZhS:Zc U Z1O [0,0,0,1,0,0,0,0,0,0,0,0,0,0,0,0,0,0]:=Zc.iso ((Zc.int _).pair ((Zc.int _).pair ((ZdD).pair ((Zb0).pair ((Zc.int _).pair ((ZgO).pair Zc.unit)))))) (fun _=>rfl) (fun _=>rfl)
theorem ZoM:Zc U ZkE [0,0,0,0,0,0,0,0,0,0,0,0,0,0,0,0,0,0,0,0,0,0,0,0,0,0,2,0,0,0,0,0,0,0,0,0,0,15,0,0,8,0,0,0,0,0,0,0,0,0,0,0,0,0,0,0,0,0,0,0,0,0,2,15,0,0,0,0,0,0,0,0,0,0,0,0,0,0,0,0,0,0,0,0,0,0,0,0,0,0,0,0,2,0,0,0,0,0,0,0,0,0,0,15,0,0,8,0,0,0,0,0,0,0,0,0,0,0,0,0,0,0,0,0,0,0,0,0,2,15,0,0]:=Zc.iso ((ZoD).pair ((ZoD).pair Zc.unit)) (fun _=>rfl) (fun _=>rfl)
theorem ZAh:Zc U ZSy [0,0]:=Zc.iso ((Zc.int _).pair ((Zc.int _).pair Zc.unit)) (fun _=>rfl) (fun _=>rfl)
theorem ZyA:Zc U Zon [0,0,0,0,1]:=Zc.iso ((Zc.int _).pair ((Zc.int _).pair ((Zc.int _).pair ((ZdD).pair Zc.unit)))) (fun _=>rfl) (fun _=>rfl)
theorem Zrm:Zc U ZNl [0,0,0,0,0,0,0,0,0,0,0]:=Zc.iso ((Zc.bool).pair ((Zc.bool).pair ((Zc.bool).pair ((Zc.bool).pair ((Zc.bool).pair ((Zc.bool).pair ((Zc.bool).pair ((Zc.bool).pair ((Zc.bool).pair ((Zc.bool).pair ((Zc.bool).pair Zc.unit))))))))))) (fun _=>rfl) (fun _=>rfl)
theorem rows4:rowsOf Tryz.prog 4=[0]:=by kernel_rfl
theorem ZdM {E:Env} (hE:E.rows=rowsOf Tryz.prog):Z1d U E 4:=
 have c:Zc U cbo [0]:=Zc.bool
 ⟨fun a=>c.Z1w a,fun v a h=>by rw [hE,rows4];exact c.one h (ZP6 h),fun a=>by first|rfl|exact(congrArg (fun x=>[x]) (c.Z1w a).symm),fun a=>c.Za9 a,fun a b h=>c.Z4k h⟩
theorem rows5:rowsOf Tryz.prog 5=[0]:=by kernel_rfl
theorem ZR1 {E:Env} (hE:E.rows=rowsOf Tryz.prog):Z1d U E 5:=
 have c:Zc U cu8 [0]:=Zc.int _
 ⟨fun a=>c.Z1w a,fun v a h=>by rw [hE,rows5];exact c.one h (Znl h),fun a=>by first|rfl|exact(congrArg (fun x=>[x]) (c.Z1w a).symm),fun a=>c.Za9 a,fun a b h=>c.Z4k h⟩
theorem ZSm:rowsOf Tryz.prog 83=[0,0,0,1,0,0,0,0,0,0,0,0]:=by kernel_rfl
theorem ZP3 {E:Env} (hE:E.rows=rowsOf Tryz.prog):Z1d U E 83:=⟨fun a=>congrArg V.agg (Zqv.enc a),fun v a h=>by rw [hE,ZSm];exact Zqv.agg h,fun a=>(Zqv.enc a).symm,fun a=>Zqv.nr a,fun a b h=>Zqv.inj _ _ (by injection h)⟩
theorem ZQ9:rowsOf Tryz.prog 113=[12,0,0]:=by kernel_rfl
theorem ZJN {E:Env} (hE:E.rows=rowsOf Tryz.prog):Z1d U E 113:=⟨fun a=>congrArg V.agg (Zi0.enc a),fun v a h=>by rw [hE,ZQ9];exact Zi0.agg h,fun a=>(Zi0.enc a).symm,fun a=>Zi0.nr a,fun a b h=>Zi0.inj _ _ (by injection h)⟩
theorem ZSa:rowsOf Tryz.prog 59=[0,0,0,0,0,0,0,0,0,0,0,0,0,0,3,0,0]:=by kernel_rfl
theorem ZOM {E:Env} (hE:E.rows=rowsOf Tryz.prog):Z1d U E 59:=⟨fun a=>congrArg V.agg (ZzY.enc a),fun v a h=>by rw [hE,ZSa];exact ZzY.agg h,fun a=>(ZzY.enc a).symm,fun a=>ZzY.nr a,fun a b h=>ZzY.inj _ _ (by injection h)⟩
theorem rows3:rowsOf Tryz.prog 3=[0]:=by kernel_rfl
theorem ZdJ {E:Env} (hE:E.rows=rowsOf Tryz.prog):Z1d U E 3:=
 have c:Zc U Z06 [0]:=Zc.int _
 ⟨fun a=>c.Z1w a,fun v a h=>by rw [hE,rows3];exact c.one h (Znl h),fun a=>by first|rfl|exact(congrArg (fun x=>[x]) (c.Z1w a).symm),fun a=>c.Za9 a,fun a b h=>c.Z4k h⟩
theorem ZRo:rowsOf Tryz.prog 68=[0,1]:=by kernel_rfl
theorem ZtD {E:Env} (hE:E.rows=rowsOf Tryz.prog):Z1d U E 68:=⟨fun a=>congrArg V.agg (ZdD.enc a),fun v a h=>by rw [hE,ZRo];exact ZdD.agg h,fun a=>(ZdD.enc a).symm,fun a=>ZdD.nr a,fun a b h=>ZdD.inj _ _ (by injection h)⟩
theorem ZQd:rowsOf Tryz.prog 156=[0,0,0,0,0,0,0,0,0,0,0,0,0,0,0]:=by kernel_rfl
theorem ZaM {E:Env} (hE:E.rows=rowsOf Tryz.prog):Z1d U E 156:=⟨fun a=>congrArg V.agg (Z9O.enc a),fun v a h=>by rw [hE,ZQd];exact Z9O.agg h,fun a=>(Z9O.enc a).symm,fun a=>Z9O.nr a,fun a b h=>Z9O.inj _ _ (by injection h)⟩
theorem ZQ0:rowsOf Tryz.prog 138=[0,0,0,0,0,0,0,0]:=by kernel_rfl
theorem ZJY {E:Env} (hE:E.rows=rowsOf Tryz.prog):Z1d U E 138:=⟨fun a=>congrArg V.agg (Zb0.enc a),fun v a h=>by rw [hE,ZQ0];exact Zb0.agg h,fun a=>(Zb0.enc a).symm,fun a=>Zb0.nr a,fun a b h=>Zb0.inj _ _ (by injection h)⟩
theorem ZR4:rowsOf Tryz.prog 99=[0,0]:=by kernel_rfl
theorem ZOW {E:Env} (hE:E.rows=rowsOf Tryz.prog):Z1d U E 99:=⟨fun a=>congrArg V.agg (Zj7.enc a),fun v a h=>by rw [hE,ZR4];exact Zj7.agg h,fun a=>(Zj7.enc a).symm,fun a=>Zj7.nr a,fun a b h=>Zj7.inj _ _ (by injection h)⟩
theorem ZRw:rowsOf Tryz.prog 44=[0,0,0,0,0,0,0,0,0,0,0,0,0,0,0,0,0,0,0,0,0,0,0,0,0,0,2,0,0,0,0,0,0,0,0,0,0,15,0,0,8,0,0,0,0,0,0,0,0,0,0,0,0,0,0,0,0,0,0,0,0,0,2,15,0,0]:=by kernel_rfl
theorem Z4h {E:Env} (hE:E.rows=rowsOf Tryz.prog):Z1d U E 44:=⟨fun a=>congrArg V.agg (ZoD.enc a),fun v a h=>by rw [hE,ZRw];exact ZoD.agg h,fun a=>(ZoD.enc a).symm,fun a=>ZoD.nr a,fun a b h=>ZoD.inj _ _ (by injection h)⟩
theorem ZON {E:Env} (hE:E.rows=rowsOf Tryz.prog):Z1d U E 60:=by
 refine⟨fun a=>?_,fun v a h=>(by cases h),fun a=>?_,fun a=>?_,fun a b h=>?_⟩
 ·first|rfl|skip
  all_goals show V.tup _=V.tup _
  all_goals congr 1
  all_goals simp only [Z02,show toV U (.agg (Z61.encS a.1))=(.agg (Z61.ZJ a.1)) from(Z4h hE).encS a.1,show toV U (Z06.Z1F a.2.1)=(Z06.ZU a.2.1) from(ZdJ hE).encS a.2.1,show toV U (cbo.Z1F a.2.2)=(cbo.ZU a.2.2) from(ZdM hE).encS a.2.2]
 ·first|rfl|skip
  all_goals show [V.tup _]=[V.tup _]
  all_goals congr 2
  all_goals simp only [Z02,show toV U (.agg (Z61.encS a.1))=(.agg (Z61.ZJ a.1)) from(Z4h hE).encS a.1,show toV U (Z06.Z1F a.2.1)=(Z06.ZU a.2.1) from(ZdJ hE).encS a.2.1,show toV U (cbo.Z1F a.2.2)=(cbo.ZU a.2.2) from(ZdM hE).encS a.2.2]
 ·show ZG [.agg (Z61.ZJ a.1),Z06.ZU a.2.1,cbo.ZU a.2.2]=true
  simp only [ZG,show Z03 (.agg (Z61.ZJ a.1))=true from(Z4h hE).nr a.1,show Z03 (Z06.ZU a.2.1)=true from(ZdJ hE).nr a.2.1,show Z03 (cbo.ZU a.2.2)=true from(ZdM hE).nr a.2.2,Bool.and_self]
 ·have h:V.tup [.agg (Z61.ZJ a.1),Z06.ZU a.2.1,cbo.ZU a.2.2]=V.tup [.agg (Z61.ZJ b.1),Z06.ZU b.2.1,cbo.ZU b.2.2]:=h
  simp only [V.tup.injEq,List.cons.injEq,and_true] at h
  exact Prod.ext ((Z4h hE).inj _ _ h.1) (Prod.ext ((ZdJ hE).inj _ _ h.2.1) ((ZdM hE).inj _ _ h.2.2))
theorem ZPD:rowsOf Tryz.prog 148=[0,0,0,1,0,0,0,0,0,0,0,0,0,0,0,0,0,0]:=by kernel_rfl
theorem ZKC {E:Env} (hE:E.rows=rowsOf Tryz.prog):Z1d U E 148:=⟨fun a=>congrArg V.agg (ZhS.enc a),fun v a h=>by rw [hE,ZPD];exact ZhS.agg h,fun a=>(ZhS.enc a).symm,fun a=>ZhS.nr a,fun a b h=>ZhS.inj _ _ (by injection h)⟩
theorem ZRy:rowsOf Tryz.prog 77=[18]:=by kernel_rfl
theorem Z5U {E:Env} (hE:E.rows=rowsOf Tryz.prog):Z1d U E 77:=
 have c:Zc U (Za.list 148 18 (fun(a:Z5)=>.agg (Z1O.ZJ a)):Za Ty (List (Ty 148))) [18]:=Zc.list (U:=U) (t:=148) (n:=18) (e:=fun(a:Z5)=>.agg (Z1O.ZJ a)) (fun _=>rfl) rfl (fun a=>ZhS.nr a) (fun a b h=>ZhS.inj _ _ (by injection h))
 ⟨fun a=>c.Z1w a,fun v a h=>by rw [hE,ZRy];exact c.one h (Zei (U:=U) (t:=148) (n:=18) (e:=fun(a:Z5)=>.agg (Z1O.ZJ a)) h),fun a=>by first|rfl|exact(congrArg (fun x=>[x]) (c.Z1w a).symm),fun a=>c.Za9 a,fun a b h=>c.Z4k h⟩
theorem ZOn {E:Env} (hE:E.rows=rowsOf Tryz.prog):Z1d U E 78:=by
 refine⟨fun a=>?_,fun v a h=>(by cases h),fun a=>?_,fun a=>?_,fun a b h=>?_⟩
 ·first|rfl|skip
  all_goals show V.tup _=V.tup _
  all_goals congr 1
  all_goals simp only [Z02,show toV U (.agg (Z61.encS a.1))=(.agg (Z61.ZJ a.1)) from(Z4h hE).encS a.1,show toV U (((Za.list 148 18 (fun(a:Z5)=>.agg (Z1O.ZJ a)):Za Ty (List (Ty 148)))).Z1F a.2)=(((Za.list 148 18 (fun(a:Z5)=>.agg (Z1O.ZJ a)):Za Ty (List (Ty 148)))).ZU a.2) from(Z5U hE).encS a.2]
 ·first|rfl|skip
  all_goals show [V.tup _]=[V.tup _]
  all_goals congr 2
  all_goals simp only [Z02,show toV U (.agg (Z61.encS a.1))=(.agg (Z61.ZJ a.1)) from(Z4h hE).encS a.1,show toV U (((Za.list 148 18 (fun(a:Z5)=>.agg (Z1O.ZJ a)):Za Ty (List (Ty 148)))).Z1F a.2)=(((Za.list 148 18 (fun(a:Z5)=>.agg (Z1O.ZJ a)):Za Ty (List (Ty 148)))).ZU a.2) from(Z5U hE).encS a.2]
 ·show ZG [.agg (Z61.ZJ a.1),((Za.list 148 18 (fun(a:Z5)=>.agg (Z1O.ZJ a)):Za Ty (List (Ty 148)))).ZU a.2]=true
  simp only [ZG,show Z03 (.agg (Z61.ZJ a.1))=true from(Z4h hE).nr a.1,show Z03 (((Za.list 148 18 (fun(a:Z5)=>.agg (Z1O.ZJ a)):Za Ty (List (Ty 148)))).ZU a.2)=true from(Z5U hE).nr a.2,Bool.and_self]
 ·have h:V.tup [.agg (Z61.ZJ a.1),((Za.list 148 18 (fun(a:Z5)=>.agg (Z1O.ZJ a)):Za Ty (List (Ty 148)))).ZU a.2]=V.tup [.agg (Z61.ZJ b.1),((Za.list 148 18 (fun(a:Z5)=>.agg (Z1O.ZJ a)):Za Ty (List (Ty 148)))).ZU b.2]:=h
  simp only [V.tup.injEq,List.cons.injEq,and_true] at h
  exact Prod.ext ((Z4h hE).inj _ _ h.1) ((Z5U hE).inj _ _ h.2)
theorem ZRf:rowsOf Tryz.prog 31=[2]:=by kernel_rfl
theorem ZOm {E:Env} (hE:E.rows=rowsOf Tryz.prog):Z1d U E 31:=
 have c:Zc U (Za.list 68 2 (fun(a:Zd)=>.agg (ZlP.ZJ a)):Za Ty (List (Ty 68))) [2]:=Zc.list (U:=U) (t:=68) (n:=2) (e:=fun(a:Zd)=>.agg (ZlP.ZJ a)) (fun _=>rfl) rfl (fun a=>ZdD.nr a) (fun a b h=>ZdD.inj _ _ (by injection h))
 ⟨fun a=>c.Z1w a,fun v a h=>by rw [hE,ZRf];exact c.one h (Zei (U:=U) (t:=68) (n:=2) (e:=fun(a:Zd)=>.agg (ZlP.ZJ a)) h),fun a=>by first|rfl|exact(congrArg (fun x=>[x]) (c.Z1w a).symm),fun a=>c.Za9 a,fun a b h=>c.Z4k h⟩
theorem ZRQ:rowsOf Tryz.prog 39=[0,0,0,15,0,0,8,0,0,0,0,0,0,0,0,0,0,0,0,0]:=by kernel_rfl
theorem Z2Y {E:Env} (hE:E.rows=rowsOf Tryz.prog):Z1d U E 39:=⟨fun a=>congrArg V.agg (Zt2.enc a),fun v a h=>by rw [hE,ZRQ];exact Zt2.agg h,fun a=>(Zt2.enc a).symm,fun a=>Zt2.nr a,fun a b h=>Zt2.inj _ _ (by injection h)⟩
theorem ZSt:rowsOf Tryz.prog 36=[15]:=by kernel_rfl
theorem Zad {E:Env} (hE:E.rows=rowsOf Tryz.prog):Z1d U E 36:=
 have c:Zc U (Za.list 156 15 (fun(a:Z4)=>.agg (Z14.ZJ a)):Za Ty (List (Ty 156))) [15]:=Zc.list (U:=U) (t:=156) (n:=15) (e:=fun(a:Z4)=>.agg (Z14.ZJ a)) (fun _=>rfl) rfl (fun a=>Z9O.nr a) (fun a b h=>Z9O.inj _ _ (by injection h))
 ⟨fun a=>c.Z1w a,fun v a h=>by rw [hE,ZSt];exact c.one h (Zei (U:=U) (t:=156) (n:=15) (e:=fun(a:Z4)=>.agg (Z14.ZJ a)) h),fun a=>by first|rfl|exact(congrArg (fun x=>[x]) (c.Z1w a).symm),fun a=>c.Za9 a,fun a b h=>c.Z4k h⟩
theorem ZRH:rowsOf Tryz.prog 62=[1]:=by kernel_rfl
theorem ZgT {E:Env} (hE:E.rows=rowsOf Tryz.prog):Z1d U E 62:=
 have c:Zc U (Za.list 5 1 (fun(a:Int)=>cu8.ZU a):Za Ty (List (Ty 5))) [1]:=Zc.list (U:=U) (t:=5) (n:=1) (e:=fun(a:Int)=>cu8.ZU a) (fun _=>rfl) rfl (fun a=>(Zc.int _:Zc U cu8 _).Za9 a) (fun a b h=>(Zc.int _:Zc U cu8 _).Z4k h)
 ⟨fun a=>c.Z1w a,fun v a h=>by rw [hE,ZRH];exact c.one h (Zei (U:=U) (t:=5) (n:=1) (e:=fun(a:Int)=>cu8.ZU a) h),fun a=>by first|rfl|exact(congrArg (fun x=>[x]) (c.Z1w a).symm),fun a=>c.Za9 a,fun a b h=>c.Z4k h⟩
theorem ZRj:rowsOf Tryz.prog 37=[8]:=by kernel_rfl
theorem Z5X {E:Env} (hE:E.rows=rowsOf Tryz.prog):Z1d U E 37:=
 have c:Zc U (Za.list 138 8 (fun(a:Z8)=>.agg (Z1B.ZJ a)):Za Ty (List (Ty 138))) [8]:=Zc.list (U:=U) (t:=138) (n:=8) (e:=fun(a:Z8)=>.agg (Z1B.ZJ a)) (fun _=>rfl) rfl (fun a=>Zb0.nr a) (fun a b h=>Zb0.inj _ _ (by injection h))
 ⟨fun a=>c.Z1w a,fun v a h=>by rw [hE,ZRj];exact c.one h (Zei (U:=U) (t:=138) (n:=8) (e:=fun(a:Z8)=>.agg (Z1B.ZJ a)) h),fun a=>by first|rfl|exact(congrArg (fun x=>[x]) (c.Z1w a).symm),fun a=>c.Za9 a,fun a b h=>c.Z4k h⟩
theorem ZRa:rowsOf Tryz.prog 42=[2]:=by kernel_rfl
theorem ZOh {E:Env} (hE:E.rows=rowsOf Tryz.prog):Z1d U E 42:=
 have c:Zc U (Za.list 99 2 (fun(a:Zj)=>.agg (ZIX.ZJ a)):Za Ty (List (Ty 99))) [2]:=Zc.list (U:=U) (t:=99) (n:=2) (e:=fun(a:Zj)=>.agg (ZIX.ZJ a)) (fun _=>rfl) rfl (fun a=>Zj7.nr a) (fun a b h=>Zj7.inj _ _ (by injection h))
 ⟨fun a=>c.Z1w a,fun v a h=>by rw [hE,ZRa];exact c.one h (Zei (U:=U) (t:=99) (n:=2) (e:=fun(a:Zj)=>.agg (ZIX.ZJ a)) h),fun a=>by first|rfl|exact(congrArg (fun x=>[x]) (c.Z1w a).symm),fun a=>c.Za9 a,fun a b h=>c.Z4k h⟩
theorem ZPN:rowsOf Tryz.prog 109=[0,0,0,0,0,0,0,0,0,0,0,0,0,0,0,0,0,0,0,0,0,0,0,0,0,0,2,0,0,0,0,0,0,0,0,0,0,15,0,0,8,0,0,0,0,0,0,0,0,0,0,0,0,0,0,0,0,0,0,0,0,0,2,15,0,0,0,0,0,0,0,0,0,0,0,0,0,0,0,0,0,0,0,0,0,0,0,0,0,0,0,0,2,0,0,0,0,0,0,0,0,0,0,15,0,0,8,0,0,0,0,0,0,0,0,0,0,0,0,0,0,0,0,0,0,0,0,0,2,15,0,0]:=by kernel_rfl
theorem Zlm {E:Env} (hE:E.rows=rowsOf Tryz.prog):Z1d U E 109:=⟨fun a=>congrArg V.agg (ZoM.enc a),fun v a h=>by rw [hE,ZPN];exact ZoM.agg h,fun a=>(ZoM.enc a).symm,fun a=>ZoM.nr a,fun a b h=>ZoM.inj _ _ (by injection h)⟩
theorem ZR7:rowsOf Tryz.prog 45=[0]:=by kernel_rfl
theorem Z1I {E:Env} (hE:E.rows=rowsOf Tryz.prog):Z1d U E 45:=
 have c:Zc U Z06 [0]:=Zc.int _
 ⟨fun a=>c.Z1w a,fun v a h=>by rw [hE,ZR7];exact c.one h (Znl h),fun a=>by first|rfl|exact(congrArg (fun x=>[x]) (c.Z1w a).symm),fun a=>c.Za9 a,fun a b h=>c.Z4k h⟩
theorem ZOB {E:Env} (hE:E.rows=rowsOf Tryz.prog):Z1d U E 46:=by
 refine⟨fun a=>?_,fun v a h=>(by cases h),fun a=>?_,fun a=>?_,fun a b h=>?_⟩
 ·first|rfl|skip
  all_goals show V.tup _=V.tup _
  all_goals congr 1
  all_goals simp only [Z02,show toV U (.agg (Z61.encS a.1))=(.agg (Z61.ZJ a.1)) from(Z4h hE).encS a.1,show toV U (Z06.Z1F a.2)=(Z06.ZU a.2) from(Z1I hE).encS a.2]
 ·first|rfl|skip
  all_goals show [V.tup _]=[V.tup _]
  all_goals congr 2
  all_goals simp only [Z02,show toV U (.agg (Z61.encS a.1))=(.agg (Z61.ZJ a.1)) from(Z4h hE).encS a.1,show toV U (Z06.Z1F a.2)=(Z06.ZU a.2) from(Z1I hE).encS a.2]
 ·show ZG [.agg (Z61.ZJ a.1),Z06.ZU a.2]=true
  simp only [ZG,show Z03 (.agg (Z61.ZJ a.1))=true from(Z4h hE).nr a.1,show Z03 (Z06.ZU a.2)=true from(Z1I hE).nr a.2,Bool.and_self]
 ·have h:V.tup [.agg (Z61.ZJ a.1),Z06.ZU a.2]=V.tup [.agg (Z61.ZJ b.1),Z06.ZU b.2]:=h
  simp only [V.tup.injEq,List.cons.injEq,and_true] at h
  exact Prod.ext ((Z4h hE).inj _ _ h.1) ((Z1I hE).inj _ _ h.2)
theorem ZM0 {E:Env} (hE:E.rows=rowsOf Tryz.prog):Z1d U E 110:=by
 refine⟨fun a=>?_,fun v a h=>(by cases h),fun a=>?_,fun a=>?_,fun a b h=>?_⟩
 ·first|rfl|skip
  all_goals show V.tup _=V.tup _
  all_goals congr 1
  all_goals simp only [Z02,show toV U (.agg (ZkE.encS a.1))=(.agg (ZkE.ZJ a.1)) from(Zlm hE).encS a.1,show toV U (Z06.Z1F a.2)=(Z06.ZU a.2) from(ZdJ hE).encS a.2]
 ·first|rfl|skip
  all_goals show [V.tup _]=[V.tup _]
  all_goals congr 2
  all_goals simp only [Z02,show toV U (.agg (ZkE.encS a.1))=(.agg (ZkE.ZJ a.1)) from(Zlm hE).encS a.1,show toV U (Z06.Z1F a.2)=(Z06.ZU a.2) from(ZdJ hE).encS a.2]
 ·show ZG [.agg (ZkE.ZJ a.1),Z06.ZU a.2]=true
  simp only [ZG,show Z03 (.agg (ZkE.ZJ a.1))=true from(Zlm hE).nr a.1,show Z03 (Z06.ZU a.2)=true from(ZdJ hE).nr a.2,Bool.and_self]
 ·have h:V.tup [.agg (ZkE.ZJ a.1),Z06.ZU a.2]=V.tup [.agg (ZkE.ZJ b.1),Z06.ZU b.2]:=h
  simp only [V.tup.injEq,List.cons.injEq,and_true] at h
  exact Prod.ext ((Zlm hE).inj _ _ h.1) ((ZdJ hE).inj _ _ h.2)
theorem ZRv:rowsOf Tryz.prog 28=[0,0,0,0,0,0,0,0,0,0,0]:=by kernel_rfl
theorem ZOq {E:Env} (hE:E.rows=rowsOf Tryz.prog):Z1d U E 28:=⟨fun a=>congrArg V.agg (Znt.enc a),fun v a h=>by rw [hE,ZRv];exact Znt.agg h,fun a=>(Znt.enc a).symm,fun a=>Znt.nr a,fun a b h=>Znt.inj _ _ (by injection h)⟩
theorem ZSb:rowsOf Tryz.prog 29=[0]:=by kernel_rfl
theorem ZOK {E:Env} (hE:E.rows=rowsOf Tryz.prog):Z1d U E 29:=
 have c:Zc U Z5S [0]:=Zc.int _
 ⟨fun a=>c.Z1w a,fun v a h=>by rw [hE,ZSb];exact c.one h (Znl h),fun a=>by first|rfl|exact(congrArg (fun x=>[x]) (c.Z1w a).symm),fun a=>c.Za9 a,fun a b h=>c.Z4k h⟩
theorem ZRU:rowsOf Tryz.prog 25=[0]:=by kernel_rfl
theorem ZOs {E:Env} (hE:E.rows=rowsOf Tryz.prog):Z1d U E 25:=
 have c:Zc U Z5S [0]:=Zc.int _
 ⟨fun a=>c.Z1w a,fun v a h=>by rw [hE,ZRU];exact c.one h (Znl h),fun a=>by first|rfl|exact(congrArg (fun x=>[x]) (c.Z1w a).symm),fun a=>c.Za9 a,fun a b h=>c.Z4k h⟩
theorem ZSl:rowsOf Tryz.prog 52=[0,0]:=by kernel_rfl
theorem ZOX {E:Env} (hE:E.rows=rowsOf Tryz.prog):Z1d U E 52:=⟨fun a=>congrArg V.agg (ZAh.enc a),fun v a h=>by rw [hE,ZSl];exact ZAh.agg h,fun a=>(ZAh.enc a).symm,fun a=>ZAh.nr a,fun a b h=>ZAh.inj _ _ (by injection h)⟩
theorem ZRx:rowsOf Tryz.prog 33=[0,0,2,0,0,0,0]:=by kernel_rfl
theorem Zat {E:Env} (hE:E.rows=rowsOf Tryz.prog):Z1d U E 33:=⟨fun a=>congrArg V.agg (Zt8.enc a),fun v a h=>by rw [hE,ZRx];exact Zt8.agg h,fun a=>(Zt8.enc a).symm,fun a=>Zt8.nr a,fun a b h=>Zt8.inj _ _ (by injection h)⟩
theorem ZR8:rowsOf Tryz.prog 35=[0,0,0]:=by kernel_rfl
theorem Ztd {E:Env} (hE:E.rows=rowsOf Tryz.prog):Z1d U E 35:=⟨fun a=>congrArg V.agg (Zr0.enc a),fun v a h=>by rw [hE,ZR8];exact Zr0.agg h,fun a=>(Zr0.enc a).symm,fun a=>Zr0.nr a,fun a b h=>Zr0.inj _ _ (by injection h)⟩
theorem ZQX:rowsOf Tryz.prog 24=[0,0,0,0,0]:=by kernel_rfl
theorem ZOp {E:Env} (hE:E.rows=rowsOf Tryz.prog):Z1d U E 24:=⟨fun a=>congrArg V.agg (ZgO.enc a),fun v a h=>by rw [hE,ZQX];exact ZgO.agg h,fun a=>(ZgO.enc a).symm,fun a=>ZgO.nr a,fun a b h=>ZgO.inj _ _ (by injection h)⟩
theorem ZRY:rowsOf Tryz.prog 26=[0]:=by kernel_rfl
theorem ZOw {E:Env} (hE:E.rows=rowsOf Tryz.prog):Z1d U E 26:=
 have c:Zc U Z5S [0]:=Zc.int _
 ⟨fun a=>c.Z1w a,fun v a h=>by rw [hE,ZRY];exact c.one h (Znl h),fun a=>by first|rfl|exact(congrArg (fun x=>[x]) (c.Z1w a).symm),fun a=>c.Za9 a,fun a b h=>c.Z4k h⟩
theorem ZQs:rowsOf Tryz.prog 226=[1]:=by kernel_rfl
theorem ZLU {E:Env} (hE:E.rows=rowsOf Tryz.prog):Z1d U E 226:=
 have c:Zc U (Za.list 3 1 (fun(a:Int)=>Z06.ZU a):Za Ty (List (Ty 3))) [1]:=Zc.list (U:=U) (t:=3) (n:=1) (e:=fun(a:Int)=>Z06.ZU a) (fun _=>rfl) rfl (fun a=>(Zc.int _:Zc U Z06 _).Za9 a) (fun a b h=>(Zc.int _:Zc U Z06 _).Z4k h)
 ⟨fun a=>c.Z1w a,fun v a h=>by rw [hE,ZQs];exact c.one h (Zei (U:=U) (t:=3) (n:=1) (e:=fun(a:Int)=>Z06.ZU a) h),fun a=>by first|rfl|exact(congrArg (fun x=>[x]) (c.Z1w a).symm),fun a=>c.Za9 a,fun a b h=>c.Z4k h⟩
theorem ZOe {E:Env} (hE:E.rows=rowsOf Tryz.prog):Z1d U E 63:=by
 refine⟨fun a=>?_,fun v a h=>(by cases h),fun a=>?_,fun a=>?_,fun a b h=>?_⟩
 ·first|rfl|skip
  all_goals show V.tup _=V.tup _
  all_goals congr 1
  all_goals simp only [Z02,show toV U (.agg (Z61.encS a.1))=(.agg (Z61.ZJ a.1)) from(Z4h hE).encS a.1,show toV U (((Za.list 5 1 (fun(a:Int)=>cu8.ZU a):Za Ty (List (Ty 5)))).Z1F a.2)=(((Za.list 5 1 (fun(a:Int)=>cu8.ZU a):Za Ty (List (Ty 5)))).ZU a.2) from(ZgT hE).encS a.2]
 ·first|rfl|skip
  all_goals show [V.tup _]=[V.tup _]
  all_goals congr 2
  all_goals simp only [Z02,show toV U (.agg (Z61.encS a.1))=(.agg (Z61.ZJ a.1)) from(Z4h hE).encS a.1,show toV U (((Za.list 5 1 (fun(a:Int)=>cu8.ZU a):Za Ty (List (Ty 5)))).Z1F a.2)=(((Za.list 5 1 (fun(a:Int)=>cu8.ZU a):Za Ty (List (Ty 5)))).ZU a.2) from(ZgT hE).encS a.2]
 ·show ZG [.agg (Z61.ZJ a.1),((Za.list 5 1 (fun(a:Int)=>cu8.ZU a):Za Ty (List (Ty 5)))).ZU a.2]=true
  simp only [ZG,show Z03 (.agg (Z61.ZJ a.1))=true from(Z4h hE).nr a.1,show Z03 (((Za.list 5 1 (fun(a:Int)=>cu8.ZU a):Za Ty (List (Ty 5)))).ZU a.2)=true from(ZgT hE).nr a.2,Bool.and_self]
 ·have h:V.tup [.agg (Z61.ZJ a.1),((Za.list 5 1 (fun(a:Int)=>cu8.ZU a):Za Ty (List (Ty 5)))).ZU a.2]=V.tup [.agg (Z61.ZJ b.1),((Za.list 5 1 (fun(a:Int)=>cu8.ZU a):Za Ty (List (Ty 5)))).ZU b.2]:=h
  simp only [V.tup.injEq,List.cons.injEq,and_true] at h
  exact Prod.ext ((Z4h hE).inj _ _ h.1) ((ZgT hE).inj _ _ h.2)
theorem ZOP {E:Env} (hE:E.rows=rowsOf Tryz.prog):Z1d U E 86:=by
 refine⟨fun a=>?_,fun v a h=>(by cases h),fun a=>?_,fun a=>?_,fun a b h=>?_⟩
 ·first|rfl|skip
  all_goals show V.tup _=V.tup _
  all_goals congr 1
  all_goals simp only [Z02,show toV U (.agg (Z61.encS a.1))=(.agg (Z61.ZJ a.1)) from(Z4h hE).encS a.1,show toV U (((Za.list 148 18 (fun(a:Z5)=>.agg (Z1O.ZJ a)):Za Ty (List (Ty 148)))).Z1F a.2.1)=(((Za.list 148 18 (fun(a:Z5)=>.agg (Z1O.ZJ a)):Za Ty (List (Ty 148)))).ZU a.2.1) from(Z5U hE).encS a.2.1,show toV U (cbo.Z1F a.2.2)=(cbo.ZU a.2.2) from(ZdM hE).encS a.2.2]
 ·first|rfl|skip
  all_goals show [V.tup _]=[V.tup _]
  all_goals congr 2
  all_goals simp only [Z02,show toV U (.agg (Z61.encS a.1))=(.agg (Z61.ZJ a.1)) from(Z4h hE).encS a.1,show toV U (((Za.list 148 18 (fun(a:Z5)=>.agg (Z1O.ZJ a)):Za Ty (List (Ty 148)))).Z1F a.2.1)=(((Za.list 148 18 (fun(a:Z5)=>.agg (Z1O.ZJ a)):Za Ty (List (Ty 148)))).ZU a.2.1) from(Z5U hE).encS a.2.1,show toV U (cbo.Z1F a.2.2)=(cbo.ZU a.2.2) from(ZdM hE).encS a.2.2]
 ·show ZG [.agg (Z61.ZJ a.1),((Za.list 148 18 (fun(a:Z5)=>.agg (Z1O.ZJ a)):Za Ty (List (Ty 148)))).ZU a.2.1,cbo.ZU a.2.2]=true
  simp only [ZG,show Z03 (.agg (Z61.ZJ a.1))=true from(Z4h hE).nr a.1,show Z03 (((Za.list 148 18 (fun(a:Z5)=>.agg (Z1O.ZJ a)):Za Ty (List (Ty 148)))).ZU a.2.1)=true from(Z5U hE).nr a.2.1,show Z03 (cbo.ZU a.2.2)=true from(ZdM hE).nr a.2.2,Bool.and_self]
 ·have h:V.tup [.agg (Z61.ZJ a.1),((Za.list 148 18 (fun(a:Z5)=>.agg (Z1O.ZJ a)):Za Ty (List (Ty 148)))).ZU a.2.1,cbo.ZU a.2.2]=V.tup [.agg (Z61.ZJ b.1),((Za.list 148 18 (fun(a:Z5)=>.agg (Z1O.ZJ a)):Za Ty (List (Ty 148)))).ZU b.2.1,cbo.ZU b.2.2]:=h
  simp only [V.tup.injEq,List.cons.injEq,and_true] at h
  exact Prod.ext ((Z4h hE).inj _ _ h.1) (Prod.ext ((Z5U hE).inj _ _ h.2.1) ((ZdM hE).inj _ _ h.2.2))
theorem ZQS:rowsOf Tryz.prog 70=[0,0,0,0,1]:=by kernel_rfl
theorem ZgU {E:Env} (hE:E.rows=rowsOf Tryz.prog):Z1d U E 70:=⟨fun a=>congrArg V.agg (ZyA.enc a),fun v a h=>by rw [hE,ZQS];exact ZyA.agg h,fun a=>(ZyA.enc a).symm,fun a=>ZyA.nr a,fun a b h=>ZyA.inj _ _ (by injection h)⟩
theorem ZOr {E:Env} (hE:E.rows=rowsOf Tryz.prog):Z1d U E 75:=by
 refine⟨fun a=>?_,fun v a h=>(by cases h),fun a=>?_,fun a=>?_,fun a b h=>?_⟩
 ·first|rfl|skip
  all_goals show V.tup _=V.tup _
  all_goals congr 1
  all_goals simp only [Z02,show toV U (.agg (Zeq.encS a.1))=(.agg (Zeq.ZJ a.1)) from(Zat hE).encS a.1,show toV U (.agg (Zon.encS a.2))=(.agg (Zon.ZJ a.2)) from(ZgU hE).encS a.2]
 ·first|rfl|skip
  all_goals show [V.tup _]=[V.tup _]
  all_goals congr 2
  all_goals simp only [Z02,show toV U (.agg (Zeq.encS a.1))=(.agg (Zeq.ZJ a.1)) from(Zat hE).encS a.1,show toV U (.agg (Zon.encS a.2))=(.agg (Zon.ZJ a.2)) from(ZgU hE).encS a.2]
 ·show ZG [.agg (Zeq.ZJ a.1),.agg (Zon.ZJ a.2)]=true
  simp only [ZG,show Z03 (.agg (Zeq.ZJ a.1))=true from(Zat hE).nr a.1,show Z03 (.agg (Zon.ZJ a.2))=true from(ZgU hE).nr a.2,Bool.and_self]
 ·have h:V.tup [.agg (Zeq.ZJ a.1),.agg (Zon.ZJ a.2)]=V.tup [.agg (Zeq.ZJ b.1),.agg (Zon.ZJ b.2)]:=h
  simp only [V.tup.injEq,List.cons.injEq,and_true] at h
  exact Prod.ext ((Zat hE).inj _ _ h.1) ((ZgU hE).inj _ _ h.2)
theorem ZOT {E:Env} (hE:E.rows=rowsOf Tryz.prog):Z1d U E 71:=by
 refine⟨fun a=>?_,fun v a h=>(by cases h),fun a=>?_,fun a=>?_,fun a b h=>?_⟩
 ·first|rfl|skip
  all_goals show V.tup _=V.tup _
  all_goals congr 1
  all_goals simp only [Z02,show toV U (.agg (Zon.encS a.1))=(.agg (Zon.ZJ a.1)) from(ZgU hE).encS a.1,show toV U (Z06.Z1F a.2)=(Z06.ZU a.2) from(Z1I hE).encS a.2]
 ·first|rfl|skip
  all_goals show [V.tup _]=[V.tup _]
  all_goals congr 2
  all_goals simp only [Z02,show toV U (.agg (Zon.encS a.1))=(.agg (Zon.ZJ a.1)) from(ZgU hE).encS a.1,show toV U (Z06.Z1F a.2)=(Z06.ZU a.2) from(Z1I hE).encS a.2]
 ·show ZG [.agg (Zon.ZJ a.1),Z06.ZU a.2]=true
  simp only [ZG,show Z03 (.agg (Zon.ZJ a.1))=true from(ZgU hE).nr a.1,show Z03 (Z06.ZU a.2)=true from(Z1I hE).nr a.2,Bool.and_self]
 ·have h:V.tup [.agg (Zon.ZJ a.1),Z06.ZU a.2]=V.tup [.agg (Zon.ZJ b.1),Z06.ZU b.2]:=h
  simp only [V.tup.injEq,List.cons.injEq,and_true] at h
  exact Prod.ext ((ZgU hE).inj _ _ h.1) ((Z1I hE).inj _ _ h.2)
theorem ZKP {E:Env} (hE:E.rows=rowsOf Tryz.prog):Z1d U E 120:=by
 refine⟨fun a=>?_,fun v a h=>(by cases h),fun a=>?_,fun a=>?_,fun a b h=>?_⟩
 ·first|rfl|skip
  all_goals show V.tup _=V.tup _
  all_goals congr 1
  all_goals simp only [Z02,show toV U (((Za.list 5 1 (fun(a:Int)=>cu8.ZU a):Za Ty (List (Ty 5)))).Z1F a.1)=(((Za.list 5 1 (fun(a:Int)=>cu8.ZU a):Za Ty (List (Ty 5)))).ZU a.1) from(ZgT hE).encS a.1,show toV U (Z06.Z1F a.2)=(Z06.ZU a.2) from(Z1I hE).encS a.2]
 ·first|rfl|skip
  all_goals show [V.tup _]=[V.tup _]
  all_goals congr 2
  all_goals simp only [Z02,show toV U (((Za.list 5 1 (fun(a:Int)=>cu8.ZU a):Za Ty (List (Ty 5)))).Z1F a.1)=(((Za.list 5 1 (fun(a:Int)=>cu8.ZU a):Za Ty (List (Ty 5)))).ZU a.1) from(ZgT hE).encS a.1,show toV U (Z06.Z1F a.2)=(Z06.ZU a.2) from(Z1I hE).encS a.2]
 ·show ZG [((Za.list 5 1 (fun(a:Int)=>cu8.ZU a):Za Ty (List (Ty 5)))).ZU a.1,Z06.ZU a.2]=true
  simp only [ZG,show Z03 (((Za.list 5 1 (fun(a:Int)=>cu8.ZU a):Za Ty (List (Ty 5)))).ZU a.1)=true from(ZgT hE).nr a.1,show Z03 (Z06.ZU a.2)=true from(Z1I hE).nr a.2,Bool.and_self]
 ·have h:V.tup [((Za.list 5 1 (fun(a:Int)=>cu8.ZU a):Za Ty (List (Ty 5)))).ZU a.1,Z06.ZU a.2]=V.tup [((Za.list 5 1 (fun(a:Int)=>cu8.ZU a):Za Ty (List (Ty 5)))).ZU b.1,Z06.ZU b.2]:=h
  simp only [V.tup.injEq,List.cons.injEq,and_true] at h
  exact Prod.ext ((ZgT hE).inj _ _ h.1) ((Z1I hE).inj _ _ h.2)
theorem ZM6 {E:Env} (hE:E.rows=rowsOf Tryz.prog):Z1d U E 104:=by
 refine⟨fun a=>?_,fun v a h=>(by cases h),fun a=>?_,fun a=>?_,fun a b h=>?_⟩
 ·first|rfl|skip
  all_goals show V.tup _=V.tup _
  all_goals congr 1
  all_goals simp only [Z02,show toV U (Z06.Z1F a.1)=(Z06.ZU a.1) from(ZdJ hE).encS a.1,show toV U (Z06.Z1F a.2)=(Z06.ZU a.2) from(ZdJ hE).encS a.2]
 ·first|rfl|skip
  all_goals show [V.tup _]=[V.tup _]
  all_goals congr 2
  all_goals simp only [Z02,show toV U (Z06.Z1F a.1)=(Z06.ZU a.1) from(ZdJ hE).encS a.1,show toV U (Z06.Z1F a.2)=(Z06.ZU a.2) from(ZdJ hE).encS a.2]
 ·show ZG [Z06.ZU a.1,Z06.ZU a.2]=true
  simp only [ZG,show Z03 (Z06.ZU a.1)=true from(ZdJ hE).nr a.1,show Z03 (Z06.ZU a.2)=true from(ZdJ hE).nr a.2,Bool.and_self]
 ·have h:V.tup [Z06.ZU a.1,Z06.ZU a.2]=V.tup [Z06.ZU b.1,Z06.ZU b.2]:=h
  simp only [V.tup.injEq,List.cons.injEq,and_true] at h
  exact Prod.ext ((ZdJ hE).inj _ _ h.1) ((ZdJ hE).inj _ _ h.2)
theorem ZSe:rowsOf Tryz.prog 30=[0]:=by kernel_rfl
theorem ZOE {E:Env} (hE:E.rows=rowsOf Tryz.prog):Z1d U E 30:=
 have c:Zc U ZMG [0]:=Zc.int _
 ⟨fun a=>c.Z1w a,fun v a h=>by rw [hE,ZSe];exact c.one h (Znl h),fun a=>by first|rfl|exact(congrArg (fun x=>[x]) (c.Z1w a).symm),fun a=>c.Za9 a,fun a b h=>c.Z4k h⟩
theorem ZS1:rowsOf Tryz.prog 22=[0]:=by kernel_rfl
theorem ZOU {E:Env} (hE:E.rows=rowsOf Tryz.prog):Z1d U E 22:=
 have c:Zc U ZOk [0]:=Zc.int _
 ⟨fun a=>c.Z1w a,fun v a h=>by rw [hE,ZS1];exact c.one h (Znl h),fun a=>by first|rfl|exact(congrArg (fun x=>[x]) (c.Z1w a).symm),fun a=>c.Za9 a,fun a b h=>c.Z4k h⟩
theorem ZMv {E:Env} (hE:E.rows=rowsOf Tryz.prog):Z1d U E 189:=by
 refine⟨fun a=>?_,fun v a h=>(by cases h),fun a=>?_,fun a=>?_,fun a b h=>?_⟩
 ·first|rfl|skip
  all_goals show V.tup _=V.tup _
  all_goals congr 1
  all_goals simp only [Z02,show toV U (.agg (Zeq.encS a.1))=(.agg (Zeq.ZJ a.1)) from(Zat hE).encS a.1,show toV U (Z06.Z1F a.2)=(Z06.ZU a.2) from(Z1I hE).encS a.2]
 ·first|rfl|skip
  all_goals show [V.tup _]=[V.tup _]
  all_goals congr 2
  all_goals simp only [Z02,show toV U (.agg (Zeq.encS a.1))=(.agg (Zeq.ZJ a.1)) from(Zat hE).encS a.1,show toV U (Z06.Z1F a.2)=(Z06.ZU a.2) from(Z1I hE).encS a.2]
 ·show ZG [.agg (Zeq.ZJ a.1),Z06.ZU a.2]=true
  simp only [ZG,show Z03 (.agg (Zeq.ZJ a.1))=true from(Zat hE).nr a.1,show Z03 (Z06.ZU a.2)=true from(Z1I hE).nr a.2,Bool.and_self]
 ·have h:V.tup [.agg (Zeq.ZJ a.1),Z06.ZU a.2]=V.tup [.agg (Zeq.ZJ b.1),Z06.ZU b.2]:=h
  simp only [V.tup.injEq,List.cons.injEq,and_true] at h
  exact Prod.ext ((Zat hE).inj _ _ h.1) ((Z1I hE).inj _ _ h.2)
theorem ZPd:rowsOf Tryz.prog 262=[0,0,0,0,0,0,0,0,0,0,0]:=by kernel_rfl
theorem ZK2 {E:Env} (hE:E.rows=rowsOf Tryz.prog):Z1d U E 262:=⟨fun a=>congrArg V.agg (Zrm.enc a),fun v a h=>by rw [hE,ZPd];exact Zrm.agg h,fun a=>(Zrm.enc a).symm,fun a=>Zrm.nr a,fun a b h=>Zrm.inj _ _ (by injection h)⟩
theorem ZRp:rowsOf Tryz.prog 41=[0,0,0,0,0,0,0]:=by kernel_rfl
theorem ZOC {E:Env} (hE:E.rows=rowsOf Tryz.prog):Z1d U E 41:=⟨fun a=>congrArg V.agg (Zp4.enc a),fun v a h=>by rw [hE,ZRp];exact Zp4.agg h,fun a=>(Zp4.enc a).symm,fun a=>Zp4.nr a,fun a b h=>Zp4.inj _ _ (by injection h)⟩
theorem ZM4 {E:Env} (hE:E.rows=rowsOf Tryz.prog):Z1d U E 129:=by
 refine⟨fun a=>?_,fun v a h=>(by cases h),fun a=>?_,fun a=>?_,fun a b h=>?_⟩
 ·first|rfl|skip
  all_goals show V.tup _=V.tup _
  all_goals congr 1
  all_goals simp only [Z02,show toV U (.agg (ZB4.encS a.1))=(.agg (ZB4.ZJ a.1)) from(Ztd hE).encS a.1,show toV U (Z06.Z1F a.2)=(Z06.ZU a.2) from(Z1I hE).encS a.2]
 ·first|rfl|skip
  all_goals show [V.tup _]=[V.tup _]
  all_goals congr 2
  all_goals simp only [Z02,show toV U (.agg (ZB4.encS a.1))=(.agg (ZB4.ZJ a.1)) from(Ztd hE).encS a.1,show toV U (Z06.Z1F a.2)=(Z06.ZU a.2) from(Z1I hE).encS a.2]
 ·show ZG [.agg (ZB4.ZJ a.1),Z06.ZU a.2]=true
  simp only [ZG,show Z03 (.agg (ZB4.ZJ a.1))=true from(Ztd hE).nr a.1,show Z03 (Z06.ZU a.2)=true from(Z1I hE).nr a.2,Bool.and_self]
 ·have h:V.tup [.agg (ZB4.ZJ a.1),Z06.ZU a.2]=V.tup [.agg (ZB4.ZJ b.1),Z06.ZU b.2]:=h
  simp only [V.tup.injEq,List.cons.injEq,and_true] at h
  exact Prod.ext ((Ztd hE).inj _ _ h.1) ((Z1I hE).inj _ _ h.2)
theorem ZKZ {E:Env} (hE:E.rows=rowsOf Tryz.prog):Z1d U E 135:=by
 refine⟨fun a=>?_,fun v a h=>(by cases h),fun a=>?_,fun a=>?_,fun a b h=>?_⟩
 ·first|rfl|skip
  all_goals show V.tup _=V.tup _
  all_goals congr 1
  all_goals simp only [Z02,show toV U (.agg (Z4x.encS a.1))=(.agg (Z4x.ZJ a.1)) from(Z2Y hE).encS a.1,show toV U (((Za.list 138 8 (fun(a:Z8)=>.agg (Z1B.ZJ a)):Za Ty (List (Ty 138)))).Z1F a.2)=(((Za.list 138 8 (fun(a:Z8)=>.agg (Z1B.ZJ a)):Za Ty (List (Ty 138)))).ZU a.2) from(Z5X hE).encS a.2]
 ·first|rfl|skip
  all_goals show [V.tup _]=[V.tup _]
  all_goals congr 2
  all_goals simp only [Z02,show toV U (.agg (Z4x.encS a.1))=(.agg (Z4x.ZJ a.1)) from(Z2Y hE).encS a.1,show toV U (((Za.list 138 8 (fun(a:Z8)=>.agg (Z1B.ZJ a)):Za Ty (List (Ty 138)))).Z1F a.2)=(((Za.list 138 8 (fun(a:Z8)=>.agg (Z1B.ZJ a)):Za Ty (List (Ty 138)))).ZU a.2) from(Z5X hE).encS a.2]
 ·show ZG [.agg (Z4x.ZJ a.1),((Za.list 138 8 (fun(a:Z8)=>.agg (Z1B.ZJ a)):Za Ty (List (Ty 138)))).ZU a.2]=true
  simp only [ZG,show Z03 (.agg (Z4x.ZJ a.1))=true from(Z2Y hE).nr a.1,show Z03 (((Za.list 138 8 (fun(a:Z8)=>.agg (Z1B.ZJ a)):Za Ty (List (Ty 138)))).ZU a.2)=true from(Z5X hE).nr a.2,Bool.and_self]
 ·have h:V.tup [.agg (Z4x.ZJ a.1),((Za.list 138 8 (fun(a:Z8)=>.agg (Z1B.ZJ a)):Za Ty (List (Ty 138)))).ZU a.2]=V.tup [.agg (Z4x.ZJ b.1),((Za.list 138 8 (fun(a:Z8)=>.agg (Z1B.ZJ a)):Za Ty (List (Ty 138)))).ZU b.2]:=h
  simp only [V.tup.injEq,List.cons.injEq,and_true] at h
  exact Prod.ext ((Z2Y hE).inj _ _ h.1) ((Z5X hE).inj _ _ h.2)
theorem ZKk {E:Env} (hE:E.rows=rowsOf Tryz.prog):Z1d U E 140:=by
 refine⟨fun a=>?_,fun v a h=>(by cases h),fun a=>?_,fun a=>?_,fun a b h=>?_⟩
 ·first|rfl|skip
  all_goals show V.tup _=V.tup _
  all_goals congr 1
  all_goals simp only [Z02,show toV U (.agg (Z4x.encS a.1))=(.agg (Z4x.ZJ a.1)) from(Z2Y hE).encS a.1,show toV U (((Za.list 156 15 (fun(a:Z4)=>.agg (Z14.ZJ a)):Za Ty (List (Ty 156)))).Z1F a.2)=(((Za.list 156 15 (fun(a:Z4)=>.agg (Z14.ZJ a)):Za Ty (List (Ty 156)))).ZU a.2) from(Zad hE).encS a.2]
 ·first|rfl|skip
  all_goals show [V.tup _]=[V.tup _]
  all_goals congr 2
  all_goals simp only [Z02,show toV U (.agg (Z4x.encS a.1))=(.agg (Z4x.ZJ a.1)) from(Z2Y hE).encS a.1,show toV U (((Za.list 156 15 (fun(a:Z4)=>.agg (Z14.ZJ a)):Za Ty (List (Ty 156)))).Z1F a.2)=(((Za.list 156 15 (fun(a:Z4)=>.agg (Z14.ZJ a)):Za Ty (List (Ty 156)))).ZU a.2) from(Zad hE).encS a.2]
 ·show ZG [.agg (Z4x.ZJ a.1),((Za.list 156 15 (fun(a:Z4)=>.agg (Z14.ZJ a)):Za Ty (List (Ty 156)))).ZU a.2]=true
  simp only [ZG,show Z03 (.agg (Z4x.ZJ a.1))=true from(Z2Y hE).nr a.1,show Z03 (((Za.list 156 15 (fun(a:Z4)=>.agg (Z14.ZJ a)):Za Ty (List (Ty 156)))).ZU a.2)=true from(Zad hE).nr a.2,Bool.and_self]
 ·have h:V.tup [.agg (Z4x.ZJ a.1),((Za.list 156 15 (fun(a:Z4)=>.agg (Z14.ZJ a)):Za Ty (List (Ty 156)))).ZU a.2]=V.tup [.agg (Z4x.ZJ b.1),((Za.list 156 15 (fun(a:Z4)=>.agg (Z14.ZJ a)):Za Ty (List (Ty 156)))).ZU b.2]:=h
  simp only [V.tup.injEq,List.cons.injEq,and_true] at h
  exact Prod.ext ((Z2Y hE).inj _ _ h.1) ((Zad hE).inj _ _ h.2)
theorem ZJ7 {E:Env} (hE:E.rows=rowsOf Tryz.prog):Z1d U E 208:=by
 refine⟨fun a=>?_,fun v a h=>(by cases h),fun a=>?_,fun a=>?_,fun a b h=>?_⟩
 ·first|rfl|skip
  all_goals show V.tup _=V.tup _
  all_goals congr 1
  all_goals simp only [Z02,show toV U (((Za.list 138 8 (fun(a:Z8)=>.agg (Z1B.ZJ a)):Za Ty (List (Ty 138)))).Z1F a.1)=(((Za.list 138 8 (fun(a:Z8)=>.agg (Z1B.ZJ a)):Za Ty (List (Ty 138)))).ZU a.1) from(Z5X hE).encS a.1,show toV U (((Za.list 138 8 (fun(a:Z8)=>.agg (Z1B.ZJ a)):Za Ty (List (Ty 138)))).Z1F a.2)=(((Za.list 138 8 (fun(a:Z8)=>.agg (Z1B.ZJ a)):Za Ty (List (Ty 138)))).ZU a.2) from(Z5X hE).encS a.2]
 ·first|rfl|skip
  all_goals show [V.tup _]=[V.tup _]
  all_goals congr 2
  all_goals simp only [Z02,show toV U (((Za.list 138 8 (fun(a:Z8)=>.agg (Z1B.ZJ a)):Za Ty (List (Ty 138)))).Z1F a.1)=(((Za.list 138 8 (fun(a:Z8)=>.agg (Z1B.ZJ a)):Za Ty (List (Ty 138)))).ZU a.1) from(Z5X hE).encS a.1,show toV U (((Za.list 138 8 (fun(a:Z8)=>.agg (Z1B.ZJ a)):Za Ty (List (Ty 138)))).Z1F a.2)=(((Za.list 138 8 (fun(a:Z8)=>.agg (Z1B.ZJ a)):Za Ty (List (Ty 138)))).ZU a.2) from(Z5X hE).encS a.2]
 ·show ZG [((Za.list 138 8 (fun(a:Z8)=>.agg (Z1B.ZJ a)):Za Ty (List (Ty 138)))).ZU a.1,((Za.list 138 8 (fun(a:Z8)=>.agg (Z1B.ZJ a)):Za Ty (List (Ty 138)))).ZU a.2]=true
  simp only [ZG,show Z03 (((Za.list 138 8 (fun(a:Z8)=>.agg (Z1B.ZJ a)):Za Ty (List (Ty 138)))).ZU a.1)=true from(Z5X hE).nr a.1,show Z03 (((Za.list 138 8 (fun(a:Z8)=>.agg (Z1B.ZJ a)):Za Ty (List (Ty 138)))).ZU a.2)=true from(Z5X hE).nr a.2,Bool.and_self]
 ·have h:V.tup [((Za.list 138 8 (fun(a:Z8)=>.agg (Z1B.ZJ a)):Za Ty (List (Ty 138)))).ZU a.1,((Za.list 138 8 (fun(a:Z8)=>.agg (Z1B.ZJ a)):Za Ty (List (Ty 138)))).ZU a.2]=V.tup [((Za.list 138 8 (fun(a:Z8)=>.agg (Z1B.ZJ a)):Za Ty (List (Ty 138)))).ZU b.1,((Za.list 138 8 (fun(a:Z8)=>.agg (Z1B.ZJ a)):Za Ty (List (Ty 138)))).ZU b.2]:=h
  simp only [V.tup.injEq,List.cons.injEq,and_true] at h
  exact Prod.ext ((Z5X hE).inj _ _ h.1) ((Z5X hE).inj _ _ h.2)
theorem ZJl {E:Env} (hE:E.rows=rowsOf Tryz.prog):Z1d U E 216:=by
 refine⟨fun a=>?_,fun v a h=>(by cases h),fun a=>?_,fun a=>?_,fun a b h=>?_⟩
 ·first|rfl|skip
  all_goals show V.tup _=V.tup _
  all_goals congr 1
  all_goals simp only [Z02,show toV U (.agg (Z4x.encS a.1))=(.agg (Z4x.ZJ a.1)) from(Z2Y hE).encS a.1,show toV U (.agg (Z14.encS a.2))=(.agg (Z14.ZJ a.2)) from(ZaM hE).encS a.2]
 ·first|rfl|skip
  all_goals show [V.tup _]=[V.tup _]
  all_goals congr 2
  all_goals simp only [Z02,show toV U (.agg (Z4x.encS a.1))=(.agg (Z4x.ZJ a.1)) from(Z2Y hE).encS a.1,show toV U (.agg (Z14.encS a.2))=(.agg (Z14.ZJ a.2)) from(ZaM hE).encS a.2]
 ·show ZG [.agg (Z4x.ZJ a.1),.agg (Z14.ZJ a.2)]=true
  simp only [ZG,show Z03 (.agg (Z4x.ZJ a.1))=true from(Z2Y hE).nr a.1,show Z03 (.agg (Z14.ZJ a.2))=true from(ZaM hE).nr a.2,Bool.and_self]
 ·have h:V.tup [.agg (Z4x.ZJ a.1),.agg (Z14.ZJ a.2)]=V.tup [.agg (Z4x.ZJ b.1),.agg (Z14.ZJ b.2)]:=h
  simp only [V.tup.injEq,List.cons.injEq,and_true] at h
  exact Prod.ext ((Z2Y hE).inj _ _ h.1) ((ZaM hE).inj _ _ h.2)
theorem ZKL {E:Env} (hE:E.rows=rowsOf Tryz.prog):Z1d U E 269:=by
 refine⟨fun a=>?_,fun v a h=>(by cases h),fun a=>?_,fun a=>?_,fun a b h=>?_⟩
 ·first|rfl|skip
  all_goals show V.tup _=V.tup _
  all_goals congr 1
  all_goals simp only [Z02,show toV U (((Za.list 138 8 (fun(a:Z8)=>.agg (Z1B.ZJ a)):Za Ty (List (Ty 138)))).Z1F a.1)=(((Za.list 138 8 (fun(a:Z8)=>.agg (Z1B.ZJ a)):Za Ty (List (Ty 138)))).ZU a.1) from(Z5X hE).encS a.1,show toV U (Z06.Z1F a.2)=(Z06.ZU a.2) from(Z1I hE).encS a.2]
 ·first|rfl|skip
  all_goals show [V.tup _]=[V.tup _]
  all_goals congr 2
  all_goals simp only [Z02,show toV U (((Za.list 138 8 (fun(a:Z8)=>.agg (Z1B.ZJ a)):Za Ty (List (Ty 138)))).Z1F a.1)=(((Za.list 138 8 (fun(a:Z8)=>.agg (Z1B.ZJ a)):Za Ty (List (Ty 138)))).ZU a.1) from(Z5X hE).encS a.1,show toV U (Z06.Z1F a.2)=(Z06.ZU a.2) from(Z1I hE).encS a.2]
 ·show ZG [((Za.list 138 8 (fun(a:Z8)=>.agg (Z1B.ZJ a)):Za Ty (List (Ty 138)))).ZU a.1,Z06.ZU a.2]=true
  simp only [ZG,show Z03 (((Za.list 138 8 (fun(a:Z8)=>.agg (Z1B.ZJ a)):Za Ty (List (Ty 138)))).ZU a.1)=true from(Z5X hE).nr a.1,show Z03 (Z06.ZU a.2)=true from(Z1I hE).nr a.2,Bool.and_self]
 ·have h:V.tup [((Za.list 138 8 (fun(a:Z8)=>.agg (Z1B.ZJ a)):Za Ty (List (Ty 138)))).ZU a.1,Z06.ZU a.2]=V.tup [((Za.list 138 8 (fun(a:Z8)=>.agg (Z1B.ZJ a)):Za Ty (List (Ty 138)))).ZU b.1,Z06.ZU b.2]:=h
  simp only [V.tup.injEq,List.cons.injEq,and_true] at h
  exact Prod.ext ((Z5X hE).inj _ _ h.1) ((Z1I hE).inj _ _ h.2)
theorem ZLn {E:Env} (hE:E.rows=rowsOf Tryz.prog):Z1d U E 222:=by
 refine⟨fun a=>?_,fun v a h=>(by cases h),fun a=>?_,fun a=>?_,fun a b h=>?_⟩
 ·first|rfl|skip
  all_goals show V.tup _=V.tup _
  all_goals congr 1
  all_goals simp only [Z02,show toV U (.agg (Z4x.encS a.1))=(.agg (Z4x.ZJ a.1)) from(Z2Y hE).encS a.1,show toV U (((Za.list 156 15 (fun(a:Z4)=>.agg (Z14.ZJ a)):Za Ty (List (Ty 156)))).Z1F a.2.1)=(((Za.list 156 15 (fun(a:Z4)=>.agg (Z14.ZJ a)):Za Ty (List (Ty 156)))).ZU a.2.1) from(Zad hE).encS a.2.1,show toV U (Z06.Z1F a.2.2)=(Z06.ZU a.2.2) from(Z1I hE).encS a.2.2]
 ·first|rfl|skip
  all_goals show [V.tup _]=[V.tup _]
  all_goals congr 2
  all_goals simp only [Z02,show toV U (.agg (Z4x.encS a.1))=(.agg (Z4x.ZJ a.1)) from(Z2Y hE).encS a.1,show toV U (((Za.list 156 15 (fun(a:Z4)=>.agg (Z14.ZJ a)):Za Ty (List (Ty 156)))).Z1F a.2.1)=(((Za.list 156 15 (fun(a:Z4)=>.agg (Z14.ZJ a)):Za Ty (List (Ty 156)))).ZU a.2.1) from(Zad hE).encS a.2.1,show toV U (Z06.Z1F a.2.2)=(Z06.ZU a.2.2) from(Z1I hE).encS a.2.2]
 ·show ZG [.agg (Z4x.ZJ a.1),((Za.list 156 15 (fun(a:Z4)=>.agg (Z14.ZJ a)):Za Ty (List (Ty 156)))).ZU a.2.1,Z06.ZU a.2.2]=true
  simp only [ZG,show Z03 (.agg (Z4x.ZJ a.1))=true from(Z2Y hE).nr a.1,show Z03 (((Za.list 156 15 (fun(a:Z4)=>.agg (Z14.ZJ a)):Za Ty (List (Ty 156)))).ZU a.2.1)=true from(Zad hE).nr a.2.1,show Z03 (Z06.ZU a.2.2)=true from(Z1I hE).nr a.2.2,Bool.and_self]
 ·have h:V.tup [.agg (Z4x.ZJ a.1),((Za.list 156 15 (fun(a:Z4)=>.agg (Z14.ZJ a)):Za Ty (List (Ty 156)))).ZU a.2.1,Z06.ZU a.2.2]=V.tup [.agg (Z4x.ZJ b.1),((Za.list 156 15 (fun(a:Z4)=>.agg (Z14.ZJ a)):Za Ty (List (Ty 156)))).ZU b.2.1,Z06.ZU b.2.2]:=h
  simp only [V.tup.injEq,List.cons.injEq,and_true] at h
  exact Prod.ext ((Z2Y hE).inj _ _ h.1) (Prod.ext ((Zad hE).inj _ _ h.2.1) ((Z1I hE).inj _ _ h.2.2))
theorem rows9:rowsOf Tryz.prog 9=[0]:=by kernel_rfl
theorem ZRm {E:Env} (hE:E.rows=rowsOf Tryz.prog):Z1d U E 9:=
 have c:Zc U cst [0]:=Zc.str
 ⟨fun a=>c.Z1w a,fun v a h=>by rw [hE,rows9];exact c.one h (ZSi h),fun a=>by first|rfl|exact(congrArg (fun x=>[x]) (c.Z1w a).symm),fun a=>c.Za9 a,fun a b h=>c.Z4k h⟩
theorem ZPP:rowsOf Tryz.prog 254=[1]:=by kernel_rfl
theorem ZJL {E:Env} (hE:E.rows=rowsOf Tryz.prog):Z1d U E 254:=
 have c:Zc U (Za.list 25 1 (fun(a:Int)=>Z5S.ZU a):Za Ty (List (Ty 25))) [1]:=Zc.list (U:=U) (t:=25) (n:=1) (e:=fun(a:Int)=>Z5S.ZU a) (fun _=>rfl) rfl (fun a=>(Zc.int _:Zc U Z5S _).Za9 a) (fun a b h=>(Zc.int _:Zc U Z5S _).Z4k h)
 ⟨fun a=>c.Z1w a,fun v a h=>by rw [hE,ZPP];exact c.one h (Zei (U:=U) (t:=25) (n:=1) (e:=fun(a:Int)=>Z5S.ZU a) h),fun a=>by first|rfl|exact(congrArg (fun x=>[x]) (c.Z1w a).symm),fun a=>c.Za9 a,fun a b h=>c.Z4k h⟩
theorem ZM7 {E:Env} (hE:E.rows=rowsOf Tryz.prog):Z1d U E 163:=by
 refine⟨fun a=>?_,fun v a h=>(by cases h),fun a=>?_,fun a=>?_,fun a b h=>?_⟩
 ·first|rfl|skip
  all_goals show V.tup _=V.tup _
  all_goals congr 1
  all_goals simp only [Z02,show toV U (.agg (Zeq.encS a.1))=(.agg (Zeq.ZJ a.1)) from(Zat hE).encS a.1,show toV U (.agg (ZlP.encS a.2.1))=(.agg (ZlP.ZJ a.2.1)) from(ZtD hE).encS a.2.1,show toV U (cbo.Z1F a.2.2.1)=(cbo.ZU a.2.2.1) from(ZdM hE).encS a.2.2.1,show toV U (cbo.Z1F a.2.2.2)=(cbo.ZU a.2.2.2) from(ZdM hE).encS a.2.2.2]
 ·first|rfl|skip
  all_goals show [V.tup _]=[V.tup _]
  all_goals congr 2
  all_goals simp only [Z02,show toV U (.agg (Zeq.encS a.1))=(.agg (Zeq.ZJ a.1)) from(Zat hE).encS a.1,show toV U (.agg (ZlP.encS a.2.1))=(.agg (ZlP.ZJ a.2.1)) from(ZtD hE).encS a.2.1,show toV U (cbo.Z1F a.2.2.1)=(cbo.ZU a.2.2.1) from(ZdM hE).encS a.2.2.1,show toV U (cbo.Z1F a.2.2.2)=(cbo.ZU a.2.2.2) from(ZdM hE).encS a.2.2.2]
 ·show ZG [.agg (Zeq.ZJ a.1),.agg (ZlP.ZJ a.2.1),cbo.ZU a.2.2.1,cbo.ZU a.2.2.2]=true
  simp only [ZG,show Z03 (.agg (Zeq.ZJ a.1))=true from(Zat hE).nr a.1,show Z03 (.agg (ZlP.ZJ a.2.1))=true from(ZtD hE).nr a.2.1,show Z03 (cbo.ZU a.2.2.1)=true from(ZdM hE).nr a.2.2.1,show Z03 (cbo.ZU a.2.2.2)=true from(ZdM hE).nr a.2.2.2,Bool.and_self]
 ·have h:V.tup [.agg (Zeq.ZJ a.1),.agg (ZlP.ZJ a.2.1),cbo.ZU a.2.2.1,cbo.ZU a.2.2.2]=V.tup [.agg (Zeq.ZJ b.1),.agg (ZlP.ZJ b.2.1),cbo.ZU b.2.2.1,cbo.ZU b.2.2.2]:=h
  simp only [V.tup.injEq,List.cons.injEq,and_true] at h
  exact Prod.ext ((Zat hE).inj _ _ h.1) (Prod.ext ((ZtD hE).inj _ _ h.2.1) (Prod.ext ((ZdM hE).inj _ _ h.2.2.1) ((ZdM hE).inj _ _ h.2.2.2)))
theorem ZLy {E:Env} (hE:E.rows=rowsOf Tryz.prog):Z1d U E 231:=by
 refine⟨fun a=>?_,fun v a h=>(by cases h),fun a=>?_,fun a=>?_,fun a b h=>?_⟩
 ·first|rfl|skip
  all_goals show V.tup _=V.tup _
  all_goals congr 1
  all_goals simp only [Z02,show toV U (.agg (Z14.encS a.1))=(.agg (Z14.ZJ a.1)) from(ZaM hE).encS a.1,show toV U (Z06.Z1F a.2)=(Z06.ZU a.2) from(Z1I hE).encS a.2]
 ·first|rfl|skip
  all_goals show [V.tup _]=[V.tup _]
  all_goals congr 2
  all_goals simp only [Z02,show toV U (.agg (Z14.encS a.1))=(.agg (Z14.ZJ a.1)) from(ZaM hE).encS a.1,show toV U (Z06.Z1F a.2)=(Z06.ZU a.2) from(Z1I hE).encS a.2]
 ·show ZG [.agg (Z14.ZJ a.1),Z06.ZU a.2]=true
  simp only [ZG,show Z03 (.agg (Z14.ZJ a.1))=true from(ZaM hE).nr a.1,show Z03 (Z06.ZU a.2)=true from(Z1I hE).nr a.2,Bool.and_self]
 ·have h:V.tup [.agg (Z14.ZJ a.1),Z06.ZU a.2]=V.tup [.agg (Z14.ZJ b.1),Z06.ZU b.2]:=h
  simp only [V.tup.injEq,List.cons.injEq,and_true] at h
  exact Prod.ext ((ZaM hE).inj _ _ h.1) ((Z1I hE).inj _ _ h.2)
theorem ZM8 {E:Env} (hE:E.rows=rowsOf Tryz.prog):Z1d U E 233:=by
 refine⟨fun a=>?_,fun v a h=>(by cases h),fun a=>?_,fun a=>?_,fun a b h=>?_⟩
 ·first|rfl|skip
  all_goals show V.tup _=V.tup _
  all_goals congr 1
  all_goals simp only [Z02,show toV U (.agg (Z4x.encS a.1))=(.agg (Z4x.ZJ a.1)) from(Z2Y hE).encS a.1,show toV U (((Za.list 148 18 (fun(a:Z5)=>.agg (Z1O.ZJ a)):Za Ty (List (Ty 148)))).Z1F a.2)=(((Za.list 148 18 (fun(a:Z5)=>.agg (Z1O.ZJ a)):Za Ty (List (Ty 148)))).ZU a.2) from(Z5U hE).encS a.2]
 ·first|rfl|skip
  all_goals show [V.tup _]=[V.tup _]
  all_goals congr 2
  all_goals simp only [Z02,show toV U (.agg (Z4x.encS a.1))=(.agg (Z4x.ZJ a.1)) from(Z2Y hE).encS a.1,show toV U (((Za.list 148 18 (fun(a:Z5)=>.agg (Z1O.ZJ a)):Za Ty (List (Ty 148)))).Z1F a.2)=(((Za.list 148 18 (fun(a:Z5)=>.agg (Z1O.ZJ a)):Za Ty (List (Ty 148)))).ZU a.2) from(Z5U hE).encS a.2]
 ·show ZG [.agg (Z4x.ZJ a.1),((Za.list 148 18 (fun(a:Z5)=>.agg (Z1O.ZJ a)):Za Ty (List (Ty 148)))).ZU a.2]=true
  simp only [ZG,show Z03 (.agg (Z4x.ZJ a.1))=true from(Z2Y hE).nr a.1,show Z03 (((Za.list 148 18 (fun(a:Z5)=>.agg (Z1O.ZJ a)):Za Ty (List (Ty 148)))).ZU a.2)=true from(Z5U hE).nr a.2,Bool.and_self]
 ·have h:V.tup [.agg (Z4x.ZJ a.1),((Za.list 148 18 (fun(a:Z5)=>.agg (Z1O.ZJ a)):Za Ty (List (Ty 148)))).ZU a.2]=V.tup [.agg (Z4x.ZJ b.1),((Za.list 148 18 (fun(a:Z5)=>.agg (Z1O.ZJ a)):Za Ty (List (Ty 148)))).ZU b.2]:=h
  simp only [V.tup.injEq,List.cons.injEq,and_true] at h
  exact Prod.ext ((Z2Y hE).inj _ _ h.1) ((Z5U hE).inj _ _ h.2)
theorem ZKX {E:Env} (hE:E.rows=rowsOf Tryz.prog):Z1d U E 237:=by
 refine⟨fun a=>?_,fun v a h=>(by cases h),fun a=>?_,fun a=>?_,fun a b h=>?_⟩
 ·first|rfl|skip
  all_goals show V.tup _=V.tup _
  all_goals congr 1
  all_goals simp only [Z02,show toV U (.agg (Z4x.encS a.1))=(.agg (Z4x.ZJ a.1)) from(Z2Y hE).encS a.1,show toV U (((Za.list 156 15 (fun(a:Z4)=>.agg (Z14.ZJ a)):Za Ty (List (Ty 156)))).Z1F a.2.1)=(((Za.list 156 15 (fun(a:Z4)=>.agg (Z14.ZJ a)):Za Ty (List (Ty 156)))).ZU a.2.1) from(Zad hE).encS a.2.1,show toV U (((Za.list 148 18 (fun(a:Z5)=>.agg (Z1O.ZJ a)):Za Ty (List (Ty 148)))).Z1F a.2.2)=(((Za.list 148 18 (fun(a:Z5)=>.agg (Z1O.ZJ a)):Za Ty (List (Ty 148)))).ZU a.2.2) from(Z5U hE).encS a.2.2]
 ·first|rfl|skip
  all_goals show [V.tup _]=[V.tup _]
  all_goals congr 2
  all_goals simp only [Z02,show toV U (.agg (Z4x.encS a.1))=(.agg (Z4x.ZJ a.1)) from(Z2Y hE).encS a.1,show toV U (((Za.list 156 15 (fun(a:Z4)=>.agg (Z14.ZJ a)):Za Ty (List (Ty 156)))).Z1F a.2.1)=(((Za.list 156 15 (fun(a:Z4)=>.agg (Z14.ZJ a)):Za Ty (List (Ty 156)))).ZU a.2.1) from(Zad hE).encS a.2.1,show toV U (((Za.list 148 18 (fun(a:Z5)=>.agg (Z1O.ZJ a)):Za Ty (List (Ty 148)))).Z1F a.2.2)=(((Za.list 148 18 (fun(a:Z5)=>.agg (Z1O.ZJ a)):Za Ty (List (Ty 148)))).ZU a.2.2) from(Z5U hE).encS a.2.2]
 ·show ZG [.agg (Z4x.ZJ a.1),((Za.list 156 15 (fun(a:Z4)=>.agg (Z14.ZJ a)):Za Ty (List (Ty 156)))).ZU a.2.1,((Za.list 148 18 (fun(a:Z5)=>.agg (Z1O.ZJ a)):Za Ty (List (Ty 148)))).ZU a.2.2]=true
  simp only [ZG,show Z03 (.agg (Z4x.ZJ a.1))=true from(Z2Y hE).nr a.1,show Z03 (((Za.list 156 15 (fun(a:Z4)=>.agg (Z14.ZJ a)):Za Ty (List (Ty 156)))).ZU a.2.1)=true from(Zad hE).nr a.2.1,show Z03 (((Za.list 148 18 (fun(a:Z5)=>.agg (Z1O.ZJ a)):Za Ty (List (Ty 148)))).ZU a.2.2)=true from(Z5U hE).nr a.2.2,Bool.and_self]
 ·have h:V.tup [.agg (Z4x.ZJ a.1),((Za.list 156 15 (fun(a:Z4)=>.agg (Z14.ZJ a)):Za Ty (List (Ty 156)))).ZU a.2.1,((Za.list 148 18 (fun(a:Z5)=>.agg (Z1O.ZJ a)):Za Ty (List (Ty 148)))).ZU a.2.2]=V.tup [.agg (Z4x.ZJ b.1),((Za.list 156 15 (fun(a:Z4)=>.agg (Z14.ZJ a)):Za Ty (List (Ty 156)))).ZU b.2.1,((Za.list 148 18 (fun(a:Z5)=>.agg (Z1O.ZJ a)):Za Ty (List (Ty 148)))).ZU b.2.2]:=h
  simp only [V.tup.injEq,List.cons.injEq,and_true] at h
  exact Prod.ext ((Z2Y hE).inj _ _ h.1) (Prod.ext ((Zad hE).inj _ _ h.2.1) ((Z5U hE).inj _ _ h.2.2))
theorem ZPj:Zc U ZSf [0,0,0,0,0,0,0]:=Zc.iso ((Zc.int _).pair ((Zc.int _).pair ((Zc.skip).pair ((Zc.bool).pair ((Zc.bool).pair ((Zc.int _).pair ((Zc.int _).pair Zc.unit))))))) (fun _=>rfl) (fun _=>rfl)
theorem ZKe:Zc U ZPi [0,0,0,0,0,0,0,0,0,0,0,0,0,0,0,0,0,0,0,0]:=Zc.iso ((Zc.int _).pair ((Zc.int _).pair ((Zc.int _).pair ((Zc.skip).pair ((Zc.int _).pair ((Zc.int _).pair ((Zc.skip).pair ((Zc.bool).pair ((Zc.int _).pair ((Zc.int _).pair ((Zc.bool).pair ((Zc.bool).pair ((Zc.int _).pair ((Zc.int _).pair ((Zc.int _).pair ((Zc.int _).pair ((Zc.int _).pair ((Zc.int _).pair ((Zc.int _).pair ((Zc.int _).pair Zc.unit)))))))))))))))))))) (fun _=>rfl) (fun _=>rfl)
theorem ZQk:Zc U ZRZ [0,0,0,0,0,0,0,0,0,0,0,0,0,0,0,0,0,0,0,0,0,0,0,0,0,0,0,0,0,0,0,0,0,0,0,0,0,0,0,0,0,0,0,0,0,0,0,0,0,0,0,0,0,0,0,0,0,0,0,0,0,0,0,0,0,0]:=Zc.iso ((Zc.int _).pair ((Znt).pair ((Zc.int _).pair ((Zc.int _).pair ((Zc.int _).pair ((Zc.int _).pair ((Zc.int _).pair ((Zc.int _).pair ((Zc.int _).pair ((Zc.bool).pair ((Zc.bool).pair ((Zc.bool).pair ((Zc.bool).pair ((Zc.bool).pair ((ZPj).pair ((Zr0).pair ((ZKe).pair ((Zp4).pair ((Zc.int _).pair ((Zc.skip).pair ((Zc.skip).pair ((Zc.int _).pair ((Zc.int _).pair Zc.unit))))))))))))))))))))))) (fun _=>rfl) (fun _=>rfl)
theorem Zuf:Zc U ZFf [0,0,0,0,0,0,0,0,0,0,0,0,0,0,0,0,0,0,0,0,0,0,0,0,0,0,0,0,0,0,0,0,0,0,0,0,0,0,0,0,0,0,0,0,0,0,0,0,0,0,0,0,0,0,0,0,0,0,0,0,0,0,0,0,0,0,0]:=Zc.iso ((ZQk).pair ((Zc.skip).pair Zc.unit)) (fun _=>rfl) (fun _=>rfl)
theorem Zws:Zc U ZFn [0,0,0,0,0,0,0,0,0,0,0,0,0,0,0,0,0,0,0,0,0,0,0,0]:=Zc.iso ((ZKe).pair ((Zc.int _).pair ((Zc.int _).pair ((Zc.skip).pair ((Zc.skip).pair Zc.unit))))) (fun _=>rfl) (fun _=>rfl)
theorem ZJj {E:Env} (hE:E.rows=rowsOf Tryz.prog):Z1d U E 115:=⟨fun a=>rfl,fun v a h=>Zuf.ZLH h _,fun a=>rfl,fun a=>Zuf.ZOL 67 a,fun a b h=>Zuf.ZJP h⟩
theorem ZLB {E:Env} (hE:E.rows=rowsOf Tryz.prog):Z1d U E 206:=⟨fun a=>rfl,fun v a h=>Zws.ZLH h _,fun a=>rfl,fun a=>Zws.ZOL 24 a,fun a b h=>Zws.ZJP h⟩
theorem ZN0 (t:Nat) (h4:¬t=4) (h5:¬t=5) (h83:¬t=83) (h113:¬t=113) (h59:¬t=59) (h3:¬t=3) (h68:¬t=68) (h156:¬t=156) (h138:¬t=138) (h99:¬t=99) (h44:¬t=44) (h60:¬t=60) (h148:¬t=148) (h77:¬t=77) (h78:¬t=78) (h31:¬t=31) (h39:¬t=39) (h36:¬t=36) (h62:¬t=62) (h37:¬t=37) (h42:¬t=42) (h109:¬t=109) (h45:¬t=45) (h46:¬t=46) (h110:¬t=110) (h28:¬t=28) (h29:¬t=29) (h25:¬t=25) (h52:¬t=52) (h33:¬t=33) (h35:¬t=35) (h24:¬t=24) (h26:¬t=26) (h226:¬t=226) (h63:¬t=63) (h86:¬t=86) (h70:¬t=70) (h75:¬t=75) (h71:¬t=71) (h120:¬t=120) (h104:¬t=104) (h30:¬t=30) (h22:¬t=22) (h189:¬t=189) (h262:¬t=262) (h41:¬t=41) (h129:¬t=129) (h135:¬t=135) (h140:¬t=140) (h208:¬t=208) (h216:¬t=216) (h269:¬t=269) (h222:¬t=222) (h9:¬t=9) (h254:¬t=254) (h163:¬t=163) (h231:¬t=231) (h233:¬t=233) (h237:¬t=237) (h115:¬t=115) (h206:¬t=206) (h1344:¬t=1344) (h1345:¬t=1345) (h1346:¬t=1346) (h1347:¬t=1347) (h1349:¬t=1349) (h1351:¬t=1351) (h1352:¬t=1352) (h1350:¬t=1350) (h1348:¬t=1348) (h1363:¬t=1363) (h1366:¬t=1366) (h1365:¬t=1365) (h1353:¬t=1353) (h1354:¬t=1354) (h1367:¬t=1367) (h1359:¬t=1359) (h1360:¬t=1360) (h1361:¬t=1361) (h1362:¬t=1362) (a:Ty t):False:=by
 unfold Ty at a
 split at a<;>first|contradiction|exact a.elim
theorem Z1d.four {E:Env} {t:Nat} (h:Z1d U E t):(∀a,toV U (U.encS t a)=U.enc t a)/\(∀v a,U.ZwQ t v=some a->Z18 (E.rows t) (toV U v)=U.enc t a)/\(∀a,(U.enc t a).cells=Z02 U (cellsS (U.encS t a)))/\(∀a,Z03 (U.enc t a)=true):=⟨h.encS,h.dec,h.cells,h.nr⟩
theorem ZFo (E:Env) (hE:E.rows=rowsOf Tryz.prog) (t:Nat):(∀a,toV U (U.encS t a)=U.enc t a)/\(∀v a,U.ZwQ t v=some a->Z18 (E.rows t) (toV U v)=U.enc t a)/\(∀a,(U.enc t a).cells=Z02 U (cellsS (U.encS t a)))/\(∀a,Z03 (U.enc t a)=true):=by
 by_cases h4:t=4
 ·subst h4;exact Z1d.four (ZdM hE)
 by_cases h5:t=5
 ·subst h5;exact Z1d.four (ZR1 hE)
 by_cases h83:t=83
 ·subst h83;exact Z1d.four (ZP3 hE)
 by_cases h113:t=113
 ·subst h113;exact Z1d.four (ZJN hE)
 by_cases h59:t=59
 ·subst h59;exact Z1d.four (ZOM hE)
 by_cases h3:t=3
 ·subst h3;exact Z1d.four (ZdJ hE)
 by_cases h68:t=68
 ·subst h68;exact Z1d.four (ZtD hE)
 by_cases h156:t=156
 ·subst h156;exact Z1d.four (ZaM hE)
 by_cases h138:t=138
 ·subst h138;exact Z1d.four (ZJY hE)
 by_cases h99:t=99
 ·subst h99;exact Z1d.four (ZOW hE)
 by_cases h44:t=44
 ·subst h44;exact Z1d.four (Z4h hE)
 by_cases h60:t=60
 ·subst h60;exact Z1d.four (ZON hE)
 by_cases h148:t=148
 ·subst h148;exact Z1d.four (ZKC hE)
 by_cases h77:t=77
 ·subst h77;exact Z1d.four (Z5U hE)
 by_cases h78:t=78
 ·subst h78;exact Z1d.four (ZOn hE)
 by_cases h31:t=31
 ·subst h31;exact Z1d.four (ZOm hE)
 by_cases h39:t=39
 ·subst h39;exact Z1d.four (Z2Y hE)
 by_cases h36:t=36
 ·subst h36;exact Z1d.four (Zad hE)
 by_cases h62:t=62
 ·subst h62;exact Z1d.four (ZgT hE)
 by_cases h37:t=37
 ·subst h37;exact Z1d.four (Z5X hE)
 by_cases h42:t=42
 ·subst h42;exact Z1d.four (ZOh hE)
 by_cases h109:t=109
 ·subst h109;exact Z1d.four (Zlm hE)
 by_cases h45:t=45
 ·subst h45;exact Z1d.four (Z1I hE)
 by_cases h46:t=46
 ·subst h46;exact Z1d.four (ZOB hE)
 by_cases h110:t=110
 ·subst h110;exact Z1d.four (ZM0 hE)
 by_cases h28:t=28
 ·subst h28;exact Z1d.four (ZOq hE)
 by_cases h29:t=29
 ·subst h29;exact Z1d.four (ZOK hE)
 by_cases h25:t=25
 ·subst h25;exact Z1d.four (ZOs hE)
 by_cases h52:t=52
 ·subst h52;exact Z1d.four (ZOX hE)
 by_cases h33:t=33
 ·subst h33;exact Z1d.four (Zat hE)
 by_cases h35:t=35
 ·subst h35;exact Z1d.four (Ztd hE)
 by_cases h24:t=24
 ·subst h24;exact Z1d.four (ZOp hE)
 by_cases h26:t=26
 ·subst h26;exact Z1d.four (ZOw hE)
 by_cases h226:t=226
 ·subst h226;exact Z1d.four (ZLU hE)
 by_cases h63:t=63
 ·subst h63;exact Z1d.four (ZOe hE)
 by_cases h86:t=86
 ·subst h86;exact Z1d.four (ZOP hE)
 by_cases h70:t=70
 ·subst h70;exact Z1d.four (ZgU hE)
 by_cases h75:t=75
 ·subst h75;exact Z1d.four (ZOr hE)
 by_cases h71:t=71
 ·subst h71;exact Z1d.four (ZOT hE)
 by_cases h120:t=120
 ·subst h120;exact Z1d.four (ZKP hE)
 by_cases h104:t=104
 ·subst h104;exact Z1d.four (ZM6 hE)
 by_cases h30:t=30
 ·subst h30;exact Z1d.four (ZOE hE)
 by_cases h22:t=22
 ·subst h22;exact Z1d.four (ZOU hE)
 by_cases h189:t=189
 ·subst h189;exact Z1d.four (ZMv hE)
 by_cases h262:t=262
 ·subst h262;exact Z1d.four (ZK2 hE)
 by_cases h41:t=41
 ·subst h41;exact Z1d.four (ZOC hE)
 by_cases h129:t=129
 ·subst h129;exact Z1d.four (ZM4 hE)
 by_cases h135:t=135
 ·subst h135;exact Z1d.four (ZKZ hE)
 by_cases h140:t=140
 ·subst h140;exact Z1d.four (ZKk hE)
 by_cases h208:t=208
 ·subst h208;exact Z1d.four (ZJ7 hE)
 by_cases h216:t=216
 ·subst h216;exact Z1d.four (ZJl hE)
 by_cases h269:t=269
 ·subst h269;exact Z1d.four (ZKL hE)
 by_cases h222:t=222
 ·subst h222;exact Z1d.four (ZLn hE)
 by_cases h9:t=9
 ·subst h9;exact Z1d.four (ZRm hE)
 by_cases h254:t=254
 ·subst h254;exact Z1d.four (ZJL hE)
 by_cases h163:t=163
 ·subst h163;exact Z1d.four (ZM7 hE)
 by_cases h231:t=231
 ·subst h231;exact Z1d.four (ZLy hE)
 by_cases h233:t=233
 ·subst h233;exact Z1d.four (ZM8 hE)
 by_cases h237:t=237
 ·subst h237;exact Z1d.four (ZKX hE)
 by_cases h115:t=115
 ·subst h115;exact Z1d.four (ZJj hE)
 by_cases h206:t=206
 ·subst h206;exact Z1d.four (ZLB hE)
 by_cases h1344:t=1344
 ·subst h1344;exact⟨fun a=>rfl,(fun v a h=>nomatch h),fun a=>rfl,fun a=>rfl⟩
 by_cases h1345:t=1345
 ·subst h1345;exact⟨fun a=>rfl,(fun v a h=>nomatch h),fun a=>rfl,fun a=>rfl⟩
 by_cases h1346:t=1346
 ·subst h1346;exact⟨fun a=>rfl,(fun v a h=>nomatch h),fun a=>rfl,fun a=>rfl⟩
 by_cases h1347:t=1347
 ·subst h1347;exact⟨fun a=>rfl,(fun v a h=>nomatch h),fun a=>rfl,fun a=>rfl⟩
 by_cases h1349:t=1349
 ·subst h1349;exact⟨fun a=>rfl,(fun v a h=>nomatch h),fun a=>rfl,fun a=>rfl⟩
 by_cases h1351:t=1351
 ·subst h1351;exact⟨fun a=>rfl,(fun v a h=>nomatch h),fun a=>rfl,fun a=>rfl⟩
 by_cases h1352:t=1352
 ·subst h1352;exact⟨fun a=>rfl,(fun v a h=>nomatch h),fun a=>rfl,fun a=>rfl⟩
 by_cases h1350:t=1350
 ·subst h1350;exact⟨fun a=>rfl,(fun v a h=>nomatch h),fun a=>rfl,fun a=>rfl⟩
 by_cases h1348:t=1348
 ·subst h1348;exact⟨fun a=>rfl,(fun v a h=>nomatch h),fun a=>rfl,fun a=>rfl⟩
 by_cases h1363:t=1363
 ·subst h1363;exact⟨fun a=>rfl,(fun v a h=>nomatch h),fun a=>rfl,fun a=>rfl⟩
 by_cases h1366:t=1366
 ·subst h1366;exact⟨fun a=>rfl,(fun v a h=>nomatch h),fun a=>rfl,fun a=>rfl⟩
 by_cases h1365:t=1365
 ·subst h1365;exact⟨fun a=>rfl,(fun v a h=>nomatch h),fun a=>rfl,fun a=>rfl⟩
 by_cases h1353:t=1353
 ·subst h1353;exact⟨fun a=>rfl,(fun v a h=>nomatch h),fun a=>rfl,fun a=>rfl⟩
 by_cases h1354:t=1354
 ·subst h1354;exact⟨fun a=>rfl,(fun v a h=>nomatch h),fun a=>rfl,fun a=>rfl⟩
 by_cases h1367:t=1367
 ·subst h1367;exact⟨fun a=>rfl,(fun v a h=>nomatch h),fun a=>rfl,fun a=>rfl⟩
 by_cases h1359:t=1359
 ·subst h1359;exact⟨fun a=>rfl,(fun v a h=>nomatch h),fun a=>rfl,fun a=>rfl⟩
 by_cases h1360:t=1360
 ·subst h1360;exact⟨fun a=>rfl,(fun v a h=>nomatch h),fun a=>rfl,fun a=>rfl⟩
 by_cases h1361:t=1361
 ·subst h1361;exact⟨fun a=>rfl,(fun v a h=>nomatch h),fun a=>rfl,fun a=>rfl⟩
 by_cases h1362:t=1362
 ·subst h1362;exact⟨fun a=>rfl,(fun v a h=>nomatch h),fun a=>rfl,fun a=>rfl⟩
 have e:=fun a=>ZN0 t h4 h5 h83 h113 h59 h3 h68 h156 h138 h99 h44 h60 h148 h77 h78 h31 h39 h36 h62 h37 h42 h109 h45 h46 h110 h28 h29 h25 h52 h33 h35 h24 h26 h226 h63 h86 h70 h75 h71 h120 h104 h30 h22 h189 h262 h41 h129 h135 h140 h208 h216 h269 h222 h9 h254 h163 h231 h233 h237 h115 h206 h1344 h1345 h1346 h1347 h1349 h1351 h1352 h1350 h1348 h1363 h1366 h1365 h1353 h1354 h1367 h1359 h1360 h1361 h1362 a
 exact⟨fun a=>(e a).elim,fun v a h=>(e a).elim,fun a=>(e a).elim,fun a=>(e a).elim⟩
theorem ZER (E:Env) (hE:E.rows=rowsOf Tryz.prog):Z0L U E:=by
 refine⟨fun t=>(ZFo E hE t).1,fun t=>(ZFo E hE t).2.1,fun t=>(ZFo E hE t).2.2.1,fun t=>(ZFo E hE t).2.2.2,?_⟩
 ·intro t ht
  by_cases h4:t=4
  ·subst h4;exact(ZdM hE).inj
  by_cases h5:t=5
  ·subst h5;exact(ZR1 hE).inj
  by_cases h83:t=83
  ·subst h83;exact(ZP3 hE).inj
  by_cases h113:t=113
  ·subst h113;exact(ZJN hE).inj
  by_cases h59:t=59
  ·subst h59;exact(ZOM hE).inj
  by_cases h3:t=3
  ·subst h3;exact(ZdJ hE).inj
  by_cases h68:t=68
  ·subst h68;exact(ZtD hE).inj
  by_cases h156:t=156
  ·subst h156;exact(ZaM hE).inj
  by_cases h138:t=138
  ·subst h138;exact(ZJY hE).inj
  by_cases h99:t=99
  ·subst h99;exact(ZOW hE).inj
  by_cases h44:t=44
  ·subst h44;exact(Z4h hE).inj
  by_cases h60:t=60
  ·subst h60;exact(ZON hE).inj
  by_cases h148:t=148
  ·subst h148;exact(ZKC hE).inj
  by_cases h77:t=77
  ·subst h77;exact(Z5U hE).inj
  by_cases h78:t=78
  ·subst h78;exact(ZOn hE).inj
  by_cases h31:t=31
  ·subst h31;exact(ZOm hE).inj
  by_cases h39:t=39
  ·subst h39;exact(Z2Y hE).inj
  by_cases h36:t=36
  ·subst h36;exact(Zad hE).inj
  by_cases h62:t=62
  ·subst h62;exact(ZgT hE).inj
  by_cases h37:t=37
  ·subst h37;exact(Z5X hE).inj
  by_cases h42:t=42
  ·subst h42;exact(ZOh hE).inj
  by_cases h109:t=109
  ·subst h109;exact(Zlm hE).inj
  by_cases h45:t=45
  ·subst h45;exact(Z1I hE).inj
  by_cases h46:t=46
  ·subst h46;exact(ZOB hE).inj
  by_cases h110:t=110
  ·subst h110;exact(ZM0 hE).inj
  by_cases h28:t=28
  ·subst h28;exact(ZOq hE).inj
  by_cases h29:t=29
  ·subst h29;exact(ZOK hE).inj
  by_cases h25:t=25
  ·subst h25;exact(ZOs hE).inj
  by_cases h52:t=52
  ·subst h52;exact(ZOX hE).inj
  by_cases h33:t=33
  ·subst h33;exact(Zat hE).inj
  by_cases h35:t=35
  ·subst h35;exact(Ztd hE).inj
  by_cases h24:t=24
  ·subst h24;exact(ZOp hE).inj
  by_cases h26:t=26
  ·subst h26;exact(ZOw hE).inj
  by_cases h226:t=226
  ·subst h226;exact(ZLU hE).inj
  by_cases h63:t=63
  ·subst h63;exact(ZOe hE).inj
  by_cases h86:t=86
  ·subst h86;exact(ZOP hE).inj
  by_cases h70:t=70
  ·subst h70;exact(ZgU hE).inj
  by_cases h75:t=75
  ·subst h75;exact(ZOr hE).inj
  by_cases h71:t=71
  ·subst h71;exact(ZOT hE).inj
  by_cases h120:t=120
  ·subst h120;exact(ZKP hE).inj
  by_cases h104:t=104
  ·subst h104;exact(ZM6 hE).inj
  by_cases h30:t=30
  ·subst h30;exact(ZOE hE).inj
  by_cases h22:t=22
  ·subst h22;exact(ZOU hE).inj
  by_cases h189:t=189
  ·subst h189;exact(ZMv hE).inj
  by_cases h262:t=262
  ·subst h262;exact(ZK2 hE).inj
  by_cases h41:t=41
  ·subst h41;exact(ZOC hE).inj
  by_cases h129:t=129
  ·subst h129;exact(ZM4 hE).inj
  by_cases h135:t=135
  ·subst h135;exact(ZKZ hE).inj
  by_cases h140:t=140
  ·subst h140;exact(ZKk hE).inj
  by_cases h208:t=208
  ·subst h208;exact(ZJ7 hE).inj
  by_cases h216:t=216
  ·subst h216;exact(ZJl hE).inj
  by_cases h269:t=269
  ·subst h269;exact(ZKL hE).inj
  by_cases h222:t=222
  ·subst h222;exact(ZLn hE).inj
  by_cases h9:t=9
  ·subst h9;exact(ZRm hE).inj
  by_cases h254:t=254
  ·subst h254;exact(ZJL hE).inj
  by_cases h163:t=163
  ·subst h163;exact(ZM7 hE).inj
  by_cases h231:t=231
  ·subst h231;exact(ZLy hE).inj
  by_cases h233:t=233
  ·subst h233;exact(ZM8 hE).inj
  by_cases h237:t=237
  ·subst h237;exact(ZKX hE).inj
  by_cases h115:t=115
  ·subst h115;exact(ZJj hE).inj
  by_cases h206:t=206
  ·subst h206;exact(ZLB hE).inj
  exact absurd ht (by simp [h115,h206,h4,h5,h83,h113,h59,h3,h68,h156,h138,h99,h44,h60,h148,h77,h78,h31,h39,h36,h62,h37,h42,h109,h45,h46,h110,h28,h29,h25,h52,h33,h35,h24,h26,h226,h63,h86,h70,h75,h71,h120,h104,h30,h22,h189,h262,h41,h129,h135,h140,h208,h216,h269,h222,h9,h254,h163,h231,h233,h237])
def sumsV:List V:=[0,1788928,3577856,3003392,7155712,7764992,6006784,4252672,14311424,12659712,15529984,16233472,12013568,11279360,8505344,10126336].map fun n=>V.lit (.int .u32 n)
def gl:Nat->Option (List V):=fun g=>if g=0 then some sumsV else none
theorem ZmU:Tryz.prog.follows .mixedOrders=true:=by kernel_rfl
noncomputable def noH:FuncId->List FuncId->Option (HMod U):=fun _ _=>none
noncomputable def B0:Env:=EV (U:=U) Tryz.prog gl 0 (fun _=>none) noH
abbrev MS:={ms:FuncId->Option (Mod U) // ∀g m,ms g=some m->Z0a Tryz.prog B0 g m}
abbrev HS:={hs:FuncId->List FuncId->Option (HMod U) // ∀g k m,hs g k=some m->Z4n Tryz.prog B0 g m}
noncomputable def msN:MS:=⟨fun _=>none,fun _ _ h=>nomatch h⟩
noncomputable def hsN:HS:=⟨fun _ _=>none,fun _ _ _ h=>nomatch h⟩
noncomputable def mc {f:FuncId} {m:Mod U} (h:Z0a Tryz.prog B0 f m) (s:MS):MS:=⟨fun g=>bif Nat.beq g f then some m else s.1 g,fun g m' e=>by
 cases hb:Nat.beq g f with
 | true=>dsimp only at e;rw [hb] at e;cases e;exact(Nat.eq_of_beq_eq_true hb)▸h
 | false=>dsimp only at e;rw [hb] at e;exact s.2 g m' e⟩
noncomputable def hc {f:FuncId} {m:HMod U} (k:List FuncId) (h:Z4n Tryz.prog B0 f m) (s:HS):HS:=⟨fun g k' =>bif Nat.beq g f&&k' == k then some m else s.1 g k',fun g k' m' e=>by
 cases hb:(Nat.beq g f&&k' == k) with
 | true=>dsimp only at e;rw [hb] at e;cases e;exact(Nat.eq_of_beq_eq_true ((Bool.and_eq_true _ _).mp hb).1)▸h
 | false=>dsimp only at e;rw [hb] at e;exact s.2 g k' m' e⟩
def AN:Nat->Option Lay:=fun _=>none
noncomputable def Z0f (fn:Func) (ts:List Nat) (x:Zor U ts):Z08 U:=⟨ZqS fn,[],Zy1 ts x fn.ntmps,false⟩
noncomputable def ZB3 (fn:Func) (sh:Shape) (x:sh.X U):Z08 U:=⟨ZqS fn,[],ZAR (sh.enc x) fn.ntmps,false⟩
noncomputable def spL (fn:Func) (p:List Nat) (L:Lay) (x:L.sh.X U):Z08 U:=spot (ZqS fn) p fn.ntmps L.keep (L.sh.enc x)
abbrev Z0g (f:FuncId) (fn:Func) (ms:MS) (hs:HS) (A:Nat->Option Lay) (rt:Nat) {Pt:Type} (T:Pt->Tr U (U.Ty rt⊕Pt)) (sp:Pt->Z08 U):Prop:=
 ∀p,Le.ZdB (EV Tryz.prog gl f ms.1 hs.1) (ZAI ms.1 hs.1) A f fn 0 (ZJ6 (EV Tryz.prog gl f ms.1 hs.1) fn) 1000 (.run (sp p).c) (sp p).K (sp p).st (sp p).sk=(T p).map (Zq0 (ZSv (U:=U) rt) sp)
abbrev ZB5 (f:FuncId) (fn:Func) (ms:MS) (hs:HS) (A:Nat->Option Lay) (fa:List (List Fk)) (fb:List Bf) (k:Nat) (m:HMod U) {Pt:Type} (T:Pt->Tr U (U.Ty m.ky⊕Pt)) (sp:Pt->Z08 U):Prop:=
 ∀p,Le.ZdB (EV Tryz.prog gl f ms.1 hs.1) (ZAI ms.1 hs.1) A f fn k (ZN5 (EV Tryz.prog gl f ms.1 hs.1) fn fa fb k m.ZME m.one) 1000 (.run (sp p).c) (sp p).K (sp p).st (sp p).sk=(T p).map (Zq0 m.out sp)
theorem okP {f:FuncId} {fn:Func} {ms:MS} {hs:HS} {A:Nat->Option Lay} {m:Mod U} {Pt:Type} {T:Pt->Tr U (U.Ty m.rt⊕Pt)} {sp:Pt->Z08 U} (h:Z0g f fn ms hs A m.rt T sp) (b0:Zor U m.ts->Pt)
  (hc:Z4G (EV Tryz.prog gl f ms.1 hs.1) f (ZqS fn)=true) (hfn:Tryz.prog.funcs[f]? = some fn) (hn:(fn.name == "runtime.NumGoroutine")=false) (hb:fn.body=some (ZqS fn))
  (hm:∀x,m.fn x=ZO T (b0 x)) (hsp:∀x,sp (b0 x)=Z0f fn m.ts x):Z0a Tryz.prog B0 f m:=
 ZEV rfl (ZER _ rfl) ZmU ms.2 hs.2 hfn hn hb hc m T sp h b0 hm hsp
theorem okH {f:FuncId} {fn:Func} {ms:MS} {hs:HS} {A:Nat->Option Lay} {fa:List (List Fk)} {fb:List Bf} {k:Nat} {m:HMod U} {Pt:Type} {T:Pt->Tr U (U.Ty m.ky⊕Pt)} {sp:Pt->Z08 U} (h:ZB5 f fn ms hs A fa fb k m T sp) (b0:m.sin.X U->Pt)
  (hk:∀x:m.sin.X U,(m.sin.enc x).2.length=k) (hc:Z4G (EV Tryz.prog gl f ms.1 hs.1) f (ZqS fn)=true) (hfn:Tryz.prog.funcs[f]? = some fn) (hn:(fn.name == "runtime.NumGoroutine")=false) (hb:fn.body=some (ZqS fn))
  (hm:∀x:m.sin.X U,m.fn x=ZO T (b0 x)) (hsp:∀x:m.sin.X U,sp (b0 x)=ZB3 fn m.sin x):Z4n Tryz.prog B0 f m:=
 ZMb rfl (ZER _ rfl) ZmU ms.2 hs.2 hfn hn hb hc m hk T sp h b0 hm hsp
abbrev KP:List Fk:=[.keep]
abbrev VC(t n:Nat):Pc:=.v t n false
abbrev OV(t:Nat):Sp:=.one (.v t 1 false)
abbrev PQ(j:Nat):Sp:=.one (.ptr j)
abbrev VA(e m:Nat):Pb:=.var e m (.agg [.v e m true])
abbrev k0:List Fk:=[.keep,.keep,.keep,.s 156 15,.keep,.keep,.s 138 8,.keep,.keep,.keep,.keep,.keep,.keep,.keep,.keep,.keep,.keep,.keep,.keep,.keep]
abbrev k1:List Fk:=[.keep,.keep,.keep,.keep,.keep,.keep,.keep,.keep,.keep,.keep,.keep,.keep,.keep,.keep,.keep]
abbrev k2:List Fk:=[.keep,.keep,.keep,.keep,.keep,.keep,.keep,.keep,.keep,.keep,.keep,.keep,.keep,.keep,.keep,.keep,.keep,.keep,.keep,.keep,.keep,.keep,.keep,.keep,.keep,.keep,.s 68 2,.keep,.keep,.keep,.keep,.keep,.keep,.keep,.keep,.keep,.keep,.s 156 15,.keep,.keep,.s 138 8,.keep,.keep,.keep,.keep,.keep,.keep,.keep,.keep,.keep,.keep,.keep,.keep,.keep,.keep,.keep,.keep,.keep,.keep,.keep,.keep,.keep,.s 99 2,.s 156 15,.keep,.keep]
abbrev k3:List Fk:=[.keep,.keep,.keep,.keep,.keep,.keep,.keep,.keep,.keep,.keep,.keep]
abbrev k4:List Fk:=[.keep,.keep,.keep,.keep,.keep,.keep,.keep,.keep,.keep,.keep,.keep,.keep,.keep,.keep,.keep,.keep,.keep,.keep,.keep,.keep,.keep,.keep,.keep,.keep,.keep,.keep,.s 68 2,.keep,.keep,.keep,.keep,.keep,.keep,.keep,.keep,.keep,.keep,.s 156 15,.keep,.keep,.s 138 8,.keep,.keep,.keep,.keep,.keep,.keep,.keep,.keep,.keep,.keep,.keep,.keep,.keep,.keep,.keep,.keep,.keep,.keep,.keep,.keep,.keep,.s 99 2,.s 156 15,.keep,.keep,.keep,.keep,.keep,.keep,.keep,.keep,.keep,.keep,.keep,.keep,.keep,.keep,.keep,.keep,.keep,.keep,.keep,.keep,.keep,.keep,.keep,.keep,.keep,.keep,.keep,.keep,.s 68 2,.keep,.keep,.keep,.keep,.keep,.keep,.keep,.keep,.keep,.keep,.s 156 15,.keep,.keep,.s 138 8,.keep,.keep,.keep,.keep,.keep,.keep,.keep,.keep,.keep,.keep,.keep,.keep,.keep,.keep,.keep,.keep,.keep,.keep,.keep,.keep,.keep,.s 99 2,.s 156 15,.keep,.keep]
abbrev k5:List Fk:=[.keep,.keep,.keep,.keep,.s 5 1]
abbrev k6:List Fk:=[.keep,.keep,.s 68 2,.keep,.keep,.keep,.keep]
abbrev k7:List Fk:=[.keep,.keep,.keep,.keep,.keep,.keep,.keep,.keep,.keep,.keep,.keep,.keep,.keep,.keep,.keep,.keep,.keep,.keep,.keep,.keep,.keep,.keep,.keep,.keep,.keep,.keep,.own 68 2,.keep,.keep,.keep,.keep,.keep,.keep,.keep,.keep,.keep,.keep,.s 156 15,.keep,.keep,.s 138 8,.keep,.keep,.keep,.keep,.keep,.keep,.keep,.keep,.keep,.keep,.keep,.keep,.keep,.keep,.keep,.keep,.keep,.keep,.keep,.keep,.keep,.s 99 2,.own 156 15,.keep,.keep,.own 148 18]
abbrev k8:List Fk:=[.keep,.keep,.keep,.s 156 15,.keep,.keep,.s 138 8,.keep,.keep,.keep,.keep,.keep,.keep,.keep,.keep,.keep,.keep,.keep,.keep,.keep,.keep,.keep,.own 156 15,.own 148 18]
abbrev k9:List Fk:=[.keep,.keep,.keep,.keep,.keep,.keep,.keep]
abbrev k10:List Fk:=[.keep,.keep,.keep,.keep,.keep,.keep,.keep,.keep]
abbrev k11:List Fk:=[.keep,.keep,.keep,.keep,.keep,.keep,.keep,.keep,.keep,.keep,.keep,.keep,.keep,.keep,.keep,.keep,.keep,.keep,.keep,.keep,.keep,.keep,.keep,.keep,.keep,.keep,.s 68 2,.keep,.keep,.keep,.keep,.keep,.keep,.keep,.keep,.keep,.keep,.s 156 15,.keep,.keep,.s 138 8,.keep,.keep,.keep,.keep,.keep,.keep,.keep,.keep,.keep,.keep,.keep,.keep,.keep,.keep,.keep,.keep,.keep,.keep,.keep,.keep,.keep,.s 99 2,.own 156 15,.keep,.keep]
abbrev k12:List Fk:=[.keep,.keep,.keep,.own 156 15,.keep,.keep,.s 138 8,.keep,.keep,.keep,.keep,.keep,.keep,.keep,.keep,.keep,.keep,.keep,.keep,.keep,.keep,.keep,.own 156 15,.own 148 18]
abbrev k13:List Fk:=[.keep,.keep,.keep,.keep,.keep,.keep,.keep,.keep,.keep,.keep,.keep,.keep,.keep,.keep,.keep,.keep,.keep,.keep,.keep,.keep,.keep,.keep,.keep,.keep,.keep,.keep,.own 68 2,.keep,.keep,.keep,.keep,.keep,.keep,.keep,.keep,.keep,.keep,.own 156 15,.keep,.keep,.own 138 8,.keep,.keep,.keep,.keep,.keep,.keep,.keep,.keep,.keep,.keep,.keep,.keep,.keep,.keep,.keep,.keep,.keep,.keep,.keep,.keep,.keep,.own 99 2,.own 156 15,.keep,.keep,.own 148 18]
abbrev k14:List Fk:=[.keep,.keep,.keep,.keep,.keep,.keep,.keep,.keep,.keep,.keep,.keep,.keep,.keep,.keep,.s 113 3,.keep,.keep]
abbrev k15:List Fk:=[.keep,.keep,.keep,.keep,.keep,.keep,.keep,.keep,.keep,.keep,.keep,.keep,.keep,.keep,.keep,.keep,.keep,.keep,.keep,.keep,.keep,.keep,.keep,.keep,.keep,.keep,.own 68 2,.keep,.keep,.keep,.keep,.keep,.keep,.keep,.keep,.keep,.keep,.own 156 15,.keep,.keep,.own 138 8,.keep,.keep,.keep,.keep,.keep,.keep,.keep,.keep,.keep,.keep,.keep,.keep,.keep,.keep,.keep,.keep,.keep,.keep,.keep,.keep,.keep,.s 99 2,.own 156 15,.keep,.keep,.own 148 18]
abbrev tu0 (a:Z9):=(a.Z1z,(a.ZN,(a.Clock,(a.Event,(a.Last,(a.Z19,(a.Size,(a.Sync,(a.Z2W,(a.Z2C,(a.Got,(a.Good,(a.Z1U,(a.More,(a.Arq,(a.Z0y,(a.Ze,(a.Z0h,(a.Key,(a.Zw,(a.Z05,(a.Zld,()))))))))))))))))))))))
abbrev tu1 (a:Zm):=((a.Ze.Z1z,(a.Ze.Own,(a.Ze.Since,(a.Ze.Other,(a.Ze.Z0C,(a.Ze.Zo,(a.Ze.Told,(a.Ze.ZZ,(a.Ze.Z4Y,(a.Ze.Z74,(a.Ze.Z0q,(a.Ze.Version,(a.Ze.Length,(a.Ze.Limit,(a.Ze.Z5R,(a.Ze.Zpv,(a.Ze.Mark,(a.Ze.Z29,(a.Ze.Z1n,(a.Z2B,(a.Z6c,()))))))))))))))))))))),(a.Ze.Zf,(a.f_out,(a.ZR,()))))
abbrev tu2 (a:Zm):=((a.Ze,(a.Z2B,(a.Z6c,()))),(a.f_out,(a.ZR,())))
abbrev tu3 (a:ZE):=(a.Link.Z1z,(a.Link.ZN,(a.Link.Clock,(a.Link.Event,(a.Link.Last,(a.Link.Z19,(a.Link.Size,(a.Link.Sync,(a.Link.Z2W,(a.Link.Z2C,(a.Link.Got,(a.Link.Good,(a.Link.Z1U,(a.Link.More,(a.Link.Arq.SN,(a.Link.Arq.Zda,(a.Link.Arq.Open,(a.Link.Arq.Empty,(a.Link.Arq.Z1U,(a.Link.Arq.Taken,(a.Link.Z0y,(a.Link.Ze,(a.Link.Z0h,(a.Link.Key,(a.Link.Zw,(a.Link.Z05,(a.Link.Zld,())))))))))))))))))))))))))))
abbrev tu4 (a:ZE):=((a.Link.Z1z,(a.Link.ZN,(a.Link.Clock,(a.Link.Event,(a.Link.Last,(a.Link.Z19,(a.Link.Size,(a.Link.Sync,(a.Link.Z2W,(a.Link.Z2C,(a.Link.Got,(a.Link.Good,(a.Link.Z1U,(a.Link.More,(a.Link.Arq.SN,(a.Link.Arq.Zda,(a.Link.Arq.Open,(a.Link.Arq.Empty,(a.Link.Arq.Z1U,(a.Link.Arq.Taken,(a.Link.Z0y,(a.Link.Ze,(a.Link.Z0h,(a.Link.Key,(a.Link.Zw,(a.Link.Z05,(a.Link.Zld,()))))))))))))))))))))))))))),(a.Link.Arq.Zu,(a.Link.Zb,(a.Zz,()))))
abbrev tu5 (a:ZE):=((a.Link.Z1z,(a.Link.ZN,(a.Link.Clock,(a.Link.Event,(a.Link.Last,(a.Link.Z19,(a.Link.Size,(a.Link.Sync,(a.Link.Z2W,(a.Link.Z2C,(a.Link.Got,(a.Link.Good,(a.Link.Z1U,(a.Link.More,(a.Link.Arq.SN,(a.Link.Arq.Zda,(a.Link.Arq.Open,(a.Link.Arq.Empty,(a.Link.Arq.Z1U,(a.Link.Arq.Taken,(a.Link.Z0y,(a.Link.Ze.Z1z,(a.Link.Ze.Own,(a.Link.Ze.Since,(a.Link.Ze.Other,(a.Link.Ze.Z0C,(a.Link.Ze.Told,(a.Link.Ze.ZZ,(a.Link.Ze.Z4Y,(a.Link.Ze.Z74,(a.Link.Ze.Z0q,(a.Link.Ze.Version,(a.Link.Ze.Length,(a.Link.Ze.Limit,(a.Link.Ze.Z5R,(a.Link.Ze.Zpv,(a.Link.Ze.Mark,(a.Link.Ze.Z29,(a.Link.Ze.Z1n,(a.Link.Z0h,(a.Link.Key,(a.Link.Z05,(a.Link.Zld,()))))))))))))))))))))))))))))))))))))))))))),(a.Link.Arq.Zu,(a.Link.Ze.Zf,(a.Link.Ze.Zo,(a.Link.Zw,(a.Link.Zb,(a.Zz,())))))))
abbrev ag0 (i:Nat):Sp:=.agg [.v 3 1 false,.v 28 11 true,.v 3 1 false,.v 30 1 false,.v 3 1 false,.v 3 1 false,.v 3 1 false,.v 3 1 false,.v 3 1 false,.v 4 1 false,.v 4 1 false,.v 4 1 false,.v 4 1 false,.v 4 1 false,.v 3 1 false,.v 3 1 false,.own 68 i,.v 4 1 false,.v 4 1 false,.v 3 1 false,.v 3 1 false,.v 35 3 true,.v 39 20 true,.v 41 7 true,.v 29 1 false,.v 42 1 false,.own 156 (i+1),.v 3 1 false,.v 25 1 false,.own 148 (i+2)]
abbrev ag1 (i:Nat):Sp:=.agg [.v 39 20 true,.v 30 1 false,.v 3 1 false,.own 156 i,.own 148 (i+1)]
abbrev ag2 (i:Nat):Sp:=.agg [.v 3 1 false,.v 28 11 true,.v 3 1 false,.v 30 1 false,.v 3 1 false,.v 3 1 false,.v 3 1 false,.v 3 1 false,.v 3 1 false,.v 4 1 false,.v 4 1 false,.v 4 1 false,.v 4 1 false,.v 4 1 false,.v 33 7 true,.v 35 3 true,.v 39 20 true,.v 41 7 true,.v 29 1 false,.v 42 1 false,.own 156 i,.v 3 1 false,.v 25 1 false]
abbrev ag3 (i:Nat):Sp:=.agg [.v 3 1 false,.v 3 1 false,.v 3 1 false,.own 156 i,.v 3 1 false,.v 3 1 false,.v 37 1 false,.v 4 1 false,.v 25 1 false,.v 25 1 false,.v 4 1 false,.v 4 1 false,.v 3 1 false,.v 3 1 false,.v 3 1 false,.v 25 1 false,.v 25 1 false,.v 25 1 false,.v 3 1 false,.v 3 1 false,.v 30 1 false,.v 3 1 false,.own 156 (i+1),.own 148 (i+2)]
abbrev ag4 (i:Nat):Sp:=.agg [.v 3 1 false,.v 28 11 true,.v 3 1 false,.v 30 1 false,.v 3 1 false,.v 3 1 false,.v 3 1 false,.v 3 1 false,.v 3 1 false,.v 4 1 false,.v 4 1 false,.v 4 1 false,.v 4 1 false,.v 4 1 false,.v 3 1 false,.v 3 1 false,.own 68 i,.v 4 1 false,.v 4 1 false,.v 3 1 false,.v 3 1 false,.v 35 3 true,.v 3 1 false,.v 3 1 false,.v 3 1 false,.own 156 (i+1),.v 3 1 false,.v 3 1 false,.own 138 (i+2),.v 4 1 false,.v 25 1 false,.v 25 1 false,.v 4 1 false,.v 4 1 false,.v 3 1 false,.v 3 1 false,.v 3 1 false,.v 25 1 false,.v 25 1 false,.v 25 1 false,.v 3 1 false,.v 3 1 false,.v 41 7 true,.v 29 1 false,.own 99 (i+3),.own 156 (i+4),.v 3 1 false,.v 25 1 false,.own 148 (i+5)]
end Go.Proofs.YtjodhcdmhobmoaaGreatDoor
