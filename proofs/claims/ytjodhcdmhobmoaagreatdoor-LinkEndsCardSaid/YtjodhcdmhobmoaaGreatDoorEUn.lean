/-
  A part of the proof.
-/
import Derived.Test.YtjodhcdmhobmoaaGreatDoorL6
import Derived.Test.YtjodhcdmhobmoaaGreatDoorProg
import Derived.KernelRfl
set_option linter.unusedVariables false
set_option linter.unusedSimpArgs false
namespace Go.Proofs.YtjodhcdmhobmoaaGreatDoor
open Go Go.Proofs.YtjodhcdmhobmoaaGreatDoor.Le
set_option maxRecDepth 100000
structure ZO where
 Z3B:Int
 Z1h:Int
 Z1z:Int
 Z1o:Int
 Z4b:Int
@[reducible] def Zu:ZO:=⟨(0:Int),(0:Int),(0:Int),(0:Int),(0:Int)⟩
structure ZG where
 ZfK:Int
 ZJ3:Int
 ZI:ZO
 Map:Int
 Hop:Int
 PPM:Int
 Z73:Int
@[reducible] def Zm:ZG:=⟨(0:Int),(0:Int),Zu,(0:Int),(0:Int),(0:Int),(0:Int)⟩
structure ZFB where
 x0:Int
 x1:Int
structure Zb where
 Z5c:Int
 Payload:List Int
structure Z0K where
 Side:Int
 Kind:Int
 ZH:Zb
 ZI:ZO
 Map:Int
 Number:Int
 Key:Int
structure Zn where
 ZJ7:List Z0K
 ZKJ:Int
 ZKG:Int
structure ZT where
 ZX:ZG
 Keys:ZFB
 Zc9:Int
 Events:List Zn
 Z1G:Int
 ZH:Int
structure Zr where
 SN:Int
 Z8Y:Int
 ZP:List Zb
 Open:Bool
 Empty:Bool
 Z0Z:Int
 Taken:Int
@[reducible] def Zho:Zr:=⟨(0:Int),(0:Int),[],false,false,(0:Int),(0:Int)⟩
structure Zo where
 Z1o:Int
 Ze7:Int
 Full:Bool
@[reducible] def Zq:Zo:=⟨(0:Int),(0:Int),false⟩
structure Z4 where
 Kind:Int
 ZI:ZO
 Map:Int
 Z0u:Int
 ZL:Int
 Z0C:Int
 Z4h:Int
 Mark:Int
 ZQ:Int
 Version:Int
 Length:Int
@[reducible] def Z0b:Z4:=⟨(0:Int),Zu,(0:Int),(0:Int),(0:Int),(0:Int),(0:Int),(0:Int),(0:Int),(0:Int),(0:Int)⟩
structure Z9 where
 Kind:Int
 Z0u:Int
 ZI:ZO
 Map:Int
@[reducible] def Z0I:Z9:=⟨(0:Int),(0:Int),Zu,(0:Int)⟩
structure Z7 where
 Z1G:Int
 Own:Int
 Since:Int
 Zl:List Z4
 Other:Int
 Z0i:Int
 Zy:List Z9
 Told:Bool
 ZQ:Int
 Z2Z:Int
 Z40:Bool
 Z0q:Bool
 Version:Int
 Length:Int
 Limit:Int
 Z4h:Int
 ZkQ:Int
 Mark:Int
 Z1W:Int
 Z2R:Int
@[reducible] def ZmN:Z7:=⟨(0:Int),(0:Int),(0:Int),[],(0:Int),(0:Int),[],false,(0:Int),(0:Int),false,false,(0:Int),(0:Int),(0:Int),(0:Int),(0:Int),(0:Int),(0:Int),(0:Int)⟩
structure Zv where
 Z1G:Int
 Key:Int
 Z4h:Int
 ZJn:Bool
 ZJd:Bool
 Tx:Int
 Rx:Int
@[reducible] def Zt:Zv:=⟨(0:Int),(0:Int),(0:Int),false,false,(0:Int),(0:Int)⟩
structure Zg where
 Good:Int
 Bad:Int
structure Z8 where
 Z1G:Int
 ZX:ZG
 Clock:Int
 Event:Int
 Last:Int
 Z0P:Int
 Size:Int
 Sync:Int
 Z3c:Int
 Z2W:Bool
 Got:Bool
 Good:Bool
 Z0Z:Bool
 More:Bool
 Arq:Zr
 Z0H:Zo
 Zi:Z7
 ZZ:Zv
 Key:Int
 Zx:List Zg
 Zf:List Z4
 ZL:Int
 Zc9:Int
@[reducible] def Z4e:Z8:=⟨(0:Int),Zm,(0:Int),(0:Int),(0:Int),(0:Int),(0:Int),(0:Int),(0:Int),false,false,false,false,false,Zho,Zq,ZmN,Zt,(0:Int),[],[],(0:Int),(0:Int)⟩
structure Z5 where
 Kind:Int
 Event:Int
 ZH:Zb
 ZL6:Z9
 Number:Int
 ZI:ZO
structure ZJ where
 x0:Z8
 x1:Z8
structure Z2G where
 Start:Int
 End:Int
structure Zk where
 SN:Int
 Z8Y:Int
 MD:Int
 ZH:Zb
@[reducible] def Z0D:Zk:=⟨(0:Int),(0:Int),(0:Int),(⟨(0:Int),[]⟩:Zb)⟩
structure Zd where
 Z40:Bool
 ZI:Bool
 Map:Bool
 Z0u:Bool
 ZL:Bool
 Z0C:Bool
 Z4h:Bool
 Mark:Bool
 ZQ:Bool
 Version:Bool
 Length:Bool
@[reducible] def Z0c:Zd:=⟨false,false,false,false,false,false,false,false,false,false,false⟩
structure Z16 where
 Link:Z8
 Z0G:List Z5
structure Z4K where
 SN:Int
 Z8Y:Int
 Open:Bool
 Empty:Bool
 Z0Z:Int
 Taken:Int
structure Z2C where
 Z1G:Int
 Own:Int
 Since:Int
 Other:Int
 Z0i:Int
 Told:Bool
 ZQ:Int
 Z2Z:Int
 Z40:Bool
 Z0q:Bool
 Version:Int
 Length:Int
 Limit:Int
 Z4h:Int
 ZkQ:Int
 Mark:Int
 Z1W:Int
 Z2R:Int
structure Z39 where
 Z1G:Int
 ZX:ZG
 Clock:Int
 Event:Int
 Last:Int
 Z0P:Int
 Size:Int
 Sync:Int
 Z3c:Int
 Z2W:Bool
 Got:Bool
 Good:Bool
 Z0Z:Bool
 More:Bool
 Arq:Z4K
 Z0H:Zo
 Zi:Z2C
 ZZ:Zv
 Key:Int
 ZL:Int
 Zc9:Int
structure Z0v where
 Link:Z39
structure Z1g where
 q0:List Int
structure Z0n where
 q0:List Z4
structure Z0U where
 q0:List Z9
structure Z17 where
 q0:List Zg
structure Z0V where
 q0:List Int
structure Z1R where
 q0:List Int
structure Z35 where
 q0:List Int
structure Z3L where
 q0:List Int
structure Z2s where
 q0:List Int
structure Z1J where
 q0:Z16
@[reducible] def Ty:Nat->Type
 | 1344=>Z1g
 | 1345=>Z0n
 | 1346=>Z0U
 | 1347=>Z17
 | 1349=>Z0V
 | 1351=>Z1R
 | 1352=>Z35
 | 1350=>Z3L
 | 1348=>Z2s
 | 1353=>Z1J
 | 115=>Z0v
 | 4=>Bool
 | 5=>Int
 | 83=>Z0K
 | 113=>Zn
 | 59=>ZT
 | 3=>Int
 | 62=>List Int
 | 68=>Zb
 | 156=>Z4
 | 138=>Z9
 | 99=>Zg
 | 44=>Z8
 | 60=>Z8×Int×Bool
 | 45=>Int
 | 46=>Z8×Int
 | 63=>Z8×(List Int)
 | 148=>Z5
 | 77=>List Z5
 | 86=>Z8×(List Z5)×Bool
 | 78=>Z8×(List Z5)
 | 31=>List Zb
 | 39=>Z7
 | 36=>List Z4
 | 37=>List Z9
 | 42=>List Zg
 | 35=>Zo
 | 33=>Zr
 | 109=>ZJ
 | 110=>ZJ×Int
 | 28=>ZG
 | 29=>Int
 | 25=>Int
 | 52=>Z2G
 | 24=>ZO
 | 26=>Int
 | 226=>List Int
 | 70=>Zk
 | 75=>Zr×Zk
 | 71=>Zk×Int
 | 120=>(List Int)×Int
 | 104=>Int×Int
 | 30=>Int
 | 22=>Int
 | 189=>Zr×Int
 | 262=>Zd
 | 41=>Zv
 | 129=>Zo×Int
 | 135=>Z7×(List Z9)
 | 140=>Z7×(List Z4)
 | 208=>(List Z9)×(List Z9)
 | 216=>Z7×Z4
 | 269=>(List Z9)×Int
 | 222=>Z7×(List Z4)×Int
 | 9=>ByteArray
 | 254=>List Int
 | 163=>Zr×Zb×Bool×Bool
 | 231=>Z4×Int
 | 233=>Z7×(List Z5)
 | 237=>Z7×(List Z4)×(List Z5)
 | _=>Empty
abbrev cu8:Za Ty Int:=Za.int .u8
abbrev ZI0:Za Ty Int:=Za.int .u16
abbrev ZIY:Za Ty Int:=Za.int .u32
abbrev Z3N:Za Ty Int:=Za.int .u64
abbrev ZW:Za Ty Int:=Za.int .i64
abbrev cbo:Za Ty Bool:=Za.bool
abbrev cst:Za Ty ByteArray:=Za.str
def ZhS:Za Ty Zb:=Za.iso (fun x=>(x.Z5c,x.Payload,())) (fun p=>⟨p.1,p.2.1⟩) (Za.pair ZW (Za.pair (Za.list 5 1 (fun(a:Int)=>cu8.ZK a):Za Ty (List (Ty 5))) Za.unit))
def ZDW:Za Ty ZO:=Za.iso (fun x=>(x.Z3B,x.Z1h,x.Z1z,x.Z1o,x.Z4b,())) (fun p=>⟨p.1,p.2.1,p.2.2.1,p.2.2.2.1,p.2.2.2.2.1⟩) (Za.pair ZW (Za.pair ZW (Za.pair ZW (Za.pair ZW (Za.pair ZW Za.unit)))))
def ZIb:Za Ty Z0K:=Za.iso (fun x=>(x.Side,x.Kind,x.ZH,x.ZI,x.Map,x.Number,x.Key,())) (fun p=>⟨p.1,p.2.1,p.2.2.1,p.2.2.2.1,p.2.2.2.2.1,p.2.2.2.2.2.1,p.2.2.2.2.2.2.1⟩) (Za.pair ZW (Za.pair ZW (Za.pair ZhS (Za.pair ZDW (Za.pair Z3N (Za.pair Z3N (Za.pair Z3N Za.unit)))))))
def ZtQ:Za Ty Zn:=Za.iso (fun x=>(x.ZJ7,x.ZKJ,x.ZKG,())) (fun p=>⟨p.1,p.2.1,p.2.2.1⟩) (Za.pair (Za.list 83 12 (fun(a:Z0K)=>.agg (ZIb.ZC a)):Za Ty (List (Ty 83))) (Za.pair ZW (Za.pair ZW Za.unit)))
def ZIy:Za Ty ZG:=Za.iso (fun x=>(x.ZfK,x.ZJ3,x.ZI,x.Map,x.Hop,x.PPM,x.Z73,())) (fun p=>⟨p.1,p.2.1,p.2.2.1,p.2.2.2.1,p.2.2.2.2.1,p.2.2.2.2.2.1,p.2.2.2.2.2.2.1⟩) (Za.pair ZIY (Za.pair ZIY (Za.pair ZDW (Za.pair Z3N (Za.pair ZW (Za.pair ZW (Za.pair ZW Za.unit)))))))
def ZMn:Za Ty ZFB:=Za.iso (fun x=>(x.x0,x.x1,())) (fun p=>⟨p.1,p.2.1⟩) (Za.pair Z3N (Za.pair Z3N Za.unit))
def ZKF:Za Ty ZT:=Za.iso (fun x=>(x.ZX,x.Keys,x.Zc9,x.Events,x.Z1G,x.ZH,())) (fun p=>⟨p.1,p.2.1,p.2.2.1,p.2.2.2.1,p.2.2.2.2.1,p.2.2.2.2.2.1⟩) (Za.pair ZIy (Za.pair ZMn (Za.pair Z3N (Za.pair (Za.list 113 3 (fun(a:Zn)=>.agg (ZtQ.ZC a)):Za Ty (List (Ty 113))) (Za.pair ZW (Za.pair ZW Za.unit))))))
def Z0B:Za Ty Z4:=Za.iso (fun x=>(x.Kind,x.ZI,x.Map,x.Z0u,x.ZL,x.Z0C,x.Z4h,x.Mark,x.ZQ,x.Version,x.Length,())) (fun p=>⟨p.1,p.2.1,p.2.2.1,p.2.2.2.1,p.2.2.2.2.1,p.2.2.2.2.2.1,p.2.2.2.2.2.2.1,p.2.2.2.2.2.2.2.1,p.2.2.2.2.2.2.2.2.1,p.2.2.2.2.2.2.2.2.2.1,p.2.2.2.2.2.2.2.2.2.2.1⟩) (Za.pair ZW (Za.pair ZDW (Za.pair Z3N (Za.pair ZI0 (Za.pair ZW (Za.pair ZW (Za.pair Z3N (Za.pair Z3N (Za.pair Z3N (Za.pair ZW (Za.pair ZW Za.unit)))))))))))
def Z0T:Za Ty Z9:=Za.iso (fun x=>(x.Kind,x.Z0u,x.ZI,x.Map,())) (fun p=>⟨p.1,p.2.1,p.2.2.1,p.2.2.2.1⟩) (Za.pair ZW (Za.pair ZI0 (Za.pair ZDW (Za.pair Z3N Za.unit))))
def ZDZ:Za Ty Zg:=Za.iso (fun x=>(x.Good,x.Bad,())) (fun p=>⟨p.1,p.2.1⟩) (Za.pair ZW (Za.pair ZW Za.unit))
def ZaT:Za Ty Zr:=Za.iso (fun x=>(x.SN,x.Z8Y,x.ZP,x.Open,x.Empty,x.Z0Z,x.Taken,())) (fun p=>⟨p.1,p.2.1,p.2.2.1,p.2.2.2.1,p.2.2.2.2.1,p.2.2.2.2.2.1,p.2.2.2.2.2.2.1⟩) (Za.pair ZW (Za.pair ZW (Za.pair (Za.list 68 2 (fun(a:Zb)=>.agg (ZhS.ZC a)):Za Ty (List (Ty 68))) (Za.pair cbo (Za.pair cbo (Za.pair ZW (Za.pair ZW Za.unit)))))))
def Zwl:Za Ty Zo:=Za.iso (fun x=>(x.Z1o,x.Ze7,x.Full,())) (fun p=>⟨p.1,p.2.1,p.2.2.1⟩) (Za.pair ZW (Za.pair ZW (Za.pair cbo Za.unit)))
def Z30:Za Ty Z7:=Za.iso (fun x=>(x.Z1G,x.Own,x.Since,x.Zl,x.Other,x.Z0i,x.Zy,x.Told,x.ZQ,x.Z2Z,x.Z40,x.Z0q,x.Version,x.Length,x.Limit,x.Z4h,x.ZkQ,x.Mark,x.Z1W,x.Z2R,())) (fun p=>⟨p.1,p.2.1,p.2.2.1,p.2.2.2.1,p.2.2.2.2.1,p.2.2.2.2.2.1,p.2.2.2.2.2.2.1,p.2.2.2.2.2.2.2.1,p.2.2.2.2.2.2.2.2.1,p.2.2.2.2.2.2.2.2.2.1,p.2.2.2.2.2.2.2.2.2.2.1,p.2.2.2.2.2.2.2.2.2.2.2.1,p.2.2.2.2.2.2.2.2.2.2.2.2.1,p.2.2.2.2.2.2.2.2.2.2.2.2.2.1,p.2.2.2.2.2.2.2.2.2.2.2.2.2.2.1,p.2.2.2.2.2.2.2.2.2.2.2.2.2.2.2.1,p.2.2.2.2.2.2.2.2.2.2.2.2.2.2.2.2.1,p.2.2.2.2.2.2.2.2.2.2.2.2.2.2.2.2.2.1,p.2.2.2.2.2.2.2.2.2.2.2.2.2.2.2.2.2.2.1,p.2.2.2.2.2.2.2.2.2.2.2.2.2.2.2.2.2.2.2.1⟩) (Za.pair ZW (Za.pair ZW (Za.pair ZW (Za.pair (Za.list 156 15 (fun(a:Z4)=>.agg (Z0B.ZC a)):Za Ty (List (Ty 156))) (Za.pair ZW (Za.pair ZW (Za.pair (Za.list 138 8 (fun(a:Z9)=>.agg (Z0T.ZC a)):Za Ty (List (Ty 138))) (Za.pair cbo (Za.pair Z3N (Za.pair Z3N (Za.pair cbo (Za.pair cbo (Za.pair ZW (Za.pair ZW (Za.pair ZW (Za.pair Z3N (Za.pair Z3N (Za.pair Z3N (Za.pair ZW (Za.pair ZW Za.unit))))))))))))))))))))
def ZKH:Za Ty Zv:=Za.iso (fun x=>(x.Z1G,x.Key,x.Z4h,x.ZJn,x.ZJd,x.Tx,x.Rx,())) (fun p=>⟨p.1,p.2.1,p.2.2.1,p.2.2.2.1,p.2.2.2.2.1,p.2.2.2.2.2.1,p.2.2.2.2.2.2.1⟩) (Za.pair ZW (Za.pair Z3N (Za.pair Z3N (Za.pair cbo (Za.pair cbo (Za.pair Z3N (Za.pair Z3N Za.unit)))))))
def Z3T:Za Ty Z8:=Za.iso (fun x=>(x.Z1G,x.ZX,x.Clock,x.Event,x.Last,x.Z0P,x.Size,x.Sync,x.Z3c,x.Z2W,x.Got,x.Good,x.Z0Z,x.More,x.Arq,x.Z0H,x.Zi,x.ZZ,x.Key,x.Zx,x.Zf,x.ZL,x.Zc9,())) (fun p=>⟨p.1,p.2.1,p.2.2.1,p.2.2.2.1,p.2.2.2.2.1,p.2.2.2.2.2.1,p.2.2.2.2.2.2.1,p.2.2.2.2.2.2.2.1,p.2.2.2.2.2.2.2.2.1,p.2.2.2.2.2.2.2.2.2.1,p.2.2.2.2.2.2.2.2.2.2.1,p.2.2.2.2.2.2.2.2.2.2.2.1,p.2.2.2.2.2.2.2.2.2.2.2.2.1,p.2.2.2.2.2.2.2.2.2.2.2.2.2.1,p.2.2.2.2.2.2.2.2.2.2.2.2.2.2.1,p.2.2.2.2.2.2.2.2.2.2.2.2.2.2.2.1,p.2.2.2.2.2.2.2.2.2.2.2.2.2.2.2.2.1,p.2.2.2.2.2.2.2.2.2.2.2.2.2.2.2.2.2.1,p.2.2.2.2.2.2.2.2.2.2.2.2.2.2.2.2.2.2.1,p.2.2.2.2.2.2.2.2.2.2.2.2.2.2.2.2.2.2.2.1,p.2.2.2.2.2.2.2.2.2.2.2.2.2.2.2.2.2.2.2.2.1,p.2.2.2.2.2.2.2.2.2.2.2.2.2.2.2.2.2.2.2.2.2.1,p.2.2.2.2.2.2.2.2.2.2.2.2.2.2.2.2.2.2.2.2.2.2.1⟩) (Za.pair ZW (Za.pair ZIy (Za.pair ZW (Za.pair ZI0 (Za.pair ZW (Za.pair ZW (Za.pair ZW (Za.pair ZW (Za.pair ZW (Za.pair cbo (Za.pair cbo (Za.pair cbo (Za.pair cbo (Za.pair cbo (Za.pair ZaT (Za.pair Zwl (Za.pair Z30 (Za.pair ZKH (Za.pair Z3N (Za.pair (Za.list 99 2 (fun(a:Zg)=>.agg (ZDZ.ZC a)):Za Ty (List (Ty 99))) (Za.pair (Za.list 156 15 (fun(a:Z4)=>.agg (Z0B.ZC a)):Za Ty (List (Ty 156))) (Za.pair ZW (Za.pair Z3N Za.unit)))))))))))))))))))))))
def Z19:Za Ty Z5:=Za.iso (fun x=>(x.Kind,x.Event,x.ZH,x.ZL6,x.Number,x.ZI,())) (fun p=>⟨p.1,p.2.1,p.2.2.1,p.2.2.2.1,p.2.2.2.2.1,p.2.2.2.2.2.1⟩) (Za.pair ZW (Za.pair ZI0 (Za.pair ZhS (Za.pair Z0T (Za.pair Z3N (Za.pair ZDW Za.unit))))))
def Zfk:Za Ty ZJ:=Za.iso (fun x=>(x.x0,x.x1,())) (fun p=>⟨p.1,p.2.1⟩) (Za.pair Z3T (Za.pair Z3T Za.unit))
def ZMm:Za Ty Z2G:=Za.iso (fun x=>(x.Start,x.End,())) (fun p=>⟨p.1,p.2.1⟩) (Za.pair ZW (Za.pair ZW Za.unit))
def ZkK:Za Ty Zk:=Za.iso (fun x=>(x.SN,x.Z8Y,x.MD,x.ZH,())) (fun p=>⟨p.1,p.2.1,p.2.2.1,p.2.2.2.1⟩) (Za.pair ZW (Za.pair ZW (Za.pair ZW (Za.pair ZhS Za.unit))))
def ZIf:Za Ty Zd:=Za.iso (fun x=>(x.Z40,x.ZI,x.Map,x.Z0u,x.ZL,x.Z0C,x.Z4h,x.Mark,x.ZQ,x.Version,x.Length,())) (fun p=>⟨p.1,p.2.1,p.2.2.1,p.2.2.2.1,p.2.2.2.2.1,p.2.2.2.2.2.1,p.2.2.2.2.2.2.1,p.2.2.2.2.2.2.2.1,p.2.2.2.2.2.2.2.2.1,p.2.2.2.2.2.2.2.2.2.1,p.2.2.2.2.2.2.2.2.2.2.1⟩) (Za.pair cbo (Za.pair cbo (Za.pair cbo (Za.pair cbo (Za.pair cbo (Za.pair cbo (Za.pair cbo (Za.pair cbo (Za.pair cbo (Za.pair cbo (Za.pair cbo Za.unit)))))))))))
def ZLA:Za Ty Z4K:=Za.iso (fun x=>(x.SN,x.Z8Y,(),x.Open,x.Empty,x.Z0Z,x.Taken,())) (fun p=>⟨p.1,p.2.1,p.2.2.2.1,p.2.2.2.2.1,p.2.2.2.2.2.1,p.2.2.2.2.2.2.1⟩) (Za.pair ZW (Za.pair ZW (Za.pair Za.skip (Za.pair cbo (Za.pair cbo (Za.pair ZW (Za.pair ZW Za.unit)))))))
def ZLu:Za Ty Z2C:=Za.iso (fun x=>(x.Z1G,x.Own,x.Since,(),x.Other,x.Z0i,(),x.Told,x.ZQ,x.Z2Z,x.Z40,x.Z0q,x.Version,x.Length,x.Limit,x.Z4h,x.ZkQ,x.Mark,x.Z1W,x.Z2R,())) (fun p=>⟨p.1,p.2.1,p.2.2.1,p.2.2.2.2.1,p.2.2.2.2.2.1,p.2.2.2.2.2.2.2.1,p.2.2.2.2.2.2.2.2.1,p.2.2.2.2.2.2.2.2.2.1,p.2.2.2.2.2.2.2.2.2.2.1,p.2.2.2.2.2.2.2.2.2.2.2.1,p.2.2.2.2.2.2.2.2.2.2.2.2.1,p.2.2.2.2.2.2.2.2.2.2.2.2.2.1,p.2.2.2.2.2.2.2.2.2.2.2.2.2.2.1,p.2.2.2.2.2.2.2.2.2.2.2.2.2.2.2.1,p.2.2.2.2.2.2.2.2.2.2.2.2.2.2.2.2.1,p.2.2.2.2.2.2.2.2.2.2.2.2.2.2.2.2.2.1,p.2.2.2.2.2.2.2.2.2.2.2.2.2.2.2.2.2.2.1,p.2.2.2.2.2.2.2.2.2.2.2.2.2.2.2.2.2.2.2.1⟩) (Za.pair ZW (Za.pair ZW (Za.pair ZW (Za.pair Za.skip (Za.pair ZW (Za.pair ZW (Za.pair Za.skip (Za.pair cbo (Za.pair Z3N (Za.pair Z3N (Za.pair cbo (Za.pair cbo (Za.pair ZW (Za.pair ZW (Za.pair ZW (Za.pair Z3N (Za.pair Z3N (Za.pair Z3N (Za.pair ZW (Za.pair ZW Za.unit))))))))))))))))))))
def ZLI:Za Ty Z39:=Za.iso (fun x=>(x.Z1G,x.ZX,x.Clock,x.Event,x.Last,x.Z0P,x.Size,x.Sync,x.Z3c,x.Z2W,x.Got,x.Good,x.Z0Z,x.More,x.Arq,x.Z0H,x.Zi,x.ZZ,x.Key,(),(),x.ZL,x.Zc9,())) (fun p=>⟨p.1,p.2.1,p.2.2.1,p.2.2.2.1,p.2.2.2.2.1,p.2.2.2.2.2.1,p.2.2.2.2.2.2.1,p.2.2.2.2.2.2.2.1,p.2.2.2.2.2.2.2.2.1,p.2.2.2.2.2.2.2.2.2.1,p.2.2.2.2.2.2.2.2.2.2.1,p.2.2.2.2.2.2.2.2.2.2.2.1,p.2.2.2.2.2.2.2.2.2.2.2.2.1,p.2.2.2.2.2.2.2.2.2.2.2.2.2.1,p.2.2.2.2.2.2.2.2.2.2.2.2.2.2.1,p.2.2.2.2.2.2.2.2.2.2.2.2.2.2.2.1,p.2.2.2.2.2.2.2.2.2.2.2.2.2.2.2.2.1,p.2.2.2.2.2.2.2.2.2.2.2.2.2.2.2.2.2.1,p.2.2.2.2.2.2.2.2.2.2.2.2.2.2.2.2.2.2.1,p.2.2.2.2.2.2.2.2.2.2.2.2.2.2.2.2.2.2.2.2.2.1,p.2.2.2.2.2.2.2.2.2.2.2.2.2.2.2.2.2.2.2.2.2.2.1⟩) (Za.pair ZW (Za.pair ZIy (Za.pair ZW (Za.pair ZI0 (Za.pair ZW (Za.pair ZW (Za.pair ZW (Za.pair ZW (Za.pair ZW (Za.pair cbo (Za.pair cbo (Za.pair cbo (Za.pair cbo (Za.pair cbo (Za.pair ZLA (Za.pair Zwl (Za.pair ZLu (Za.pair ZKH (Za.pair Z3N (Za.pair Za.skip (Za.pair Za.skip (Za.pair ZW (Za.pair Z3N Za.unit)))))))))))))))))))))))
def ZAj:Za Ty Z0v:=Za.iso (fun x=>(x.Link,(),())) (fun p=>⟨p.1⟩) (Za.pair ZLI (Za.pair Za.skip Za.unit))
@[reducible] def U:Z3Q where
 Ty:=Ty
 esz:=fun t=>match t with
  | 4=>1
  | 5=>1
  | 83=>12
  | 113=>3
  | 59=>17
  | 3=>1
  | 62=>1
  | 68=>2
  | 156=>15
  | 138=>8
  | 99=>2
  | 44=>66
  | 60=>1
  | 45=>1
  | 46=>1
  | 63=>1
  | 148=>18
  | 77=>1
  | 86=>1
  | 78=>1
  | 31=>1
  | 39=>20
  | 36=>1
  | 37=>1
  | 42=>1
  | 35=>3
  | 33=>7
  | 109=>132
  | 110=>1
  | 28=>11
  | 29=>1
  | 25=>1
  | 52=>2
  | 24=>5
  | 26=>1
  | 226=>1
  | 70=>5
  | 75=>1
  | 71=>1
  | 120=>1
  | 104=>1
  | 30=>1
  | 22=>1
  | 189=>1
  | 262=>11
  | 41=>7
  | 129=>1
  | 135=>1
  | 140=>1
  | 208=>1
  | 216=>1
  | 269=>1
  | 222=>1
  | 9=>1
  | 254=>1
  | 163=>1
  | 231=>1
  | 233=>1
  | 237=>1
  | _=>0
 enc:=fun t=>match t with
  | 115=>fun(a:Z0v)=>ZAj.ZHu 67 a
  | 4=>fun(a:Bool)=>cbo.ZK a
  | 5=>fun(a:Int)=>cu8.ZK a
  | 83=>fun(a:Z0K)=>.agg (ZIb.ZC a)
  | 113=>fun(a:Zn)=>.agg (ZtQ.ZC a)
  | 59=>fun(a:ZT)=>.agg (ZKF.ZC a)
  | 3=>fun(a:Int)=>ZW.ZK a
  | 62=>fun(a:List Int)=>((Za.list 5 1 (fun(a:Int)=>cu8.ZK a):Za Ty (List (Ty 5)))).ZK a
  | 68=>fun(a:Zb)=>.agg (ZhS.ZC a)
  | 156=>fun(a:Z4)=>.agg (Z0B.ZC a)
  | 138=>fun(a:Z9)=>.agg (Z0T.ZC a)
  | 99=>fun(a:Zg)=>.agg (ZDZ.ZC a)
  | 44=>fun(a:Z8)=>.agg (Z3T.ZC a)
  | 60=>fun(a:Z8×Int×Bool)=>.tup [(.agg (Z3T.ZC a.1)),(ZW.ZK a.2.1),(cbo.ZK a.2.2)]
  | 45=>fun(a:Int)=>ZW.ZK a
  | 46=>fun(a:Z8×Int)=>.tup [(.agg (Z3T.ZC a.1)),(ZW.ZK a.2)]
  | 63=>fun(a:Z8×(List Int))=>.tup [(.agg (Z3T.ZC a.1)),(((Za.list 5 1 (fun(a:Int)=>cu8.ZK a):Za Ty (List (Ty 5)))).ZK a.2)]
  | 148=>fun(a:Z5)=>.agg (Z19.ZC a)
  | 77=>fun(a:List Z5)=>((Za.list 148 18 (fun(a:Z5)=>.agg (Z19.ZC a)):Za Ty (List (Ty 148)))).ZK a
  | 86=>fun(a:Z8×(List Z5)×Bool)=>.tup [(.agg (Z3T.ZC a.1)),(((Za.list 148 18 (fun(a:Z5)=>.agg (Z19.ZC a)):Za Ty (List (Ty 148)))).ZK a.2.1),(cbo.ZK a.2.2)]
  | 78=>fun(a:Z8×(List Z5))=>.tup [(.agg (Z3T.ZC a.1)),(((Za.list 148 18 (fun(a:Z5)=>.agg (Z19.ZC a)):Za Ty (List (Ty 148)))).ZK a.2)]
  | 31=>fun(a:List Zb)=>((Za.list 68 2 (fun(a:Zb)=>.agg (ZhS.ZC a)):Za Ty (List (Ty 68)))).ZK a
  | 39=>fun(a:Z7)=>.agg (Z30.ZC a)
  | 36=>fun(a:List Z4)=>((Za.list 156 15 (fun(a:Z4)=>.agg (Z0B.ZC a)):Za Ty (List (Ty 156)))).ZK a
  | 37=>fun(a:List Z9)=>((Za.list 138 8 (fun(a:Z9)=>.agg (Z0T.ZC a)):Za Ty (List (Ty 138)))).ZK a
  | 42=>fun(a:List Zg)=>((Za.list 99 2 (fun(a:Zg)=>.agg (ZDZ.ZC a)):Za Ty (List (Ty 99)))).ZK a
  | 35=>fun(a:Zo)=>.agg (Zwl.ZC a)
  | 33=>fun(a:Zr)=>.agg (ZaT.ZC a)
  | 109=>fun(a:ZJ)=>.agg (Zfk.ZC a)
  | 110=>fun(a:ZJ×Int)=>.tup [(.agg (Zfk.ZC a.1)),(ZW.ZK a.2)]
  | 28=>fun(a:ZG)=>.agg (ZIy.ZC a)
  | 29=>fun(a:Int)=>Z3N.ZK a
  | 25=>fun(a:Int)=>Z3N.ZK a
  | 52=>fun(a:Z2G)=>.agg (ZMm.ZC a)
  | 24=>fun(a:ZO)=>.agg (ZDW.ZC a)
  | 26=>fun(a:Int)=>Z3N.ZK a
  | 226=>fun(a:List Int)=>((Za.list 3 1 (fun(a:Int)=>ZW.ZK a):Za Ty (List (Ty 3)))).ZK a
  | 70=>fun(a:Zk)=>.agg (ZkK.ZC a)
  | 75=>fun(a:Zr×Zk)=>.tup [(.agg (ZaT.ZC a.1)),(.agg (ZkK.ZC a.2))]
  | 71=>fun(a:Zk×Int)=>.tup [(.agg (ZkK.ZC a.1)),(ZW.ZK a.2)]
  | 120=>fun(a:(List Int)×Int)=>.tup [(((Za.list 5 1 (fun(a:Int)=>cu8.ZK a):Za Ty (List (Ty 5)))).ZK a.1),(ZW.ZK a.2)]
  | 104=>fun(a:Int×Int)=>.tup [(ZW.ZK a.1),(ZW.ZK a.2)]
  | 30=>fun(a:Int)=>ZI0.ZK a
  | 22=>fun(a:Int)=>ZIY.ZK a
  | 189=>fun(a:Zr×Int)=>.tup [(.agg (ZaT.ZC a.1)),(ZW.ZK a.2)]
  | 262=>fun(a:Zd)=>.agg (ZIf.ZC a)
  | 41=>fun(a:Zv)=>.agg (ZKH.ZC a)
  | 129=>fun(a:Zo×Int)=>.tup [(.agg (Zwl.ZC a.1)),(ZW.ZK a.2)]
  | 135=>fun(a:Z7×(List Z9))=>.tup [(.agg (Z30.ZC a.1)),(((Za.list 138 8 (fun(a:Z9)=>.agg (Z0T.ZC a)):Za Ty (List (Ty 138)))).ZK a.2)]
  | 140=>fun(a:Z7×(List Z4))=>.tup [(.agg (Z30.ZC a.1)),(((Za.list 156 15 (fun(a:Z4)=>.agg (Z0B.ZC a)):Za Ty (List (Ty 156)))).ZK a.2)]
  | 208=>fun(a:(List Z9)×(List Z9))=>.tup [(((Za.list 138 8 (fun(a:Z9)=>.agg (Z0T.ZC a)):Za Ty (List (Ty 138)))).ZK a.1),(((Za.list 138 8 (fun(a:Z9)=>.agg (Z0T.ZC a)):Za Ty (List (Ty 138)))).ZK a.2)]
  | 216=>fun(a:Z7×Z4)=>.tup [(.agg (Z30.ZC a.1)),(.agg (Z0B.ZC a.2))]
  | 269=>fun(a:(List Z9)×Int)=>.tup [(((Za.list 138 8 (fun(a:Z9)=>.agg (Z0T.ZC a)):Za Ty (List (Ty 138)))).ZK a.1),(ZW.ZK a.2)]
  | 222=>fun(a:Z7×(List Z4)×Int)=>.tup [(.agg (Z30.ZC a.1)),(((Za.list 156 15 (fun(a:Z4)=>.agg (Z0B.ZC a)):Za Ty (List (Ty 156)))).ZK a.2.1),(ZW.ZK a.2.2)]
  | 9=>fun(a:ByteArray)=>cst.ZK a
  | 254=>fun(a:List Int)=>((Za.list 25 1 (fun(a:Int)=>Z3N.ZK a):Za Ty (List (Ty 25)))).ZK a
  | 163=>fun(a:Zr×Zb×Bool×Bool)=>.tup [(.agg (ZaT.ZC a.1)),(.agg (ZhS.ZC a.2.1)),(cbo.ZK a.2.2.1),(cbo.ZK a.2.2.2)]
  | 231=>fun(a:Z4×Int)=>.tup [(.agg (Z0B.ZC a.1)),(ZW.ZK a.2)]
  | 233=>fun(a:Z7×(List Z5))=>.tup [(.agg (Z30.ZC a.1)),(((Za.list 148 18 (fun(a:Z5)=>.agg (Z19.ZC a)):Za Ty (List (Ty 148)))).ZK a.2)]
  | 237=>fun(a:Z7×(List Z4)×(List Z5))=>.tup [(.agg (Z30.ZC a.1)),(((Za.list 156 15 (fun(a:Z4)=>.agg (Z0B.ZC a)):Za Ty (List (Ty 156)))).ZK a.2.1),(((Za.list 148 18 (fun(a:Z5)=>.agg (Z19.ZC a)):Za Ty (List (Ty 148)))).ZK a.2.2)]
  | _=>fun _=>.no
 encS:=fun t=>match t with
  | 115=>fun(a:Z0v)=>.raw (ZAj.ZHu 67 a)
  | 4=>fun(a:Bool)=>cbo.Z0W a
  | 5=>fun(a:Int)=>cu8.Z0W a
  | 83=>fun(a:Z0K)=>.agg (ZIb.encS a)
  | 113=>fun(a:Zn)=>.agg (ZtQ.encS a)
  | 59=>fun(a:ZT)=>.agg (ZKF.encS a)
  | 3=>fun(a:Int)=>ZW.Z0W a
  | 62=>fun(a:List Int)=>((Za.list 5 1 (fun(a:Int)=>cu8.ZK a):Za Ty (List (Ty 5)))).Z0W a
  | 68=>fun(a:Zb)=>.agg (ZhS.encS a)
  | 156=>fun(a:Z4)=>.agg (Z0B.encS a)
  | 138=>fun(a:Z9)=>.agg (Z0T.encS a)
  | 99=>fun(a:Zg)=>.agg (ZDZ.encS a)
  | 44=>fun(a:Z8)=>.agg (Z3T.encS a)
  | 60=>fun(a:Z8×Int×Bool)=>.tup [(.agg (Z3T.encS a.1)),(ZW.Z0W a.2.1),(cbo.Z0W a.2.2)]
  | 45=>fun(a:Int)=>ZW.Z0W a
  | 46=>fun(a:Z8×Int)=>.tup [(.agg (Z3T.encS a.1)),(ZW.Z0W a.2)]
  | 63=>fun(a:Z8×(List Int))=>.tup [(.agg (Z3T.encS a.1)),(((Za.list 5 1 (fun(a:Int)=>cu8.ZK a):Za Ty (List (Ty 5)))).Z0W a.2)]
  | 148=>fun(a:Z5)=>.agg (Z19.encS a)
  | 77=>fun(a:List Z5)=>((Za.list 148 18 (fun(a:Z5)=>.agg (Z19.ZC a)):Za Ty (List (Ty 148)))).Z0W a
  | 86=>fun(a:Z8×(List Z5)×Bool)=>.tup [(.agg (Z3T.encS a.1)),(((Za.list 148 18 (fun(a:Z5)=>.agg (Z19.ZC a)):Za Ty (List (Ty 148)))).Z0W a.2.1),(cbo.Z0W a.2.2)]
  | 78=>fun(a:Z8×(List Z5))=>.tup [(.agg (Z3T.encS a.1)),(((Za.list 148 18 (fun(a:Z5)=>.agg (Z19.ZC a)):Za Ty (List (Ty 148)))).Z0W a.2)]
  | 31=>fun(a:List Zb)=>((Za.list 68 2 (fun(a:Zb)=>.agg (ZhS.ZC a)):Za Ty (List (Ty 68)))).Z0W a
  | 39=>fun(a:Z7)=>.agg (Z30.encS a)
  | 36=>fun(a:List Z4)=>((Za.list 156 15 (fun(a:Z4)=>.agg (Z0B.ZC a)):Za Ty (List (Ty 156)))).Z0W a
  | 37=>fun(a:List Z9)=>((Za.list 138 8 (fun(a:Z9)=>.agg (Z0T.ZC a)):Za Ty (List (Ty 138)))).Z0W a
  | 42=>fun(a:List Zg)=>((Za.list 99 2 (fun(a:Zg)=>.agg (ZDZ.ZC a)):Za Ty (List (Ty 99)))).Z0W a
  | 35=>fun(a:Zo)=>.agg (Zwl.encS a)
  | 33=>fun(a:Zr)=>.agg (ZaT.encS a)
  | 109=>fun(a:ZJ)=>.agg (Zfk.encS a)
  | 110=>fun(a:ZJ×Int)=>.tup [(.agg (Zfk.encS a.1)),(ZW.Z0W a.2)]
  | 28=>fun(a:ZG)=>.agg (ZIy.encS a)
  | 29=>fun(a:Int)=>Z3N.Z0W a
  | 25=>fun(a:Int)=>Z3N.Z0W a
  | 52=>fun(a:Z2G)=>.agg (ZMm.encS a)
  | 24=>fun(a:ZO)=>.agg (ZDW.encS a)
  | 26=>fun(a:Int)=>Z3N.Z0W a
  | 226=>fun(a:List Int)=>((Za.list 3 1 (fun(a:Int)=>ZW.ZK a):Za Ty (List (Ty 3)))).Z0W a
  | 70=>fun(a:Zk)=>.agg (ZkK.encS a)
  | 75=>fun(a:Zr×Zk)=>.tup [(.agg (ZaT.encS a.1)),(.agg (ZkK.encS a.2))]
  | 71=>fun(a:Zk×Int)=>.tup [(.agg (ZkK.encS a.1)),(ZW.Z0W a.2)]
  | 120=>fun(a:(List Int)×Int)=>.tup [(((Za.list 5 1 (fun(a:Int)=>cu8.ZK a):Za Ty (List (Ty 5)))).Z0W a.1),(ZW.Z0W a.2)]
  | 104=>fun(a:Int×Int)=>.tup [(ZW.Z0W a.1),(ZW.Z0W a.2)]
  | 30=>fun(a:Int)=>ZI0.Z0W a
  | 22=>fun(a:Int)=>ZIY.Z0W a
  | 189=>fun(a:Zr×Int)=>.tup [(.agg (ZaT.encS a.1)),(ZW.Z0W a.2)]
  | 262=>fun(a:Zd)=>.agg (ZIf.encS a)
  | 41=>fun(a:Zv)=>.agg (ZKH.encS a)
  | 129=>fun(a:Zo×Int)=>.tup [(.agg (Zwl.encS a.1)),(ZW.Z0W a.2)]
  | 135=>fun(a:Z7×(List Z9))=>.tup [(.agg (Z30.encS a.1)),(((Za.list 138 8 (fun(a:Z9)=>.agg (Z0T.ZC a)):Za Ty (List (Ty 138)))).Z0W a.2)]
  | 140=>fun(a:Z7×(List Z4))=>.tup [(.agg (Z30.encS a.1)),(((Za.list 156 15 (fun(a:Z4)=>.agg (Z0B.ZC a)):Za Ty (List (Ty 156)))).Z0W a.2)]
  | 208=>fun(a:(List Z9)×(List Z9))=>.tup [(((Za.list 138 8 (fun(a:Z9)=>.agg (Z0T.ZC a)):Za Ty (List (Ty 138)))).Z0W a.1),(((Za.list 138 8 (fun(a:Z9)=>.agg (Z0T.ZC a)):Za Ty (List (Ty 138)))).Z0W a.2)]
  | 216=>fun(a:Z7×Z4)=>.tup [(.agg (Z30.encS a.1)),(.agg (Z0B.encS a.2))]
  | 269=>fun(a:(List Z9)×Int)=>.tup [(((Za.list 138 8 (fun(a:Z9)=>.agg (Z0T.ZC a)):Za Ty (List (Ty 138)))).Z0W a.1),(ZW.Z0W a.2)]
  | 222=>fun(a:Z7×(List Z4)×Int)=>.tup [(.agg (Z30.encS a.1)),(((Za.list 156 15 (fun(a:Z4)=>.agg (Z0B.ZC a)):Za Ty (List (Ty 156)))).Z0W a.2.1),(ZW.Z0W a.2.2)]
  | 9=>fun(a:ByteArray)=>cst.Z0W a
  | 254=>fun(a:List Int)=>((Za.list 25 1 (fun(a:Int)=>Z3N.ZK a):Za Ty (List (Ty 25)))).Z0W a
  | 163=>fun(a:Zr×Zb×Bool×Bool)=>.tup [(.agg (ZaT.encS a.1)),(.agg (ZhS.encS a.2.1)),(cbo.Z0W a.2.2.1),(cbo.Z0W a.2.2.2)]
  | 231=>fun(a:Z4×Int)=>.tup [(.agg (Z0B.encS a.1)),(ZW.Z0W a.2)]
  | 233=>fun(a:Z7×(List Z5))=>.tup [(.agg (Z30.encS a.1)),(((Za.list 148 18 (fun(a:Z5)=>.agg (Z19.ZC a)):Za Ty (List (Ty 148)))).Z0W a.2)]
  | 237=>fun(a:Z7×(List Z4)×(List Z5))=>.tup [(.agg (Z30.encS a.1)),(((Za.list 156 15 (fun(a:Z4)=>.agg (Z0B.ZC a)):Za Ty (List (Ty 156)))).Z0W a.2.1),(((Za.list 148 18 (fun(a:Z5)=>.agg (Z19.ZC a)):Za Ty (List (Ty 148)))).Z0W a.2.2)]
  | _=>fun _=>.no
 Zsr:=fun t=>match t with
  | 115=>fun v=>ZAj.ptrD 67 v
  | 4=>fun v=>cbo.one v
  | 5=>fun v=>cu8.one v
  | 83=>fun v=>ZIb.agg v
  | 113=>fun v=>ZtQ.agg v
  | 59=>fun v=>ZKF.agg v
  | 3=>fun v=>ZW.one v
  | 62=>fun v=>((Za.list 5 1 (fun(a:Int)=>cu8.ZK a):Za Ty (List (Ty 5)))).one v
  | 68=>fun v=>ZhS.agg v
  | 156=>fun v=>Z0B.agg v
  | 138=>fun v=>Z0T.agg v
  | 99=>fun v=>ZDZ.agg v
  | 44=>fun v=>Z3T.agg v
  | 60=>fun _=>none
  | 45=>fun v=>ZW.one v
  | 46=>fun _=>none
  | 63=>fun _=>none
  | 148=>fun v=>Z19.agg v
  | 77=>fun v=>((Za.list 148 18 (fun(a:Z5)=>.agg (Z19.ZC a)):Za Ty (List (Ty 148)))).one v
  | 86=>fun _=>none
  | 78=>fun _=>none
  | 31=>fun v=>((Za.list 68 2 (fun(a:Zb)=>.agg (ZhS.ZC a)):Za Ty (List (Ty 68)))).one v
  | 39=>fun v=>Z30.agg v
  | 36=>fun v=>((Za.list 156 15 (fun(a:Z4)=>.agg (Z0B.ZC a)):Za Ty (List (Ty 156)))).one v
  | 37=>fun v=>((Za.list 138 8 (fun(a:Z9)=>.agg (Z0T.ZC a)):Za Ty (List (Ty 138)))).one v
  | 42=>fun v=>((Za.list 99 2 (fun(a:Zg)=>.agg (ZDZ.ZC a)):Za Ty (List (Ty 99)))).one v
  | 35=>fun v=>Zwl.agg v
  | 33=>fun v=>ZaT.agg v
  | 109=>fun v=>Zfk.agg v
  | 110=>fun _=>none
  | 28=>fun v=>ZIy.agg v
  | 29=>fun v=>Z3N.one v
  | 25=>fun v=>Z3N.one v
  | 52=>fun v=>ZMm.agg v
  | 24=>fun v=>ZDW.agg v
  | 26=>fun v=>Z3N.one v
  | 226=>fun v=>((Za.list 3 1 (fun(a:Int)=>ZW.ZK a):Za Ty (List (Ty 3)))).one v
  | 70=>fun v=>ZkK.agg v
  | 75=>fun _=>none
  | 71=>fun _=>none
  | 120=>fun _=>none
  | 104=>fun _=>none
  | 30=>fun v=>ZI0.one v
  | 22=>fun v=>ZIY.one v
  | 189=>fun _=>none
  | 262=>fun v=>ZIf.agg v
  | 41=>fun v=>ZKH.agg v
  | 129=>fun _=>none
  | 135=>fun _=>none
  | 140=>fun _=>none
  | 208=>fun _=>none
  | 216=>fun _=>none
  | 269=>fun _=>none
  | 222=>fun _=>none
  | 9=>fun v=>cst.one v
  | 254=>fun v=>((Za.list 25 1 (fun(a:Int)=>Z3N.ZK a):Za Ty (List (Ty 25)))).one v
  | 163=>fun _=>none
  | 231=>fun _=>none
  | 233=>fun _=>none
  | 237=>fun _=>none
  | _=>fun _=>none
 keys:=[115,4,5,83,113,59,3,62,68,156,138,99,44,60,45,46,63,148,77,86,78,31,39,36,37,42,35,33,109,110,28,29,25,52,24,26,226,70,75,71,120,104,30,22,189,262,41,129,135,140,208,216,269,222,9,254,163,231,233,237]
theorem Z9D:Zc U ZhS [0,1]:=Zc.iso ((Zc.int _).pair ((Zc.list (U:=U) (t:=5) (n:=1) (e:=fun(a:Int)=>cu8.ZK a) (fun _=>rfl) rfl (fun a=>(Zc.int _:Zc U cu8 _).Z7d a) (fun a b h=>(Zc.int _:Zc U cu8 _).Z2P h)).pair Zc.unit)) (fun _=>rfl) (fun _=>rfl)
theorem Zd1:Zc U ZDW [0,0,0,0,0]:=Zc.iso ((Zc.int _).pair ((Zc.int _).pair ((Zc.int _).pair ((Zc.int _).pair ((Zc.int _).pair Zc.unit))))) (fun _=>rfl) (fun _=>rfl)
theorem Zl5:Zc U ZIb [0,0,0,1,0,0,0,0,0,0,0,0]:=Zc.iso ((Zc.int _).pair ((Zc.int _).pair ((Z9D).pair ((Zd1).pair ((Zc.int _).pair ((Zc.int _).pair ((Zc.int _).pair Zc.unit))))))) (fun _=>rfl) (fun _=>rfl)
theorem ZeJ:Zc U ZtQ [12,0,0]:=Zc.iso ((Zc.list (U:=U) (t:=83) (n:=12) (e:=fun(a:Z0K)=>.agg (ZIb.ZC a)) (fun _=>rfl) rfl (fun a=>Zl5.nr a) (fun a b h=>Zl5.inj _ _ (by injection h))).pair ((Zc.int _).pair ((Zc.int _).pair Zc.unit))) (fun _=>rfl) (fun _=>rfl)
theorem ZjD:Zc U ZIy [0,0,0,0,0,0,0,0,0,0,0]:=Zc.iso ((Zc.int _).pair ((Zc.int _).pair ((Zd1).pair ((Zc.int _).pair ((Zc.int _).pair ((Zc.int _).pair ((Zc.int _).pair Zc.unit))))))) (fun _=>rfl) (fun _=>rfl)
theorem ZM8:Zc U ZMn [0,0]:=Zc.iso ((Zc.int _).pair ((Zc.int _).pair Zc.unit)) (fun _=>rfl) (fun _=>rfl)
theorem Zt8:Zc U ZKF [0,0,0,0,0,0,0,0,0,0,0,0,0,0,3,0,0]:=Zc.iso ((ZjD).pair ((ZM8).pair ((Zc.int _).pair ((Zc.list (U:=U) (t:=113) (n:=3) (e:=fun(a:Zn)=>.agg (ZtQ.ZC a)) (fun _=>rfl) rfl (fun a=>ZeJ.nr a) (fun a b h=>ZeJ.inj _ _ (by injection h))).pair ((Zc.int _).pair ((Zc.int _).pair Zc.unit)))))) (fun _=>rfl) (fun _=>rfl)
theorem Z6F:Zc U Z0B [0,0,0,0,0,0,0,0,0,0,0,0,0,0,0]:=Zc.iso ((Zc.int _).pair ((Zd1).pair ((Zc.int _).pair ((Zc.int _).pair ((Zc.int _).pair ((Zc.int _).pair ((Zc.int _).pair ((Zc.int _).pair ((Zc.int _).pair ((Zc.int _).pair ((Zc.int _).pair Zc.unit))))))))))) (fun _=>rfl) (fun _=>rfl)
theorem Z7K:Zc U Z0T [0,0,0,0,0,0,0,0]:=Zc.iso ((Zc.int _).pair ((Zc.int _).pair ((Zd1).pair ((Zc.int _).pair Zc.unit)))) (fun _=>rfl) (fun _=>rfl)
theorem ZgO:Zc U ZDZ [0,0]:=Zc.iso ((Zc.int _).pair ((Zc.int _).pair Zc.unit)) (fun _=>rfl) (fun _=>rfl)
theorem ZpM:Zc U ZaT [0,0,2,0,0,0,0]:=Zc.iso ((Zc.int _).pair ((Zc.int _).pair ((Zc.list (U:=U) (t:=68) (n:=2) (e:=fun(a:Zb)=>.agg (ZhS.ZC a)) (fun _=>rfl) rfl (fun a=>Z9D.nr a) (fun a b h=>Z9D.inj _ _ (by injection h))).pair ((Zc.bool).pair ((Zc.bool).pair ((Zc.int _).pair ((Zc.int _).pair Zc.unit))))))) (fun _=>rfl) (fun _=>rfl)
theorem ZmP:Zc U Zwl [0,0,0]:=Zc.iso ((Zc.int _).pair ((Zc.int _).pair ((Zc.bool).pair Zc.unit))) (fun _=>rfl) (fun _=>rfl)
theorem ZpU:Zc U Z30 [0,0,0,15,0,0,8,0,0,0,0,0,0,0,0,0,0,0,0,0]:=Zc.iso ((Zc.int _).pair ((Zc.int _).pair ((Zc.int _).pair ((Zc.list (U:=U) (t:=156) (n:=15) (e:=fun(a:Z4)=>.agg (Z0B.ZC a)) (fun _=>rfl) rfl (fun a=>Z6F.nr a) (fun a b h=>Z6F.inj _ _ (by injection h))).pair ((Zc.int _).pair ((Zc.int _).pair ((Zc.list (U:=U) (t:=138) (n:=8) (e:=fun(a:Z9)=>.agg (Z0T.ZC a)) (fun _=>rfl) rfl (fun a=>Z7K.nr a) (fun a b h=>Z7K.inj _ _ (by injection h))).pair ((Zc.bool).pair ((Zc.int _).pair ((Zc.int _).pair ((Zc.bool).pair ((Zc.bool).pair ((Zc.int _).pair ((Zc.int _).pair ((Zc.int _).pair ((Zc.int _).pair ((Zc.int _).pair ((Zc.int _).pair ((Zc.int _).pair ((Zc.int _).pair Zc.unit)))))))))))))))))))) (fun _=>rfl) (fun _=>rfl)
theorem ZmC:Zc U ZKH [0,0,0,0,0,0,0]:=Zc.iso ((Zc.int _).pair ((Zc.int _).pair ((Zc.int _).pair ((Zc.bool).pair ((Zc.bool).pair ((Zc.int _).pair ((Zc.int _).pair Zc.unit))))))) (fun _=>rfl) (fun _=>rfl)
theorem Zli:Zc U Z3T [0,0,0,0,0,0,0,0,0,0,0,0,0,0,0,0,0,0,0,0,0,0,0,0,0,0,2,0,0,0,0,0,0,0,0,0,0,15,0,0,8,0,0,0,0,0,0,0,0,0,0,0,0,0,0,0,0,0,0,0,0,0,2,15,0,0]:=Zc.iso ((Zc.int _).pair ((ZjD).pair ((Zc.int _).pair ((Zc.int _).pair ((Zc.int _).pair ((Zc.int _).pair ((Zc.int _).pair ((Zc.int _).pair ((Zc.int _).pair ((Zc.bool).pair ((Zc.bool).pair ((Zc.bool).pair ((Zc.bool).pair ((Zc.bool).pair ((ZpM).pair ((ZmP).pair ((ZpU).pair ((ZmC).pair ((Zc.int _).pair ((Zc.list (U:=U) (t:=99) (n:=2) (e:=fun(a:Zg)=>.agg (ZDZ.ZC a)) (fun _=>rfl) rfl (fun a=>ZgO.nr a) (fun a b h=>ZgO.inj _ _ (by injection h))).pair ((Zc.list (U:=U) (t:=156) (n:=15) (e:=fun(a:Z4)=>.agg (Z0B.ZC a)) (fun _=>rfl) rfl (fun a=>Z6F.nr a) (fun a b h=>Z6F.inj _ _ (by injection h))).pair ((Zc.int _).pair ((Zc.int _).pair Zc.unit))))))))))))))))))))))) (fun _=>rfl) (fun _=>rfl)
theorem ZeN:Zc U Z19 [0,0,0,1,0,0,0,0,0,0,0,0,0,0,0,0,0,0]:=Zc.iso ((Zc.int _).pair ((Zc.int _).pair ((Z9D).pair ((Z7K).pair ((Zc.int _).pair ((Zd1).pair Zc.unit)))))) (fun _=>rfl) (fun _=>rfl)
theorem Znp:Zc U Zfk [0,0,0,0,0,0,0,0,0,0,0,0,0,0,0,0,0,0,0,0,0,0,0,0,0,0,2,0,0,0,0,0,0,0,0,0,0,15,0,0,8,0,0,0,0,0,0,0,0,0,0,0,0,0,0,0,0,0,0,0,0,0,2,15,0,0,0,0,0,0,0,0,0,0,0,0,0,0,0,0,0,0,0,0,0,0,0,0,0,0,0,0,2,0,0,0,0,0,0,0,0,0,0,15,0,0,8,0,0,0,0,0,0,0,0,0,0,0,0,0,0,0,0,0,0,0,0,0,2,15,0,0]:=Zc.iso ((Zli).pair ((Zli).pair Zc.unit)) (fun _=>rfl) (fun _=>rfl)
theorem ZuM:Zc U ZMm [0,0]:=Zc.iso ((Zc.int _).pair ((Zc.int _).pair Zc.unit)) (fun _=>rfl) (fun _=>rfl)
theorem ZvR:Zc U ZkK [0,0,0,0,1]:=Zc.iso ((Zc.int _).pair ((Zc.int _).pair ((Zc.int _).pair ((Z9D).pair Zc.unit)))) (fun _=>rfl) (fun _=>rfl)
theorem Znk:Zc U ZIf [0,0,0,0,0,0,0,0,0,0,0]:=Zc.iso ((Zc.bool).pair ((Zc.bool).pair ((Zc.bool).pair ((Zc.bool).pair ((Zc.bool).pair ((Zc.bool).pair ((Zc.bool).pair ((Zc.bool).pair ((Zc.bool).pair ((Zc.bool).pair ((Zc.bool).pair Zc.unit))))))))))) (fun _=>rfl) (fun _=>rfl)
theorem rows4:rowsOf Tryz.prog 4=[0]:=by kernel_rfl
theorem Z9T {E:Env} (hE:E.rows=rowsOf Tryz.prog):Z0L U E 4:=
 have c:Zc U cbo [0]:=Zc.bool
 ⟨fun a=>c.Z0R a,fun v a h=>by rw [hE,rows4];exact c.one h (ZKg h),fun a=>by first|rfl|exact(congrArg (fun x=>[x]) (c.Z0R a).symm),fun a=>c.Z7d a,fun a b h=>c.Z2P h⟩
theorem rows5:rowsOf Tryz.prog 5=[0]:=by kernel_rfl
theorem ZL3 {E:Env} (hE:E.rows=rowsOf Tryz.prog):Z0L U E 5:=
 have c:Zc U cu8 [0]:=Zc.int _
 ⟨fun a=>c.Z0R a,fun v a h=>by rw [hE,rows5];exact c.one h (Zk2 h),fun a=>by first|rfl|exact(congrArg (fun x=>[x]) (c.Z0R a).symm),fun a=>c.Z7d a,fun a b h=>c.Z2P h⟩
theorem ZLp:rowsOf Tryz.prog 83=[0,0,0,1,0,0,0,0,0,0,0,0]:=by kernel_rfl
theorem ZJf {E:Env} (hE:E.rows=rowsOf Tryz.prog):Z0L U E 83:=⟨fun a=>congrArg V.agg (Zl5.enc a),fun v a h=>by rw [hE,ZLp];exact Zl5.agg h,fun a=>(Zl5.enc a).symm,fun a=>Zl5.nr a,fun a b h=>Zl5.inj _ _ (by injection h)⟩
theorem ZJE:rowsOf Tryz.prog 113=[12,0,0]:=by kernel_rfl
theorem ZF6 {E:Env} (hE:E.rows=rowsOf Tryz.prog):Z0L U E 113:=⟨fun a=>congrArg V.agg (ZeJ.enc a),fun v a h=>by rw [hE,ZJE];exact ZeJ.agg h,fun a=>(ZeJ.enc a).symm,fun a=>ZeJ.nr a,fun a b h=>ZeJ.inj _ _ (by injection h)⟩
theorem ZKN:rowsOf Tryz.prog 59=[0,0,0,0,0,0,0,0,0,0,0,0,0,0,3,0,0]:=by kernel_rfl
theorem ZJ8 {E:Env} (hE:E.rows=rowsOf Tryz.prog):Z0L U E 59:=⟨fun a=>congrArg V.agg (Zt8.enc a),fun v a h=>by rw [hE,ZKN];exact Zt8.agg h,fun a=>(Zt8.enc a).symm,fun a=>Zt8.nr a,fun a b h=>Zt8.inj _ _ (by injection h)⟩
theorem rows3:rowsOf Tryz.prog 3=[0]:=by kernel_rfl
theorem Z9W {E:Env} (hE:E.rows=rowsOf Tryz.prog):Z0L U E 3:=
 have c:Zc U ZW [0]:=Zc.int _
 ⟨fun a=>c.Z0R a,fun v a h=>by rw [hE,rows3];exact c.one h (Zk2 h),fun a=>by first|rfl|exact(congrArg (fun x=>[x]) (c.Z0R a).symm),fun a=>c.Z7d a,fun a b h=>c.Z2P h⟩
theorem ZM9:rowsOf Tryz.prog 62=[1]:=by kernel_rfl
theorem Zdd {E:Env} (hE:E.rows=rowsOf Tryz.prog):Z0L U E 62:=
 have c:Zc U (Za.list 5 1 (fun(a:Int)=>cu8.ZK a):Za Ty (List (Ty 5))) [1]:=Zc.list (U:=U) (t:=5) (n:=1) (e:=fun(a:Int)=>cu8.ZK a) (fun _=>rfl) rfl (fun a=>(Zc.int _:Zc U cu8 _).Z7d a) (fun a b h=>(Zc.int _:Zc U cu8 _).Z2P h)
 ⟨fun a=>c.Z0R a,fun v a h=>by rw [hE,ZM9];exact c.one h (Zbi (U:=U) (t:=5) (n:=1) (e:=fun(a:Int)=>cu8.ZK a) h),fun a=>by first|rfl|exact(congrArg (fun x=>[x]) (c.Z0R a).symm),fun a=>c.Z7d a,fun a b h=>c.Z2P h⟩
theorem ZLF:rowsOf Tryz.prog 68=[0,1]:=by kernel_rfl
theorem ZpS {E:Env} (hE:E.rows=rowsOf Tryz.prog):Z0L U E 68:=⟨fun a=>congrArg V.agg (Z9D.enc a),fun v a h=>by rw [hE,ZLF];exact Z9D.agg h,fun a=>(Z9D.enc a).symm,fun a=>Z9D.nr a,fun a b h=>Z9D.inj _ _ (by injection h)⟩
theorem ZJO:rowsOf Tryz.prog 156=[0,0,0,0,0,0,0,0,0,0,0,0,0,0,0]:=by kernel_rfl
theorem Z7S {E:Env} (hE:E.rows=rowsOf Tryz.prog):Z0L U E 156:=⟨fun a=>congrArg V.agg (Z6F.enc a),fun v a h=>by rw [hE,ZJO];exact Z6F.agg h,fun a=>(Z6F.enc a).symm,fun a=>Z6F.nr a,fun a b h=>Z6F.inj _ _ (by injection h)⟩
theorem ZJM:rowsOf Tryz.prog 138=[0,0,0,0,0,0,0,0]:=by kernel_rfl
theorem ZFZ {E:Env} (hE:E.rows=rowsOf Tryz.prog):Z0L U E 138:=⟨fun a=>congrArg V.agg (Z7K.enc a),fun v a h=>by rw [hE,ZJM];exact Z7K.agg h,fun a=>(Z7K.enc a).symm,fun a=>Z7K.nr a,fun a b h=>Z7K.inj _ _ (by injection h)⟩
theorem ZL0:rowsOf Tryz.prog 99=[0,0]:=by kernel_rfl
theorem ZIS {E:Env} (hE:E.rows=rowsOf Tryz.prog):Z0L U E 99:=⟨fun a=>congrArg V.agg (ZgO.enc a),fun v a h=>by rw [hE,ZL0];exact ZgO.agg h,fun a=>(ZgO.enc a).symm,fun a=>ZgO.nr a,fun a b h=>ZgO.inj _ _ (by injection h)⟩
theorem ZMh:rowsOf Tryz.prog 44=[0,0,0,0,0,0,0,0,0,0,0,0,0,0,0,0,0,0,0,0,0,0,0,0,0,0,2,0,0,0,0,0,0,0,0,0,0,15,0,0,8,0,0,0,0,0,0,0,0,0,0,0,0,0,0,0,0,0,0,0,0,0,2,15,0,0]:=by kernel_rfl
theorem Z2Q {E:Env} (hE:E.rows=rowsOf Tryz.prog):Z0L U E 44:=⟨fun a=>congrArg V.agg (Zli.enc a),fun v a h=>by rw [hE,ZMh];exact Zli.agg h,fun a=>(Zli.enc a).symm,fun a=>Zli.nr a,fun a b h=>Zli.inj _ _ (by injection h)⟩
theorem ZJ4 {E:Env} (hE:E.rows=rowsOf Tryz.prog):Z0L U E 60:=by
 refine⟨fun a=>?_,fun v a h=>(by cases h),fun a=>?_,fun a=>?_,fun a b h=>?_⟩
 ·first|rfl|skip
  all_goals show V.tup _=V.tup _
  all_goals congr 1
  all_goals simp only [ZU,show toV U (.agg (Z3T.encS a.1))=(.agg (Z3T.ZC a.1)) from(Z2Q hE).encS a.1,show toV U (ZW.Z0W a.2.1)=(ZW.ZK a.2.1) from(Z9W hE).encS a.2.1,show toV U (cbo.Z0W a.2.2)=(cbo.ZK a.2.2) from(Z9T hE).encS a.2.2]
 ·first|rfl|skip
  all_goals show [V.tup _]=[V.tup _]
  all_goals congr 2
  all_goals simp only [ZU,show toV U (.agg (Z3T.encS a.1))=(.agg (Z3T.ZC a.1)) from(Z2Q hE).encS a.1,show toV U (ZW.Z0W a.2.1)=(ZW.ZK a.2.1) from(Z9W hE).encS a.2.1,show toV U (cbo.Z0W a.2.2)=(cbo.ZK a.2.2) from(Z9T hE).encS a.2.2]
 ·show ZB [.agg (Z3T.ZC a.1),ZW.ZK a.2.1,cbo.ZK a.2.2]=true
  simp only [ZB,show ZV (.agg (Z3T.ZC a.1))=true from(Z2Q hE).nr a.1,show ZV (ZW.ZK a.2.1)=true from(Z9W hE).nr a.2.1,show ZV (cbo.ZK a.2.2)=true from(Z9T hE).nr a.2.2,Bool.and_self]
 ·have h:V.tup [.agg (Z3T.ZC a.1),ZW.ZK a.2.1,cbo.ZK a.2.2]=V.tup [.agg (Z3T.ZC b.1),ZW.ZK b.2.1,cbo.ZK b.2.2]:=h
  simp only [V.tup.injEq,List.cons.injEq,and_true] at h
  exact Prod.ext ((Z2Q hE).inj _ _ h.1) (Prod.ext ((Z9W hE).inj _ _ h.2.1) ((Z9T hE).inj _ _ h.2.2))
theorem ZL1:rowsOf Tryz.prog 45=[0]:=by kernel_rfl
theorem Z12 {E:Env} (hE:E.rows=rowsOf Tryz.prog):Z0L U E 45:=
 have c:Zc U ZW [0]:=Zc.int _
 ⟨fun a=>c.Z0R a,fun v a h=>by rw [hE,ZL1];exact c.one h (Zk2 h),fun a=>by first|rfl|exact(congrArg (fun x=>[x]) (c.Z0R a).symm),fun a=>c.Z7d a,fun a b h=>c.Z2P h⟩
theorem ZJg {E:Env} (hE:E.rows=rowsOf Tryz.prog):Z0L U E 46:=by
 refine⟨fun a=>?_,fun v a h=>(by cases h),fun a=>?_,fun a=>?_,fun a b h=>?_⟩
 ·first|rfl|skip
  all_goals show V.tup _=V.tup _
  all_goals congr 1
  all_goals simp only [ZU,show toV U (.agg (Z3T.encS a.1))=(.agg (Z3T.ZC a.1)) from(Z2Q hE).encS a.1,show toV U (ZW.Z0W a.2)=(ZW.ZK a.2) from(Z12 hE).encS a.2]
 ·first|rfl|skip
  all_goals show [V.tup _]=[V.tup _]
  all_goals congr 2
  all_goals simp only [ZU,show toV U (.agg (Z3T.encS a.1))=(.agg (Z3T.ZC a.1)) from(Z2Q hE).encS a.1,show toV U (ZW.Z0W a.2)=(ZW.ZK a.2) from(Z12 hE).encS a.2]
 ·show ZB [.agg (Z3T.ZC a.1),ZW.ZK a.2]=true
  simp only [ZB,show ZV (.agg (Z3T.ZC a.1))=true from(Z2Q hE).nr a.1,show ZV (ZW.ZK a.2)=true from(Z12 hE).nr a.2,Bool.and_self]
 ·have h:V.tup [.agg (Z3T.ZC a.1),ZW.ZK a.2]=V.tup [.agg (Z3T.ZC b.1),ZW.ZK b.2]:=h
  simp only [V.tup.injEq,List.cons.injEq,and_true] at h
  exact Prod.ext ((Z2Q hE).inj _ _ h.1) ((Z12 hE).inj _ _ h.2)
theorem ZIL {E:Env} (hE:E.rows=rowsOf Tryz.prog):Z0L U E 63:=by
 refine⟨fun a=>?_,fun v a h=>(by cases h),fun a=>?_,fun a=>?_,fun a b h=>?_⟩
 ·first|rfl|skip
  all_goals show V.tup _=V.tup _
  all_goals congr 1
  all_goals simp only [ZU,show toV U (.agg (Z3T.encS a.1))=(.agg (Z3T.ZC a.1)) from(Z2Q hE).encS a.1,show toV U (((Za.list 5 1 (fun(a:Int)=>cu8.ZK a):Za Ty (List (Ty 5)))).Z0W a.2)=(((Za.list 5 1 (fun(a:Int)=>cu8.ZK a):Za Ty (List (Ty 5)))).ZK a.2) from(Zdd hE).encS a.2]
 ·first|rfl|skip
  all_goals show [V.tup _]=[V.tup _]
  all_goals congr 2
  all_goals simp only [ZU,show toV U (.agg (Z3T.encS a.1))=(.agg (Z3T.ZC a.1)) from(Z2Q hE).encS a.1,show toV U (((Za.list 5 1 (fun(a:Int)=>cu8.ZK a):Za Ty (List (Ty 5)))).Z0W a.2)=(((Za.list 5 1 (fun(a:Int)=>cu8.ZK a):Za Ty (List (Ty 5)))).ZK a.2) from(Zdd hE).encS a.2]
 ·show ZB [.agg (Z3T.ZC a.1),((Za.list 5 1 (fun(a:Int)=>cu8.ZK a):Za Ty (List (Ty 5)))).ZK a.2]=true
  simp only [ZB,show ZV (.agg (Z3T.ZC a.1))=true from(Z2Q hE).nr a.1,show ZV (((Za.list 5 1 (fun(a:Int)=>cu8.ZK a):Za Ty (List (Ty 5)))).ZK a.2)=true from(Zdd hE).nr a.2,Bool.and_self]
 ·have h:V.tup [.agg (Z3T.ZC a.1),((Za.list 5 1 (fun(a:Int)=>cu8.ZK a):Za Ty (List (Ty 5)))).ZK a.2]=V.tup [.agg (Z3T.ZC b.1),((Za.list 5 1 (fun(a:Int)=>cu8.ZK a):Za Ty (List (Ty 5)))).ZK b.2]:=h
  simp only [V.tup.injEq,List.cons.injEq,and_true] at h
  exact Prod.ext ((Z2Q hE).inj _ _ h.1) ((Zdd hE).inj _ _ h.2)
theorem ZKi:rowsOf Tryz.prog 148=[0,0,0,1,0,0,0,0,0,0,0,0,0,0,0,0,0,0]:=by kernel_rfl
theorem ZEK {E:Env} (hE:E.rows=rowsOf Tryz.prog):Z0L U E 148:=⟨fun a=>congrArg V.agg (ZeN.enc a),fun v a h=>by rw [hE,ZKi];exact ZeN.agg h,fun a=>(ZeN.enc a).symm,fun a=>ZeN.nr a,fun a b h=>ZeN.inj _ _ (by injection h)⟩
theorem ZLC:rowsOf Tryz.prog 77=[18]:=by kernel_rfl
theorem Z3S {E:Env} (hE:E.rows=rowsOf Tryz.prog):Z0L U E 77:=
 have c:Zc U (Za.list 148 18 (fun(a:Z5)=>.agg (Z19.ZC a)):Za Ty (List (Ty 148))) [18]:=Zc.list (U:=U) (t:=148) (n:=18) (e:=fun(a:Z5)=>.agg (Z19.ZC a)) (fun _=>rfl) rfl (fun a=>ZeN.nr a) (fun a b h=>ZeN.inj _ _ (by injection h))
 ⟨fun a=>c.Z0R a,fun v a h=>by rw [hE,ZLC];exact c.one h (Zbi (U:=U) (t:=148) (n:=18) (e:=fun(a:Z5)=>.agg (Z19.ZC a)) h),fun a=>by first|rfl|exact(congrArg (fun x=>[x]) (c.Z0R a).symm),fun a=>c.Z7d a,fun a b h=>c.Z2P h⟩
theorem ZIW {E:Env} (hE:E.rows=rowsOf Tryz.prog):Z0L U E 86:=by
 refine⟨fun a=>?_,fun v a h=>(by cases h),fun a=>?_,fun a=>?_,fun a b h=>?_⟩
 ·first|rfl|skip
  all_goals show V.tup _=V.tup _
  all_goals congr 1
  all_goals simp only [ZU,show toV U (.agg (Z3T.encS a.1))=(.agg (Z3T.ZC a.1)) from(Z2Q hE).encS a.1,show toV U (((Za.list 148 18 (fun(a:Z5)=>.agg (Z19.ZC a)):Za Ty (List (Ty 148)))).Z0W a.2.1)=(((Za.list 148 18 (fun(a:Z5)=>.agg (Z19.ZC a)):Za Ty (List (Ty 148)))).ZK a.2.1) from(Z3S hE).encS a.2.1,show toV U (cbo.Z0W a.2.2)=(cbo.ZK a.2.2) from(Z9T hE).encS a.2.2]
 ·first|rfl|skip
  all_goals show [V.tup _]=[V.tup _]
  all_goals congr 2
  all_goals simp only [ZU,show toV U (.agg (Z3T.encS a.1))=(.agg (Z3T.ZC a.1)) from(Z2Q hE).encS a.1,show toV U (((Za.list 148 18 (fun(a:Z5)=>.agg (Z19.ZC a)):Za Ty (List (Ty 148)))).Z0W a.2.1)=(((Za.list 148 18 (fun(a:Z5)=>.agg (Z19.ZC a)):Za Ty (List (Ty 148)))).ZK a.2.1) from(Z3S hE).encS a.2.1,show toV U (cbo.Z0W a.2.2)=(cbo.ZK a.2.2) from(Z9T hE).encS a.2.2]
 ·show ZB [.agg (Z3T.ZC a.1),((Za.list 148 18 (fun(a:Z5)=>.agg (Z19.ZC a)):Za Ty (List (Ty 148)))).ZK a.2.1,cbo.ZK a.2.2]=true
  simp only [ZB,show ZV (.agg (Z3T.ZC a.1))=true from(Z2Q hE).nr a.1,show ZV (((Za.list 148 18 (fun(a:Z5)=>.agg (Z19.ZC a)):Za Ty (List (Ty 148)))).ZK a.2.1)=true from(Z3S hE).nr a.2.1,show ZV (cbo.ZK a.2.2)=true from(Z9T hE).nr a.2.2,Bool.and_self]
 ·have h:V.tup [.agg (Z3T.ZC a.1),((Za.list 148 18 (fun(a:Z5)=>.agg (Z19.ZC a)):Za Ty (List (Ty 148)))).ZK a.2.1,cbo.ZK a.2.2]=V.tup [.agg (Z3T.ZC b.1),((Za.list 148 18 (fun(a:Z5)=>.agg (Z19.ZC a)):Za Ty (List (Ty 148)))).ZK b.2.1,cbo.ZK b.2.2]:=h
  simp only [V.tup.injEq,List.cons.injEq,and_true] at h
  exact Prod.ext ((Z2Q hE).inj _ _ h.1) (Prod.ext ((Z3S hE).inj _ _ h.2.1) ((Z9T hE).inj _ _ h.2.2))
theorem ZIJ {E:Env} (hE:E.rows=rowsOf Tryz.prog):Z0L U E 78:=by
 refine⟨fun a=>?_,fun v a h=>(by cases h),fun a=>?_,fun a=>?_,fun a b h=>?_⟩
 ·first|rfl|skip
  all_goals show V.tup _=V.tup _
  all_goals congr 1
  all_goals simp only [ZU,show toV U (.agg (Z3T.encS a.1))=(.agg (Z3T.ZC a.1)) from(Z2Q hE).encS a.1,show toV U (((Za.list 148 18 (fun(a:Z5)=>.agg (Z19.ZC a)):Za Ty (List (Ty 148)))).Z0W a.2)=(((Za.list 148 18 (fun(a:Z5)=>.agg (Z19.ZC a)):Za Ty (List (Ty 148)))).ZK a.2) from(Z3S hE).encS a.2]
 ·first|rfl|skip
  all_goals show [V.tup _]=[V.tup _]
  all_goals congr 2
  all_goals simp only [ZU,show toV U (.agg (Z3T.encS a.1))=(.agg (Z3T.ZC a.1)) from(Z2Q hE).encS a.1,show toV U (((Za.list 148 18 (fun(a:Z5)=>.agg (Z19.ZC a)):Za Ty (List (Ty 148)))).Z0W a.2)=(((Za.list 148 18 (fun(a:Z5)=>.agg (Z19.ZC a)):Za Ty (List (Ty 148)))).ZK a.2) from(Z3S hE).encS a.2]
 ·show ZB [.agg (Z3T.ZC a.1),((Za.list 148 18 (fun(a:Z5)=>.agg (Z19.ZC a)):Za Ty (List (Ty 148)))).ZK a.2]=true
  simp only [ZB,show ZV (.agg (Z3T.ZC a.1))=true from(Z2Q hE).nr a.1,show ZV (((Za.list 148 18 (fun(a:Z5)=>.agg (Z19.ZC a)):Za Ty (List (Ty 148)))).ZK a.2)=true from(Z3S hE).nr a.2,Bool.and_self]
 ·have h:V.tup [.agg (Z3T.ZC a.1),((Za.list 148 18 (fun(a:Z5)=>.agg (Z19.ZC a)):Za Ty (List (Ty 148)))).ZK a.2]=V.tup [.agg (Z3T.ZC b.1),((Za.list 148 18 (fun(a:Z5)=>.agg (Z19.ZC a)):Za Ty (List (Ty 148)))).ZK b.2]:=h
  simp only [V.tup.injEq,List.cons.injEq,and_true] at h
  exact Prod.ext ((Z2Q hE).inj _ _ h.1) ((Z3S hE).inj _ _ h.2)
theorem ZLl:rowsOf Tryz.prog 31=[2]:=by kernel_rfl
theorem ZIP {E:Env} (hE:E.rows=rowsOf Tryz.prog):Z0L U E 31:=
 have c:Zc U (Za.list 68 2 (fun(a:Zb)=>.agg (ZhS.ZC a)):Za Ty (List (Ty 68))) [2]:=Zc.list (U:=U) (t:=68) (n:=2) (e:=fun(a:Zb)=>.agg (ZhS.ZC a)) (fun _=>rfl) rfl (fun a=>Z9D.nr a) (fun a b h=>Z9D.inj _ _ (by injection h))
 ⟨fun a=>c.Z0R a,fun v a h=>by rw [hE,ZLl];exact c.one h (Zbi (U:=U) (t:=68) (n:=2) (e:=fun(a:Zb)=>.agg (ZhS.ZC a)) h),fun a=>by first|rfl|exact(congrArg (fun x=>[x]) (c.Z0R a).symm),fun a=>c.Z7d a,fun a b h=>c.Z2P h⟩
theorem ZMc:rowsOf Tryz.prog 39=[0,0,0,15,0,0,8,0,0,0,0,0,0,0,0,0,0,0,0,0]:=by kernel_rfl
theorem Z1X {E:Env} (hE:E.rows=rowsOf Tryz.prog):Z0L U E 39:=⟨fun a=>congrArg V.agg (ZpU.enc a),fun v a h=>by rw [hE,ZMc];exact ZpU.agg h,fun a=>(ZpU.enc a).symm,fun a=>ZpU.nr a,fun a b h=>ZpU.inj _ _ (by injection h)⟩
theorem ZLH:rowsOf Tryz.prog 36=[15]:=by kernel_rfl
theorem Z7p {E:Env} (hE:E.rows=rowsOf Tryz.prog):Z0L U E 36:=
 have c:Zc U (Za.list 156 15 (fun(a:Z4)=>.agg (Z0B.ZC a)):Za Ty (List (Ty 156))) [15]:=Zc.list (U:=U) (t:=156) (n:=15) (e:=fun(a:Z4)=>.agg (Z0B.ZC a)) (fun _=>rfl) rfl (fun a=>Z6F.nr a) (fun a b h=>Z6F.inj _ _ (by injection h))
 ⟨fun a=>c.Z0R a,fun v a h=>by rw [hE,ZLH];exact c.one h (Zbi (U:=U) (t:=156) (n:=15) (e:=fun(a:Z4)=>.agg (Z0B.ZC a)) h),fun a=>by first|rfl|exact(congrArg (fun x=>[x]) (c.Z0R a).symm),fun a=>c.Z7d a,fun a b h=>c.Z2P h⟩
theorem ZLG:rowsOf Tryz.prog 37=[8]:=by kernel_rfl
theorem Z3U {E:Env} (hE:E.rows=rowsOf Tryz.prog):Z0L U E 37:=
 have c:Zc U (Za.list 138 8 (fun(a:Z9)=>.agg (Z0T.ZC a)):Za Ty (List (Ty 138))) [8]:=Zc.list (U:=U) (t:=138) (n:=8) (e:=fun(a:Z9)=>.agg (Z0T.ZC a)) (fun _=>rfl) rfl (fun a=>Z7K.nr a) (fun a b h=>Z7K.inj _ _ (by injection h))
 ⟨fun a=>c.Z0R a,fun v a h=>by rw [hE,ZLG];exact c.one h (Zbi (U:=U) (t:=138) (n:=8) (e:=fun(a:Z9)=>.agg (Z0T.ZC a)) h),fun a=>by first|rfl|exact(congrArg (fun x=>[x]) (c.Z0R a).symm),fun a=>c.Z7d a,fun a b h=>c.Z2P h⟩
theorem ZKM:rowsOf Tryz.prog 42=[2]:=by kernel_rfl
theorem ZJa {E:Env} (hE:E.rows=rowsOf Tryz.prog):Z0L U E 42:=
 have c:Zc U (Za.list 99 2 (fun(a:Zg)=>.agg (ZDZ.ZC a)):Za Ty (List (Ty 99))) [2]:=Zc.list (U:=U) (t:=99) (n:=2) (e:=fun(a:Zg)=>.agg (ZDZ.ZC a)) (fun _=>rfl) rfl (fun a=>ZgO.nr a) (fun a b h=>ZgO.inj _ _ (by injection h))
 ⟨fun a=>c.Z0R a,fun v a h=>by rw [hE,ZKM];exact c.one h (Zbi (U:=U) (t:=99) (n:=2) (e:=fun(a:Zg)=>.agg (ZDZ.ZC a)) h),fun a=>by first|rfl|exact(congrArg (fun x=>[x]) (c.Z0R a).symm),fun a=>c.Z7d a,fun a b h=>c.Z2P h⟩
theorem ZLh:rowsOf Tryz.prog 35=[0,0,0]:=by kernel_rfl
theorem Zps {E:Env} (hE:E.rows=rowsOf Tryz.prog):Z0L U E 35:=⟨fun a=>congrArg V.agg (ZmP.enc a),fun v a h=>by rw [hE,ZLh];exact ZmP.agg h,fun a=>(ZmP.enc a).symm,fun a=>ZmP.nr a,fun a b h=>ZmP.inj _ _ (by injection h)⟩
theorem ZL7:rowsOf Tryz.prog 33=[0,0,2,0,0,0,0]:=by kernel_rfl
theorem Z7B {E:Env} (hE:E.rows=rowsOf Tryz.prog):Z0L U E 33:=⟨fun a=>congrArg V.agg (ZpM.enc a),fun v a h=>by rw [hE,ZL7];exact ZpM.agg h,fun a=>(ZpM.enc a).symm,fun a=>ZpM.nr a,fun a b h=>ZpM.inj _ _ (by injection h)⟩
theorem ZJv:rowsOf Tryz.prog 109=[0,0,0,0,0,0,0,0,0,0,0,0,0,0,0,0,0,0,0,0,0,0,0,0,0,0,2,0,0,0,0,0,0,0,0,0,0,15,0,0,8,0,0,0,0,0,0,0,0,0,0,0,0,0,0,0,0,0,0,0,0,0,2,15,0,0,0,0,0,0,0,0,0,0,0,0,0,0,0,0,0,0,0,0,0,0,0,0,0,0,0,0,2,0,0,0,0,0,0,0,0,0,0,15,0,0,8,0,0,0,0,0,0,0,0,0,0,0,0,0,0,0,0,0,0,0,0,0,2,15,0,0]:=by kernel_rfl
theorem ZiZ {E:Env} (hE:E.rows=rowsOf Tryz.prog):Z0L U E 109:=⟨fun a=>congrArg V.agg (Znp.enc a),fun v a h=>by rw [hE,ZJv];exact Znp.agg h,fun a=>(Znp.enc a).symm,fun a=>Znp.nr a,fun a b h=>Znp.inj _ _ (by injection h)⟩
theorem ZFW {E:Env} (hE:E.rows=rowsOf Tryz.prog):Z0L U E 110:=by
 refine⟨fun a=>?_,fun v a h=>(by cases h),fun a=>?_,fun a=>?_,fun a b h=>?_⟩
 ·first|rfl|skip
  all_goals show V.tup _=V.tup _
  all_goals congr 1
  all_goals simp only [ZU,show toV U (.agg (Zfk.encS a.1))=(.agg (Zfk.ZC a.1)) from(ZiZ hE).encS a.1,show toV U (ZW.Z0W a.2)=(ZW.ZK a.2) from(Z9W hE).encS a.2]
 ·first|rfl|skip
  all_goals show [V.tup _]=[V.tup _]
  all_goals congr 2
  all_goals simp only [ZU,show toV U (.agg (Zfk.encS a.1))=(.agg (Zfk.ZC a.1)) from(ZiZ hE).encS a.1,show toV U (ZW.Z0W a.2)=(ZW.ZK a.2) from(Z9W hE).encS a.2]
 ·show ZB [.agg (Zfk.ZC a.1),ZW.ZK a.2]=true
  simp only [ZB,show ZV (.agg (Zfk.ZC a.1))=true from(ZiZ hE).nr a.1,show ZV (ZW.ZK a.2)=true from(Z9W hE).nr a.2,Bool.and_self]
 ·have h:V.tup [.agg (Zfk.ZC a.1),ZW.ZK a.2]=V.tup [.agg (Zfk.ZC b.1),ZW.ZK b.2]:=h
  simp only [V.tup.injEq,List.cons.injEq,and_true] at h
  exact Prod.ext ((ZiZ hE).inj _ _ h.1) ((Z9W hE).inj _ _ h.2)
theorem ZMa:rowsOf Tryz.prog 28=[0,0,0,0,0,0,0,0,0,0,0]:=by kernel_rfl
theorem ZJ6 {E:Env} (hE:E.rows=rowsOf Tryz.prog):Z0L U E 28:=⟨fun a=>congrArg V.agg (ZjD.enc a),fun v a h=>by rw [hE,ZMa];exact ZjD.agg h,fun a=>(ZjD.enc a).symm,fun a=>ZjD.nr a,fun a b h=>ZjD.inj _ _ (by injection h)⟩
theorem ZLw:rowsOf Tryz.prog 29=[0]:=by kernel_rfl
theorem ZIZ {E:Env} (hE:E.rows=rowsOf Tryz.prog):Z0L U E 29:=
 have c:Zc U Z3N [0]:=Zc.int _
 ⟨fun a=>c.Z0R a,fun v a h=>by rw [hE,ZLw];exact c.one h (Zk2 h),fun a=>by first|rfl|exact(congrArg (fun x=>[x]) (c.Z0R a).symm),fun a=>c.Z7d a,fun a b h=>c.Z2P h⟩
theorem ZLi:rowsOf Tryz.prog 25=[0]:=by kernel_rfl
theorem ZJe {E:Env} (hE:E.rows=rowsOf Tryz.prog):Z0L U E 25:=
 have c:Zc U Z3N [0]:=Zc.int _
 ⟨fun a=>c.Z0R a,fun v a h=>by rw [hE,ZLi];exact c.one h (Zk2 h),fun a=>by first|rfl|exact(congrArg (fun x=>[x]) (c.Z0R a).symm),fun a=>c.Z7d a,fun a b h=>c.Z2P h⟩
theorem ZLB:rowsOf Tryz.prog 52=[0,0]:=by kernel_rfl
theorem ZIK {E:Env} (hE:E.rows=rowsOf Tryz.prog):Z0L U E 52:=⟨fun a=>congrArg V.agg (ZuM.enc a),fun v a h=>by rw [hE,ZLB];exact ZuM.agg h,fun a=>(ZuM.enc a).symm,fun a=>ZuM.nr a,fun a b h=>ZuM.inj _ _ (by injection h)⟩
theorem ZLn:rowsOf Tryz.prog 24=[0,0,0,0,0]:=by kernel_rfl
theorem ZJl {E:Env} (hE:E.rows=rowsOf Tryz.prog):Z0L U E 24:=⟨fun a=>congrArg V.agg (Zd1.enc a),fun v a h=>by rw [hE,ZLn];exact Zd1.agg h,fun a=>(Zd1.enc a).symm,fun a=>Zd1.nr a,fun a b h=>Zd1.inj _ _ (by injection h)⟩
theorem ZLR:rowsOf Tryz.prog 26=[0]:=by kernel_rfl
theorem ZJ0 {E:Env} (hE:E.rows=rowsOf Tryz.prog):Z0L U E 26:=
 have c:Zc U Z3N [0]:=Zc.int _
 ⟨fun a=>c.Z0R a,fun v a h=>by rw [hE,ZLR];exact c.one h (Zk2 h),fun a=>by first|rfl|exact(congrArg (fun x=>[x]) (c.Z0R a).symm),fun a=>c.Z7d a,fun a b h=>c.Z2P h⟩
theorem ZKj:rowsOf Tryz.prog 226=[1]:=by kernel_rfl
theorem ZEE {E:Env} (hE:E.rows=rowsOf Tryz.prog):Z0L U E 226:=
 have c:Zc U (Za.list 3 1 (fun(a:Int)=>ZW.ZK a):Za Ty (List (Ty 3))) [1]:=Zc.list (U:=U) (t:=3) (n:=1) (e:=fun(a:Int)=>ZW.ZK a) (fun _=>rfl) rfl (fun a=>(Zc.int _:Zc U ZW _).Z7d a) (fun a b h=>(Zc.int _:Zc U ZW _).Z2P h)
 ⟨fun a=>c.Z0R a,fun v a h=>by rw [hE,ZKj];exact c.one h (Zbi (U:=U) (t:=3) (n:=1) (e:=fun(a:Int)=>ZW.ZK a) h),fun a=>by first|rfl|exact(congrArg (fun x=>[x]) (c.Z0R a).symm),fun a=>c.Z7d a,fun a b h=>c.Z2P h⟩
theorem ZLo:rowsOf Tryz.prog 70=[0,0,0,0,1]:=by kernel_rfl
theorem Zcx {E:Env} (hE:E.rows=rowsOf Tryz.prog):Z0L U E 70:=⟨fun a=>congrArg V.agg (ZvR.enc a),fun v a h=>by rw [hE,ZLo];exact ZvR.agg h,fun a=>(ZvR.enc a).symm,fun a=>ZvR.nr a,fun a b h=>ZvR.inj _ _ (by injection h)⟩
theorem ZJh {E:Env} (hE:E.rows=rowsOf Tryz.prog):Z0L U E 75:=by
 refine⟨fun a=>?_,fun v a h=>(by cases h),fun a=>?_,fun a=>?_,fun a b h=>?_⟩
 ·first|rfl|skip
  all_goals show V.tup _=V.tup _
  all_goals congr 1
  all_goals simp only [ZU,show toV U (.agg (ZaT.encS a.1))=(.agg (ZaT.ZC a.1)) from(Z7B hE).encS a.1,show toV U (.agg (ZkK.encS a.2))=(.agg (ZkK.ZC a.2)) from(Zcx hE).encS a.2]
 ·first|rfl|skip
  all_goals show [V.tup _]=[V.tup _]
  all_goals congr 2
  all_goals simp only [ZU,show toV U (.agg (ZaT.encS a.1))=(.agg (ZaT.ZC a.1)) from(Z7B hE).encS a.1,show toV U (.agg (ZkK.encS a.2))=(.agg (ZkK.ZC a.2)) from(Zcx hE).encS a.2]
 ·show ZB [.agg (ZaT.ZC a.1),.agg (ZkK.ZC a.2)]=true
  simp only [ZB,show ZV (.agg (ZaT.ZC a.1))=true from(Z7B hE).nr a.1,show ZV (.agg (ZkK.ZC a.2))=true from(Zcx hE).nr a.2,Bool.and_self]
 ·have h:V.tup [.agg (ZaT.ZC a.1),.agg (ZkK.ZC a.2)]=V.tup [.agg (ZaT.ZC b.1),.agg (ZkK.ZC b.2)]:=h
  simp only [V.tup.injEq,List.cons.injEq,and_true] at h
  exact Prod.ext ((Z7B hE).inj _ _ h.1) ((Zcx hE).inj _ _ h.2)
theorem ZIN {E:Env} (hE:E.rows=rowsOf Tryz.prog):Z0L U E 71:=by
 refine⟨fun a=>?_,fun v a h=>(by cases h),fun a=>?_,fun a=>?_,fun a b h=>?_⟩
 ·first|rfl|skip
  all_goals show V.tup _=V.tup _
  all_goals congr 1
  all_goals simp only [ZU,show toV U (.agg (ZkK.encS a.1))=(.agg (ZkK.ZC a.1)) from(Zcx hE).encS a.1,show toV U (ZW.Z0W a.2)=(ZW.ZK a.2) from(Z12 hE).encS a.2]
 ·first|rfl|skip
  all_goals show [V.tup _]=[V.tup _]
  all_goals congr 2
  all_goals simp only [ZU,show toV U (.agg (ZkK.encS a.1))=(.agg (ZkK.ZC a.1)) from(Zcx hE).encS a.1,show toV U (ZW.Z0W a.2)=(ZW.ZK a.2) from(Z12 hE).encS a.2]
 ·show ZB [.agg (ZkK.ZC a.1),ZW.ZK a.2]=true
  simp only [ZB,show ZV (.agg (ZkK.ZC a.1))=true from(Zcx hE).nr a.1,show ZV (ZW.ZK a.2)=true from(Z12 hE).nr a.2,Bool.and_self]
 ·have h:V.tup [.agg (ZkK.ZC a.1),ZW.ZK a.2]=V.tup [.agg (ZkK.ZC b.1),ZW.ZK b.2]:=h
  simp only [V.tup.injEq,List.cons.injEq,and_true] at h
  exact Prod.ext ((Zcx hE).inj _ _ h.1) ((Z12 hE).inj _ _ h.2)
theorem ZFI {E:Env} (hE:E.rows=rowsOf Tryz.prog):Z0L U E 120:=by
 refine⟨fun a=>?_,fun v a h=>(by cases h),fun a=>?_,fun a=>?_,fun a b h=>?_⟩
 ·first|rfl|skip
  all_goals show V.tup _=V.tup _
  all_goals congr 1
  all_goals simp only [ZU,show toV U (((Za.list 5 1 (fun(a:Int)=>cu8.ZK a):Za Ty (List (Ty 5)))).Z0W a.1)=(((Za.list 5 1 (fun(a:Int)=>cu8.ZK a):Za Ty (List (Ty 5)))).ZK a.1) from(Zdd hE).encS a.1,show toV U (ZW.Z0W a.2)=(ZW.ZK a.2) from(Z12 hE).encS a.2]
 ·first|rfl|skip
  all_goals show [V.tup _]=[V.tup _]
  all_goals congr 2
  all_goals simp only [ZU,show toV U (((Za.list 5 1 (fun(a:Int)=>cu8.ZK a):Za Ty (List (Ty 5)))).Z0W a.1)=(((Za.list 5 1 (fun(a:Int)=>cu8.ZK a):Za Ty (List (Ty 5)))).ZK a.1) from(Zdd hE).encS a.1,show toV U (ZW.Z0W a.2)=(ZW.ZK a.2) from(Z12 hE).encS a.2]
 ·show ZB [((Za.list 5 1 (fun(a:Int)=>cu8.ZK a):Za Ty (List (Ty 5)))).ZK a.1,ZW.ZK a.2]=true
  simp only [ZB,show ZV (((Za.list 5 1 (fun(a:Int)=>cu8.ZK a):Za Ty (List (Ty 5)))).ZK a.1)=true from(Zdd hE).nr a.1,show ZV (ZW.ZK a.2)=true from(Z12 hE).nr a.2,Bool.and_self]
 ·have h:V.tup [((Za.list 5 1 (fun(a:Int)=>cu8.ZK a):Za Ty (List (Ty 5)))).ZK a.1,ZW.ZK a.2]=V.tup [((Za.list 5 1 (fun(a:Int)=>cu8.ZK a):Za Ty (List (Ty 5)))).ZK b.1,ZW.ZK b.2]:=h
  simp only [V.tup.injEq,List.cons.injEq,and_true] at h
  exact Prod.ext ((Zdd hE).inj _ _ h.1) ((Z12 hE).inj _ _ h.2)
theorem ZFp {E:Env} (hE:E.rows=rowsOf Tryz.prog):Z0L U E 104:=by
 refine⟨fun a=>?_,fun v a h=>(by cases h),fun a=>?_,fun a=>?_,fun a b h=>?_⟩
 ·first|rfl|skip
  all_goals show V.tup _=V.tup _
  all_goals congr 1
  all_goals simp only [ZU,show toV U (ZW.Z0W a.1)=(ZW.ZK a.1) from(Z9W hE).encS a.1,show toV U (ZW.Z0W a.2)=(ZW.ZK a.2) from(Z9W hE).encS a.2]
 ·first|rfl|skip
  all_goals show [V.tup _]=[V.tup _]
  all_goals congr 2
  all_goals simp only [ZU,show toV U (ZW.Z0W a.1)=(ZW.ZK a.1) from(Z9W hE).encS a.1,show toV U (ZW.Z0W a.2)=(ZW.ZK a.2) from(Z9W hE).encS a.2]
 ·show ZB [ZW.ZK a.1,ZW.ZK a.2]=true
  simp only [ZB,show ZV (ZW.ZK a.1)=true from(Z9W hE).nr a.1,show ZV (ZW.ZK a.2)=true from(Z9W hE).nr a.2,Bool.and_self]
 ·have h:V.tup [ZW.ZK a.1,ZW.ZK a.2]=V.tup [ZW.ZK b.1,ZW.ZK b.2]:=h
  simp only [V.tup.injEq,List.cons.injEq,and_true] at h
  exact Prod.ext ((Z9W hE).inj _ _ h.1) ((Z9W hE).inj _ _ h.2)
theorem ZM5:rowsOf Tryz.prog 30=[0]:=by kernel_rfl
theorem ZIF {E:Env} (hE:E.rows=rowsOf Tryz.prog):Z0L U E 30:=
 have c:Zc U ZI0 [0]:=Zc.int _
 ⟨fun a=>c.Z0R a,fun v a h=>by rw [hE,ZM5];exact c.one h (Zk2 h),fun a=>by first|rfl|exact(congrArg (fun x=>[x]) (c.Z0R a).symm),fun a=>c.Z7d a,fun a b h=>c.Z2P h⟩
theorem ZM7:rowsOf Tryz.prog 22=[0]:=by kernel_rfl
theorem ZJi {E:Env} (hE:E.rows=rowsOf Tryz.prog):Z0L U E 22:=
 have c:Zc U ZIY [0]:=Zc.int _
 ⟨fun a=>c.Z0R a,fun v a h=>by rw [hE,ZM7];exact c.one h (Zk2 h),fun a=>by first|rfl|exact(congrArg (fun x=>[x]) (c.Z0R a).symm),fun a=>c.Z7d a,fun a b h=>c.Z2P h⟩
theorem ZEx {E:Env} (hE:E.rows=rowsOf Tryz.prog):Z0L U E 189:=by
 refine⟨fun a=>?_,fun v a h=>(by cases h),fun a=>?_,fun a=>?_,fun a b h=>?_⟩
 ·first|rfl|skip
  all_goals show V.tup _=V.tup _
  all_goals congr 1
  all_goals simp only [ZU,show toV U (.agg (ZaT.encS a.1))=(.agg (ZaT.ZC a.1)) from(Z7B hE).encS a.1,show toV U (ZW.Z0W a.2)=(ZW.ZK a.2) from(Z12 hE).encS a.2]
 ·first|rfl|skip
  all_goals show [V.tup _]=[V.tup _]
  all_goals congr 2
  all_goals simp only [ZU,show toV U (.agg (ZaT.encS a.1))=(.agg (ZaT.ZC a.1)) from(Z7B hE).encS a.1,show toV U (ZW.Z0W a.2)=(ZW.ZK a.2) from(Z12 hE).encS a.2]
 ·show ZB [.agg (ZaT.ZC a.1),ZW.ZK a.2]=true
  simp only [ZB,show ZV (.agg (ZaT.ZC a.1))=true from(Z7B hE).nr a.1,show ZV (ZW.ZK a.2)=true from(Z12 hE).nr a.2,Bool.and_self]
 ·have h:V.tup [.agg (ZaT.ZC a.1),ZW.ZK a.2]=V.tup [.agg (ZaT.ZC b.1),ZW.ZK b.2]:=h
  simp only [V.tup.injEq,List.cons.injEq,and_true] at h
  exact Prod.ext ((Z7B hE).inj _ _ h.1) ((Z12 hE).inj _ _ h.2)
theorem ZKo:rowsOf Tryz.prog 262=[0,0,0,0,0,0,0,0,0,0,0]:=by kernel_rfl
theorem ZGX {E:Env} (hE:E.rows=rowsOf Tryz.prog):Z0L U E 262:=⟨fun a=>congrArg V.agg (Znk.enc a),fun v a h=>by rw [hE,ZKo];exact Znk.agg h,fun a=>(Znk.enc a).symm,fun a=>Znk.nr a,fun a b h=>Znk.inj _ _ (by injection h)⟩
theorem ZKT:rowsOf Tryz.prog 41=[0,0,0,0,0,0,0]:=by kernel_rfl
theorem ZIR {E:Env} (hE:E.rows=rowsOf Tryz.prog):Z0L U E 41:=⟨fun a=>congrArg V.agg (ZmC.enc a),fun v a h=>by rw [hE,ZKT];exact ZmC.agg h,fun a=>(ZmC.enc a).symm,fun a=>ZmC.nr a,fun a b h=>ZmC.inj _ _ (by injection h)⟩
theorem ZFz {E:Env} (hE:E.rows=rowsOf Tryz.prog):Z0L U E 129:=by
 refine⟨fun a=>?_,fun v a h=>(by cases h),fun a=>?_,fun a=>?_,fun a b h=>?_⟩
 ·first|rfl|skip
  all_goals show V.tup _=V.tup _
  all_goals congr 1
  all_goals simp only [ZU,show toV U (.agg (Zwl.encS a.1))=(.agg (Zwl.ZC a.1)) from(Zps hE).encS a.1,show toV U (ZW.Z0W a.2)=(ZW.ZK a.2) from(Z12 hE).encS a.2]
 ·first|rfl|skip
  all_goals show [V.tup _]=[V.tup _]
  all_goals congr 2
  all_goals simp only [ZU,show toV U (.agg (Zwl.encS a.1))=(.agg (Zwl.ZC a.1)) from(Zps hE).encS a.1,show toV U (ZW.Z0W a.2)=(ZW.ZK a.2) from(Z12 hE).encS a.2]
 ·show ZB [.agg (Zwl.ZC a.1),ZW.ZK a.2]=true
  simp only [ZB,show ZV (.agg (Zwl.ZC a.1))=true from(Zps hE).nr a.1,show ZV (ZW.ZK a.2)=true from(Z12 hE).nr a.2,Bool.and_self]
 ·have h:V.tup [.agg (Zwl.ZC a.1),ZW.ZK a.2]=V.tup [.agg (Zwl.ZC b.1),ZW.ZK b.2]:=h
  simp only [V.tup.injEq,List.cons.injEq,and_true] at h
  exact Prod.ext ((Zps hE).inj _ _ h.1) ((Z12 hE).inj _ _ h.2)
theorem ZGT {E:Env} (hE:E.rows=rowsOf Tryz.prog):Z0L U E 135:=by
 refine⟨fun a=>?_,fun v a h=>(by cases h),fun a=>?_,fun a=>?_,fun a b h=>?_⟩
 ·first|rfl|skip
  all_goals show V.tup _=V.tup _
  all_goals congr 1
  all_goals simp only [ZU,show toV U (.agg (Z30.encS a.1))=(.agg (Z30.ZC a.1)) from(Z1X hE).encS a.1,show toV U (((Za.list 138 8 (fun(a:Z9)=>.agg (Z0T.ZC a)):Za Ty (List (Ty 138)))).Z0W a.2)=(((Za.list 138 8 (fun(a:Z9)=>.agg (Z0T.ZC a)):Za Ty (List (Ty 138)))).ZK a.2) from(Z3U hE).encS a.2]
 ·first|rfl|skip
  all_goals show [V.tup _]=[V.tup _]
  all_goals congr 2
  all_goals simp only [ZU,show toV U (.agg (Z30.encS a.1))=(.agg (Z30.ZC a.1)) from(Z1X hE).encS a.1,show toV U (((Za.list 138 8 (fun(a:Z9)=>.agg (Z0T.ZC a)):Za Ty (List (Ty 138)))).Z0W a.2)=(((Za.list 138 8 (fun(a:Z9)=>.agg (Z0T.ZC a)):Za Ty (List (Ty 138)))).ZK a.2) from(Z3U hE).encS a.2]
 ·show ZB [.agg (Z30.ZC a.1),((Za.list 138 8 (fun(a:Z9)=>.agg (Z0T.ZC a)):Za Ty (List (Ty 138)))).ZK a.2]=true
  simp only [ZB,show ZV (.agg (Z30.ZC a.1))=true from(Z1X hE).nr a.1,show ZV (((Za.list 138 8 (fun(a:Z9)=>.agg (Z0T.ZC a)):Za Ty (List (Ty 138)))).ZK a.2)=true from(Z3U hE).nr a.2,Bool.and_self]
 ·have h:V.tup [.agg (Z30.ZC a.1),((Za.list 138 8 (fun(a:Z9)=>.agg (Z0T.ZC a)):Za Ty (List (Ty 138)))).ZK a.2]=V.tup [.agg (Z30.ZC b.1),((Za.list 138 8 (fun(a:Z9)=>.agg (Z0T.ZC a)):Za Ty (List (Ty 138)))).ZK b.2]:=h
  simp only [V.tup.injEq,List.cons.injEq,and_true] at h
  exact Prod.ext ((Z1X hE).inj _ _ h.1) ((Z3U hE).inj _ _ h.2)
theorem ZGa {E:Env} (hE:E.rows=rowsOf Tryz.prog):Z0L U E 140:=by
 refine⟨fun a=>?_,fun v a h=>(by cases h),fun a=>?_,fun a=>?_,fun a b h=>?_⟩
 ·first|rfl|skip
  all_goals show V.tup _=V.tup _
  all_goals congr 1
  all_goals simp only [ZU,show toV U (.agg (Z30.encS a.1))=(.agg (Z30.ZC a.1)) from(Z1X hE).encS a.1,show toV U (((Za.list 156 15 (fun(a:Z4)=>.agg (Z0B.ZC a)):Za Ty (List (Ty 156)))).Z0W a.2)=(((Za.list 156 15 (fun(a:Z4)=>.agg (Z0B.ZC a)):Za Ty (List (Ty 156)))).ZK a.2) from(Z7p hE).encS a.2]
 ·first|rfl|skip
  all_goals show [V.tup _]=[V.tup _]
  all_goals congr 2
  all_goals simp only [ZU,show toV U (.agg (Z30.encS a.1))=(.agg (Z30.ZC a.1)) from(Z1X hE).encS a.1,show toV U (((Za.list 156 15 (fun(a:Z4)=>.agg (Z0B.ZC a)):Za Ty (List (Ty 156)))).Z0W a.2)=(((Za.list 156 15 (fun(a:Z4)=>.agg (Z0B.ZC a)):Za Ty (List (Ty 156)))).ZK a.2) from(Z7p hE).encS a.2]
 ·show ZB [.agg (Z30.ZC a.1),((Za.list 156 15 (fun(a:Z4)=>.agg (Z0B.ZC a)):Za Ty (List (Ty 156)))).ZK a.2]=true
  simp only [ZB,show ZV (.agg (Z30.ZC a.1))=true from(Z1X hE).nr a.1,show ZV (((Za.list 156 15 (fun(a:Z4)=>.agg (Z0B.ZC a)):Za Ty (List (Ty 156)))).ZK a.2)=true from(Z7p hE).nr a.2,Bool.and_self]
 ·have h:V.tup [.agg (Z30.ZC a.1),((Za.list 156 15 (fun(a:Z4)=>.agg (Z0B.ZC a)):Za Ty (List (Ty 156)))).ZK a.2]=V.tup [.agg (Z30.ZC b.1),((Za.list 156 15 (fun(a:Z4)=>.agg (Z0B.ZC a)):Za Ty (List (Ty 156)))).ZK b.2]:=h
  simp only [V.tup.injEq,List.cons.injEq,and_true] at h
  exact Prod.ext ((Z1X hE).inj _ _ h.1) ((Z7p hE).inj _ _ h.2)
theorem ZFN {E:Env} (hE:E.rows=rowsOf Tryz.prog):Z0L U E 208:=by
 refine⟨fun a=>?_,fun v a h=>(by cases h),fun a=>?_,fun a=>?_,fun a b h=>?_⟩
 ·first|rfl|skip
  all_goals show V.tup _=V.tup _
  all_goals congr 1
  all_goals simp only [ZU,show toV U (((Za.list 138 8 (fun(a:Z9)=>.agg (Z0T.ZC a)):Za Ty (List (Ty 138)))).Z0W a.1)=(((Za.list 138 8 (fun(a:Z9)=>.agg (Z0T.ZC a)):Za Ty (List (Ty 138)))).ZK a.1) from(Z3U hE).encS a.1,show toV U (((Za.list 138 8 (fun(a:Z9)=>.agg (Z0T.ZC a)):Za Ty (List (Ty 138)))).Z0W a.2)=(((Za.list 138 8 (fun(a:Z9)=>.agg (Z0T.ZC a)):Za Ty (List (Ty 138)))).ZK a.2) from(Z3U hE).encS a.2]
 ·first|rfl|skip
  all_goals show [V.tup _]=[V.tup _]
  all_goals congr 2
  all_goals simp only [ZU,show toV U (((Za.list 138 8 (fun(a:Z9)=>.agg (Z0T.ZC a)):Za Ty (List (Ty 138)))).Z0W a.1)=(((Za.list 138 8 (fun(a:Z9)=>.agg (Z0T.ZC a)):Za Ty (List (Ty 138)))).ZK a.1) from(Z3U hE).encS a.1,show toV U (((Za.list 138 8 (fun(a:Z9)=>.agg (Z0T.ZC a)):Za Ty (List (Ty 138)))).Z0W a.2)=(((Za.list 138 8 (fun(a:Z9)=>.agg (Z0T.ZC a)):Za Ty (List (Ty 138)))).ZK a.2) from(Z3U hE).encS a.2]
 ·show ZB [((Za.list 138 8 (fun(a:Z9)=>.agg (Z0T.ZC a)):Za Ty (List (Ty 138)))).ZK a.1,((Za.list 138 8 (fun(a:Z9)=>.agg (Z0T.ZC a)):Za Ty (List (Ty 138)))).ZK a.2]=true
  simp only [ZB,show ZV (((Za.list 138 8 (fun(a:Z9)=>.agg (Z0T.ZC a)):Za Ty (List (Ty 138)))).ZK a.1)=true from(Z3U hE).nr a.1,show ZV (((Za.list 138 8 (fun(a:Z9)=>.agg (Z0T.ZC a)):Za Ty (List (Ty 138)))).ZK a.2)=true from(Z3U hE).nr a.2,Bool.and_self]
 ·have h:V.tup [((Za.list 138 8 (fun(a:Z9)=>.agg (Z0T.ZC a)):Za Ty (List (Ty 138)))).ZK a.1,((Za.list 138 8 (fun(a:Z9)=>.agg (Z0T.ZC a)):Za Ty (List (Ty 138)))).ZK a.2]=V.tup [((Za.list 138 8 (fun(a:Z9)=>.agg (Z0T.ZC a)):Za Ty (List (Ty 138)))).ZK b.1,((Za.list 138 8 (fun(a:Z9)=>.agg (Z0T.ZC a)):Za Ty (List (Ty 138)))).ZK b.2]:=h
  simp only [V.tup.injEq,List.cons.injEq,and_true] at h
  exact Prod.ext ((Z3U hE).inj _ _ h.1) ((Z3U hE).inj _ _ h.2)
theorem ZFn {E:Env} (hE:E.rows=rowsOf Tryz.prog):Z0L U E 216:=by
 refine⟨fun a=>?_,fun v a h=>(by cases h),fun a=>?_,fun a=>?_,fun a b h=>?_⟩
 ·first|rfl|skip
  all_goals show V.tup _=V.tup _
  all_goals congr 1
  all_goals simp only [ZU,show toV U (.agg (Z30.encS a.1))=(.agg (Z30.ZC a.1)) from(Z1X hE).encS a.1,show toV U (.agg (Z0B.encS a.2))=(.agg (Z0B.ZC a.2)) from(Z7S hE).encS a.2]
 ·first|rfl|skip
  all_goals show [V.tup _]=[V.tup _]
  all_goals congr 2
  all_goals simp only [ZU,show toV U (.agg (Z30.encS a.1))=(.agg (Z30.ZC a.1)) from(Z1X hE).encS a.1,show toV U (.agg (Z0B.encS a.2))=(.agg (Z0B.ZC a.2)) from(Z7S hE).encS a.2]
 ·show ZB [.agg (Z30.ZC a.1),.agg (Z0B.ZC a.2)]=true
  simp only [ZB,show ZV (.agg (Z30.ZC a.1))=true from(Z1X hE).nr a.1,show ZV (.agg (Z0B.ZC a.2))=true from(Z7S hE).nr a.2,Bool.and_self]
 ·have h:V.tup [.agg (Z30.ZC a.1),.agg (Z0B.ZC a.2)]=V.tup [.agg (Z30.ZC b.1),.agg (Z0B.ZC b.2)]:=h
  simp only [V.tup.injEq,List.cons.injEq,and_true] at h
  exact Prod.ext ((Z1X hE).inj _ _ h.1) ((Z7S hE).inj _ _ h.2)
theorem ZF1 {E:Env} (hE:E.rows=rowsOf Tryz.prog):Z0L U E 269:=by
 refine⟨fun a=>?_,fun v a h=>(by cases h),fun a=>?_,fun a=>?_,fun a b h=>?_⟩
 ·first|rfl|skip
  all_goals show V.tup _=V.tup _
  all_goals congr 1
  all_goals simp only [ZU,show toV U (((Za.list 138 8 (fun(a:Z9)=>.agg (Z0T.ZC a)):Za Ty (List (Ty 138)))).Z0W a.1)=(((Za.list 138 8 (fun(a:Z9)=>.agg (Z0T.ZC a)):Za Ty (List (Ty 138)))).ZK a.1) from(Z3U hE).encS a.1,show toV U (ZW.Z0W a.2)=(ZW.ZK a.2) from(Z12 hE).encS a.2]
 ·first|rfl|skip
  all_goals show [V.tup _]=[V.tup _]
  all_goals congr 2
  all_goals simp only [ZU,show toV U (((Za.list 138 8 (fun(a:Z9)=>.agg (Z0T.ZC a)):Za Ty (List (Ty 138)))).Z0W a.1)=(((Za.list 138 8 (fun(a:Z9)=>.agg (Z0T.ZC a)):Za Ty (List (Ty 138)))).ZK a.1) from(Z3U hE).encS a.1,show toV U (ZW.Z0W a.2)=(ZW.ZK a.2) from(Z12 hE).encS a.2]
 ·show ZB [((Za.list 138 8 (fun(a:Z9)=>.agg (Z0T.ZC a)):Za Ty (List (Ty 138)))).ZK a.1,ZW.ZK a.2]=true
  simp only [ZB,show ZV (((Za.list 138 8 (fun(a:Z9)=>.agg (Z0T.ZC a)):Za Ty (List (Ty 138)))).ZK a.1)=true from(Z3U hE).nr a.1,show ZV (ZW.ZK a.2)=true from(Z12 hE).nr a.2,Bool.and_self]
 ·have h:V.tup [((Za.list 138 8 (fun(a:Z9)=>.agg (Z0T.ZC a)):Za Ty (List (Ty 138)))).ZK a.1,ZW.ZK a.2]=V.tup [((Za.list 138 8 (fun(a:Z9)=>.agg (Z0T.ZC a)):Za Ty (List (Ty 138)))).ZK b.1,ZW.ZK b.2]:=h
  simp only [V.tup.injEq,List.cons.injEq,and_true] at h
  exact Prod.ext ((Z3U hE).inj _ _ h.1) ((Z12 hE).inj _ _ h.2)
theorem ZFM {E:Env} (hE:E.rows=rowsOf Tryz.prog):Z0L U E 222:=by
 refine⟨fun a=>?_,fun v a h=>(by cases h),fun a=>?_,fun a=>?_,fun a b h=>?_⟩
 ·first|rfl|skip
  all_goals show V.tup _=V.tup _
  all_goals congr 1
  all_goals simp only [ZU,show toV U (.agg (Z30.encS a.1))=(.agg (Z30.ZC a.1)) from(Z1X hE).encS a.1,show toV U (((Za.list 156 15 (fun(a:Z4)=>.agg (Z0B.ZC a)):Za Ty (List (Ty 156)))).Z0W a.2.1)=(((Za.list 156 15 (fun(a:Z4)=>.agg (Z0B.ZC a)):Za Ty (List (Ty 156)))).ZK a.2.1) from(Z7p hE).encS a.2.1,show toV U (ZW.Z0W a.2.2)=(ZW.ZK a.2.2) from(Z12 hE).encS a.2.2]
 ·first|rfl|skip
  all_goals show [V.tup _]=[V.tup _]
  all_goals congr 2
  all_goals simp only [ZU,show toV U (.agg (Z30.encS a.1))=(.agg (Z30.ZC a.1)) from(Z1X hE).encS a.1,show toV U (((Za.list 156 15 (fun(a:Z4)=>.agg (Z0B.ZC a)):Za Ty (List (Ty 156)))).Z0W a.2.1)=(((Za.list 156 15 (fun(a:Z4)=>.agg (Z0B.ZC a)):Za Ty (List (Ty 156)))).ZK a.2.1) from(Z7p hE).encS a.2.1,show toV U (ZW.Z0W a.2.2)=(ZW.ZK a.2.2) from(Z12 hE).encS a.2.2]
 ·show ZB [.agg (Z30.ZC a.1),((Za.list 156 15 (fun(a:Z4)=>.agg (Z0B.ZC a)):Za Ty (List (Ty 156)))).ZK a.2.1,ZW.ZK a.2.2]=true
  simp only [ZB,show ZV (.agg (Z30.ZC a.1))=true from(Z1X hE).nr a.1,show ZV (((Za.list 156 15 (fun(a:Z4)=>.agg (Z0B.ZC a)):Za Ty (List (Ty 156)))).ZK a.2.1)=true from(Z7p hE).nr a.2.1,show ZV (ZW.ZK a.2.2)=true from(Z12 hE).nr a.2.2,Bool.and_self]
 ·have h:V.tup [.agg (Z30.ZC a.1),((Za.list 156 15 (fun(a:Z4)=>.agg (Z0B.ZC a)):Za Ty (List (Ty 156)))).ZK a.2.1,ZW.ZK a.2.2]=V.tup [.agg (Z30.ZC b.1),((Za.list 156 15 (fun(a:Z4)=>.agg (Z0B.ZC a)):Za Ty (List (Ty 156)))).ZK b.2.1,ZW.ZK b.2.2]:=h
  simp only [V.tup.injEq,List.cons.injEq,and_true] at h
  exact Prod.ext ((Z1X hE).inj _ _ h.1) (Prod.ext ((Z7p hE).inj _ _ h.2.1) ((Z12 hE).inj _ _ h.2.2))
theorem rows9:rowsOf Tryz.prog 9=[0]:=by kernel_rfl
theorem ZLs {E:Env} (hE:E.rows=rowsOf Tryz.prog):Z0L U E 9:=
 have c:Zc U cst [0]:=Zc.str
 ⟨fun a=>c.Z0R a,fun v a h=>by rw [hE,rows9];exact c.one h (ZLc h),fun a=>by first|rfl|exact(congrArg (fun x=>[x]) (c.Z0R a).symm),fun a=>c.Z7d a,fun a b h=>c.Z2P h⟩
theorem ZJy:rowsOf Tryz.prog 254=[1]:=by kernel_rfl
theorem ZFi {E:Env} (hE:E.rows=rowsOf Tryz.prog):Z0L U E 254:=
 have c:Zc U (Za.list 25 1 (fun(a:Int)=>Z3N.ZK a):Za Ty (List (Ty 25))) [1]:=Zc.list (U:=U) (t:=25) (n:=1) (e:=fun(a:Int)=>Z3N.ZK a) (fun _=>rfl) rfl (fun a=>(Zc.int _:Zc U Z3N _).Z7d a) (fun a b h=>(Zc.int _:Zc U Z3N _).Z2P h)
 ⟨fun a=>c.Z0R a,fun v a h=>by rw [hE,ZJy];exact c.one h (Zbi (U:=U) (t:=25) (n:=1) (e:=fun(a:Int)=>Z3N.ZK a) h),fun a=>by first|rfl|exact(congrArg (fun x=>[x]) (c.Z0R a).symm),fun a=>c.Z7d a,fun a b h=>c.Z2P h⟩
theorem ZF3 {E:Env} (hE:E.rows=rowsOf Tryz.prog):Z0L U E 163:=by
 refine⟨fun a=>?_,fun v a h=>(by cases h),fun a=>?_,fun a=>?_,fun a b h=>?_⟩
 ·first|rfl|skip
  all_goals show V.tup _=V.tup _
  all_goals congr 1
  all_goals simp only [ZU,show toV U (.agg (ZaT.encS a.1))=(.agg (ZaT.ZC a.1)) from(Z7B hE).encS a.1,show toV U (.agg (ZhS.encS a.2.1))=(.agg (ZhS.ZC a.2.1)) from(ZpS hE).encS a.2.1,show toV U (cbo.Z0W a.2.2.1)=(cbo.ZK a.2.2.1) from(Z9T hE).encS a.2.2.1,show toV U (cbo.Z0W a.2.2.2)=(cbo.ZK a.2.2.2) from(Z9T hE).encS a.2.2.2]
 ·first|rfl|skip
  all_goals show [V.tup _]=[V.tup _]
  all_goals congr 2
  all_goals simp only [ZU,show toV U (.agg (ZaT.encS a.1))=(.agg (ZaT.ZC a.1)) from(Z7B hE).encS a.1,show toV U (.agg (ZhS.encS a.2.1))=(.agg (ZhS.ZC a.2.1)) from(ZpS hE).encS a.2.1,show toV U (cbo.Z0W a.2.2.1)=(cbo.ZK a.2.2.1) from(Z9T hE).encS a.2.2.1,show toV U (cbo.Z0W a.2.2.2)=(cbo.ZK a.2.2.2) from(Z9T hE).encS a.2.2.2]
 ·show ZB [.agg (ZaT.ZC a.1),.agg (ZhS.ZC a.2.1),cbo.ZK a.2.2.1,cbo.ZK a.2.2.2]=true
  simp only [ZB,show ZV (.agg (ZaT.ZC a.1))=true from(Z7B hE).nr a.1,show ZV (.agg (ZhS.ZC a.2.1))=true from(ZpS hE).nr a.2.1,show ZV (cbo.ZK a.2.2.1)=true from(Z9T hE).nr a.2.2.1,show ZV (cbo.ZK a.2.2.2)=true from(Z9T hE).nr a.2.2.2,Bool.and_self]
 ·have h:V.tup [.agg (ZaT.ZC a.1),.agg (ZhS.ZC a.2.1),cbo.ZK a.2.2.1,cbo.ZK a.2.2.2]=V.tup [.agg (ZaT.ZC b.1),.agg (ZhS.ZC b.2.1),cbo.ZK b.2.2.1,cbo.ZK b.2.2.2]:=h
  simp only [V.tup.injEq,List.cons.injEq,and_true] at h
  exact Prod.ext ((Z7B hE).inj _ _ h.1) (Prod.ext ((ZpS hE).inj _ _ h.2.1) (Prod.ext ((Z9T hE).inj _ _ h.2.2.1) ((Z9T hE).inj _ _ h.2.2.2)))
theorem ZEG {E:Env} (hE:E.rows=rowsOf Tryz.prog):Z0L U E 231:=by
 refine⟨fun a=>?_,fun v a h=>(by cases h),fun a=>?_,fun a=>?_,fun a b h=>?_⟩
 ·first|rfl|skip
  all_goals show V.tup _=V.tup _
  all_goals congr 1
  all_goals simp only [ZU,show toV U (.agg (Z0B.encS a.1))=(.agg (Z0B.ZC a.1)) from(Z7S hE).encS a.1,show toV U (ZW.Z0W a.2)=(ZW.ZK a.2) from(Z12 hE).encS a.2]
 ·first|rfl|skip
  all_goals show [V.tup _]=[V.tup _]
  all_goals congr 2
  all_goals simp only [ZU,show toV U (.agg (Z0B.encS a.1))=(.agg (Z0B.ZC a.1)) from(Z7S hE).encS a.1,show toV U (ZW.Z0W a.2)=(ZW.ZK a.2) from(Z12 hE).encS a.2]
 ·show ZB [.agg (Z0B.ZC a.1),ZW.ZK a.2]=true
  simp only [ZB,show ZV (.agg (Z0B.ZC a.1))=true from(Z7S hE).nr a.1,show ZV (ZW.ZK a.2)=true from(Z12 hE).nr a.2,Bool.and_self]
 ·have h:V.tup [.agg (Z0B.ZC a.1),ZW.ZK a.2]=V.tup [.agg (Z0B.ZC b.1),ZW.ZK b.2]:=h
  simp only [V.tup.injEq,List.cons.injEq,and_true] at h
  exact Prod.ext ((Z7S hE).inj _ _ h.1) ((Z12 hE).inj _ _ h.2)
theorem ZEj {E:Env} (hE:E.rows=rowsOf Tryz.prog):Z0L U E 233:=by
 refine⟨fun a=>?_,fun v a h=>(by cases h),fun a=>?_,fun a=>?_,fun a b h=>?_⟩
 ·first|rfl|skip
  all_goals show V.tup _=V.tup _
  all_goals congr 1
  all_goals simp only [ZU,show toV U (.agg (Z30.encS a.1))=(.agg (Z30.ZC a.1)) from(Z1X hE).encS a.1,show toV U (((Za.list 148 18 (fun(a:Z5)=>.agg (Z19.ZC a)):Za Ty (List (Ty 148)))).Z0W a.2)=(((Za.list 148 18 (fun(a:Z5)=>.agg (Z19.ZC a)):Za Ty (List (Ty 148)))).ZK a.2) from(Z3S hE).encS a.2]
 ·first|rfl|skip
  all_goals show [V.tup _]=[V.tup _]
  all_goals congr 2
  all_goals simp only [ZU,show toV U (.agg (Z30.encS a.1))=(.agg (Z30.ZC a.1)) from(Z1X hE).encS a.1,show toV U (((Za.list 148 18 (fun(a:Z5)=>.agg (Z19.ZC a)):Za Ty (List (Ty 148)))).Z0W a.2)=(((Za.list 148 18 (fun(a:Z5)=>.agg (Z19.ZC a)):Za Ty (List (Ty 148)))).ZK a.2) from(Z3S hE).encS a.2]
 ·show ZB [.agg (Z30.ZC a.1),((Za.list 148 18 (fun(a:Z5)=>.agg (Z19.ZC a)):Za Ty (List (Ty 148)))).ZK a.2]=true
  simp only [ZB,show ZV (.agg (Z30.ZC a.1))=true from(Z1X hE).nr a.1,show ZV (((Za.list 148 18 (fun(a:Z5)=>.agg (Z19.ZC a)):Za Ty (List (Ty 148)))).ZK a.2)=true from(Z3S hE).nr a.2,Bool.and_self]
 ·have h:V.tup [.agg (Z30.ZC a.1),((Za.list 148 18 (fun(a:Z5)=>.agg (Z19.ZC a)):Za Ty (List (Ty 148)))).ZK a.2]=V.tup [.agg (Z30.ZC b.1),((Za.list 148 18 (fun(a:Z5)=>.agg (Z19.ZC a)):Za Ty (List (Ty 148)))).ZK b.2]:=h
  simp only [V.tup.injEq,List.cons.injEq,and_true] at h
  exact Prod.ext ((Z1X hE).inj _ _ h.1) ((Z3S hE).inj _ _ h.2)
theorem ZEy {E:Env} (hE:E.rows=rowsOf Tryz.prog):Z0L U E 237:=by
 refine⟨fun a=>?_,fun v a h=>(by cases h),fun a=>?_,fun a=>?_,fun a b h=>?_⟩
 ·first|rfl|skip
  all_goals show V.tup _=V.tup _
  all_goals congr 1
  all_goals simp only [ZU,show toV U (.agg (Z30.encS a.1))=(.agg (Z30.ZC a.1)) from(Z1X hE).encS a.1,show toV U (((Za.list 156 15 (fun(a:Z4)=>.agg (Z0B.ZC a)):Za Ty (List (Ty 156)))).Z0W a.2.1)=(((Za.list 156 15 (fun(a:Z4)=>.agg (Z0B.ZC a)):Za Ty (List (Ty 156)))).ZK a.2.1) from(Z7p hE).encS a.2.1,show toV U (((Za.list 148 18 (fun(a:Z5)=>.agg (Z19.ZC a)):Za Ty (List (Ty 148)))).Z0W a.2.2)=(((Za.list 148 18 (fun(a:Z5)=>.agg (Z19.ZC a)):Za Ty (List (Ty 148)))).ZK a.2.2) from(Z3S hE).encS a.2.2]
 ·first|rfl|skip
  all_goals show [V.tup _]=[V.tup _]
  all_goals congr 2
  all_goals simp only [ZU,show toV U (.agg (Z30.encS a.1))=(.agg (Z30.ZC a.1)) from(Z1X hE).encS a.1,show toV U (((Za.list 156 15 (fun(a:Z4)=>.agg (Z0B.ZC a)):Za Ty (List (Ty 156)))).Z0W a.2.1)=(((Za.list 156 15 (fun(a:Z4)=>.agg (Z0B.ZC a)):Za Ty (List (Ty 156)))).ZK a.2.1) from(Z7p hE).encS a.2.1,show toV U (((Za.list 148 18 (fun(a:Z5)=>.agg (Z19.ZC a)):Za Ty (List (Ty 148)))).Z0W a.2.2)=(((Za.list 148 18 (fun(a:Z5)=>.agg (Z19.ZC a)):Za Ty (List (Ty 148)))).ZK a.2.2) from(Z3S hE).encS a.2.2]
 ·show ZB [.agg (Z30.ZC a.1),((Za.list 156 15 (fun(a:Z4)=>.agg (Z0B.ZC a)):Za Ty (List (Ty 156)))).ZK a.2.1,((Za.list 148 18 (fun(a:Z5)=>.agg (Z19.ZC a)):Za Ty (List (Ty 148)))).ZK a.2.2]=true
  simp only [ZB,show ZV (.agg (Z30.ZC a.1))=true from(Z1X hE).nr a.1,show ZV (((Za.list 156 15 (fun(a:Z4)=>.agg (Z0B.ZC a)):Za Ty (List (Ty 156)))).ZK a.2.1)=true from(Z7p hE).nr a.2.1,show ZV (((Za.list 148 18 (fun(a:Z5)=>.agg (Z19.ZC a)):Za Ty (List (Ty 148)))).ZK a.2.2)=true from(Z3S hE).nr a.2.2,Bool.and_self]
 ·have h:V.tup [.agg (Z30.ZC a.1),((Za.list 156 15 (fun(a:Z4)=>.agg (Z0B.ZC a)):Za Ty (List (Ty 156)))).ZK a.2.1,((Za.list 148 18 (fun(a:Z5)=>.agg (Z19.ZC a)):Za Ty (List (Ty 148)))).ZK a.2.2]=V.tup [.agg (Z30.ZC b.1),((Za.list 156 15 (fun(a:Z4)=>.agg (Z0B.ZC a)):Za Ty (List (Ty 156)))).ZK b.2.1,((Za.list 148 18 (fun(a:Z5)=>.agg (Z19.ZC a)):Za Ty (List (Ty 148)))).ZK b.2.2]:=h
  simp only [V.tup.injEq,List.cons.injEq,and_true] at h
  exact Prod.ext ((Z1X hE).inj _ _ h.1) (Prod.ext ((Z7p hE).inj _ _ h.2.1) ((Z3S hE).inj _ _ h.2.2))
theorem ZJK:Zc U ZLA [0,0,0,0,0,0,0]:=Zc.iso ((Zc.int _).pair ((Zc.int _).pair ((Zc.skip).pair ((Zc.bool).pair ((Zc.bool).pair ((Zc.int _).pair ((Zc.int _).pair Zc.unit))))))) (fun _=>rfl) (fun _=>rfl)
theorem ZJx:Zc U ZLu [0,0,0,0,0,0,0,0,0,0,0,0,0,0,0,0,0,0,0,0]:=Zc.iso ((Zc.int _).pair ((Zc.int _).pair ((Zc.int _).pair ((Zc.skip).pair ((Zc.int _).pair ((Zc.int _).pair ((Zc.skip).pair ((Zc.bool).pair ((Zc.int _).pair ((Zc.int _).pair ((Zc.bool).pair ((Zc.bool).pair ((Zc.int _).pair ((Zc.int _).pair ((Zc.int _).pair ((Zc.int _).pair ((Zc.int _).pair ((Zc.int _).pair ((Zc.int _).pair ((Zc.int _).pair Zc.unit)))))))))))))))))))) (fun _=>rfl) (fun _=>rfl)
theorem ZK5:Zc U ZLI [0,0,0,0,0,0,0,0,0,0,0,0,0,0,0,0,0,0,0,0,0,0,0,0,0,0,0,0,0,0,0,0,0,0,0,0,0,0,0,0,0,0,0,0,0,0,0,0,0,0,0,0,0,0,0,0,0,0,0,0,0,0,0,0,0,0]:=Zc.iso ((Zc.int _).pair ((ZjD).pair ((Zc.int _).pair ((Zc.int _).pair ((Zc.int _).pair ((Zc.int _).pair ((Zc.int _).pair ((Zc.int _).pair ((Zc.int _).pair ((Zc.bool).pair ((Zc.bool).pair ((Zc.bool).pair ((Zc.bool).pair ((Zc.bool).pair ((ZJK).pair ((ZmP).pair ((ZJx).pair ((ZmC).pair ((Zc.int _).pair ((Zc.skip).pair ((Zc.skip).pair ((Zc.int _).pair ((Zc.int _).pair Zc.unit))))))))))))))))))))))) (fun _=>rfl) (fun _=>rfl)
theorem Zsg:Zc U ZAj [0,0,0,0,0,0,0,0,0,0,0,0,0,0,0,0,0,0,0,0,0,0,0,0,0,0,0,0,0,0,0,0,0,0,0,0,0,0,0,0,0,0,0,0,0,0,0,0,0,0,0,0,0,0,0,0,0,0,0,0,0,0,0,0,0,0,0]:=Zc.iso ((ZK5).pair ((Zc.skip).pair Zc.unit)) (fun _=>rfl) (fun _=>rfl)
theorem ZGz {E:Env} (hE:E.rows=rowsOf Tryz.prog):Z0L U E 115:=⟨fun a=>rfl,fun v a h=>Zsg.ZJQ h _,fun a=>rfl,fun a=>Zsg.ZLD 67 a,fun a b h=>Zsg.ZKh h⟩
theorem ZHM (t:Nat) (h4:¬t=4) (h5:¬t=5) (h83:¬t=83) (h113:¬t=113) (h59:¬t=59) (h3:¬t=3) (h62:¬t=62) (h68:¬t=68) (h156:¬t=156) (h138:¬t=138) (h99:¬t=99) (h44:¬t=44) (h60:¬t=60) (h45:¬t=45) (h46:¬t=46) (h63:¬t=63) (h148:¬t=148) (h77:¬t=77) (h86:¬t=86) (h78:¬t=78) (h31:¬t=31) (h39:¬t=39) (h36:¬t=36) (h37:¬t=37) (h42:¬t=42) (h35:¬t=35) (h33:¬t=33) (h109:¬t=109) (h110:¬t=110) (h28:¬t=28) (h29:¬t=29) (h25:¬t=25) (h52:¬t=52) (h24:¬t=24) (h26:¬t=26) (h226:¬t=226) (h70:¬t=70) (h75:¬t=75) (h71:¬t=71) (h120:¬t=120) (h104:¬t=104) (h30:¬t=30) (h22:¬t=22) (h189:¬t=189) (h262:¬t=262) (h41:¬t=41) (h129:¬t=129) (h135:¬t=135) (h140:¬t=140) (h208:¬t=208) (h216:¬t=216) (h269:¬t=269) (h222:¬t=222) (h9:¬t=9) (h254:¬t=254) (h163:¬t=163) (h231:¬t=231) (h233:¬t=233) (h237:¬t=237) (h115:¬t=115) (h1344:¬t=1344) (h1345:¬t=1345) (h1346:¬t=1346) (h1347:¬t=1347) (h1349:¬t=1349) (h1351:¬t=1351) (h1352:¬t=1352) (h1350:¬t=1350) (h1348:¬t=1348) (h1353:¬t=1353) (a:Ty t):False:=by
 unfold Ty at a
 split at a<;>first|contradiction|exact a.elim
theorem Z0L.four {E:Env} {t:Nat} (h:Z0L U E t):(∀a,toV U (U.encS t a)=U.enc t a)/\(∀v a,U.Zsr t v=some a->Z0E (E.rows t) (toV U v)=U.enc t a)/\(∀a,(U.enc t a).cells=ZU U (cellsS (U.encS t a)))/\(∀a,ZV (U.enc t a)=true):=⟨h.encS,h.dec,h.cells,h.nr⟩
theorem ZAJ (E:Env) (hE:E.rows=rowsOf Tryz.prog) (t:Nat):(∀a,toV U (U.encS t a)=U.enc t a)/\(∀v a,U.Zsr t v=some a->Z0E (E.rows t) (toV U v)=U.enc t a)/\(∀a,(U.enc t a).cells=ZU U (cellsS (U.encS t a)))/\(∀a,ZV (U.enc t a)=true):=by
 by_cases h4:t=4
 ·subst h4;exact Z0L.four (Z9T hE)
 by_cases h5:t=5
 ·subst h5;exact Z0L.four (ZL3 hE)
 by_cases h83:t=83
 ·subst h83;exact Z0L.four (ZJf hE)
 by_cases h113:t=113
 ·subst h113;exact Z0L.four (ZF6 hE)
 by_cases h59:t=59
 ·subst h59;exact Z0L.four (ZJ8 hE)
 by_cases h3:t=3
 ·subst h3;exact Z0L.four (Z9W hE)
 by_cases h62:t=62
 ·subst h62;exact Z0L.four (Zdd hE)
 by_cases h68:t=68
 ·subst h68;exact Z0L.four (ZpS hE)
 by_cases h156:t=156
 ·subst h156;exact Z0L.four (Z7S hE)
 by_cases h138:t=138
 ·subst h138;exact Z0L.four (ZFZ hE)
 by_cases h99:t=99
 ·subst h99;exact Z0L.four (ZIS hE)
 by_cases h44:t=44
 ·subst h44;exact Z0L.four (Z2Q hE)
 by_cases h60:t=60
 ·subst h60;exact Z0L.four (ZJ4 hE)
 by_cases h45:t=45
 ·subst h45;exact Z0L.four (Z12 hE)
 by_cases h46:t=46
 ·subst h46;exact Z0L.four (ZJg hE)
 by_cases h63:t=63
 ·subst h63;exact Z0L.four (ZIL hE)
 by_cases h148:t=148
 ·subst h148;exact Z0L.four (ZEK hE)
 by_cases h77:t=77
 ·subst h77;exact Z0L.four (Z3S hE)
 by_cases h86:t=86
 ·subst h86;exact Z0L.four (ZIW hE)
 by_cases h78:t=78
 ·subst h78;exact Z0L.four (ZIJ hE)
 by_cases h31:t=31
 ·subst h31;exact Z0L.four (ZIP hE)
 by_cases h39:t=39
 ·subst h39;exact Z0L.four (Z1X hE)
 by_cases h36:t=36
 ·subst h36;exact Z0L.four (Z7p hE)
 by_cases h37:t=37
 ·subst h37;exact Z0L.four (Z3U hE)
 by_cases h42:t=42
 ·subst h42;exact Z0L.four (ZJa hE)
 by_cases h35:t=35
 ·subst h35;exact Z0L.four (Zps hE)
 by_cases h33:t=33
 ·subst h33;exact Z0L.four (Z7B hE)
 by_cases h109:t=109
 ·subst h109;exact Z0L.four (ZiZ hE)
 by_cases h110:t=110
 ·subst h110;exact Z0L.four (ZFW hE)
 by_cases h28:t=28
 ·subst h28;exact Z0L.four (ZJ6 hE)
 by_cases h29:t=29
 ·subst h29;exact Z0L.four (ZIZ hE)
 by_cases h25:t=25
 ·subst h25;exact Z0L.four (ZJe hE)
 by_cases h52:t=52
 ·subst h52;exact Z0L.four (ZIK hE)
 by_cases h24:t=24
 ·subst h24;exact Z0L.four (ZJl hE)
 by_cases h26:t=26
 ·subst h26;exact Z0L.four (ZJ0 hE)
 by_cases h226:t=226
 ·subst h226;exact Z0L.four (ZEE hE)
 by_cases h70:t=70
 ·subst h70;exact Z0L.four (Zcx hE)
 by_cases h75:t=75
 ·subst h75;exact Z0L.four (ZJh hE)
 by_cases h71:t=71
 ·subst h71;exact Z0L.four (ZIN hE)
 by_cases h120:t=120
 ·subst h120;exact Z0L.four (ZFI hE)
 by_cases h104:t=104
 ·subst h104;exact Z0L.four (ZFp hE)
 by_cases h30:t=30
 ·subst h30;exact Z0L.four (ZIF hE)
 by_cases h22:t=22
 ·subst h22;exact Z0L.four (ZJi hE)
 by_cases h189:t=189
 ·subst h189;exact Z0L.four (ZEx hE)
 by_cases h262:t=262
 ·subst h262;exact Z0L.four (ZGX hE)
 by_cases h41:t=41
 ·subst h41;exact Z0L.four (ZIR hE)
 by_cases h129:t=129
 ·subst h129;exact Z0L.four (ZFz hE)
 by_cases h135:t=135
 ·subst h135;exact Z0L.four (ZGT hE)
 by_cases h140:t=140
 ·subst h140;exact Z0L.four (ZGa hE)
 by_cases h208:t=208
 ·subst h208;exact Z0L.four (ZFN hE)
 by_cases h216:t=216
 ·subst h216;exact Z0L.four (ZFn hE)
 by_cases h269:t=269
 ·subst h269;exact Z0L.four (ZF1 hE)
 by_cases h222:t=222
 ·subst h222;exact Z0L.four (ZFM hE)
 by_cases h9:t=9
 ·subst h9;exact Z0L.four (ZLs hE)
 by_cases h254:t=254
 ·subst h254;exact Z0L.four (ZFi hE)
 by_cases h163:t=163
 ·subst h163;exact Z0L.four (ZF3 hE)
 by_cases h231:t=231
 ·subst h231;exact Z0L.four (ZEG hE)
 by_cases h233:t=233
 ·subst h233;exact Z0L.four (ZEj hE)
 by_cases h237:t=237
 ·subst h237;exact Z0L.four (ZEy hE)
 by_cases h115:t=115
 ·subst h115;exact Z0L.four (ZGz hE)
 by_cases h1344:t=1344
 ·subst h1344;exact⟨fun a=>rfl,(fun v a h=>nomatch h),fun a=>rfl,fun a=>rfl⟩
 by_cases h1345:t=1345
 ·subst h1345;exact⟨fun a=>rfl,(fun v a h=>nomatch h),fun a=>rfl,fun a=>rfl⟩
 by_cases h1346:t=1346
 ·subst h1346;exact⟨fun a=>rfl,(fun v a h=>nomatch h),fun a=>rfl,fun a=>rfl⟩
 by_cases h1347:t=1347
 ·subst h1347;exact⟨fun a=>rfl,(fun v a h=>nomatch h),fun a=>rfl,fun a=>rfl⟩
 by_cases h1349:t=1349
 ·subst h1349;exact⟨fun a=>rfl,(fun v a h=>nomatch h),fun a=>rfl,fun a=>rfl⟩
 by_cases h1351:t=1351
 ·subst h1351;exact⟨fun a=>rfl,(fun v a h=>nomatch h),fun a=>rfl,fun a=>rfl⟩
 by_cases h1352:t=1352
 ·subst h1352;exact⟨fun a=>rfl,(fun v a h=>nomatch h),fun a=>rfl,fun a=>rfl⟩
 by_cases h1350:t=1350
 ·subst h1350;exact⟨fun a=>rfl,(fun v a h=>nomatch h),fun a=>rfl,fun a=>rfl⟩
 by_cases h1348:t=1348
 ·subst h1348;exact⟨fun a=>rfl,(fun v a h=>nomatch h),fun a=>rfl,fun a=>rfl⟩
 by_cases h1353:t=1353
 ·subst h1353;exact⟨fun a=>rfl,(fun v a h=>nomatch h),fun a=>rfl,fun a=>rfl⟩
 have e:=fun a=>ZHM t h4 h5 h83 h113 h59 h3 h62 h68 h156 h138 h99 h44 h60 h45 h46 h63 h148 h77 h86 h78 h31 h39 h36 h37 h42 h35 h33 h109 h110 h28 h29 h25 h52 h24 h26 h226 h70 h75 h71 h120 h104 h30 h22 h189 h262 h41 h129 h135 h140 h208 h216 h269 h222 h9 h254 h163 h231 h233 h237 h115 h1344 h1345 h1346 h1347 h1349 h1351 h1352 h1350 h1348 h1353 a
 exact⟨fun a=>(e a).elim,fun v a h=>(e a).elim,fun a=>(e a).elim,fun a=>(e a).elim⟩
theorem ZFD (E:Env) (hE:E.rows=rowsOf Tryz.prog):Z0l U E:=by
 refine⟨fun t=>(ZAJ E hE t).1,fun t=>(ZAJ E hE t).2.1,fun t=>(ZAJ E hE t).2.2.1,fun t=>(ZAJ E hE t).2.2.2,?_⟩
 ·intro t ht
  by_cases h4:t=4
  ·subst h4;exact(Z9T hE).inj
  by_cases h5:t=5
  ·subst h5;exact(ZL3 hE).inj
  by_cases h83:t=83
  ·subst h83;exact(ZJf hE).inj
  by_cases h113:t=113
  ·subst h113;exact(ZF6 hE).inj
  by_cases h59:t=59
  ·subst h59;exact(ZJ8 hE).inj
  by_cases h3:t=3
  ·subst h3;exact(Z9W hE).inj
  by_cases h62:t=62
  ·subst h62;exact(Zdd hE).inj
  by_cases h68:t=68
  ·subst h68;exact(ZpS hE).inj
  by_cases h156:t=156
  ·subst h156;exact(Z7S hE).inj
  by_cases h138:t=138
  ·subst h138;exact(ZFZ hE).inj
  by_cases h99:t=99
  ·subst h99;exact(ZIS hE).inj
  by_cases h44:t=44
  ·subst h44;exact(Z2Q hE).inj
  by_cases h60:t=60
  ·subst h60;exact(ZJ4 hE).inj
  by_cases h45:t=45
  ·subst h45;exact(Z12 hE).inj
  by_cases h46:t=46
  ·subst h46;exact(ZJg hE).inj
  by_cases h63:t=63
  ·subst h63;exact(ZIL hE).inj
  by_cases h148:t=148
  ·subst h148;exact(ZEK hE).inj
  by_cases h77:t=77
  ·subst h77;exact(Z3S hE).inj
  by_cases h86:t=86
  ·subst h86;exact(ZIW hE).inj
  by_cases h78:t=78
  ·subst h78;exact(ZIJ hE).inj
  by_cases h31:t=31
  ·subst h31;exact(ZIP hE).inj
  by_cases h39:t=39
  ·subst h39;exact(Z1X hE).inj
  by_cases h36:t=36
  ·subst h36;exact(Z7p hE).inj
  by_cases h37:t=37
  ·subst h37;exact(Z3U hE).inj
  by_cases h42:t=42
  ·subst h42;exact(ZJa hE).inj
  by_cases h35:t=35
  ·subst h35;exact(Zps hE).inj
  by_cases h33:t=33
  ·subst h33;exact(Z7B hE).inj
  by_cases h109:t=109
  ·subst h109;exact(ZiZ hE).inj
  by_cases h110:t=110
  ·subst h110;exact(ZFW hE).inj
  by_cases h28:t=28
  ·subst h28;exact(ZJ6 hE).inj
  by_cases h29:t=29
  ·subst h29;exact(ZIZ hE).inj
  by_cases h25:t=25
  ·subst h25;exact(ZJe hE).inj
  by_cases h52:t=52
  ·subst h52;exact(ZIK hE).inj
  by_cases h24:t=24
  ·subst h24;exact(ZJl hE).inj
  by_cases h26:t=26
  ·subst h26;exact(ZJ0 hE).inj
  by_cases h226:t=226
  ·subst h226;exact(ZEE hE).inj
  by_cases h70:t=70
  ·subst h70;exact(Zcx hE).inj
  by_cases h75:t=75
  ·subst h75;exact(ZJh hE).inj
  by_cases h71:t=71
  ·subst h71;exact(ZIN hE).inj
  by_cases h120:t=120
  ·subst h120;exact(ZFI hE).inj
  by_cases h104:t=104
  ·subst h104;exact(ZFp hE).inj
  by_cases h30:t=30
  ·subst h30;exact(ZIF hE).inj
  by_cases h22:t=22
  ·subst h22;exact(ZJi hE).inj
  by_cases h189:t=189
  ·subst h189;exact(ZEx hE).inj
  by_cases h262:t=262
  ·subst h262;exact(ZGX hE).inj
  by_cases h41:t=41
  ·subst h41;exact(ZIR hE).inj
  by_cases h129:t=129
  ·subst h129;exact(ZFz hE).inj
  by_cases h135:t=135
  ·subst h135;exact(ZGT hE).inj
  by_cases h140:t=140
  ·subst h140;exact(ZGa hE).inj
  by_cases h208:t=208
  ·subst h208;exact(ZFN hE).inj
  by_cases h216:t=216
  ·subst h216;exact(ZFn hE).inj
  by_cases h269:t=269
  ·subst h269;exact(ZF1 hE).inj
  by_cases h222:t=222
  ·subst h222;exact(ZFM hE).inj
  by_cases h9:t=9
  ·subst h9;exact(ZLs hE).inj
  by_cases h254:t=254
  ·subst h254;exact(ZFi hE).inj
  by_cases h163:t=163
  ·subst h163;exact(ZF3 hE).inj
  by_cases h231:t=231
  ·subst h231;exact(ZEG hE).inj
  by_cases h233:t=233
  ·subst h233;exact(ZEj hE).inj
  by_cases h237:t=237
  ·subst h237;exact(ZEy hE).inj
  by_cases h115:t=115
  ·subst h115;exact(ZGz hE).inj
  exact absurd ht (by simp [h115,h4,h5,h83,h113,h59,h3,h62,h68,h156,h138,h99,h44,h60,h45,h46,h63,h148,h77,h86,h78,h31,h39,h36,h37,h42,h35,h33,h109,h110,h28,h29,h25,h52,h24,h26,h226,h70,h75,h71,h120,h104,h30,h22,h189,h262,h41,h129,h135,h140,h208,h216,h269,h222,h9,h254,h163,h231,h233,h237])
def sumsV:List V:=[0,1788928,3577856,3003392,7155712,7764992,6006784,4252672,14311424,12659712,15529984,16233472,12013568,11279360,8505344,10126336].map fun n=>V.lit (.int .u32 n)
def gl:Nat->Option (List V):=fun g=>if g=0 then some sumsV else none
theorem Zm1:Tryz.prog.follows .mixedOrders=true:=by kernel_rfl
noncomputable def noH:FuncId->List FuncId->Option (HMod U):=fun _ _=>none
noncomputable def B0:Env:=EV (U:=U) Tryz.prog gl 0 (fun _=>none) noH
abbrev MS:={ms:FuncId->Option (Mod U) // ∀g m,ms g=some m->Z04 Tryz.prog B0 g m}
abbrev HS:={hs:FuncId->List FuncId->Option (HMod U) // ∀g k m,hs g k=some m->Z5J Tryz.prog B0 g m}
noncomputable def msN:MS:=⟨fun _=>none,fun _ _ h=>nomatch h⟩
noncomputable def hsN:HS:=⟨fun _ _=>none,fun _ _ _ h=>nomatch h⟩
noncomputable def mc {f:FuncId} {m:Mod U} (h:Z04 Tryz.prog B0 f m) (s:MS):MS:=⟨fun g=>bif Nat.beq g f then some m else s.1 g,fun g m' e=>by
 cases hb:Nat.beq g f with
 | true=>dsimp only at e;rw [hb] at e;cases e;exact(Nat.eq_of_beq_eq_true hb)▸h
 | false=>dsimp only at e;rw [hb] at e;exact s.2 g m' e⟩
noncomputable def hc {f:FuncId} {m:HMod U} (k:List FuncId) (h:Z5J Tryz.prog B0 f m) (s:HS):HS:=⟨fun g k' =>bif Nat.beq g f&&k' == k then some m else s.1 g k',fun g k' m' e=>by
 cases hb:(Nat.beq g f&&k' == k) with
 | true=>dsimp only at e;rw [hb] at e;cases e;exact(Nat.eq_of_beq_eq_true ((Bool.and_eq_true _ _).mp hb).1)▸h
 | false=>dsimp only at e;rw [hb] at e;exact s.2 g k' m' e⟩
def AN:Nat->Option Lay:=fun _=>none
noncomputable def Z0f (fn:Func) (ts:List Nat) (x:ZkP U ts):Z08 U:=⟨Zmv fn,[],ZvP ts x fn.ntmps,false⟩
noncomputable def ZJp (fn:Func) (sh:Shape) (x:sh.X U):Z08 U:=⟨Zmv fn,[],ZuC (sh.enc x) fn.ntmps,false⟩
noncomputable def spL (fn:Func) (p:List Nat) (L:Lay) (x:L.sh.X U):Z08 U:=spot (Zmv fn) p fn.ntmps L.keep (L.sh.enc x)
abbrev Z0e (f:FuncId) (fn:Func) (ms:MS) (hs:HS) (A:Nat->Option Lay) (rt:Nat) {Pt:Type} (T:Pt->Tr U (U.Ty rt⊕Pt)) (sp:Pt->Z08 U):Prop:=
 ∀p,Le.Z9S (EV Tryz.prog gl f ms.1 hs.1) (ZwT ms.1 hs.1) A f fn 0 (ZHP (EV Tryz.prog gl f ms.1 hs.1) fn) 1000 (.run (sp p).c) (sp p).K (sp p).st (sp p).sk=(T p).map (Zp5 (outP (U:=U) rt) sp)
abbrev ZK4 (f:FuncId) (fn:Func) (ms:MS) (hs:HS) (A:Nat->Option Lay) (fa:List (List Fk)) (fb:List Bf) (k:Nat) (m:HMod U) {Pt:Type} (T:Pt->Tr U (U.Ty m.ky⊕Pt)) (sp:Pt->Z08 U):Prop:=
 ∀p,Le.Z9S (EV Tryz.prog gl f ms.1 hs.1) (ZwT ms.1 hs.1) A f fn k (ZHB (EV Tryz.prog gl f ms.1 hs.1) fn fa fb k m.ZH9 m.one) 1000 (.run (sp p).c) (sp p).K (sp p).st (sp p).sk=(T p).map (Zp5 m.out sp)
theorem okP {f:FuncId} {fn:Func} {ms:MS} {hs:HS} {A:Nat->Option Lay} {m:Mod U} {Pt:Type} {T:Pt->Tr U (U.Ty m.rt⊕Pt)} {sp:Pt->Z08 U} (h:Z0e f fn ms hs A m.rt T sp) (b0:ZkP U m.ts->Pt)
  (hc:Z36 (EV Tryz.prog gl f ms.1 hs.1) f (Zmv fn)=true) (hfn:Tryz.prog.funcs[f]? = some fn) (hn:(fn.name == "runtime.NumGoroutine")=false) (hb:fn.body=some (Zmv fn))
  (hm:∀x,m.fn x=Z05 T (b0 x)) (hsp:∀x,sp (b0 x)=Z0f fn m.ts x):Z04 Tryz.prog B0 f m:=
 ZIp rfl (ZFD _ rfl) Zm1 ms.2 hs.2 hfn hn hb hc m T sp h b0 hm hsp
theorem okH {f:FuncId} {fn:Func} {ms:MS} {hs:HS} {A:Nat->Option Lay} {fa:List (List Fk)} {fb:List Bf} {k:Nat} {m:HMod U} {Pt:Type} {T:Pt->Tr U (U.Ty m.ky⊕Pt)} {sp:Pt->Z08 U} (h:ZK4 f fn ms hs A fa fb k m T sp) (b0:m.sin.X U->Pt)
  (hk:∀x:m.sin.X U,(m.sin.enc x).2.length=k) (hc:Z36 (EV Tryz.prog gl f ms.1 hs.1) f (Zmv fn)=true) (hfn:Tryz.prog.funcs[f]? = some fn) (hn:(fn.name == "runtime.NumGoroutine")=false) (hb:fn.body=some (Zmv fn))
  (hm:∀x:m.sin.X U,m.fn x=Z05 T (b0 x)) (hsp:∀x:m.sin.X U,sp (b0 x)=ZJp fn m.sin x):Z5J Tryz.prog B0 f m:=
 ZEZ rfl (ZFD _ rfl) Zm1 ms.2 hs.2 hfn hn hb hc m hk T sp h b0 hm hsp
abbrev k0:List Fk:=[.keep,.keep,.keep,.s 156 15,.keep,.keep,.s 138 8,.keep,.keep,.keep,.keep,.keep,.keep,.keep,.keep,.keep,.keep,.keep,.keep,.keep]
abbrev k1:List Fk:=[.keep,.keep,.keep,.keep,.keep,.keep,.keep,.keep,.keep,.keep,.keep,.keep,.keep,.keep,.keep,.keep,.keep,.keep,.keep,.keep,.keep,.keep,.keep,.keep,.keep,.keep,.s 68 2,.keep,.keep,.keep,.keep,.keep,.keep,.keep,.keep,.keep,.keep,.s 156 15,.keep,.keep,.s 138 8,.keep,.keep,.keep,.keep,.keep,.keep,.keep,.keep,.keep,.keep,.keep,.keep,.keep,.keep,.keep,.keep,.keep,.keep,.keep,.keep,.keep,.s 99 2,.s 156 15,.keep,.keep]
abbrev k2:List Fk:=[.keep,.keep,.keep,.keep,.keep,.keep,.keep,.keep,.keep,.keep,.keep,.keep,.keep,.keep,.keep]
abbrev k3:List Fk:=[.keep,.keep,.keep,.keep,.keep,.keep,.keep,.keep,.keep,.keep,.keep]
abbrev k4:List Fk:=[.keep,.keep,.keep,.keep,.keep,.keep,.keep,.keep,.keep,.keep,.keep,.keep,.keep,.keep,.keep,.keep,.keep,.keep,.keep,.keep,.keep,.keep,.keep,.keep,.keep,.keep,.s 68 2,.keep,.keep,.keep,.keep,.keep,.keep,.keep,.keep,.keep,.keep,.s 156 15,.keep,.keep,.s 138 8,.keep,.keep,.keep,.keep,.keep,.keep,.keep,.keep,.keep,.keep,.keep,.keep,.keep,.keep,.keep,.keep,.keep,.keep,.keep,.keep,.keep,.s 99 2,.s 156 15,.keep,.keep,.keep,.keep,.keep,.keep,.keep,.keep,.keep,.keep,.keep,.keep,.keep,.keep,.keep,.keep,.keep,.keep,.keep,.keep,.keep,.keep,.keep,.keep,.keep,.keep,.keep,.keep,.s 68 2,.keep,.keep,.keep,.keep,.keep,.keep,.keep,.keep,.keep,.keep,.s 156 15,.keep,.keep,.s 138 8,.keep,.keep,.keep,.keep,.keep,.keep,.keep,.keep,.keep,.keep,.keep,.keep,.keep,.keep,.keep,.keep,.keep,.keep,.keep,.keep,.keep,.s 99 2,.s 156 15,.keep,.keep]
abbrev k5:List Fk:=[.keep,.keep,.keep,.keep,.s 5 1]
abbrev k6:List Fk:=[.keep,.keep,.s 68 2,.keep,.keep,.keep,.keep]
abbrev k7:List Fk:=[.keep,.keep,.keep,.keep,.keep,.keep,.keep]
abbrev k8:List Fk:=[.keep,.keep,.keep,.keep,.keep,.keep,.keep,.keep,.keep,.keep,.keep,.keep,.keep,.keep,.keep,.keep,.keep,.keep,.keep,.keep,.keep,.keep,.keep,.keep,.keep,.keep,.own 68 2,.keep,.keep,.keep,.keep,.keep,.keep,.keep,.keep,.keep,.keep,.own 156 15,.keep,.keep,.own 138 8,.keep,.keep,.keep,.keep,.keep,.keep,.keep,.keep,.keep,.keep,.keep,.keep,.keep,.keep,.keep,.keep,.keep,.keep,.keep,.keep,.keep,.own 99 2,.own 156 15,.keep,.keep,.own 148 18]
abbrev k9:List Fk:=[.keep,.keep,.keep,.keep,.keep,.keep,.keep,.keep,.keep,.keep,.keep,.keep,.keep,.keep,.keep,.keep,.keep,.keep,.keep,.keep,.keep,.keep,.keep,.keep,.keep,.keep,.s 68 2,.keep,.keep,.keep,.keep,.keep,.keep,.keep,.keep,.keep,.keep,.s 156 15,.keep,.keep,.s 138 8,.keep,.keep,.keep,.keep,.keep,.keep,.keep,.keep,.keep,.keep,.keep,.keep,.keep,.keep,.keep,.keep,.keep,.keep,.keep,.keep,.keep,.s 99 2,.own 156 15,.keep,.keep]
abbrev k10:List Fk:=[.keep,.keep,.keep,.keep,.keep,.keep,.keep,.keep,.keep,.keep,.keep,.keep,.keep,.keep,.s 113 3,.keep,.keep]
abbrev k11:List Fk:=[.keep,.keep,.keep,.keep,.keep,.keep,.keep,.keep]
abbrev k12:List Fk:=[.keep,.keep,.keep,.s 5 1,.keep,.keep,.keep,.keep,.keep,.keep,.keep,.keep]
end Go.Proofs.YtjodhcdmhobmoaaGreatDoor
