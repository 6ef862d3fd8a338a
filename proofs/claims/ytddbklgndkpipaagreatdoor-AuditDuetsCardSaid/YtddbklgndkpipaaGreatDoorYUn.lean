/- A part of it. -/
import Derived.Test.YtddbklgndkpipaaGreatDoorL6
import Derived.Test.YtddbklgndkpipaaGreatDoorProg
import Derived.KernelRfl
set_option linter.unusedVariables false
set_option linter.unusedSimpArgs false
namespace Go.Proofs.YtddbklgndkpipaaGreatDoor
open Go Go.Proofs.YtddbklgndkpipaaGreatDoor.Le
set_option maxRecDepth 100000
noncomputable section
structure ER where
 Gy:Int
 Gl:Int
 GK:Int
 Fb:Int
 He:Int
@[reducible] def ET:ER:=⟨(0:Int),(0:Int),(0:Int),(0:Int),(0:Int)⟩
structure Eh where
 JD:Int
 Kr:Int
 BM:ER
 Map:Int
 Hop:Int
 H6:Int
 LW:Int
@[reducible] def yQ:Eh:=⟨(0:Int),(0:Int),ET,(0:Int),(0:Int),(0:Int),(0:Int)⟩
structure DV where
 H6:Int
 Start:Int
structure Dz where
 x0:DV
 x1:DV
structure KJ where
 x0:Int
 x1:Int
structure Oa where
 Bz:Eh
 DT:Dz
 Keys:KJ
 Jc:Int
structure Ai where
 Dn:Int
 Payload:List Int
structure Eo where
 Side:Int
 Kind:Int
 Bg:Ai
 BM:ER
 Map:Int
 Number:Int
 Key:Int
structure DL where
 F8:List Eo
 Pn:List Int
 Wj:List Int
 QY:Int
structure Ob where
 Kind:Int
 Which:Int
structure Dq where
 Fb:Int
 WJ:Int
 Full:Bool
@[reducible] def Z9y:Dq:=⟨(0:Int),(0:Int),false⟩
structure AV where
 Kind:Int
 BM:ER
 Map:Int
 EN:Int
 BV:Int
 H9:Int
 EG:Int
 Mark:Int
 EU:Int
 Version:Int
 Length:Int
@[reducible] def Ig:AV:=⟨(0:Int),ET,(0:Int),(0:Int),(0:Int),(0:Int),(0:Int),(0:Int),(0:Int),(0:Int),(0:Int)⟩
structure BP where
 Kind:Int
 EN:Int
 BM:ER
 Map:Int
@[reducible] def RS:BP:=⟨(0:Int),(0:Int),ET,(0:Int)⟩
structure DX where
 Dl:Int
 Key:Int
 EG:Int
 TU:Bool
 TW:Bool
 Tx:Int
 Rx:Int
@[reducible] def QD:DX:=⟨(0:Int),(0:Int),(0:Int),false,false,(0:Int),(0:Int)⟩
structure Ba where
 Good:Int
 O8:Int
structure Ar where
 Kind:Int
 Event:Int
 Bg:Ai
 Gz:BP
 Number:Int
 BM:ER
structure DC where
 Side:Int
 Time:Int
 I5:Ar
structure CZ where
 SN:Int
 GG:Int
 Am:List Ai
 Open:Bool
 Empty:Bool
 Hl:Int
 Taken:Int
@[reducible] def MG:CZ:=⟨(0:Int),(0:Int),[],false,false,(0:Int),(0:Int)⟩
structure Ae where
 Dl:Int
 Own:Int
 Since:Int
 Aa:List AV
 Other:Int
 Jj:Int
 Ap:List BP
 Told:Bool
 EU:Int
 OJ:Int
 JG:Bool
 KG:Bool
 Version:Int
 Length:Int
 Limit:Int
 EG:Int
 Ku:Int
 Mark:Int
 EJ:Int
 Gp:Int
@[reducible] def EI:Ae:=⟨(0:Int),(0:Int),(0:Int),[],(0:Int),(0:Int),[],false,(0:Int),(0:Int),false,false,(0:Int),(0:Int),(0:Int),(0:Int),(0:Int),(0:Int),(0:Int),(0:Int)⟩
structure Af where
 Dl:Int
 Bz:Eh
 Clock:Int
 Event:Int
 Last:Int
 Gn:Int
 Size:Int
 Sync:Int
 Kq:Int
 Jp:Bool
 AB:Bool
 Good:Bool
 Hl:Bool
 More:Bool
 Ag:CZ
 JQ:Dq
 AP:Ae
 Ef:DX
 Key:Int
 Aq:List Ba
 A8:List AV
 BV:Int
 Jc:Int
@[reducible] def CU:Af:=⟨(0:Int),yQ,(0:Int),(0:Int),(0:Int),(0:Int),(0:Int),(0:Int),(0:Int),false,false,false,false,false,MG,Z9y,EI,QD,(0:Int),[],[],(0:Int),(0:Int)⟩
structure BU where
 x0:Af
 x1:Af
structure CX where
 x0:List Ai
 x1:List Ai
structure Ak where
 AA:BU
 DT:Dz
 Now:Int
 Notes:List DC
 Sent:CX
 AB:CX
structure I4 where
 Start:Int
 End:Int
structure CG where
 SN:Int
 GG:Int
 MD:Int
 Bg:Ai
@[reducible] def H7:CG:=⟨(0:Int),(0:Int),(0:Int),(⟨(0:Int),[]⟩:Ai)⟩
structure BR where
 Kind:Int
 Device:Int
 wP:Int
structure Ed where
 WT:Int
 Ee:BP
structure MO where
 x0:ByteArray
 x1:ByteArray
 x2:ByteArray
 x3:ByteArray
 x4:ByteArray
 x5:ByteArray
 x6:ByteArray
 x7:ByteArray
structure CQ where
 JG:Bool
 BM:Bool
 Map:Bool
 EN:Bool
 BV:Bool
 H9:Bool
 EG:Bool
 Mark:Bool
 EU:Bool
 Version:Bool
 Length:Bool
@[reducible] def Na:CQ:=⟨false,false,false,false,false,false,false,false,false,false,false⟩
structure Z8d where
 q0:List Int
structure IZ where
 q0:List BR
structure Je where
 q0:Bool
structure IU where
 q0:Ak
 q1:Int
structure PG where
 q0:Ak
structure Iz where
 q0:Ak
 q1:Int
structure LU where
 q0:Ak
structure Fa where
 q0:List Ai
structure GZ where
 q0:Ak
 q1:Int
structure Jh where
 q0:List Int
structure Jf where
 q0:Ak
structure QI where
 q0:List Int
structure Np where
 q0:List Int
structure Ol where
 q0:List Int
structure Ii where
 q0:Ak
structure IQ where
 q0:Ak
structure MB where
 q0:Af
 q1:List Int
structure I7 where
 q0:List Int
@[reducible] def Ty:Nat->Type
 | 1582=>Z8d
 | 1583=>IZ
 | 1584=>Je
 | 1568=>IU
 | 1569=>PG
 | 1581=>Iz
 | 1571=>LU
 | 1572=>Fa
 | 1579=>GZ
 | 1585=>Jh
 | 1580=>Jf
 | 1587=>QI
 | 1586=>Np
 | 1578=>Ol
 | 1575=>Ii
 | 1576=>IQ
 | 1577=>MB
 | 1588=>I7
 | 4=>Bool
 | 35=>Oa
 | 5=>Int
 | 97=>Eo
 | 3=>Int
 | 95=>DL
 | 36=>List DL
 | 38=>Ob
 | 28=>Eh
 | 31=>Dz
 | 33=>KJ
 | 25=>Int
 | 41=>Int
 | 67=>Ai
 | 46=>Dq
 | 310=>AV
 | 111=>BP
 | 52=>DX
 | 32=>Int
 | 380=>Ba
 | 228=>DC
 | 61=>Int
 | 55=>Af
 | 100=>Af×Int
 | 56=>BU
 | 60=>Ak
 | 42=>List Ai
 | 214=>I4
 | 226=>Ar
 | 119=>List Ar
 | 316=>Af×(List Ar)
 | 44=>CZ
 | 319=>CG
 | 320=>CZ×CG
 | 322=>CG×Int
 | 65=>List Int
 | 200=>(List Int)×Int
 | 270=>Af×(List Ar)×Bool
 | 57=>List DC
 | 75=>BR
 | 68=>List BR
 | 9=>ByteArray
 | 122=>List ByteArray
 | 113=>Ed
 | 109=>List Ed
 | 121=>MO
 | 30=>DV
 | 50=>Ae
 | 53=>List Ba
 | 24=>ER
 | 26=>Int
 | 93=>List Int
 | 369=>CZ×Int
 | 47=>List AV
 | 371=>Ae×(List AV)×Int
 | 432=>Ae×AV
 | 448=>CQ
 | 48=>List BP
 | 471=>(List BP)×Int
 | 374=>Ae×(List AV)
 | 352=>List Int
 | 22=>Int
 | 384=>Int×Int
 | 332=>CZ×Ai×Bool×Bool
 | 401=>AV×Int
 | 403=>Ae×(List Ar)
 | 406=>Ae×(List AV)×(List Ar)
 | 381=>Dq×Int
 | 386=>Ae×(List BP)
 | 444=>(List BP)×(List BP)
 | _=>Empty
abbrev IE:AO Ty Int:=AO.int .u8
abbrev O5:AO Ty Int:=AO.int .u16
abbrev Pv:AO Ty Int:=AO.int .u32
abbrev D8:AO Ty Int:=AO.int .u64
abbrev BN:AO Ty Int:=AO.int .i64
abbrev Ec:AO Ty Bool:=AO.bool
abbrev cst:AO Ty ByteArray:=AO.str
def Ky:AO Ty ER:=AO.CV (fun x=>(x.Gy,x.Gl,x.GK,x.Fb,x.He,())) (fun p=>⟨p.1,p.2.1,p.2.2.1,p.2.2.2.1,p.2.2.2.2.1⟩) (AO.pair BN (AO.pair BN (AO.pair BN (AO.pair BN (AO.pair BN AO.unit)))))
def Pq:AO Ty Eh:=AO.CV (fun x=>(x.JD,x.Kr,x.BM,x.Map,x.Hop,x.H6,x.LW,())) (fun p=>⟨p.1,p.2.1,p.2.2.1,p.2.2.2.1,p.2.2.2.2.1,p.2.2.2.2.2.1,p.2.2.2.2.2.2.1⟩) (AO.pair Pv (AO.pair Pv (AO.pair Ky (AO.pair D8 (AO.pair BN (AO.pair BN (AO.pair BN AO.unit)))))))
def O3:AO Ty DV:=AO.CV (fun x=>(x.H6,x.Start,())) (fun p=>⟨p.1,p.2.1⟩) (AO.pair BN (AO.pair BN AO.unit))
def Pz:AO Ty Dz:=AO.CV (fun x=>(x.x0,x.x1,())) (fun p=>⟨p.1,p.2.1⟩) (AO.pair O3 (AO.pair O3 AO.unit))
def Qr:AO Ty KJ:=AO.CV (fun x=>(x.x0,x.x1,())) (fun p=>⟨p.1,p.2.1⟩) (AO.pair D8 (AO.pair D8 AO.unit))
def TS:AO Ty Oa:=AO.CV (fun x=>(x.Bz,x.DT,x.Keys,x.Jc,())) (fun p=>⟨p.1,p.2.1,p.2.2.1,p.2.2.2.1⟩) (AO.pair Pq (AO.pair Pz (AO.pair Qr (AO.pair D8 AO.unit))))
def GU:AO Ty Ai:=AO.CV (fun x=>(x.Dn,x.Payload,())) (fun p=>⟨p.1,p.2.1⟩) (AO.pair BN (AO.pair (AO.list 5 1 (fun(a:Int)=>IE.Bc a):AO Ty (List (Ty 5))) AO.unit))
def Ph:AO Ty Eo:=AO.CV (fun x=>(x.Side,x.Kind,x.Bg,x.BM,x.Map,x.Number,x.Key,())) (fun p=>⟨p.1,p.2.1,p.2.2.1,p.2.2.2.1,p.2.2.2.2.1,p.2.2.2.2.2.1,p.2.2.2.2.2.2.1⟩) (AO.pair BN (AO.pair BN (AO.pair GU (AO.pair Ky (AO.pair D8 (AO.pair D8 (AO.pair D8 AO.unit)))))))
def Kt:AO Ty DL:=AO.CV (fun x=>(x.F8,x.Pn,x.Wj,x.QY,())) (fun p=>⟨p.1,p.2.1,p.2.2.1,p.2.2.2.1⟩) (AO.pair (AO.list 97 12 (fun(a:Eo)=>.agg (Ph.BD a)):AO Ty (List (Ty 97))) (AO.pair (AO.list 3 1 (fun(a:Int)=>BN.Bc a):AO Ty (List (Ty 3))) (AO.pair (AO.list 3 1 (fun(a:Int)=>BN.Bc a):AO Ty (List (Ty 3))) (AO.pair BN AO.unit))))
def TQ:AO Ty Ob:=AO.CV (fun x=>(x.Kind,x.Which,())) (fun p=>⟨p.1,p.2.1⟩) (AO.pair BN (AO.pair BN AO.unit))
def Qs:AO Ty Dq:=AO.CV (fun x=>(x.Fb,x.WJ,x.Full,())) (fun p=>⟨p.1,p.2.1,p.2.2.1⟩) (AO.pair BN (AO.pair BN (AO.pair Ec AO.unit)))
def Fv:AO Ty AV:=AO.CV (fun x=>(x.Kind,x.BM,x.Map,x.EN,x.BV,x.H9,x.EG,x.Mark,x.EU,x.Version,x.Length,())) (fun p=>⟨p.1,p.2.1,p.2.2.1,p.2.2.2.1,p.2.2.2.2.1,p.2.2.2.2.2.1,p.2.2.2.2.2.2.1,p.2.2.2.2.2.2.2.1,p.2.2.2.2.2.2.2.2.1,p.2.2.2.2.2.2.2.2.2.1,p.2.2.2.2.2.2.2.2.2.2.1⟩) (AO.pair BN (AO.pair Ky (AO.pair D8 (AO.pair O5 (AO.pair BN (AO.pair BN (AO.pair D8 (AO.pair D8 (AO.pair D8 (AO.pair BN (AO.pair BN AO.unit)))))))))))
def G7:AO Ty BP:=AO.CV (fun x=>(x.Kind,x.EN,x.BM,x.Map,())) (fun p=>⟨p.1,p.2.1,p.2.2.1,p.2.2.2.1⟩) (AO.pair BN (AO.pair O5 (AO.pair Ky (AO.pair D8 AO.unit))))
def XF:AO Ty DX:=AO.CV (fun x=>(x.Dl,x.Key,x.EG,x.TU,x.TW,x.Tx,x.Rx,())) (fun p=>⟨p.1,p.2.1,p.2.2.1,p.2.2.2.1,p.2.2.2.2.1,p.2.2.2.2.2.1,p.2.2.2.2.2.2.1⟩) (AO.pair BN (AO.pair D8 (AO.pair D8 (AO.pair Ec (AO.pair Ec (AO.pair D8 (AO.pair D8 AO.unit)))))))
def KR:AO Ty Ba:=AO.CV (fun x=>(x.Good,x.O8,())) (fun p=>⟨p.1,p.2.1⟩) (AO.pair BN (AO.pair BN AO.unit))
def Hq:AO Ty Ar:=AO.CV (fun x=>(x.Kind,x.Event,x.Bg,x.Gz,x.Number,x.BM,())) (fun p=>⟨p.1,p.2.1,p.2.2.1,p.2.2.2.1,p.2.2.2.2.1,p.2.2.2.2.2.1⟩) (AO.pair BN (AO.pair O5 (AO.pair GU (AO.pair G7 (AO.pair D8 (AO.pair Ky AO.unit))))))
def KY:AO Ty DC:=AO.CV (fun x=>(x.Side,x.Time,x.I5,())) (fun p=>⟨p.1,p.2.1,p.2.2.1⟩) (AO.pair BN (AO.pair BN (AO.pair Hq AO.unit)))
def Lm:AO Ty CZ:=AO.CV (fun x=>(x.SN,x.GG,x.Am,x.Open,x.Empty,x.Hl,x.Taken,())) (fun p=>⟨p.1,p.2.1,p.2.2.1,p.2.2.2.1,p.2.2.2.2.1,p.2.2.2.2.2.1,p.2.2.2.2.2.2.1⟩) (AO.pair BN (AO.pair BN (AO.pair (AO.list 67 2 (fun(a:Ai)=>.agg (GU.BD a)):AO Ty (List (Ty 67))) (AO.pair Ec (AO.pair Ec (AO.pair BN (AO.pair BN AO.unit)))))))
def Ib:AO Ty Ae:=AO.CV (fun x=>(x.Dl,x.Own,x.Since,x.Aa,x.Other,x.Jj,x.Ap,x.Told,x.EU,x.OJ,x.JG,x.KG,x.Version,x.Length,x.Limit,x.EG,x.Ku,x.Mark,x.EJ,x.Gp,())) (fun p=>⟨p.1,p.2.1,p.2.2.1,p.2.2.2.1,p.2.2.2.2.1,p.2.2.2.2.2.1,p.2.2.2.2.2.2.1,p.2.2.2.2.2.2.2.1,p.2.2.2.2.2.2.2.2.1,p.2.2.2.2.2.2.2.2.2.1,p.2.2.2.2.2.2.2.2.2.2.1,p.2.2.2.2.2.2.2.2.2.2.2.1,p.2.2.2.2.2.2.2.2.2.2.2.2.1,p.2.2.2.2.2.2.2.2.2.2.2.2.2.1,p.2.2.2.2.2.2.2.2.2.2.2.2.2.2.1,p.2.2.2.2.2.2.2.2.2.2.2.2.2.2.2.1,p.2.2.2.2.2.2.2.2.2.2.2.2.2.2.2.2.1,p.2.2.2.2.2.2.2.2.2.2.2.2.2.2.2.2.2.1,p.2.2.2.2.2.2.2.2.2.2.2.2.2.2.2.2.2.2.1,p.2.2.2.2.2.2.2.2.2.2.2.2.2.2.2.2.2.2.2.1⟩) (AO.pair BN (AO.pair BN (AO.pair BN (AO.pair (AO.list 310 15 (fun(a:AV)=>.agg (Fv.BD a)):AO Ty (List (Ty 310))) (AO.pair BN (AO.pair BN (AO.pair (AO.list 111 8 (fun(a:BP)=>.agg (G7.BD a)):AO Ty (List (Ty 111))) (AO.pair Ec (AO.pair D8 (AO.pair D8 (AO.pair Ec (AO.pair Ec (AO.pair BN (AO.pair BN (AO.pair BN (AO.pair D8 (AO.pair D8 (AO.pair D8 (AO.pair BN (AO.pair BN AO.unit))))))))))))))))))))
def LC:AO Ty Af:=AO.CV (fun x=>(x.Dl,x.Bz,x.Clock,x.Event,x.Last,x.Gn,x.Size,x.Sync,x.Kq,x.Jp,x.AB,x.Good,x.Hl,x.More,x.Ag,x.JQ,x.AP,x.Ef,x.Key,x.Aq,x.A8,x.BV,x.Jc,())) (fun p=>⟨p.1,p.2.1,p.2.2.1,p.2.2.2.1,p.2.2.2.2.1,p.2.2.2.2.2.1,p.2.2.2.2.2.2.1,p.2.2.2.2.2.2.2.1,p.2.2.2.2.2.2.2.2.1,p.2.2.2.2.2.2.2.2.2.1,p.2.2.2.2.2.2.2.2.2.2.1,p.2.2.2.2.2.2.2.2.2.2.2.1,p.2.2.2.2.2.2.2.2.2.2.2.2.1,p.2.2.2.2.2.2.2.2.2.2.2.2.2.1,p.2.2.2.2.2.2.2.2.2.2.2.2.2.2.1,p.2.2.2.2.2.2.2.2.2.2.2.2.2.2.2.1,p.2.2.2.2.2.2.2.2.2.2.2.2.2.2.2.2.1,p.2.2.2.2.2.2.2.2.2.2.2.2.2.2.2.2.2.1,p.2.2.2.2.2.2.2.2.2.2.2.2.2.2.2.2.2.2.1,p.2.2.2.2.2.2.2.2.2.2.2.2.2.2.2.2.2.2.2.1,p.2.2.2.2.2.2.2.2.2.2.2.2.2.2.2.2.2.2.2.2.1,p.2.2.2.2.2.2.2.2.2.2.2.2.2.2.2.2.2.2.2.2.2.1,p.2.2.2.2.2.2.2.2.2.2.2.2.2.2.2.2.2.2.2.2.2.2.1⟩) (AO.pair BN (AO.pair Pq (AO.pair BN (AO.pair O5 (AO.pair BN (AO.pair BN (AO.pair BN (AO.pair BN (AO.pair BN (AO.pair Ec (AO.pair Ec (AO.pair Ec (AO.pair Ec (AO.pair Ec (AO.pair Lm (AO.pair Qs (AO.pair Ib (AO.pair XF (AO.pair D8 (AO.pair (AO.list 380 2 (fun(a:Ba)=>.agg (KR.BD a)):AO Ty (List (Ty 380))) (AO.pair (AO.list 310 15 (fun(a:AV)=>.agg (Fv.BD a)):AO Ty (List (Ty 310))) (AO.pair BN (AO.pair D8 AO.unit)))))))))))))))))))))))
def XE:AO Ty BU:=AO.CV (fun x=>(x.x0,x.x1,())) (fun p=>⟨p.1,p.2.1⟩) (AO.pair LC (AO.pair LC AO.unit))
def wX:AO Ty CX:=AO.CV (fun x=>(x.x0,x.x1,())) (fun p=>⟨p.1,p.2.1⟩) (AO.pair (AO.list 67 2 (fun(a:Ai)=>.agg (GU.BD a)):AO Ty (List (Ty 67))) (AO.pair (AO.list 67 2 (fun(a:Ai)=>.agg (GU.BD a)):AO Ty (List (Ty 67))) AO.unit))
def fU:AO Ty Ak:=AO.CV (fun x=>(x.AA,x.DT,x.Now,x.Notes,x.Sent,x.AB,())) (fun p=>⟨p.1,p.2.1,p.2.2.1,p.2.2.2.1,p.2.2.2.2.1,p.2.2.2.2.2.1⟩) (AO.pair XE (AO.pair Pz (AO.pair BN (AO.pair (AO.list 228 20 (fun(a:DC)=>.agg (KY.BD a)):AO Ty (List (Ty 228))) (AO.pair wX (AO.pair wX AO.unit))))))
def eY:AO Ty I4:=AO.CV (fun x=>(x.Start,x.End,())) (fun p=>⟨p.1,p.2.1⟩) (AO.pair BN (AO.pair BN AO.unit))
def P6:AO Ty CG:=AO.CV (fun x=>(x.SN,x.GG,x.MD,x.Bg,())) (fun p=>⟨p.1,p.2.1,p.2.2.1,p.2.2.2.1⟩) (AO.pair BN (AO.pair BN (AO.pair BN (AO.pair GU AO.unit))))
def NZ:AO Ty BR:=AO.CV (fun x=>(x.Kind,x.Device,x.wP,())) (fun p=>⟨p.1,p.2.1,p.2.2.1⟩) (AO.pair BN (AO.pair BN (AO.pair BN AO.unit)))
def NM:AO Ty Ed:=AO.CV (fun x=>(x.WT,x.Ee,())) (fun p=>⟨p.1,p.2.1⟩) (AO.pair O5 (AO.pair G7 AO.unit))
def eX:AO Ty MO:=AO.CV (fun x=>(x.x0,x.x1,x.x2,x.x3,x.x4,x.x5,x.x6,x.x7,())) (fun p=>⟨p.1,p.2.1,p.2.2.1,p.2.2.2.1,p.2.2.2.2.1,p.2.2.2.2.2.1,p.2.2.2.2.2.2.1,p.2.2.2.2.2.2.2.1⟩) (AO.pair cst (AO.pair cst (AO.pair cst (AO.pair cst (AO.pair cst (AO.pair cst (AO.pair cst (AO.pair cst AO.unit))))))))
def dW:AO Ty CQ:=AO.CV (fun x=>(x.JG,x.BM,x.Map,x.EN,x.BV,x.H9,x.EG,x.Mark,x.EU,x.Version,x.Length,())) (fun p=>⟨p.1,p.2.1,p.2.2.1,p.2.2.2.1,p.2.2.2.2.1,p.2.2.2.2.2.1,p.2.2.2.2.2.2.1,p.2.2.2.2.2.2.2.1,p.2.2.2.2.2.2.2.2.1,p.2.2.2.2.2.2.2.2.2.1,p.2.2.2.2.2.2.2.2.2.2.1⟩) (AO.pair Ec (AO.pair Ec (AO.pair Ec (AO.pair Ec (AO.pair Ec (AO.pair Ec (AO.pair Ec (AO.pair Ec (AO.pair Ec (AO.pair Ec (AO.pair Ec AO.unit)))))))))))
@[reducible] def U:Cm where
 Ty:=Ty
 Au:=fun t=>match t with
  | 4=>1
  | 35=>18
  | 5=>1
  | 97=>12
  | 3=>1
  | 95=>4
  | 36=>1
  | 38=>2
  | 28=>11
  | 31=>4
  | 33=>2
  | 25=>1
  | 41=>1
  | 67=>2
  | 46=>3
  | 310=>15
  | 111=>8
  | 52=>7
  | 32=>1
  | 380=>2
  | 228=>20
  | 61=>1
  | 55=>66
  | 100=>1
  | 56=>132
  | 60=>142
  | 42=>1
  | 214=>2
  | 226=>18
  | 119=>1
  | 316=>1
  | 44=>7
  | 319=>5
  | 320=>1
  | 322=>1
  | 65=>1
  | 200=>1
  | 270=>1
  | 57=>1
  | 75=>3
  | 68=>1
  | 9=>1
  | 122=>1
  | 113=>9
  | 109=>1
  | 121=>8
  | 30=>2
  | 50=>20
  | 53=>1
  | 24=>5
  | 26=>1
  | 93=>1
  | 369=>1
  | 47=>1
  | 371=>1
  | 432=>1
  | 448=>11
  | 48=>1
  | 471=>1
  | 374=>1
  | 352=>1
  | 22=>1
  | 384=>1
  | 332=>1
  | 401=>1
  | 403=>1
  | 406=>1
  | 381=>1
  | 386=>1
  | 444=>1
  | _=>0
 enc:=fun t=>match t with
  | 4=>fun(a:Bool)=>Ec.Bc a
  | 35=>fun(a:Oa)=>.agg (TS.BD a)
  | 5=>fun(a:Int)=>IE.Bc a
  | 97=>fun(a:Eo)=>.agg (Ph.BD a)
  | 3=>fun(a:Int)=>BN.Bc a
  | 95=>fun(a:DL)=>.agg (Kt.BD a)
  | 36=>fun(a:List DL)=>((AO.list 95 4 (fun(a:DL)=>.agg (Kt.BD a)):AO Ty (List (Ty 95)))).Bc a
  | 38=>fun(a:Ob)=>.agg (TQ.BD a)
  | 28=>fun(a:Eh)=>.agg (Pq.BD a)
  | 31=>fun(a:Dz)=>.agg (Pz.BD a)
  | 33=>fun(a:KJ)=>.agg (Qr.BD a)
  | 25=>fun(a:Int)=>D8.Bc a
  | 41=>fun(a:Int)=>O5.Bc a
  | 67=>fun(a:Ai)=>.agg (GU.BD a)
  | 46=>fun(a:Dq)=>.agg (Qs.BD a)
  | 310=>fun(a:AV)=>.agg (Fv.BD a)
  | 111=>fun(a:BP)=>.agg (G7.BD a)
  | 52=>fun(a:DX)=>.agg (XF.BD a)
  | 32=>fun(a:Int)=>D8.Bc a
  | 380=>fun(a:Ba)=>.agg (KR.BD a)
  | 228=>fun(a:DC)=>.agg (KY.BD a)
  | 61=>fun(a:Int)=>BN.Bc a
  | 55=>fun(a:Af)=>.agg (LC.BD a)
  | 100=>fun(a:Af×Int)=>.BG [(.agg (LC.BD a.1)),(BN.Bc a.2)]
  | 56=>fun(a:BU)=>.agg (XE.BD a)
  | 60=>fun(a:Ak)=>.agg (fU.BD a)
  | 42=>fun(a:List Ai)=>((AO.list 67 2 (fun(a:Ai)=>.agg (GU.BD a)):AO Ty (List (Ty 67)))).Bc a
  | 214=>fun(a:I4)=>.agg (eY.BD a)
  | 226=>fun(a:Ar)=>.agg (Hq.BD a)
  | 119=>fun(a:List Ar)=>((AO.list 226 18 (fun(a:Ar)=>.agg (Hq.BD a)):AO Ty (List (Ty 226)))).Bc a
  | 316=>fun(a:Af×(List Ar))=>.BG [(.agg (LC.BD a.1)),(((AO.list 226 18 (fun(a:Ar)=>.agg (Hq.BD a)):AO Ty (List (Ty 226)))).Bc a.2)]
  | 44=>fun(a:CZ)=>.agg (Lm.BD a)
  | 319=>fun(a:CG)=>.agg (P6.BD a)
  | 320=>fun(a:CZ×CG)=>.BG [(.agg (Lm.BD a.1)),(.agg (P6.BD a.2))]
  | 322=>fun(a:CG×Int)=>.BG [(.agg (P6.BD a.1)),(BN.Bc a.2)]
  | 65=>fun(a:List Int)=>((AO.list 5 1 (fun(a:Int)=>IE.Bc a):AO Ty (List (Ty 5)))).Bc a
  | 200=>fun(a:(List Int)×Int)=>.BG [(((AO.list 5 1 (fun(a:Int)=>IE.Bc a):AO Ty (List (Ty 5)))).Bc a.1),(BN.Bc a.2)]
  | 270=>fun(a:Af×(List Ar)×Bool)=>.BG [(.agg (LC.BD a.1)),(((AO.list 226 18 (fun(a:Ar)=>.agg (Hq.BD a)):AO Ty (List (Ty 226)))).Bc a.2.1),(Ec.Bc a.2.2)]
  | 57=>fun(a:List DC)=>((AO.list 228 20 (fun(a:DC)=>.agg (KY.BD a)):AO Ty (List (Ty 228)))).Bc a
  | 75=>fun(a:BR)=>.agg (NZ.BD a)
  | 68=>fun(a:List BR)=>((AO.list 75 3 (fun(a:BR)=>.agg (NZ.BD a)):AO Ty (List (Ty 75)))).Bc a
  | 9=>fun(a:ByteArray)=>cst.Bc a
  | 122=>fun(a:List ByteArray)=>((AO.list 9 1 (fun(a:ByteArray)=>cst.Bc a):AO Ty (List (Ty 9)))).Bc a
  | 113=>fun(a:Ed)=>.agg (NM.BD a)
  | 109=>fun(a:List Ed)=>((AO.list 113 9 (fun(a:Ed)=>.agg (NM.BD a)):AO Ty (List (Ty 113)))).Bc a
  | 121=>fun(a:MO)=>.agg (eX.BD a)
  | 30=>fun(a:DV)=>.agg (O3.BD a)
  | 50=>fun(a:Ae)=>.agg (Ib.BD a)
  | 53=>fun(a:List Ba)=>((AO.list 380 2 (fun(a:Ba)=>.agg (KR.BD a)):AO Ty (List (Ty 380)))).Bc a
  | 24=>fun(a:ER)=>.agg (Ky.BD a)
  | 26=>fun(a:Int)=>D8.Bc a
  | 93=>fun(a:List Int)=>((AO.list 3 1 (fun(a:Int)=>BN.Bc a):AO Ty (List (Ty 3)))).Bc a
  | 369=>fun(a:CZ×Int)=>.BG [(.agg (Lm.BD a.1)),(BN.Bc a.2)]
  | 47=>fun(a:List AV)=>((AO.list 310 15 (fun(a:AV)=>.agg (Fv.BD a)):AO Ty (List (Ty 310)))).Bc a
  | 371=>fun(a:Ae×(List AV)×Int)=>.BG [(.agg (Ib.BD a.1)),(((AO.list 310 15 (fun(a:AV)=>.agg (Fv.BD a)):AO Ty (List (Ty 310)))).Bc a.2.1),(BN.Bc a.2.2)]
  | 432=>fun(a:Ae×AV)=>.BG [(.agg (Ib.BD a.1)),(.agg (Fv.BD a.2))]
  | 448=>fun(a:CQ)=>.agg (dW.BD a)
  | 48=>fun(a:List BP)=>((AO.list 111 8 (fun(a:BP)=>.agg (G7.BD a)):AO Ty (List (Ty 111)))).Bc a
  | 471=>fun(a:(List BP)×Int)=>.BG [(((AO.list 111 8 (fun(a:BP)=>.agg (G7.BD a)):AO Ty (List (Ty 111)))).Bc a.1),(BN.Bc a.2)]
  | 374=>fun(a:Ae×(List AV))=>.BG [(.agg (Ib.BD a.1)),(((AO.list 310 15 (fun(a:AV)=>.agg (Fv.BD a)):AO Ty (List (Ty 310)))).Bc a.2)]
  | 352=>fun(a:List Int)=>((AO.list 25 1 (fun(a:Int)=>D8.Bc a):AO Ty (List (Ty 25)))).Bc a
  | 22=>fun(a:Int)=>Pv.Bc a
  | 384=>fun(a:Int×Int)=>.BG [(BN.Bc a.1),(BN.Bc a.2)]
  | 332=>fun(a:CZ×Ai×Bool×Bool)=>.BG [(.agg (Lm.BD a.1)),(.agg (GU.BD a.2.1)),(Ec.Bc a.2.2.1),(Ec.Bc a.2.2.2)]
  | 401=>fun(a:AV×Int)=>.BG [(.agg (Fv.BD a.1)),(BN.Bc a.2)]
  | 403=>fun(a:Ae×(List Ar))=>.BG [(.agg (Ib.BD a.1)),(((AO.list 226 18 (fun(a:Ar)=>.agg (Hq.BD a)):AO Ty (List (Ty 226)))).Bc a.2)]
  | 406=>fun(a:Ae×(List AV)×(List Ar))=>.BG [(.agg (Ib.BD a.1)),(((AO.list 310 15 (fun(a:AV)=>.agg (Fv.BD a)):AO Ty (List (Ty 310)))).Bc a.2.1),(((AO.list 226 18 (fun(a:Ar)=>.agg (Hq.BD a)):AO Ty (List (Ty 226)))).Bc a.2.2)]
  | 381=>fun(a:Dq×Int)=>.BG [(.agg (Qs.BD a.1)),(BN.Bc a.2)]
  | 386=>fun(a:Ae×(List BP))=>.BG [(.agg (Ib.BD a.1)),(((AO.list 111 8 (fun(a:BP)=>.agg (G7.BD a)):AO Ty (List (Ty 111)))).Bc a.2)]
  | 444=>fun(a:(List BP)×(List BP))=>.BG [(((AO.list 111 8 (fun(a:BP)=>.agg (G7.BD a)):AO Ty (List (Ty 111)))).Bc a.1),(((AO.list 111 8 (fun(a:BP)=>.agg (G7.BD a)):AO Ty (List (Ty 111)))).Bc a.2)]
  | _=>fun _=>.no
 encS:=fun t=>match t with
  | 4=>fun(a:Bool)=>Ec.DZ a
  | 35=>fun(a:Oa)=>.agg (TS.encS a)
  | 5=>fun(a:Int)=>IE.DZ a
  | 97=>fun(a:Eo)=>.agg (Ph.encS a)
  | 3=>fun(a:Int)=>BN.DZ a
  | 95=>fun(a:DL)=>.agg (Kt.encS a)
  | 36=>fun(a:List DL)=>((AO.list 95 4 (fun(a:DL)=>.agg (Kt.BD a)):AO Ty (List (Ty 95)))).DZ a
  | 38=>fun(a:Ob)=>.agg (TQ.encS a)
  | 28=>fun(a:Eh)=>.agg (Pq.encS a)
  | 31=>fun(a:Dz)=>.agg (Pz.encS a)
  | 33=>fun(a:KJ)=>.agg (Qr.encS a)
  | 25=>fun(a:Int)=>D8.DZ a
  | 41=>fun(a:Int)=>O5.DZ a
  | 67=>fun(a:Ai)=>.agg (GU.encS a)
  | 46=>fun(a:Dq)=>.agg (Qs.encS a)
  | 310=>fun(a:AV)=>.agg (Fv.encS a)
  | 111=>fun(a:BP)=>.agg (G7.encS a)
  | 52=>fun(a:DX)=>.agg (XF.encS a)
  | 32=>fun(a:Int)=>D8.DZ a
  | 380=>fun(a:Ba)=>.agg (KR.encS a)
  | 228=>fun(a:DC)=>.agg (KY.encS a)
  | 61=>fun(a:Int)=>BN.DZ a
  | 55=>fun(a:Af)=>.agg (LC.encS a)
  | 100=>fun(a:Af×Int)=>.BG [(.agg (LC.encS a.1)),(BN.DZ a.2)]
  | 56=>fun(a:BU)=>.agg (XE.encS a)
  | 60=>fun(a:Ak)=>.agg (fU.encS a)
  | 42=>fun(a:List Ai)=>((AO.list 67 2 (fun(a:Ai)=>.agg (GU.BD a)):AO Ty (List (Ty 67)))).DZ a
  | 214=>fun(a:I4)=>.agg (eY.encS a)
  | 226=>fun(a:Ar)=>.agg (Hq.encS a)
  | 119=>fun(a:List Ar)=>((AO.list 226 18 (fun(a:Ar)=>.agg (Hq.BD a)):AO Ty (List (Ty 226)))).DZ a
  | 316=>fun(a:Af×(List Ar))=>.BG [(.agg (LC.encS a.1)),(((AO.list 226 18 (fun(a:Ar)=>.agg (Hq.BD a)):AO Ty (List (Ty 226)))).DZ a.2)]
  | 44=>fun(a:CZ)=>.agg (Lm.encS a)
  | 319=>fun(a:CG)=>.agg (P6.encS a)
  | 320=>fun(a:CZ×CG)=>.BG [(.agg (Lm.encS a.1)),(.agg (P6.encS a.2))]
  | 322=>fun(a:CG×Int)=>.BG [(.agg (P6.encS a.1)),(BN.DZ a.2)]
  | 65=>fun(a:List Int)=>((AO.list 5 1 (fun(a:Int)=>IE.Bc a):AO Ty (List (Ty 5)))).DZ a
  | 200=>fun(a:(List Int)×Int)=>.BG [(((AO.list 5 1 (fun(a:Int)=>IE.Bc a):AO Ty (List (Ty 5)))).DZ a.1),(BN.DZ a.2)]
  | 270=>fun(a:Af×(List Ar)×Bool)=>.BG [(.agg (LC.encS a.1)),(((AO.list 226 18 (fun(a:Ar)=>.agg (Hq.BD a)):AO Ty (List (Ty 226)))).DZ a.2.1),(Ec.DZ a.2.2)]
  | 57=>fun(a:List DC)=>((AO.list 228 20 (fun(a:DC)=>.agg (KY.BD a)):AO Ty (List (Ty 228)))).DZ a
  | 75=>fun(a:BR)=>.agg (NZ.encS a)
  | 68=>fun(a:List BR)=>((AO.list 75 3 (fun(a:BR)=>.agg (NZ.BD a)):AO Ty (List (Ty 75)))).DZ a
  | 9=>fun(a:ByteArray)=>cst.DZ a
  | 122=>fun(a:List ByteArray)=>((AO.list 9 1 (fun(a:ByteArray)=>cst.Bc a):AO Ty (List (Ty 9)))).DZ a
  | 113=>fun(a:Ed)=>.agg (NM.encS a)
  | 109=>fun(a:List Ed)=>((AO.list 113 9 (fun(a:Ed)=>.agg (NM.BD a)):AO Ty (List (Ty 113)))).DZ a
  | 121=>fun(a:MO)=>.agg (eX.encS a)
  | 30=>fun(a:DV)=>.agg (O3.encS a)
  | 50=>fun(a:Ae)=>.agg (Ib.encS a)
  | 53=>fun(a:List Ba)=>((AO.list 380 2 (fun(a:Ba)=>.agg (KR.BD a)):AO Ty (List (Ty 380)))).DZ a
  | 24=>fun(a:ER)=>.agg (Ky.encS a)
  | 26=>fun(a:Int)=>D8.DZ a
  | 93=>fun(a:List Int)=>((AO.list 3 1 (fun(a:Int)=>BN.Bc a):AO Ty (List (Ty 3)))).DZ a
  | 369=>fun(a:CZ×Int)=>.BG [(.agg (Lm.encS a.1)),(BN.DZ a.2)]
  | 47=>fun(a:List AV)=>((AO.list 310 15 (fun(a:AV)=>.agg (Fv.BD a)):AO Ty (List (Ty 310)))).DZ a
  | 371=>fun(a:Ae×(List AV)×Int)=>.BG [(.agg (Ib.encS a.1)),(((AO.list 310 15 (fun(a:AV)=>.agg (Fv.BD a)):AO Ty (List (Ty 310)))).DZ a.2.1),(BN.DZ a.2.2)]
  | 432=>fun(a:Ae×AV)=>.BG [(.agg (Ib.encS a.1)),(.agg (Fv.encS a.2))]
  | 448=>fun(a:CQ)=>.agg (dW.encS a)
  | 48=>fun(a:List BP)=>((AO.list 111 8 (fun(a:BP)=>.agg (G7.BD a)):AO Ty (List (Ty 111)))).DZ a
  | 471=>fun(a:(List BP)×Int)=>.BG [(((AO.list 111 8 (fun(a:BP)=>.agg (G7.BD a)):AO Ty (List (Ty 111)))).DZ a.1),(BN.DZ a.2)]
  | 374=>fun(a:Ae×(List AV))=>.BG [(.agg (Ib.encS a.1)),(((AO.list 310 15 (fun(a:AV)=>.agg (Fv.BD a)):AO Ty (List (Ty 310)))).DZ a.2)]
  | 352=>fun(a:List Int)=>((AO.list 25 1 (fun(a:Int)=>D8.Bc a):AO Ty (List (Ty 25)))).DZ a
  | 22=>fun(a:Int)=>Pv.DZ a
  | 384=>fun(a:Int×Int)=>.BG [(BN.DZ a.1),(BN.DZ a.2)]
  | 332=>fun(a:CZ×Ai×Bool×Bool)=>.BG [(.agg (Lm.encS a.1)),(.agg (GU.encS a.2.1)),(Ec.DZ a.2.2.1),(Ec.DZ a.2.2.2)]
  | 401=>fun(a:AV×Int)=>.BG [(.agg (Fv.encS a.1)),(BN.DZ a.2)]
  | 403=>fun(a:Ae×(List Ar))=>.BG [(.agg (Ib.encS a.1)),(((AO.list 226 18 (fun(a:Ar)=>.agg (Hq.BD a)):AO Ty (List (Ty 226)))).DZ a.2)]
  | 406=>fun(a:Ae×(List AV)×(List Ar))=>.BG [(.agg (Ib.encS a.1)),(((AO.list 310 15 (fun(a:AV)=>.agg (Fv.BD a)):AO Ty (List (Ty 310)))).DZ a.2.1),(((AO.list 226 18 (fun(a:Ar)=>.agg (Hq.BD a)):AO Ty (List (Ty 226)))).DZ a.2.2)]
  | 381=>fun(a:Dq×Int)=>.BG [(.agg (Qs.encS a.1)),(BN.DZ a.2)]
  | 386=>fun(a:Ae×(List BP))=>.BG [(.agg (Ib.encS a.1)),(((AO.list 111 8 (fun(a:BP)=>.agg (G7.BD a)):AO Ty (List (Ty 111)))).DZ a.2)]
  | 444=>fun(a:(List BP)×(List BP))=>.BG [(((AO.list 111 8 (fun(a:BP)=>.agg (G7.BD a)):AO Ty (List (Ty 111)))).DZ a.1),(((AO.list 111 8 (fun(a:BP)=>.agg (G7.BD a)):AO Ty (List (Ty 111)))).DZ a.2)]
  | _=>fun _=>.no
 Gf:=fun t=>match t with
  | 4=>fun v=>Ec.one v
  | 35=>fun v=>TS.agg v
  | 5=>fun v=>IE.one v
  | 97=>fun v=>Ph.agg v
  | 3=>fun v=>BN.one v
  | 95=>fun v=>Kt.agg v
  | 36=>fun v=>((AO.list 95 4 (fun(a:DL)=>.agg (Kt.BD a)):AO Ty (List (Ty 95)))).one v
  | 38=>fun v=>TQ.agg v
  | 28=>fun v=>Pq.agg v
  | 31=>fun v=>Pz.agg v
  | 33=>fun v=>Qr.agg v
  | 25=>fun v=>D8.one v
  | 41=>fun v=>O5.one v
  | 67=>fun v=>GU.agg v
  | 46=>fun v=>Qs.agg v
  | 310=>fun v=>Fv.agg v
  | 111=>fun v=>G7.agg v
  | 52=>fun v=>XF.agg v
  | 32=>fun v=>D8.one v
  | 380=>fun v=>KR.agg v
  | 228=>fun v=>KY.agg v
  | 61=>fun v=>BN.one v
  | 55=>fun v=>LC.agg v
  | 100=>fun _=>none
  | 56=>fun v=>XE.agg v
  | 60=>fun v=>fU.agg v
  | 42=>fun v=>((AO.list 67 2 (fun(a:Ai)=>.agg (GU.BD a)):AO Ty (List (Ty 67)))).one v
  | 214=>fun v=>eY.agg v
  | 226=>fun v=>Hq.agg v
  | 119=>fun v=>((AO.list 226 18 (fun(a:Ar)=>.agg (Hq.BD a)):AO Ty (List (Ty 226)))).one v
  | 316=>fun _=>none
  | 44=>fun v=>Lm.agg v
  | 319=>fun v=>P6.agg v
  | 320=>fun _=>none
  | 322=>fun _=>none
  | 65=>fun v=>((AO.list 5 1 (fun(a:Int)=>IE.Bc a):AO Ty (List (Ty 5)))).one v
  | 200=>fun _=>none
  | 270=>fun _=>none
  | 57=>fun v=>((AO.list 228 20 (fun(a:DC)=>.agg (KY.BD a)):AO Ty (List (Ty 228)))).one v
  | 75=>fun v=>NZ.agg v
  | 68=>fun v=>((AO.list 75 3 (fun(a:BR)=>.agg (NZ.BD a)):AO Ty (List (Ty 75)))).one v
  | 9=>fun v=>cst.one v
  | 122=>fun v=>((AO.list 9 1 (fun(a:ByteArray)=>cst.Bc a):AO Ty (List (Ty 9)))).one v
  | 113=>fun v=>NM.agg v
  | 109=>fun v=>((AO.list 113 9 (fun(a:Ed)=>.agg (NM.BD a)):AO Ty (List (Ty 113)))).one v
  | 121=>fun v=>eX.agg v
  | 30=>fun v=>O3.agg v
  | 50=>fun v=>Ib.agg v
  | 53=>fun v=>((AO.list 380 2 (fun(a:Ba)=>.agg (KR.BD a)):AO Ty (List (Ty 380)))).one v
  | 24=>fun v=>Ky.agg v
  | 26=>fun v=>D8.one v
  | 93=>fun v=>((AO.list 3 1 (fun(a:Int)=>BN.Bc a):AO Ty (List (Ty 3)))).one v
  | 369=>fun _=>none
  | 47=>fun v=>((AO.list 310 15 (fun(a:AV)=>.agg (Fv.BD a)):AO Ty (List (Ty 310)))).one v
  | 371=>fun _=>none
  | 432=>fun _=>none
  | 448=>fun v=>dW.agg v
  | 48=>fun v=>((AO.list 111 8 (fun(a:BP)=>.agg (G7.BD a)):AO Ty (List (Ty 111)))).one v
  | 471=>fun _=>none
  | 374=>fun _=>none
  | 352=>fun v=>((AO.list 25 1 (fun(a:Int)=>D8.Bc a):AO Ty (List (Ty 25)))).one v
  | 22=>fun v=>Pv.one v
  | 384=>fun _=>none
  | 332=>fun _=>none
  | 401=>fun _=>none
  | 403=>fun _=>none
  | 406=>fun _=>none
  | 381=>fun _=>none
  | 386=>fun _=>none
  | 444=>fun _=>none
  | _=>fun _=>none
 keys:=[4,35,5,97,3,95,36,38,28,31,33,25,41,67,46,310,111,52,32,380,228,61,55,100,56,60,42,214,226,119,316,44,319,320,322,65,200,270,57,75,68,9,122,113,109,121,30,50,53,24,26,93,369,47,371,432,448,48,471,374,352,22,384,332,401,403,406,381,386,444]
theorem Sv:Ac U Ky [0,0,0,0,0]:=Ac.CV ((Ac.int _).pair ((Ac.int _).pair ((Ac.int _).pair ((Ac.int _).pair ((Ac.int _).pair Ac.unit))))) (fun _=>rfl) (fun _=>rfl)
theorem uI:Ac U Pq [0,0,0,0,0,0,0,0,0,0,0]:=Ac.CV ((Ac.int _).pair ((Ac.int _).pair ((Sv).pair ((Ac.int _).pair ((Ac.int _).pair ((Ac.int _).pair ((Ac.int _).pair Ac.unit))))))) (fun _=>rfl) (fun _=>rfl)
theorem uG:Ac U O3 [0,0]:=Ac.CV ((Ac.int _).pair ((Ac.int _).pair Ac.unit)) (fun _=>rfl) (fun _=>rfl)
theorem vC:Ac U Pz [0,0,0,0]:=Ac.CV ((uG).pair ((uG).pair Ac.unit)) (fun _=>rfl) (fun _=>rfl)
theorem Z7j:Ac U Qr [0,0]:=Ac.CV ((Ac.int _).pair ((Ac.int _).pair Ac.unit)) (fun _=>rfl) (fun _=>rfl)
theorem Zoi:Ac U TS [0,0,0,0,0,0,0,0,0,0,0,0,0,0,0,0,0,0]:=Ac.CV ((uI).pair ((vC).pair ((Z7j).pair ((Ac.int _).pair Ac.unit)))) (fun _=>rfl) (fun _=>rfl)
theorem KL:Ac U GU [0,1]:=Ac.CV ((Ac.int _).pair ((Ac.list (U:=U) (t:=5) (n:=1) (e:=fun(a:Int)=>IE.Bc a) (fun _=>rfl) rfl (fun a=>(Ac.int _:Ac U IE _).P8 a) (fun a b h=>(Ac.int _:Ac U IE _).PU h)).pair Ac.unit)) (fun _=>rfl) (fun _=>rfl)
theorem uZ:Ac U Ph [0,0,0,1,0,0,0,0,0,0,0,0]:=Ac.CV ((Ac.int _).pair ((Ac.int _).pair ((KL).pair ((Sv).pair ((Ac.int _).pair ((Ac.int _).pair ((Ac.int _).pair Ac.unit))))))) (fun _=>rfl) (fun _=>rfl)
theorem uJ:Ac U Kt [12,1,1,0]:=Ac.CV ((Ac.list (U:=U) (t:=97) (n:=12) (e:=fun(a:Eo)=>.agg (Ph.BD a)) (fun _=>rfl) rfl (fun a=>uZ.nr a) (fun a b h=>uZ.inj _ _ (by injection h))).pair ((Ac.list (U:=U) (t:=3) (n:=1) (e:=fun(a:Int)=>BN.Bc a) (fun _=>rfl) rfl (fun a=>(Ac.int _:Ac U BN _).P8 a) (fun a b h=>(Ac.int _:Ac U BN _).PU h)).pair ((Ac.list (U:=U) (t:=3) (n:=1) (e:=fun(a:Int)=>BN.Bc a) (fun _=>rfl) rfl (fun a=>(Ac.int _:Ac U BN _).P8 a) (fun a b h=>(Ac.int _:Ac U BN _).PU h)).pair ((Ac.int _).pair Ac.unit)))) (fun _=>rfl) (fun _=>rfl)
theorem Zoa:Ac U TQ [0,0]:=Ac.CV ((Ac.int _).pair ((Ac.int _).pair Ac.unit)) (fun _=>rfl) (fun _=>rfl)
theorem Z77:Ac U Qs [0,0,0]:=Ac.CV ((Ac.int _).pair ((Ac.int _).pair ((Ac.bool).pair Ac.unit))) (fun _=>rfl) (fun _=>rfl)
theorem QV:Ac U Fv [0,0,0,0,0,0,0,0,0,0,0,0,0,0,0]:=Ac.CV ((Ac.int _).pair ((Sv).pair ((Ac.int _).pair ((Ac.int _).pair ((Ac.int _).pair ((Ac.int _).pair ((Ac.int _).pair ((Ac.int _).pair ((Ac.int _).pair ((Ac.int _).pair ((Ac.int _).pair Ac.unit))))))))))) (fun _=>rfl) (fun _=>rfl)
theorem Q4:Ac U G7 [0,0,0,0,0,0,0,0]:=Ac.CV ((Ac.int _).pair ((Ac.int _).pair ((Sv).pair ((Ac.int _).pair Ac.unit)))) (fun _=>rfl) (fun _=>rfl)
theorem Z6X:Ac U XF [0,0,0,0,0,0,0]:=Ac.CV ((Ac.int _).pair ((Ac.int _).pair ((Ac.int _).pair ((Ac.bool).pair ((Ac.bool).pair ((Ac.int _).pair ((Ac.int _).pair Ac.unit))))))) (fun _=>rfl) (fun _=>rfl)
theorem WO:Ac U KR [0,0]:=Ac.CV ((Ac.int _).pair ((Ac.int _).pair Ac.unit)) (fun _=>rfl) (fun _=>rfl)
theorem bK:Ac U Hq [0,0,0,1,0,0,0,0,0,0,0,0,0,0,0,0,0,0]:=Ac.CV ((Ac.int _).pair ((Ac.int _).pair ((KL).pair ((Q4).pair ((Ac.int _).pair ((Sv).pair Ac.unit)))))) (fun _=>rfl) (fun _=>rfl)
theorem WH:Ac U KY [0,0,0,0,0,1,0,0,0,0,0,0,0,0,0,0,0,0,0,0]:=Ac.CV ((Ac.int _).pair ((Ac.int _).pair ((bK).pair Ac.unit))) (fun _=>rfl) (fun _=>rfl)
theorem Z70:Ac U Lm [0,0,2,0,0,0,0]:=Ac.CV ((Ac.int _).pair ((Ac.int _).pair ((Ac.list (U:=U) (t:=67) (n:=2) (e:=fun(a:Ai)=>.agg (GU.BD a)) (fun _=>rfl) rfl (fun a=>KL.nr a) (fun a b h=>KL.inj _ _ (by injection h))).pair ((Ac.bool).pair ((Ac.bool).pair ((Ac.int _).pair ((Ac.int _).pair Ac.unit))))))) (fun _=>rfl) (fun _=>rfl)
theorem Z73:Ac U Ib [0,0,0,15,0,0,8,0,0,0,0,0,0,0,0,0,0,0,0,0]:=Ac.CV ((Ac.int _).pair ((Ac.int _).pair ((Ac.int _).pair ((Ac.list (U:=U) (t:=310) (n:=15) (e:=fun(a:AV)=>.agg (Fv.BD a)) (fun _=>rfl) rfl (fun a=>QV.nr a) (fun a b h=>QV.inj _ _ (by injection h))).pair ((Ac.int _).pair ((Ac.int _).pair ((Ac.list (U:=U) (t:=111) (n:=8) (e:=fun(a:BP)=>.agg (G7.BD a)) (fun _=>rfl) rfl (fun a=>Q4.nr a) (fun a b h=>Q4.inj _ _ (by injection h))).pair ((Ac.bool).pair ((Ac.int _).pair ((Ac.int _).pair ((Ac.bool).pair ((Ac.bool).pair ((Ac.int _).pair ((Ac.int _).pair ((Ac.int _).pair ((Ac.int _).pair ((Ac.int _).pair ((Ac.int _).pair ((Ac.int _).pair ((Ac.int _).pair Ac.unit)))))))))))))))))))) (fun _=>rfl) (fun _=>rfl)
theorem vF:Ac U LC [0,0,0,0,0,0,0,0,0,0,0,0,0,0,0,0,0,0,0,0,0,0,0,0,0,0,2,0,0,0,0,0,0,0,0,0,0,15,0,0,8,0,0,0,0,0,0,0,0,0,0,0,0,0,0,0,0,0,0,0,0,0,2,15,0,0]:=Ac.CV ((Ac.int _).pair ((uI).pair ((Ac.int _).pair ((Ac.int _).pair ((Ac.int _).pair ((Ac.int _).pair ((Ac.int _).pair ((Ac.int _).pair ((Ac.int _).pair ((Ac.bool).pair ((Ac.bool).pair ((Ac.bool).pair ((Ac.bool).pair ((Ac.bool).pair ((Z70).pair ((Z77).pair ((Z73).pair ((Z6X).pair ((Ac.int _).pair ((Ac.list (U:=U) (t:=380) (n:=2) (e:=fun(a:Ba)=>.agg (KR.BD a)) (fun _=>rfl) rfl (fun a=>WO.nr a) (fun a b h=>WO.inj _ _ (by injection h))).pair ((Ac.list (U:=U) (t:=310) (n:=15) (e:=fun(a:AV)=>.agg (Fv.BD a)) (fun _=>rfl) rfl (fun a=>QV.nr a) (fun a b h=>QV.inj _ _ (by injection h))).pair ((Ac.int _).pair ((Ac.int _).pair Ac.unit))))))))))))))))))))))) (fun _=>rfl) (fun _=>rfl)
theorem Z7h:Ac U XE [0,0,0,0,0,0,0,0,0,0,0,0,0,0,0,0,0,0,0,0,0,0,0,0,0,0,2,0,0,0,0,0,0,0,0,0,0,15,0,0,8,0,0,0,0,0,0,0,0,0,0,0,0,0,0,0,0,0,0,0,0,0,2,15,0,0,0,0,0,0,0,0,0,0,0,0,0,0,0,0,0,0,0,0,0,0,0,0,0,0,0,0,2,0,0,0,0,0,0,0,0,0,0,15,0,0,8,0,0,0,0,0,0,0,0,0,0,0,0,0,0,0,0,0,0,0,0,0,2,15,0,0]:=Ac.CV ((vF).pair ((vF).pair Ac.unit)) (fun _=>rfl) (fun _=>rfl)
theorem Z7g:Ac U wX [2,2]:=Ac.CV ((Ac.list (U:=U) (t:=67) (n:=2) (e:=fun(a:Ai)=>.agg (GU.BD a)) (fun _=>rfl) rfl (fun a=>KL.nr a) (fun a b h=>KL.inj _ _ (by injection h))).pair ((Ac.list (U:=U) (t:=67) (n:=2) (e:=fun(a:Ai)=>.agg (GU.BD a)) (fun _=>rfl) rfl (fun a=>KL.nr a) (fun a b h=>KL.inj _ _ (by injection h))).pair Ac.unit)) (fun _=>rfl) (fun _=>rfl)
theorem Zo9:Ac U fU [0,0,0,0,0,0,0,0,0,0,0,0,0,0,0,0,0,0,0,0,0,0,0,0,0,0,2,0,0,0,0,0,0,0,0,0,0,15,0,0,8,0,0,0,0,0,0,0,0,0,0,0,0,0,0,0,0,0,0,0,0,0,2,15,0,0,0,0,0,0,0,0,0,0,0,0,0,0,0,0,0,0,0,0,0,0,0,0,0,0,0,0,2,0,0,0,0,0,0,0,0,0,0,15,0,0,8,0,0,0,0,0,0,0,0,0,0,0,0,0,0,0,0,0,0,0,0,0,2,15,0,0,0,0,0,0,0,20,2,2,2,2]:=Ac.CV ((Z7h).pair ((vC).pair ((Ac.int _).pair ((Ac.list (U:=U) (t:=228) (n:=20) (e:=fun(a:DC)=>.agg (KY.BD a)) (fun _=>rfl) rfl (fun a=>WH.nr a) (fun a b h=>WH.inj _ _ (by injection h))).pair ((Z7g).pair ((Z7g).pair Ac.unit)))))) (fun _=>rfl) (fun _=>rfl)
theorem Zmr:Ac U eY [0,0]:=Ac.CV ((Ac.int _).pair ((Ac.int _).pair Ac.unit)) (fun _=>rfl) (fun _=>rfl)
theorem Zml:Ac U P6 [0,0,0,0,1]:=Ac.CV ((Ac.int _).pair ((Ac.int _).pair ((Ac.int _).pair ((KL).pair Ac.unit)))) (fun _=>rfl) (fun _=>rfl)
theorem uA:Ac U NZ [0,0,0]:=Ac.CV ((Ac.int _).pair ((Ac.int _).pair ((Ac.int _).pair Ac.unit))) (fun _=>rfl) (fun _=>rfl)
theorem sH:Ac U NM [0,0,0,0,0,0,0,0,0]:=Ac.CV ((Ac.int _).pair ((Q4).pair Ac.unit)) (fun _=>rfl) (fun _=>rfl)
theorem Zns:Ac U eX [0,0,0,0,0,0,0,0]:=Ac.CV ((Ac.str).pair ((Ac.str).pair ((Ac.str).pair ((Ac.str).pair ((Ac.str).pair ((Ac.str).pair ((Ac.str).pair ((Ac.str).pair Ac.unit)))))))) (fun _=>rfl) (fun _=>rfl)
theorem ZmR:Ac U dW [0,0,0,0,0,0,0,0,0,0,0]:=Ac.CV ((Ac.bool).pair ((Ac.bool).pair ((Ac.bool).pair ((Ac.bool).pair ((Ac.bool).pair ((Ac.bool).pair ((Ac.bool).pair ((Ac.bool).pair ((Ac.bool).pair ((Ac.bool).pair ((Ac.bool).pair Ac.unit))))))))))) (fun _=>rfl) (fun _=>rfl)
theorem rows4:rowsOf Tryz.prog 4=[0]:=by kernel_rfl
abbrev RE (E:Env):Prop:=E.rows=rowsOf Tryz.prog
theorem eP {E} (hE:RE E):CJ U E 4:=.GM (c:=Ec) (Ac.bool) ((congrFun hE 4).trans rows4) (fun h=>Znb h) (fun _=>rfl) (fun _=>rfl) (fun _=>rfl) (fun _=>rfl) (fun _=>rfl)
theorem Zo6:rowsOf Tryz.prog 35=[0,0,0,0,0,0,0,0,0,0,0,0,0,0,0,0,0,0]:=by kernel_rfl
theorem ZoJ {E} (hE:RE E):CJ U E 35:=.FN Zoi ((congrFun hE 35).trans Zo6) (fun _=>rfl) (fun _=>rfl) (fun _=>rfl)
theorem rows5:rowsOf Tryz.prog 5=[0]:=by kernel_rfl
theorem tyok5 {E} (hE:RE E):CJ U E 5:=.GM (c:=IE) (Ac.int _) ((congrFun hE 5).trans rows5) (fun h=>PR h) (fun _=>rfl) (fun _=>rfl) (fun _=>rfl) (fun _=>rfl) (fun _=>rfl)
theorem Zo1:rowsOf Tryz.prog 97=[0,0,0,1,0,0,0,0,0,0,0,0]:=by kernel_rfl
theorem ZoK {E} (hE:RE E):CJ U E 97:=.FN uZ ((congrFun hE 97).trans Zo1) (fun _=>rfl) (fun _=>rfl) (fun _=>rfl)
theorem rows3:rowsOf Tryz.prog 3=[0]:=by kernel_rfl
theorem vG {E} (hE:RE E):CJ U E 3:=.GM (c:=BN) (Ac.int _) ((congrFun hE 3).trans rows3) (fun h=>PR h) (fun _=>rfl) (fun _=>rfl) (fun _=>rfl) (fun _=>rfl) (fun _=>rfl)
theorem Zoe:rowsOf Tryz.prog 95=[12,1,1,0]:=by kernel_rfl
theorem Zp5 {E} (hE:RE E):CJ U E 95:=.FN uJ ((congrFun hE 95).trans Zoe) (fun _=>rfl) (fun _=>rfl) (fun _=>rfl)
theorem Zot:rowsOf Tryz.prog 36=[4]:=by kernel_rfl
theorem Zow {E} (hE:RE E):CJ U E 36:=.GM (c:=(AO.list 95 4 (fun(a:DL)=>.agg (Kt.BD a)):AO Ty (List (Ty 95)))) (Ac.list (U:=U) (t:=95) (n:=4) (e:=fun(a:DL)=>.agg (Kt.BD a)) (fun _=>rfl) rfl (fun a=>uJ.nr a) (fun a b h=>uJ.inj _ _ (by injection h))) ((congrFun hE 36).trans Zot) (fun h=>Jk (U:=U) (t:=95) (n:=4) (e:=fun(a:DL)=>.agg (Kt.BD a)) h) (fun _=>rfl) (fun _=>rfl) (fun _=>rfl) (fun _=>rfl) (fun _=>rfl)
theorem Znx:rowsOf Tryz.prog 38=[0,0]:=by kernel_rfl
theorem Zp4 {E} (hE:RE E):CJ U E 38:=.FN Zoa ((congrFun hE 38).trans Znx) (fun _=>rfl) (fun _=>rfl) (fun _=>rfl)
theorem ZoV:rowsOf Tryz.prog 28=[0,0,0,0,0,0,0,0,0,0,0]:=by kernel_rfl
theorem Zo5 {E} (hE:RE E):CJ U E 28:=.FN uI ((congrFun hE 28).trans ZoV) (fun _=>rfl) (fun _=>rfl) (fun _=>rfl)
theorem ZnL:rowsOf Tryz.prog 31=[0,0,0,0]:=by kernel_rfl
theorem Zoh {E} (hE:RE E):CJ U E 31:=.FN vC ((congrFun hE 31).trans ZnL) (fun _=>rfl) (fun _=>rfl) (fun _=>rfl)
theorem Znw:rowsOf Tryz.prog 33=[0,0]:=by kernel_rfl
theorem ZoM {E} (hE:RE E):CJ U E 33:=.FN Z7j ((congrFun hE 33).trans Znw) (fun _=>rfl) (fun _=>rfl) (fun _=>rfl)
theorem Zp6:rowsOf Tryz.prog 25=[0]:=by kernel_rfl
theorem Znz {E} (hE:RE E):CJ U E 25:=.GM (c:=D8) (Ac.int _) ((congrFun hE 25).trans Zp6) (fun h=>PR h) (fun _=>rfl) (fun _=>rfl) (fun _=>rfl) (fun _=>rfl) (fun _=>rfl)
theorem ZoC:rowsOf Tryz.prog 41=[0]:=by kernel_rfl
theorem Zox {E} (hE:RE E):CJ U E 41:=.GM (c:=O5) (Ac.int _) ((congrFun hE 41).trans ZoC) (fun h=>PR h) (fun _=>rfl) (fun _=>rfl) (fun _=>rfl) (fun _=>rfl) (fun _=>rfl)
theorem ZoF:rowsOf Tryz.prog 67=[0,1]:=by kernel_rfl
theorem Z7d {E} (hE:RE E):CJ U E 67:=.FN KL ((congrFun hE 67).trans ZoF) (fun _=>rfl) (fun _=>rfl) (fun _=>rfl)
theorem ZoY:rowsOf Tryz.prog 46=[0,0,0]:=by kernel_rfl
theorem Z6W {E} (hE:RE E):CJ U E 46:=.FN Z77 ((congrFun hE 46).trans ZoY) (fun _=>rfl) (fun _=>rfl) (fun _=>rfl)
theorem Zm0:rowsOf Tryz.prog 310=[0,0,0,0,0,0,0,0,0,0,0,0,0,0,0]:=by kernel_rfl
theorem sW {E} (hE:RE E):CJ U E 310:=.FN QV ((congrFun hE 310).trans Zm0) (fun _=>rfl) (fun _=>rfl) (fun _=>rfl)
theorem Zno:rowsOf Tryz.prog 111=[0,0,0,0,0,0,0,0]:=by kernel_rfl
theorem Zm2 {E} (hE:RE E):CJ U E 111:=.FN Q4 ((congrFun hE 111).trans Zno) (fun _=>rfl) (fun _=>rfl) (fun _=>rfl)
theorem ZoZ:rowsOf Tryz.prog 52=[0,0,0,0,0,0,0]:=by kernel_rfl
theorem Zoq {E} (hE:RE E):CJ U E 52:=.FN Z6X ((congrFun hE 52).trans ZoZ) (fun _=>rfl) (fun _=>rfl) (fun _=>rfl)
theorem Zor:rowsOf Tryz.prog 32=[0]:=by kernel_rfl
theorem ZnT {E} (hE:RE E):CJ U E 32:=.GM (c:=D8) (Ac.int _) ((congrFun hE 32).trans Zor) (fun h=>PR h) (fun _=>rfl) (fun _=>rfl) (fun _=>rfl) (fun _=>rfl) (fun _=>rfl)
theorem ZlU:rowsOf Tryz.prog 380=[0,0]:=by kernel_rfl
theorem ZlV {E} (hE:RE E):CJ U E 380:=.FN WO ((congrFun hE 380).trans ZlU) (fun _=>rfl) (fun _=>rfl) (fun _=>rfl)
theorem Zmg:rowsOf Tryz.prog 228=[0,0,0,0,0,1,0,0,0,0,0,0,0,0,0,0,0,0,0,0]:=by kernel_rfl
theorem Zmh {E} (hE:RE E):CJ U E 228:=.FN WH ((congrFun hE 228).trans Zmg) (fun _=>rfl) (fun _=>rfl) (fun _=>rfl)
theorem ZoS:rowsOf Tryz.prog 61=[0]:=by kernel_rfl
theorem OI {E} (hE:RE E):CJ U E 61:=.GM (c:=BN) (Ac.int _) ((congrFun hE 61).trans ZoS) (fun h=>PR h) (fun _=>rfl) (fun _=>rfl) (fun _=>rfl) (fun _=>rfl) (fun _=>rfl)
theorem Zo4:rowsOf Tryz.prog 55=[0,0,0,0,0,0,0,0,0,0,0,0,0,0,0,0,0,0,0,0,0,0,0,0,0,0,2,0,0,0,0,0,0,0,0,0,0,15,0,0,8,0,0,0,0,0,0,0,0,0,0,0,0,0,0,0,0,0,0,0,0,0,2,15,0,0]:=by kernel_rfl
theorem cZ {E} (hE:RE E):CJ U E 55:=.FN vF ((congrFun hE 55).trans Zo4) (fun _=>rfl) (fun _=>rfl) (fun _=>rfl)
theorem Znt {E} (hE:RE E):CJ U E 100:=.BG [⟨55,fun a=>a.1⟩,⟨61,fun a=>a.2⟩] ⟨cZ hE,OI hE,trivial⟩ (fun _=>rfl) (fun _=>rfl) (fun _=>rfl) fun _ _ h=>Prod.ext h.1 h.2.1
theorem ZnX:rowsOf Tryz.prog 56=[0,0,0,0,0,0,0,0,0,0,0,0,0,0,0,0,0,0,0,0,0,0,0,0,0,0,2,0,0,0,0,0,0,0,0,0,0,15,0,0,8,0,0,0,0,0,0,0,0,0,0,0,0,0,0,0,0,0,0,0,0,0,2,15,0,0,0,0,0,0,0,0,0,0,0,0,0,0,0,0,0,0,0,0,0,0,0,0,0,0,0,0,2,0,0,0,0,0,0,0,0,0,0,15,0,0,8,0,0,0,0,0,0,0,0,0,0,0,0,0,0,0,0,0,0,0,0,0,2,15,0,0]:=by kernel_rfl
theorem Zol {E} (hE:RE E):CJ U E 56:=.FN Z7h ((congrFun hE 56).trans ZnX) (fun _=>rfl) (fun _=>rfl) (fun _=>rfl)
theorem Zoz:rowsOf Tryz.prog 60=[0,0,0,0,0,0,0,0,0,0,0,0,0,0,0,0,0,0,0,0,0,0,0,0,0,0,2,0,0,0,0,0,0,0,0,0,0,15,0,0,8,0,0,0,0,0,0,0,0,0,0,0,0,0,0,0,0,0,0,0,0,0,2,15,0,0,0,0,0,0,0,0,0,0,0,0,0,0,0,0,0,0,0,0,0,0,0,0,0,0,0,0,2,0,0,0,0,0,0,0,0,0,0,15,0,0,8,0,0,0,0,0,0,0,0,0,0,0,0,0,0,0,0,0,0,0,0,0,2,15,0,0,0,0,0,0,0,20,2,2,2,2]:=by kernel_rfl
theorem ZnA {E} (hE:RE E):CJ U E 60:=.FN Zo9 ((congrFun hE 60).trans Zoz) (fun _=>rfl) (fun _=>rfl) (fun _=>rfl)
theorem Zo8:rowsOf Tryz.prog 42=[2]:=by kernel_rfl
theorem ZoI {E} (hE:RE E):CJ U E 42:=.GM (c:=(AO.list 67 2 (fun(a:Ai)=>.agg (GU.BD a)):AO Ty (List (Ty 67)))) (Ac.list (U:=U) (t:=67) (n:=2) (e:=fun(a:Ai)=>.agg (GU.BD a)) (fun _=>rfl) rfl (fun a=>KL.nr a) (fun a b h=>KL.inj _ _ (by injection h))) ((congrFun hE 42).trans Zo8) (fun h=>Jk (U:=U) (t:=67) (n:=2) (e:=fun(a:Ai)=>.agg (GU.BD a)) h) (fun _=>rfl) (fun _=>rfl) (fun _=>rfl) (fun _=>rfl) (fun _=>rfl)
theorem ZmP:rowsOf Tryz.prog 214=[0,0]:=by kernel_rfl
theorem Zm5 {E} (hE:RE E):CJ U E 214:=.FN Zmr ((congrFun hE 214).trans ZmP) (fun _=>rfl) (fun _=>rfl) (fun _=>rfl)
theorem ZlZ:rowsOf Tryz.prog 226=[0,0,0,1,0,0,0,0,0,0,0,0,0,0,0,0,0,0]:=by kernel_rfl
theorem Zn7 {E} (hE:RE E):CJ U E 226:=.FN bK ((congrFun hE 226).trans ZlZ) (fun _=>rfl) (fun _=>rfl) (fun _=>rfl)
theorem Zmx:rowsOf Tryz.prog 119=[18]:=by kernel_rfl
theorem WM {E} (hE:RE E):CJ U E 119:=.GM (c:=(AO.list 226 18 (fun(a:Ar)=>.agg (Hq.BD a)):AO Ty (List (Ty 226)))) (Ac.list (U:=U) (t:=226) (n:=18) (e:=fun(a:Ar)=>.agg (Hq.BD a)) (fun _=>rfl) rfl (fun a=>bK.nr a) (fun a b h=>bK.inj _ _ (by injection h))) ((congrFun hE 119).trans Zmx) (fun h=>Jk (U:=U) (t:=226) (n:=18) (e:=fun(a:Ar)=>.agg (Hq.BD a)) h) (fun _=>rfl) (fun _=>rfl) (fun _=>rfl) (fun _=>rfl) (fun _=>rfl)
theorem Zmf {E} (hE:RE E):CJ U E 316:=.BG [⟨55,fun a=>a.1⟩,⟨119,fun a=>a.2⟩] ⟨cZ hE,WM hE,trivial⟩ (fun _=>rfl) (fun _=>rfl) (fun _=>rfl) fun _ _ h=>Prod.ext h.1 h.2.1
theorem Zp8:rowsOf Tryz.prog 44=[0,0,2,0,0,0,0]:=by kernel_rfl
theorem dD {E} (hE:RE E):CJ U E 44:=.FN Z70 ((congrFun hE 44).trans Zp8) (fun _=>rfl) (fun _=>rfl) (fun _=>rfl)
theorem Zmt:rowsOf Tryz.prog 319=[0,0,0,0,1]:=by kernel_rfl
theorem sN {E} (hE:RE E):CJ U E 319:=.FN Zml ((congrFun hE 319).trans Zmt) (fun _=>rfl) (fun _=>rfl) (fun _=>rfl)
theorem Znm {E} (hE:RE E):CJ U E 320:=.BG [⟨44,fun a=>a.1⟩,⟨319,fun a=>a.2⟩] ⟨dD hE,sN hE,trivial⟩ (fun _=>rfl) (fun _=>rfl) (fun _=>rfl) fun _ _ h=>Prod.ext h.1 h.2.1
theorem Zn5 {E} (hE:RE E):CJ U E 322:=.BG [⟨319,fun a=>a.1⟩,⟨61,fun a=>a.2⟩] ⟨sN hE,OI hE,trivial⟩ (fun _=>rfl) (fun _=>rfl) (fun _=>rfl) fun _ _ h=>Prod.ext h.1 h.2.1
theorem ZnJ:rowsOf Tryz.prog 65=[1]:=by kernel_rfl
theorem Z7c {E} (hE:RE E):CJ U E 65:=.GM (c:=(AO.list 5 1 (fun(a:Int)=>IE.Bc a):AO Ty (List (Ty 5)))) (Ac.list (U:=U) (t:=5) (n:=1) (e:=fun(a:Int)=>IE.Bc a) (fun _=>rfl) rfl (fun a=>(Ac.int _:Ac U IE _).P8 a) (fun a b h=>(Ac.int _:Ac U IE _).PU h)) ((congrFun hE 65).trans ZnJ) (fun h=>Jk (U:=U) (t:=5) (n:=1) (e:=fun(a:Int)=>IE.Bc a) h) (fun _=>rfl) (fun _=>rfl) (fun _=>rfl) (fun _=>rfl) (fun _=>rfl)
theorem ZlM {E} (hE:RE E):CJ U E 200:=.BG [⟨65,fun a=>a.1⟩,⟨61,fun a=>a.2⟩] ⟨Z7c hE,OI hE,trivial⟩ (fun _=>rfl) (fun _=>rfl) (fun _=>rfl) fun _ _ h=>Prod.ext h.1 h.2.1
theorem ZlS {E} (hE:RE E):CJ U E 270:=.BG [⟨55,fun a=>a.1⟩,⟨119,fun a=>a.2.1⟩,⟨4,fun a=>a.2.2⟩] ⟨cZ hE,WM hE,eP hE,trivial⟩ (fun _=>rfl) (fun _=>rfl) (fun _=>rfl) fun _ _ h=>Prod.ext h.1 (Prod.ext h.2.1 h.2.2.1)
theorem ZoP:rowsOf Tryz.prog 57=[20]:=by kernel_rfl
theorem ZoG {E} (hE:RE E):CJ U E 57:=.GM (c:=(AO.list 228 20 (fun(a:DC)=>.agg (KY.BD a)):AO Ty (List (Ty 228)))) (Ac.list (U:=U) (t:=228) (n:=20) (e:=fun(a:DC)=>.agg (KY.BD a)) (fun _=>rfl) rfl (fun a=>WH.nr a) (fun a b h=>WH.inj _ _ (by injection h))) ((congrFun hE 57).trans ZoP) (fun h=>Jk (U:=U) (t:=228) (n:=20) (e:=fun(a:DC)=>.agg (KY.BD a)) h) (fun _=>rfl) (fun _=>rfl) (fun _=>rfl) (fun _=>rfl) (fun _=>rfl)
theorem Zpg:rowsOf Tryz.prog 75=[0,0,0]:=by kernel_rfl
theorem ZnS {E} (hE:RE E):CJ U E 75:=.FN uA ((congrFun hE 75).trans Zpg) (fun _=>rfl) (fun _=>rfl) (fun _=>rfl)
theorem ZnB:rowsOf Tryz.prog 68=[3]:=by kernel_rfl
theorem ZoN {E} (hE:RE E):CJ U E 68:=.GM (c:=(AO.list 75 3 (fun(a:BR)=>.agg (NZ.BD a)):AO Ty (List (Ty 75)))) (Ac.list (U:=U) (t:=75) (n:=3) (e:=fun(a:BR)=>.agg (NZ.BD a)) (fun _=>rfl) rfl (fun a=>uA.nr a) (fun a b h=>uA.inj _ _ (by injection h))) ((congrFun hE 68).trans ZnB) (fun h=>Jk (U:=U) (t:=75) (n:=3) (e:=fun(a:BR)=>.agg (NZ.BD a)) h) (fun _=>rfl) (fun _=>rfl) (fun _=>rfl) (fun _=>rfl) (fun _=>rfl)
theorem rows9:rowsOf Tryz.prog 9=[0]:=by kernel_rfl
theorem tyok9 {E} (hE:RE E):CJ U E 9:=.GM (c:=cst) (Ac.str) ((congrFun hE 9).trans rows9) (fun h=>Zp7 h) (fun _=>rfl) (fun _=>rfl) (fun _=>rfl) (fun _=>rfl) (fun _=>rfl)
theorem Zm6:rowsOf Tryz.prog 122=[1]:=by kernel_rfl
theorem Znf {E} (hE:RE E):CJ U E 122:=.GM (c:=(AO.list 9 1 (fun(a:ByteArray)=>cst.Bc a):AO Ty (List (Ty 9)))) (Ac.list (U:=U) (t:=9) (n:=1) (e:=fun(a:ByteArray)=>cst.Bc a) (fun _=>rfl) rfl (fun a=>(Ac.str:Ac U cst _).P8 a) (fun a b h=>(Ac.str:Ac U cst _).PU h)) ((congrFun hE 122).trans Zm6) (fun h=>Jk (U:=U) (t:=9) (n:=1) (e:=fun(a:ByteArray)=>cst.Bc a) h) (fun _=>rfl) (fun _=>rfl) (fun _=>rfl) (fun _=>rfl) (fun _=>rfl)
theorem Zm4:rowsOf Tryz.prog 113=[0,0,0,0,0,0,0,0,0]:=by kernel_rfl
theorem Znp {E} (hE:RE E):CJ U E 113:=.FN sH ((congrFun hE 113).trans Zm4) (fun _=>rfl) (fun _=>rfl) (fun _=>rfl)
theorem ZlT:rowsOf Tryz.prog 109=[9]:=by kernel_rfl
theorem Zma {E} (hE:RE E):CJ U E 109:=.GM (c:=(AO.list 113 9 (fun(a:Ed)=>.agg (NM.BD a)):AO Ty (List (Ty 113)))) (Ac.list (U:=U) (t:=113) (n:=9) (e:=fun(a:Ed)=>.agg (NM.BD a)) (fun _=>rfl) rfl (fun a=>sH.nr a) (fun a b h=>sH.inj _ _ (by injection h))) ((congrFun hE 109).trans ZlT) (fun h=>Jk (U:=U) (t:=113) (n:=9) (e:=fun(a:Ed)=>.agg (NM.BD a)) h) (fun _=>rfl) (fun _=>rfl) (fun _=>rfl) (fun _=>rfl) (fun _=>rfl)
theorem ZmK:rowsOf Tryz.prog 121=[0,0,0,0,0,0,0,0]:=by kernel_rfl
theorem ZmW {E} (hE:RE E):CJ U E 121:=.FN Zns ((congrFun hE 121).trans ZmK) (fun _=>rfl) (fun _=>rfl) (fun _=>rfl)
theorem Zpa:rowsOf Tryz.prog 30=[0,0]:=by kernel_rfl
theorem ZoU {E} (hE:RE E):CJ U E 30:=.FN uG ((congrFun hE 30).trans Zpa) (fun _=>rfl) (fun _=>rfl) (fun _=>rfl)
theorem Zok:rowsOf Tryz.prog 50=[0,0,0,15,0,0,8,0,0,0,0,0,0,0,0,0,0,0,0,0]:=by kernel_rfl
theorem Qc {E} (hE:RE E):CJ U E 50:=.FN Z73 ((congrFun hE 50).trans Zok) (fun _=>rfl) (fun _=>rfl) (fun _=>rfl)
theorem ZnE:rowsOf Tryz.prog 53=[2]:=by kernel_rfl
theorem Zon {E} (hE:RE E):CJ U E 53:=.GM (c:=(AO.list 380 2 (fun(a:Ba)=>.agg (KR.BD a)):AO Ty (List (Ty 380)))) (Ac.list (U:=U) (t:=380) (n:=2) (e:=fun(a:Ba)=>.agg (KR.BD a)) (fun _=>rfl) rfl (fun a=>WO.nr a) (fun a b h=>WO.inj _ _ (by injection h))) ((congrFun hE 53).trans ZnE) (fun h=>Jk (U:=U) (t:=380) (n:=2) (e:=fun(a:Ba)=>.agg (KR.BD a)) h) (fun _=>rfl) (fun _=>rfl) (fun _=>rfl) (fun _=>rfl) (fun _=>rfl)
theorem Zp3:rowsOf Tryz.prog 24=[0,0,0,0,0]:=by kernel_rfl
theorem ZoD {E} (hE:RE E):CJ U E 24:=.FN Sv ((congrFun hE 24).trans Zp3) (fun _=>rfl) (fun _=>rfl) (fun _=>rfl)
theorem ZoW:rowsOf Tryz.prog 26=[0]:=by kernel_rfl
theorem Zom {E} (hE:RE E):CJ U E 26:=.GM (c:=D8) (Ac.int _) ((congrFun hE 26).trans ZoW) (fun h=>PR h) (fun _=>rfl) (fun _=>rfl) (fun _=>rfl) (fun _=>rfl) (fun _=>rfl)
theorem Zo7:rowsOf Tryz.prog 93=[1]:=by kernel_rfl
theorem ZoT {E} (hE:RE E):CJ U E 93:=.GM (c:=(AO.list 3 1 (fun(a:Int)=>BN.Bc a):AO Ty (List (Ty 3)))) (Ac.list (U:=U) (t:=3) (n:=1) (e:=fun(a:Int)=>BN.Bc a) (fun _=>rfl) rfl (fun a=>(Ac.int _:Ac U BN _).P8 a) (fun a b h=>(Ac.int _:Ac U BN _).PU h)) ((congrFun hE 93).trans Zo7) (fun h=>Jk (U:=U) (t:=3) (n:=1) (e:=fun(a:Int)=>BN.Bc a) h) (fun _=>rfl) (fun _=>rfl) (fun _=>rfl) (fun _=>rfl) (fun _=>rfl)
theorem Zn6 {E} (hE:RE E):CJ U E 369:=.BG [⟨44,fun a=>a.1⟩,⟨61,fun a=>a.2⟩] ⟨dD hE,OI hE,trivial⟩ (fun _=>rfl) (fun _=>rfl) (fun _=>rfl) fun _ _ h=>Prod.ext h.1 h.2.1
theorem ZoR:rowsOf Tryz.prog 47=[15]:=by kernel_rfl
theorem dN {E} (hE:RE E):CJ U E 47:=.GM (c:=(AO.list 310 15 (fun(a:AV)=>.agg (Fv.BD a)):AO Ty (List (Ty 310)))) (Ac.list (U:=U) (t:=310) (n:=15) (e:=fun(a:AV)=>.agg (Fv.BD a)) (fun _=>rfl) rfl (fun a=>QV.nr a) (fun a b h=>QV.inj _ _ (by injection h))) ((congrFun hE 47).trans ZoR) (fun h=>Jk (U:=U) (t:=310) (n:=15) (e:=fun(a:AV)=>.agg (Fv.BD a)) h) (fun _=>rfl) (fun _=>rfl) (fun _=>rfl) (fun _=>rfl) (fun _=>rfl)
theorem ZmE {E} (hE:RE E):CJ U E 371:=.BG [⟨50,fun a=>a.1⟩,⟨47,fun a=>a.2.1⟩,⟨61,fun a=>a.2.2⟩] ⟨Qc hE,dN hE,OI hE,trivial⟩ (fun _=>rfl) (fun _=>rfl) (fun _=>rfl) fun _ _ h=>Prod.ext h.1 (Prod.ext h.2.1 h.2.2.1)
theorem Zmy {E} (hE:RE E):CJ U E 432:=.BG [⟨50,fun a=>a.1⟩,⟨310,fun a=>a.2⟩] ⟨Qc hE,sW hE,trivial⟩ (fun _=>rfl) (fun _=>rfl) (fun _=>rfl) fun _ _ h=>Prod.ext h.1 h.2.1
theorem ZmG:rowsOf Tryz.prog 448=[0,0,0,0,0,0,0,0,0,0,0]:=by kernel_rfl
theorem Zmd {E} (hE:RE E):CJ U E 448:=.FN ZmR ((congrFun hE 448).trans ZmG) (fun _=>rfl) (fun _=>rfl) (fun _=>rfl)
theorem Zog:rowsOf Tryz.prog 48=[8]:=by kernel_rfl
theorem Wh {E} (hE:RE E):CJ U E 48:=.GM (c:=(AO.list 111 8 (fun(a:BP)=>.agg (G7.BD a)):AO Ty (List (Ty 111)))) (Ac.list (U:=U) (t:=111) (n:=8) (e:=fun(a:BP)=>.agg (G7.BD a)) (fun _=>rfl) rfl (fun a=>Q4.nr a) (fun a b h=>Q4.inj _ _ (by injection h))) ((congrFun hE 48).trans Zog) (fun h=>Jk (U:=U) (t:=111) (n:=8) (e:=fun(a:BP)=>.agg (G7.BD a)) h) (fun _=>rfl) (fun _=>rfl) (fun _=>rfl) (fun _=>rfl) (fun _=>rfl)
theorem ZlQ {E} (hE:RE E):CJ U E 471:=.BG [⟨48,fun a=>a.1⟩,⟨61,fun a=>a.2⟩] ⟨Wh hE,OI hE,trivial⟩ (fun _=>rfl) (fun _=>rfl) (fun _=>rfl) fun _ _ h=>Prod.ext h.1 h.2.1
theorem ZlI {E} (hE:RE E):CJ U E 374:=.BG [⟨50,fun a=>a.1⟩,⟨47,fun a=>a.2⟩] ⟨Qc hE,dN hE,trivial⟩ (fun _=>rfl) (fun _=>rfl) (fun _=>rfl) fun _ _ h=>Prod.ext h.1 h.2.1
theorem ZmQ:rowsOf Tryz.prog 352=[1]:=by kernel_rfl
theorem ZmM {E} (hE:RE E):CJ U E 352:=.GM (c:=(AO.list 25 1 (fun(a:Int)=>D8.Bc a):AO Ty (List (Ty 25)))) (Ac.list (U:=U) (t:=25) (n:=1) (e:=fun(a:Int)=>D8.Bc a) (fun _=>rfl) rfl (fun a=>(Ac.int _:Ac U D8 _).P8 a) (fun a b h=>(Ac.int _:Ac U D8 _).PU h)) ((congrFun hE 352).trans ZmQ) (fun h=>Jk (U:=U) (t:=25) (n:=1) (e:=fun(a:Int)=>D8.Bc a) h) (fun _=>rfl) (fun _=>rfl) (fun _=>rfl) (fun _=>rfl) (fun _=>rfl)
theorem Zo2:rowsOf Tryz.prog 22=[0]:=by kernel_rfl
theorem Zo0 {E} (hE:RE E):CJ U E 22:=.GM (c:=Pv) (Ac.int _) ((congrFun hE 22).trans Zo2) (fun h=>PR h) (fun _=>rfl) (fun _=>rfl) (fun _=>rfl) (fun _=>rfl) (fun _=>rfl)
theorem Zm3 {E} (hE:RE E):CJ U E 384:=.BG [⟨3,fun a=>a.1⟩,⟨3,fun a=>a.2⟩] ⟨vG hE,vG hE,trivial⟩ (fun _=>rfl) (fun _=>rfl) (fun _=>rfl) fun _ _ h=>Prod.ext h.1 h.2.1
theorem Znl {E} (hE:RE E):CJ U E 332:=.BG [⟨44,fun a=>a.1⟩,⟨67,fun a=>a.2.1⟩,⟨4,fun a=>a.2.2.1⟩,⟨4,fun a=>a.2.2.2⟩] ⟨dD hE,Z7d hE,eP hE,eP hE,trivial⟩ (fun _=>rfl) (fun _=>rfl) (fun _=>rfl) fun _ _ h=>Prod.ext h.1 (Prod.ext h.2.1 (Prod.ext h.2.2.1 h.2.2.2.1))
theorem ZmH {E} (hE:RE E):CJ U E 401:=.BG [⟨310,fun a=>a.1⟩,⟨61,fun a=>a.2⟩] ⟨sW hE,OI hE,trivial⟩ (fun _=>rfl) (fun _=>rfl) (fun _=>rfl) fun _ _ h=>Prod.ext h.1 h.2.1
theorem Znu {E} (hE:RE E):CJ U E 403:=.BG [⟨50,fun a=>a.1⟩,⟨119,fun a=>a.2⟩] ⟨Qc hE,WM hE,trivial⟩ (fun _=>rfl) (fun _=>rfl) (fun _=>rfl) fun _ _ h=>Prod.ext h.1 h.2.1
theorem Znd {E} (hE:RE E):CJ U E 406:=.BG [⟨50,fun a=>a.1⟩,⟨47,fun a=>a.2.1⟩,⟨119,fun a=>a.2.2⟩] ⟨Qc hE,dN hE,WM hE,trivial⟩ (fun _=>rfl) (fun _=>rfl) (fun _=>rfl) fun _ _ h=>Prod.ext h.1 (Prod.ext h.2.1 h.2.2.1)
theorem Zn3 {E} (hE:RE E):CJ U E 381:=.BG [⟨46,fun a=>a.1⟩,⟨61,fun a=>a.2⟩] ⟨Z6W hE,OI hE,trivial⟩ (fun _=>rfl) (fun _=>rfl) (fun _=>rfl) fun _ _ h=>Prod.ext h.1 h.2.1
theorem ZmT {E} (hE:RE E):CJ U E 386:=.BG [⟨50,fun a=>a.1⟩,⟨48,fun a=>a.2⟩] ⟨Qc hE,Wh hE,trivial⟩ (fun _=>rfl) (fun _=>rfl) (fun _=>rfl) fun _ _ h=>Prod.ext h.1 h.2.1
theorem ZlH {E} (hE:RE E):CJ U E 444:=.BG [⟨48,fun a=>a.1⟩,⟨48,fun a=>a.2⟩] ⟨Wh hE,Wh hE,trivial⟩ (fun _=>rfl) (fun _=>rfl) (fun _=>rfl) fun _ _ h=>Prod.ext h.1 h.2.1
theorem CJ.four {E:Env} {t:Nat} (h:CJ U E t):(∀a,AY U (U.encS t a)=U.enc t a)/\(∀v a,U.Gf t v=some a->EC (E.rows t) (AY U v)=U.enc t a)/\(∀a,(U.enc t a).cells=Aw U (cellsS (U.encS t a)))/\(∀a,Cf (U.enc t a)=true):=⟨h.encS,h.dec,h.cells,h.nr⟩
def fC:List Nat:=[4,35,5,97,3,95,36,38,28,31,33,25,41,67,46,310,111,52,32,380,228,61,55,100,56,60,42,214,226,119,316,44,319,320,322,65,200,270,57,75,68,9,122,113,109,121,30,50,53,24,26,93,369,47,371,432,448,48,471,374,352,22,384,332,401,403,406,381,386,444]
def wG:List Nat:=[1582,1583,1584,1568,1569,1581,1571,1572,1579,1585,1580,1587,1586,1578,1575,1576,1577,1588]
theorem ZkX (t:Nat) (h:t∉fC) (h' : t∉wG) (a:Ty t):False:=by
 unfold Ty at a
 split at a<;>first|exact h (by decide)|exact h' (by decide)|exact a.elim
theorem Z7p {E} (hE:RE E):XC (CJ U E) fC:=⟨eP hE,ZoJ hE,tyok5 hE,ZoK hE,vG hE,Zp5 hE,Zow hE,Zp4 hE,Zo5 hE,Zoh hE,ZoM hE,Znz hE,Zox hE,Z7d hE,Z6W hE,sW hE,Zm2 hE,Zoq hE,ZnT hE,ZlV hE,Zmh hE,OI hE,cZ hE,Znt hE,Zol hE,ZnA hE,ZoI hE,Zm5 hE,Zn7 hE,WM hE,Zmf hE,dD hE,sN hE,Znm hE,Zn5 hE,Z7c hE,ZlM hE,ZlS hE,ZoG hE,ZnS hE,ZoN hE,tyok9 hE,Znf hE,Znp hE,Zma hE,ZmW hE,ZoU hE,Qc hE,Zon hE,ZoD hE,Zom hE,ZoT hE,Zn6 hE,dN hE,ZmE hE,Zmy hE,Zmd hE,Wh hE,ZlQ hE,ZlI hE,ZmM hE,Zo0 hE,Zm3 hE,Znl hE,ZmH hE,Znu hE,Znd hE,Zn3 hE,ZmT hE,ZlH hE,trivial⟩
theorem all_Y (E:Env):XC (fun t=>(∀a,AY U (U.encS t a)=U.enc t a)/\(∀v a,U.Gf t v=some a->EC (E.rows t) (AY U v)=U.enc t a)/\(∀a,(U.enc t a).cells=Aw U (cellsS (U.encS t a)))/\(∀a,Cf (U.enc t a)=true)) wG:=by
 repeat' first|exact trivial|refine⟨⟨fun a=>rfl,(fun v a h=>nomatch h),fun a=>rfl,fun a=>rfl⟩,?_⟩
theorem sK (E:Env) (hE:E.rows=rowsOf Tryz.prog):D5 U E:=by
 have key:∀t,(∀a,AY U (U.encS t a)=U.enc t a)/\(∀v a,U.Gf t v=some a->EC (E.rows t) (AY U v)=U.enc t a)/\(∀a,(U.enc t a).cells=Aw U (cellsS (U.encS t a)))/\(∀a,Cf (U.enc t a)=true):=fun t=>by
  by_cases h:t∈fC
  ·exact CJ.four ((Z7p hE).at h)
  by_cases h' : t∈wG
  ·exact(all_Y E).at h'
  have e:=fun a=>ZkX t h h' a
  exact⟨fun a=>(e a).elim,fun v a h=>(e a).elim,fun a=>(e a).elim,fun a=>(e a).elim⟩
 have sub:∀t∈U.keys,t∈fC:=by decide
 exact⟨fun t=>(key t).1,fun t=>(key t).2.1,fun t=>(key t).2.2.1,fun t=>(key t).2.2.2,fun t ht=>((Z7p hE).at (sub t ht)).inj⟩
def gl:Nat->Option (List V):=fun _=>none
theorem dO:Tryz.prog.follows .mixedOrders=true:=by kernel_rfl
def noH:FuncId->List FuncId->Option (HMod U):=fun _ _=>none
def IB:Me Tryz.prog:=.no _
def B0:Env:=EV (U:=U) Tryz.prog gl 0 (fun _=>none) noH IB
abbrev MS:={ms:FuncId->Option (Az U) // ∀g m,ms g=some m->BA Tryz.prog B0 g m}
abbrev HS:={hs:FuncId->List FuncId->Option (HMod U) // ∀g k m,hs g k=some m->E8 Tryz.prog B0 g m}
def BC:MS:=⟨fun _=>none,fun _ _ h=>nomatch h⟩
def BB:HS:=⟨fun _ _=>none,fun _ _ _ h=>nomatch h⟩
def mc {f:FuncId} {m:Az U} (h:BA Tryz.prog B0 f m) (s:MS):MS:=⟨fun g=>bif Nat.beq g f then some m else s.1 g,fun g m' e=>by
 cases hb:Nat.beq g f with
 | true=>dsimp only at e;rw [hb] at e;cases e;exact(Nat.eq_of_beq_eq_true hb)▸h
 | false=>dsimp only at e;rw [hb] at e;exact s.2 g m' e⟩
def hc {f:FuncId} {m:HMod U} (k:List FuncId) (h:E8 Tryz.prog B0 f m) (s:HS):HS:=⟨fun g k' =>bif Nat.beq g f&&k' == k then some m else s.1 g k',fun g k' m' e=>by
 cases hb:(Nat.beq g f&&k' == k) with
 | true=>dsimp only at e;rw [hb] at e;cases e;exact(Nat.eq_of_beq_eq_true ((Bool.and_eq_true _ _).mp hb).1)▸h
 | false=>dsimp only at e;rw [hb] at e;exact s.2 g k' m' e⟩
def AN:Nat->Option Lay:=fun _=>none
noncomputable def Bi (fn:Func) (ts:List Nat) (x:FZ U ts):BQ U:=⟨JE fn,[],Wl ts x fn.ntmps,false⟩
noncomputable def HY (fn:Func) (sh:Shape) (x:sh.X U):BQ U:=⟨JE fn,[],TA (sh.enc x) fn.ntmps,false⟩
noncomputable def Ah (fn:Func) (p:List Nat) (L:Lay) (x:L.sh.X U):BQ U:=spot (JE fn) p fn.ntmps L.keep (L.sh.enc x)
abbrev wI (f:FuncId) (fn:Func) (ms:MS) (hs:HS) (A:Nat->Option Lay) (rt:Nat) {Pt:Type} (T:Pt->Tr U (U.Ty rt⊕Pt)) (sp:Pt->BQ U):Prop:=
 ∀p,Le.ED (EV Tryz.prog gl f ms.1 hs.1 IB) (NI ms.1 hs.1 IB.tab) A f fn 0 (dU (EV Tryz.prog gl f ms.1 hs.1 IB) fn) 1000 (.run (sp p).c) (sp p).K (sp p).st (sp p).sk=(T p).map (OG (wR (U:=U) rt) sp)
abbrev BlkH (f:FuncId) (fn:Func) (ms:MS) (hs:HS) (A:Nat->Option Lay) (fa:List (List Fk)) (fb:List Bf) (k:Nat) (m:HMod U) {Pt:Type} (T:Pt->Tr U (U.Ty m.ky⊕Pt)) (sp:Pt->BQ U):Prop:=
 ∀p,Le.ED (EV Tryz.prog gl f ms.1 hs.1 IB) (NI ms.1 hs.1 IB.tab) A f fn k (Qo (EV Tryz.prog gl f ms.1 hs.1 IB) fn fa fb k m.Ir m.one) 1000 (.run (sp p).c) (sp p).K (sp p).st (sp p).sk=(T p).map (OG m.out sp)
theorem okP {f:FuncId} {fn:Func} {ms:MS} {hs:HS} {A:Nat->Option Lay} {m:Az U} {Pt:Type} {T:Pt->Tr U (U.Ty m.rt⊕Pt)} {sp:Pt->BQ U} (h:wI f fn ms hs A m.rt T sp) (b0:FZ U m.ts->Pt)
  (hc:EO (EV Tryz.prog gl f ms.1 hs.1 IB) f (JE fn)=true) (hfn:Tryz.prog.funcs[f]? = some fn) (hn:(fn.name == "runtime.NumGoroutine")=false) (hb:fn.body=some (JE fn))
  (hm:∀x,m.fn x=Ad T (b0 x)) (hsp:∀x,sp (b0 x)=Bi fn m.ts x):BA Tryz.prog B0 f m:=
 Zl6 rfl (sK _ rfl) dO ms.2 hs.2 hfn hn hb hc m T sp h b0 hm hsp
theorem Bl {f rt:Nat} {ts:List Nat} {hk:∀t∈ts,t∈U.keys} {fn:Func} {Pt:Type} {T:Pt->Tr U (U.Ty rt⊕Pt)} {b0:FZ U ts->Pt} (ms:MS) (hs:HS) (A:Nat->Option Lay) (sp:Pt->BQ U) (hfn:Tryz.prog.funcs[f]? = some fn) (h:wI f fn ms hs A rt T sp)
  (hc:(EO (EV Tryz.prog gl f ms.1 hs.1 IB) f (JE fn),fn.name == "runtime.NumGoroutine",fn.body)=(true,false,some (JE fn))) (hsp:∀x,sp (b0 x)=Bi fn ts x):BA Tryz.prog B0 f ⟨ts,rt,fun x=>Ad T (b0 x),hk⟩:=
 okP (m:=⟨ts,rt,fun x=>Ad T (b0 x),hk⟩) h b0 (congrArg (·.1) hc) hfn (congrArg (·.2.1) hc) (congrArg (·.2.2) hc) (fun _=>rfl) hsp
theorem okH {f:FuncId} {fn:Func} {ms:MS} {hs:HS} {A:Nat->Option Lay} {fa:List (List Fk)} {fb:List Bf} {k:Nat} {m:HMod U} {Pt:Type} {T:Pt->Tr U (U.Ty m.ky⊕Pt)} {sp:Pt->BQ U} (h:BlkH f fn ms hs A fa fb k m T sp) (b0:m.DR.X U->Pt)
  (hk:∀x:m.DR.X U,(m.DR.enc x).2.length=k) (hc:EO (EV Tryz.prog gl f ms.1 hs.1 IB) f (JE fn)=true) (hfn:Tryz.prog.funcs[f]? = some fn) (hn:(fn.name == "runtime.NumGoroutine")=false) (hb:fn.body=some (JE fn))
  (hm:∀x:m.DR.X U,m.fn x=Ad T (b0 x)) (hsp:∀x:m.DR.X U,sp (b0 x)=HY fn m.DR x):E8 Tryz.prog B0 f m:=
 Zj7 rfl (sK _ rfl) dO ms.2 hs.2 hfn hn hb hc m hk T sp h b0 hm hsp
theorem okR {f ky:Nat} {fn:Func} {fi:List (List Fk)} {bi:List Bf} {DR Ir:Shape} {one:Bool} {Lp:U.Ty ky->Ir.X U} {ho:DR.OK U} {Pt:Type} {T:Pt->Tr U (U.Ty ky⊕Pt)} {b0:DR.X U->Pt} (ms:MS) (hs:HS) (A:Nat->Option Lay) (fa:List (List Fk)) (fb:List Bf) (k:Nat) (sp:Pt->BQ U) (hfn:Tryz.prog.funcs[f]? = some fn)
  (h:BlkH f fn ms hs A fa fb k ⟨fi,bi,DR,Ir,one,ky,Lp,fun x=>Ad T (b0 x),ho⟩ T sp) (hc:(EO (EV Tryz.prog gl f ms.1 hs.1 IB) f (JE fn),fn.name == "runtime.NumGoroutine",fn.body)=(true,false,some (JE fn))) (hsp:∀x,((DR.enc x).2.length,sp (b0 x))=(k,HY fn DR x)) :
  E8 Tryz.prog B0 f ⟨fi,bi,DR,Ir,one,ky,Lp,fun x=>Ad T (b0 x),ho⟩:=
 okH (m:=⟨fi,bi,DR,Ir,one,ky,Lp,fun x=>Ad T (b0 x),ho⟩) h b0 (fun x=>congrArg (·.1) (hsp x)) (congrArg (·.1) hc) hfn (congrArg (·.2.1) hc) (congrArg (·.2.2) hc) (fun _=>rfl) (fun x=>congrArg (·.2) (hsp x))
abbrev NW (f:FuncId) (ky:Nat) (fn:Func) (ms:MS) (hs:HS) (A:Nat->Option Lay) (fa:List (List Fk)) (fb:List Bf) (k:Nat) (sh:Shape) (one:Bool) (x0:U.Ty ky->sh.X U) {Pt:Type} (T:Pt->Tr U (U.Ty ky⊕Pt)) (sp:Pt->BQ U) (p:Pt):Prop:=
 Le.ED (EV Tryz.prog gl f ms.1 hs.1 IB) (NI ms.1 hs.1 IB.tab) A f fn 0 (Qo (EV Tryz.prog gl f ms.1 hs.1 IB) fn fa fb 0 sh one) 1000 (.run (sp p).c) (sp p).K (sp p).st (sp p).sk=(T p).map (OG (fun y=>((if one then (sh.enc (x0 y)).1.headD .und else .BG (sh.enc (x0 y)).1),(sh.enc (x0 y)).2)) sp)
def outS (one:Bool) (sh:Shape) (x:sh.X U):SV U.Ty×BF U:=((if one then (sh.enc x).1.headD .und else .BG (sh.enc x).1),(sh.enc x).2)
theorem Tf {f ky:Nat} {fn:Func} {fi:List (List Fk)} {bi:List Bf} {DR Ir:Shape} {one:Bool} {Lp:U.Ty ky->Ir.X U} {ho:DR.OK U} {Pt:Type} {T:Pt->Tr U (U.Ty ky⊕Pt)} {b0:DR.X U->Pt} (ms:MS) (hs:HS) (A:Nat->Option Lay) (fa:List (List Fk)) (fb:List Bf) (k:Nat) (sh:Shape) (x0:U.Ty ky->sh.X U) (sp:Pt->BQ U) (hfn:Tryz.prog.funcs[f]? = some fn)
  (h:∀p,Le.ED (EV Tryz.prog gl f ms.1 hs.1 IB) (NI ms.1 hs.1 IB.tab) A f fn 0 (Qo (EV Tryz.prog gl f ms.1 hs.1 IB) fn fa fb 0 sh one) 1000 (.run (sp p).c) (sp p).K (sp p).st (sp p).sk=(T p).map (OG (fun y=>outS one sh (x0 y)) sp)) (hc:(EO (EV Tryz.prog gl f ms.1 hs.1 IB) f (JE fn),fn.name == "runtime.NumGoroutine",fn.body)=(true,false,some (JE fn))) (hsp:∀x,((DR.enc x).2.length,sp (b0 x))=(k,HY fn DR x))
  (hout:∀y,HMod.out ⟨fi,bi,DR,Ir,one,ky,Lp,fun x=>Ad T (b0 x),ho⟩ y=Wn k (outS one sh (x0 y))):E8 Tryz.prog B0 f ⟨fi,bi,DR,Ir,one,ky,Lp,fun x=>Ad T (b0 x),ho⟩:=
 Zkd rfl (sK _ rfl) dO ms.2 hs.2 hfn (congrArg (·.2.1) hc) (congrArg (·.2.2) hc) (congrArg (·.1) hc) ⟨fi,bi,DR,Ir,one,ky,Lp,fun x=>Ad T (b0 x),ho⟩ (fun x=>congrArg (·.1) (hsp x)) sh _ hout T sp h b0 (fun _=>rfl) (fun x=>congrArg (·.2) (hsp x))
def al:List (Nat×Lay)->Nat->Option Lay
 | [],_=>none
 | (k,L)::l,n=>bif Nat.beq n k then some L else al l n
abbrev S1 (P R:Type):=P->Tr U (R⊕P)
theorem ok1 {f rt:Nat} {ts:List Nat} {hk:∀t∈ts,t∈U.keys} {fn:Func} {T:FZ U ts->Tr U (U.Ty rt⊕FZ U ts)} (ms:MS) (hs:HS) (hfn:Tryz.prog.funcs[f]? = some fn) (h:wI f fn ms hs AN rt T (Bi fn ts))
  (hc:(EO (EV Tryz.prog gl f ms.1 hs.1 IB) f (JE fn),fn.name == "runtime.NumGoroutine",fn.body)=(true,false,some (JE fn))):BA Tryz.prog B0 f ⟨ts,rt,fun x=>Ad T x,hk⟩:=
 Bl (b0:=fun x=>x) ms hs AN (Bi fn ts) hfn h hc fun _=>rfl
abbrev kL {α:Type} (l:List α):Bool:=l.length==l.length
abbrev kA (n k:Nat):Bool:=decide (n*k<=lim)&&decide (n<=maxLen)
abbrev KP:List Fk:=[.keep]
abbrev VC(t n:Nat):Pc:=.v t n false
abbrev OV(t:Nat):Sp:=.one (.v t 1 false)
abbrev PQ(j:Nat):Sp:=.one (.ptr j)
abbrev VA(e m:Nat):Pb:=.var e m (.agg [.v e m true])
abbrev k0:List Fk:=[.keep,.keep,.keep,.s 310 15,.keep,.keep,.s 111 8,.keep,.keep,.keep,.keep,.keep,.keep,.keep,.keep,.keep,.keep,.keep,.keep,.keep]
abbrev k1:List Fk:=[.keep,.keep,.keep,.keep,.keep,.keep,.keep,.keep,.keep,.keep,.keep,.keep,.keep,.keep,.keep]
abbrev k2:List Fk:=[.keep,.keep,.keep,.keep,.keep,.keep,.keep,.keep,.keep,.keep,.keep,.keep,.keep,.keep,.keep,.keep,.keep,.keep,.keep,.keep,.keep,.keep,.keep,.keep,.keep,.keep,.s 67 2,.keep,.keep,.keep,.keep,.keep,.keep,.keep,.keep,.keep,.keep,.s 310 15,.keep,.keep,.s 111 8,.keep,.keep,.keep,.keep,.keep,.keep,.keep,.keep,.keep,.keep,.keep,.keep,.keep,.keep,.keep,.keep,.keep,.keep,.keep,.keep,.keep,.s 380 2,.s 310 15,.keep,.keep]
abbrev k3:List Fk:=[.keep,.keep,.keep,.keep,.keep,.keep,.keep,.keep,.keep,.keep,.keep]
abbrev k4:List Fk:=[.keep,.keep,.keep,.keep,.keep,.keep,.keep,.keep,.keep,.keep,.keep,.keep,.keep,.keep,.keep,.keep,.keep,.keep,.keep,.keep,.keep,.keep,.keep,.keep,.keep,.keep,.s 67 2,.keep,.keep,.keep,.keep,.keep,.keep,.keep,.keep,.keep,.keep,.s 310 15,.keep,.keep,.s 111 8,.keep,.keep,.keep,.keep,.keep,.keep,.keep,.keep,.keep,.keep,.keep,.keep,.keep,.keep,.keep,.keep,.keep,.keep,.keep,.keep,.keep,.s 380 2,.s 310 15,.keep,.keep,.keep,.keep,.keep,.keep,.keep,.keep,.keep,.keep,.keep,.keep,.keep,.keep,.keep,.keep,.keep,.keep,.keep,.keep,.keep,.keep,.keep,.keep,.keep,.keep,.keep,.keep,.s 67 2,.keep,.keep,.keep,.keep,.keep,.keep,.keep,.keep,.keep,.keep,.s 310 15,.keep,.keep,.s 111 8,.keep,.keep,.keep,.keep,.keep,.keep,.keep,.keep,.keep,.keep,.keep,.keep,.keep,.keep,.keep,.keep,.keep,.keep,.keep,.keep,.keep,.s 380 2,.s 310 15,.keep,.keep,.keep,.keep,.keep,.keep,.keep,.own 228 20,.own 67 2,.own 67 2,.own 67 2,.own 67 2]
abbrev k5:List Fk:=[.keep,.keep,.keep,.keep,.s 5 1]
abbrev k6:List Fk:=[.keep,.keep,.keep,.keep,.keep,.keep,.keep,.keep,.keep,.keep,.keep,.keep,.keep,.keep,.keep,.keep,.keep,.keep,.keep,.keep,.keep,.keep,.keep,.keep,.keep,.keep,.own 67 2,.keep,.keep,.keep,.keep,.keep,.keep,.keep,.keep,.keep,.keep,.own 310 15,.keep,.keep,.own 111 8,.keep,.keep,.keep,.keep,.keep,.keep,.keep,.keep,.keep,.keep,.keep,.keep,.keep,.keep,.keep,.keep,.keep,.keep,.keep,.keep,.keep,.own 380 2,.own 310 15,.keep,.keep,.keep,.keep,.keep,.keep,.keep,.keep,.keep,.keep,.keep,.keep,.keep,.keep,.keep,.keep,.keep,.keep,.keep,.keep,.keep,.keep,.keep,.keep,.keep,.keep,.keep,.keep,.own 67 2,.keep,.keep,.keep,.keep,.keep,.keep,.keep,.keep,.keep,.keep,.own 310 15,.keep,.keep,.own 111 8,.keep,.keep,.keep,.keep,.keep,.keep,.keep,.keep,.keep,.keep,.keep,.keep,.keep,.keep,.keep,.keep,.keep,.keep,.keep,.keep,.keep,.own 380 2,.own 310 15,.keep,.keep,.keep,.keep,.keep,.keep,.keep,.own 228 20,.own 67 2,.own 67 2,.own 67 2,.own 67 2]
abbrev k7:List Fk:=[.keep,.keep,.s 67 2,.keep,.keep,.keep,.keep]
abbrev k8:List Fk:=[.keep,.keep,.keep,.keep,.keep,.keep,.keep,.keep,.keep,.keep,.keep,.keep,.keep,.keep,.keep,.keep,.keep,.keep,.keep,.keep,.keep,.keep,.keep,.keep,.keep,.keep,.s 67 2,.keep,.keep,.keep,.keep,.keep,.keep,.keep,.keep,.keep,.keep,.s 310 15,.keep,.keep,.s 111 8,.keep,.keep,.keep,.keep,.keep,.keep,.keep,.keep,.keep,.keep,.keep,.keep,.keep,.keep,.keep,.keep,.keep,.keep,.keep,.keep,.keep,.s 380 2,.s 310 15,.keep,.keep,.keep,.keep,.keep,.keep,.keep,.keep,.keep,.keep,.keep,.keep,.keep,.keep,.keep,.keep,.keep,.keep,.keep,.keep,.keep,.keep,.keep,.keep,.keep,.keep,.keep,.keep,.s 67 2,.keep,.keep,.keep,.keep,.keep,.keep,.keep,.keep,.keep,.keep,.s 310 15,.keep,.keep,.s 111 8,.keep,.keep,.keep,.keep,.keep,.keep,.keep,.keep,.keep,.keep,.keep,.keep,.keep,.keep,.keep,.keep,.keep,.keep,.keep,.keep,.keep,.s 380 2,.s 310 15,.keep,.keep,.keep,.keep,.keep,.keep,.keep,.s 228 20,.s 67 2,.s 67 2,.s 67 2,.s 67 2]
abbrev k9:List Fk:=[.keep,.keep,.keep,.keep,.keep,.keep,.keep]
abbrev k10:List Fk:=[.keep,.keep,.keep,.keep,.keep,.keep,.keep,.keep,.keep,.keep,.keep,.keep,.keep,.keep,.keep,.keep,.keep,.keep,.keep,.keep,.keep,.keep,.keep,.keep,.keep,.keep,.s 67 2,.keep,.keep,.keep,.keep,.keep,.keep,.keep,.keep,.keep,.keep,.s 310 15,.keep,.keep,.s 111 8,.keep,.keep,.keep,.keep,.keep,.keep,.keep,.keep,.keep,.keep,.keep,.keep,.keep,.keep,.keep,.keep,.keep,.keep,.keep,.keep,.keep,.s 380 2,.own 310 15,.keep,.keep]
abbrev k11:List Fk:=[.keep,.keep,.keep,.keep,.keep,.keep,.keep,.keep]
abbrev k12:List Fk:=[.keep,.keep,.keep,.s 5 1,.keep,.keep,.keep,.keep,.keep,.keep,.keep,.keep]
abbrev k13:List Fk:=[.keep,.keep,.keep,.keep]
abbrev GY (a:Ak):=(a.AA.x0.Dl,(a.AA.x0.Bz,(a.AA.x0.Clock,(a.AA.x0.Event,(a.AA.x0.Last,(a.AA.x0.Gn,(a.AA.x0.Size,(a.AA.x0.Sync,(a.AA.x0.Kq,(a.AA.x0.Jp,(a.AA.x0.AB,(a.AA.x0.Good,(a.AA.x0.Hl,(a.AA.x0.More,(a.AA.x0.Ag.SN,(a.AA.x0.Ag.GG,(a.AA.x0.Ag.Open,(a.AA.x0.Ag.Empty,(a.AA.x0.Ag.Hl,(a.AA.x0.Ag.Taken,(a.AA.x0.JQ,(a.AA.x0.AP.Dl,(a.AA.x0.AP.Own,(a.AA.x0.AP.Since,(a.AA.x0.AP.Other,(a.AA.x0.AP.Jj,(a.AA.x0.AP.Told,(a.AA.x0.AP.EU,(a.AA.x0.AP.OJ,(a.AA.x0.AP.JG,(a.AA.x0.AP.KG,(a.AA.x0.AP.Version,(a.AA.x0.AP.Length,(a.AA.x0.AP.Limit,(a.AA.x0.AP.EG,(a.AA.x0.AP.Ku,(a.AA.x0.AP.Mark,(a.AA.x0.AP.EJ,(a.AA.x0.AP.Gp,(a.AA.x0.Ef,(a.AA.x0.Key,(a.AA.x0.BV,(a.AA.x0.Jc,(a.AA.x1.Dl,(a.AA.x1.Bz,(a.AA.x1.Clock,(a.AA.x1.Event,(a.AA.x1.Last,(a.AA.x1.Gn,(a.AA.x1.Size,(a.AA.x1.Sync,(a.AA.x1.Kq,(a.AA.x1.Jp,(a.AA.x1.AB,(a.AA.x1.Good,(a.AA.x1.Hl,(a.AA.x1.More,(a.AA.x1.Ag.SN,(a.AA.x1.Ag.GG,(a.AA.x1.Ag.Open,(a.AA.x1.Ag.Empty,(a.AA.x1.Ag.Hl,(a.AA.x1.Ag.Taken,(a.AA.x1.JQ,(a.AA.x1.AP.Dl,(a.AA.x1.AP.Own,(a.AA.x1.AP.Since,(a.AA.x1.AP.Other,(a.AA.x1.AP.Jj,(a.AA.x1.AP.Told,(a.AA.x1.AP.EU,(a.AA.x1.AP.OJ,(a.AA.x1.AP.JG,(a.AA.x1.AP.KG,(a.AA.x1.AP.Version,(a.AA.x1.AP.Length,(a.AA.x1.AP.Limit,(a.AA.x1.AP.EG,(a.AA.x1.AP.Ku,(a.AA.x1.AP.Mark,(a.AA.x1.AP.EJ,(a.AA.x1.AP.Gp,(a.AA.x1.Ef,(a.AA.x1.Key,(a.AA.x1.BV,(a.AA.x1.Jc,(a.DT,(a.Now,()))))))))))))))))))))))))))))))))))))))))))))))))))))))))))))))))))))))))))))))))))))))))
abbrev Gg (a:Ak):=(a.AA.x0.Ag.Am,(a.AA.x0.AP.Aa,(a.AA.x0.AP.Ap,(a.AA.x0.Aq,(a.AA.x0.A8,(a.AA.x1.Ag.Am,(a.AA.x1.AP.Aa,(a.AA.x1.AP.Ap,(a.AA.x1.Aq,(a.AA.x1.A8,(a.Notes,(a.Sent.x0,(a.Sent.x1,(a.AB.x0,(a.AB.x1,())))))))))))))))
abbrev Jd (a:Ak):=(a.Notes,(a.Sent.x0,(a.Sent.x1,(a.AB.x0,(a.AB.x1,())))))
abbrev Tm (a:Af):=(a.Dl,(a.Bz,(a.Clock,(a.Event,(a.Last,(a.Gn,(a.Size,(a.Sync,(a.Kq,(a.Jp,(a.AB,(a.Good,(a.Hl,(a.More,(a.Ag,(a.JQ,(a.AP,(a.Ef,(a.Key,(a.Aq,(a.BV,(a.Jc,()))))))))))))))))))))))
abbrev Et (i:Nat):Sp:=.agg [.v 56 132 true,.v 31 4 true,.v 3 1 false,.own 228 i,.own 67 (i+1),.own 67 (i+2),.own 67 (i+3),.own 67 (i+4)]
abbrev LG (i:Nat):Sp:=.agg [.v 3 1 false,.v 28 11 true,.v 3 1 false,.v 41 1 false,.v 3 1 false,.v 3 1 false,.v 3 1 false,.v 3 1 false,.v 3 1 false,.v 4 1 false,.v 4 1 false,.v 4 1 false,.v 4 1 false,.v 4 1 false,.v 3 1 false,.v 3 1 false,.own 67 i,.v 4 1 false,.v 4 1 false,.v 3 1 false,.v 3 1 false,.v 46 3 true,.v 3 1 false,.v 3 1 false,.v 3 1 false,.own 310 (i+1),.v 3 1 false,.v 3 1 false,.own 111 (i+2),.v 4 1 false,.v 25 1 false,.v 25 1 false,.v 4 1 false,.v 4 1 false,.v 3 1 false,.v 3 1 false,.v 3 1 false,.v 25 1 false,.v 25 1 false,.v 25 1 false,.v 3 1 false,.v 3 1 false,.v 52 7 true,.v 32 1 false,.own 380 (i+3),.own 310 (i+4),.v 3 1 false,.v 25 1 false,.v 3 1 false,.v 28 11 true,.v 3 1 false,.v 41 1 false,.v 3 1 false,.v 3 1 false,.v 3 1 false,.v 3 1 false,.v 3 1 false,.v 4 1 false,.v 4 1 false,.v 4 1 false,.v 4 1 false,.v 4 1 false,.v 3 1 false,.v 3 1 false,.own 67 (i+5),.v 4 1 false,.v 4 1 false,.v 3 1 false,.v 3 1 false,.v 46 3 true,.v 3 1 false,.v 3 1 false,.v 3 1 false,.own 310 (i+6),.v 3 1 false,.v 3 1 false,.own 111 (i+7),.v 4 1 false,.v 25 1 false,.v 25 1 false,.v 4 1 false,.v 4 1 false,.v 3 1 false,.v 3 1 false,.v 3 1 false,.v 25 1 false,.v 25 1 false,.v 25 1 false,.v 3 1 false,.v 3 1 false,.v 52 7 true,.v 32 1 false,.own 380 (i+8),.own 310 (i+9),.v 3 1 false,.v 25 1 false,.v 31 4 true,.v 3 1 false,.own 228 (i+10),.own 67 (i+11),.own 67 (i+12),.own 67 (i+13),.own 67 (i+14)]
abbrev XH (i:Nat):Sp:=.agg [.v 3 1 false,.v 28 11 true,.v 3 1 false,.v 41 1 false,.v 3 1 false,.v 3 1 false,.v 3 1 false,.v 3 1 false,.v 3 1 false,.v 4 1 false,.v 4 1 false,.v 4 1 false,.v 4 1 false,.v 4 1 false,.v 44 7 true,.v 46 3 true,.v 50 20 true,.v 52 7 true,.v 32 1 false,.v 53 1 false,.own 310 i,.v 3 1 false,.v 25 1 false]
abbrev kl {α L:Type} (l:List α) (t:Tr U L):Tr U L:=.chk (kL l) t
abbrev kI {α:Type} (i:Int) (l:List α):Bool:=decide (0<=i/\i<(l.length:Int))
abbrev AQ {L M:Type} (x:L):Tr U (L⊕M):=.leaf (.inl x)
abbrev AL {L M:Type} (x:M):Tr U (L⊕M):=.leaf (.inr x)
theorem DN:(∀(L R:Type) (l:L) (J:L->Option R),(Tr.leaf l:Tr U L).den J=J l)/\(∀(L R:Type) (c:Bool) (a b:Tr U L) (J:L->Option R),(Tr.br c a b).den J=cond c (a.den J) (b.den J))/\(∀(L R:Type) (t:Nat) (o:Option (U.Ty t)) (k:U.Ty t->Tr U L) (J:L->Option R),(Tr.bind t o k).den J=o.bind fun x=>(k x).den J) /\
  (∀(L R:Type) (c:Bool) (a:Tr U L) (J:L->Option R),(Tr.chk c a).den J=cond c (a.den J) none)/\(∀(L R:Type) (J:L->Option R),(Tr.fail:Tr U L).den J=none)/\(∀(R P:Type) (g:P->Option R) (r:R),Lh g (.inl r)=some r)/\(∀(R P:Type) (g:P->Option R) (q:P),Lh g (.inr q)=g q) /\
  (∀(α:Type) (l:List α),kL l=true)/\(∀(L R α:Type) (l:List α) (a:Tr U L) (J:L->Option R),(kl l a).den J=a.den J)/\(∀(L R:Type) (a:Tr U L) (J:L->Option R),(Tr.chk true a).den J=a.den J)/\(∀(α:Type) (i:Int) (l:List α),kI i l=decide (0<=i/\i<(l.length:Int)))/\(∀n k:Nat,kA n k=(decide (n*k<=lim)&&decide (n<=maxLen))):=
 ⟨fun _ _ _ _=>rfl,fun _ _ _ _ _ _=>rfl,fun _ _ _ _ _ _=>rfl,fun _ _ _ _ _=>rfl,fun _ _ _=>rfl,fun _ _ _ _=>rfl,fun _ _ _ _=>rfl,fun _ _=>beq_self_eq_true _,fun _ _ _ l a J=>by show cond (l.length==l.length) (a.den J) none=_;rw [beq_self_eq_true];rfl,fun _ _ _ _=>rfl,fun _ _ _=>rfl,fun _ _=>rfl⟩
def Z7z:List Nat:=[4,5,3,36,25,41,32,61,100,42,119,316,320,322,65,200,270,57,68,9,122,109,53,26,93,369,47,371,432,48,471,374,352,22,384,332,401,403,406,381,386,444]
def Z7t:List (Nat×Nat):=[(35,18),(97,12),(95,4),(38,2),(28,11),(31,4),(33,2),(67,2),(46,3),(310,15),(111,8),(52,7),(380,2),(228,20),(55,66),(56,132),(60,142),(214,2),(226,18),(44,7),(319,5),(75,3),(113,9),(121,8),(30,2),(50,20),(24,5),(448,11)]
theorem Zkr:∀t∈Z7z,t∈U.keys/\∀a,cellsS (U.encS t a)=[U.encS t a]:=by
 intro t ht
 repeat (rcases List.mem_cons.1 ht with rfl|ht;exact⟨by decide,fun _=>rfl⟩)
 cases ht
theorem Zlk:∀p∈Z7t,p.1∈U.keys/\∀a,∃cs,U.encS p.1 a = .agg cs/\cs.length=p.2:=by
 intro p ht
 repeat (rcases List.mem_cons.1 ht with rfl|ht;exact⟨by decide,fun _=>⟨_,rfl,rfl⟩⟩)
 cases ht
theorem okS {s:Shape} (h:shB U Z7z Z7t s=true):s.OK U:=Shape.ok_of Zkr Zlk h
def kt:Nat->List Fk
 | 24=>[.keep,.keep,.keep,.keep,.keep]
 | 28=>k3
 | 30=>[.keep,.keep]
 | 31=>k13
 | 33=>[.keep,.keep]
 | 36=>[.s 95 4]
 | 42=>[.s 67 2]
 | 44=>k7
 | 48=>[.s 111 8]
 | 50=>k0
 | 52=>k9
 | 53=>[.s 380 2]
 | 55=>k2
 | 57=>[.s 228 20]
 | 60=>k8
 | 65=>[.s 5 1]
 | 67=>[.keep,.s 5 1]
 | 68=>[.s 75 3]
 | 75=>[.keep,.keep,.keep]
 | 93=>[.s 3 1]
 | 95=>[.s 97 12,.s 3 1,.s 3 1,.keep]
 | 97=>k12
 | 109=>[.s 113 9]
 | 111=>k11
 | 119=>[.s 226 18]
 | 121=>k11
 | 228=>[.keep,.keep,.keep,.keep,.keep,.s 5 1,.keep,.keep,.keep,.keep,.keep,.keep,.keep,.keep,.keep,.keep,.keep,.keep,.keep,.keep]
 | 310=>k1
 | 319=>k5
 | 352=>[.s 25 1]
 | 380=>[.keep,.keep]
 | 448=>k3
 | _=>[.keep]
inductive Sl where
 | v (t:Nat)|a (t:Nat)|p (j:Nat)|o (e n j:Nat)
inductive Bo where
 | v (t:Nat)|s (t:Nat)|r (e:Nat)
def LT (s:List Nat) (l:List Sl) (b:List Bo):Lay:=
 ⟨s,l.map fun | .v t=>kt t | .a t=>kt t | .p _=>[.keep] | .o e n _=>[.own e n],b.map fun | .v t=>.var (kt t) | .s t=>.var (kt t) | .r _=>.row true,
  ⟨l.map fun | .v t=>.one (.v t 1 false) | .a t=>.agg [.v t (kt t).length true] | .p j=>.one (.ptr j) | .o e _ j=>.one (.own e j),
   b.map fun | .v t=>.var t 1 (.one (.v t 1 false)) | .s t=>.var t (kt t).length (.agg [.v t (kt t).length true]) | .r e=>.row e true⟩⟩
end
end Go.Proofs.YtddbklgndkpipaaGreatDoor
