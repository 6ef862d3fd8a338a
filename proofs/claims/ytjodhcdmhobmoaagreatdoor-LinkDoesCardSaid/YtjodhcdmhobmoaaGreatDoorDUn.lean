/- A part of it. -/
import Derived.Test.YtjodhcdmhobmoaaGreatDoorDL6
import Derived.Test.YtjodhcdmhobmoaaGreatDoorProg
import Derived.KernelRfl
set_option linter.unusedVariables false
set_option linter.unusedSimpArgs false
namespace Go.Proofs.YtjodhcdmhobmoaaGreatDoor
open Go Go.Proofs.YtjodhcdmhobmoaaGreatDoor.Le
set_option maxRecDepth 100000
noncomputable section
structure DT where
 EX:Int
 EW:Int
 Dp:Int
 Dq:Int
 Ei:Int
@[reducible] def Ba:DT:=⟨(0:Int),(0:Int),(0:Int),(0:Int),(0:Int)⟩
structure Fa where
 P5:Int
 Qz:Int
 BG:DT
 Map:Int
 Hop:Int
 iM:Int
 SG:Int
@[reducible] def Z6S:Fa:=⟨(0:Int),(0:Int),Ba,(0:Int),(0:Int),(0:Int),(0:Int)⟩
structure Z3K where
 x0:Int
 x1:Int
structure BB where
 CQ:Int
 Payload:List Int
structure EN where
 Side:Int
 Kind:Int
 BU:BB
 BG:DT
 Map:Int
 Number:Int
 Key:Int
structure Em where
 RG:List EN
 Vu:Int
 Vm:Int
structure Il where
 CZ:Fa
 Keys:Z3K
 Eg:Int
 Events:List Em
 BR:Int
 BU:Int
structure Bd where
 SN:Int
 Ee:Int
 Aq:List BB
 Open:Bool
 Empty:Bool
 Ec:Int
 Taken:Int
@[reducible] def Ld:Bd:=⟨(0:Int),(0:Int),[],false,false,(0:Int),(0:Int)⟩
structure Du where
 Dq:Int
 SS:Int
 Full:Bool
@[reducible] def Zle:Du:=⟨(0:Int),(0:Int),false⟩
structure AL where
 Kind:Int
 BG:DT
 Map:Int
 CP:Int
 Bq:Int
 Dx:Int
 CE:Int
 Mark:Int
 DK:Int
 Version:Int
 Length:Int
@[reducible] def Fp:AL:=⟨(0:Int),Ba,(0:Int),(0:Int),(0:Int),(0:Int),(0:Int),(0:Int),(0:Int),(0:Int),(0:Int)⟩
structure BF where
 Kind:Int
 CP:Int
 BG:DT
 Map:Int
@[reducible] def UZ:BF:=⟨(0:Int),(0:Int),Ba,(0:Int)⟩
structure A7 where
 BR:Int
 Own:Int
 Since:Int
 Aa:List AL
 Other:Int
 Gz:Int
 Ak:List BF
 Told:Bool
 DK:Int
 Ic:Int
 Fg:Bool
 FX:Bool
 Version:Int
 Length:Int
 Limit:Int
 CE:Int
 GK:Int
 Mark:Int
 CJ:Int
 ER:Int
@[reducible] def Dv:A7:=⟨(0:Int),(0:Int),(0:Int),[],(0:Int),(0:Int),[],false,(0:Int),(0:Int),false,false,(0:Int),(0:Int),(0:Int),(0:Int),(0:Int),(0:Int),(0:Int),(0:Int)⟩
structure Cm where
 BR:Int
 Key:Int
 CE:Int
 Jq:Bool
 Jl:Bool
 Tx:Int
 Rx:Int
@[reducible] def Oj:Cm:=⟨(0:Int),(0:Int),(0:Int),false,false,(0:Int),(0:Int)⟩
structure BC where
 Good:Int
 FN:Int
structure Ac where
 BR:Int
 CZ:Fa
 Clock:Int
 Event:Int
 Last:Int
 Fq:Int
 Size:Int
 Sync:Int
 Hf:Int
 Gq:Bool
 Hm:Bool
 Good:Bool
 Ec:Bool
 More:Bool
 Ag:Bd
 FZ:Du
 AB:A7
 Dk:Cm
 Key:Int
 BI:List BC
 Aw:List AL
 Bq:Int
 Eg:Int
@[reducible] def EG:Ac:=⟨(0:Int),Z6S,(0:Int),(0:Int),(0:Int),(0:Int),(0:Int),(0:Int),(0:Int),false,false,false,false,false,Ld,Zle,Dv,Oj,(0:Int),[],[],(0:Int),(0:Int)⟩
structure CS where
 x0:Ac
 x1:Ac
structure Ot where
 Start:Int
 End:Int
structure BD where
 Kind:Int
 Event:Int
 BU:BB
 ZDP:BF
 Number:Int
 BG:DT
structure Be where
 SN:Int
 Ee:Int
 MD:Int
 BU:BB
@[reducible] def IA:Be:=⟨(0:Int),(0:Int),(0:Int),(⟨(0:Int),[]⟩:BB)⟩
structure Bl where
 Fg:Bool
 BG:Bool
 Map:Bool
 CP:Bool
 Bq:Bool
 Dx:Bool
 CE:Bool
 Mark:Bool
 DK:Bool
 Version:Bool
 Length:Bool
@[reducible] def MW:Bl:=⟨false,false,false,false,false,false,false,false,false,false,false⟩
structure EM where
 Link:Ac
 C9:List BD
structure DF where
 AB:A7
 KW:Int
 IE:Int
 f_out:List AL
 DJ:List BD
structure Fb where
 TV:Int
 f_low:Int
 tN:Int
structure Eh where
 Size:Int
 Value:Int
structure J5 where
 x0:Int
 x1:Int
structure Z2w where
 SN:Int
 Ee:Int
 Open:Bool
 Empty:Bool
 Ec:Int
 Taken:Int
structure Ye where
 BR:Int
 Own:Int
 Since:Int
 Other:Int
 Gz:Int
 Told:Bool
 DK:Int
 Ic:Int
 Fg:Bool
 FX:Bool
 Version:Int
 Length:Int
 Limit:Int
 CE:Int
 GK:Int
 Mark:Int
 CJ:Int
 ER:Int
structure Z22 where
 BR:Int
 CZ:Fa
 Clock:Int
 Event:Int
 Last:Int
 Fq:Int
 Size:Int
 Sync:Int
 Hf:Int
 Gq:Bool
 Hm:Bool
 Good:Bool
 Ec:Bool
 More:Bool
 Ag:Z2w
 FZ:Du
 AB:Ye
 Dk:Cm
 Key:Int
 Bq:Int
 Eg:Int
structure Nl where
 Link:Z22
structure QM where
 AB:Ye
 KW:Int
 IE:Int
structure UB where
 q0:List Int
structure QD where
 q0:List AL
structure QE where
 q0:List BF
structure WJ where
 q0:List BC
structure I8 where
 q0:List Int
structure KN where
 q0:List Int
structure Rt where
 q0:List Int
structure PD where
 q0:List Int
structure QT where
 q0:List Int
structure Ru where
 q0:EM
structure IM where
 q0:Int
 q1:EM
 q2:List BB
 q3:List AL
 q4:List BF
 q5:List BC
structure MZ where
 q0:Int
 q1:EM
 q2:List BB
structure Us where
 q0:Bd
structure JE where
 q0:Int
 q1:EM
 q2:List AL
 q3:List BF
structure Rh where
 q0:List Int
structure UN where
 q0:AL
structure UM where
 q0:AL
structure UL where
 q0:AL
structure UH where
 q0:AL
structure UD where
 q0:AL
structure UG where
 q0:AL
structure UI where
 q0:AL
structure UE where
 q0:AL
structure UF where
 q0:AL
structure Oi where
 q0:AL
structure RV where
 q0:AL
structure RZ where
 q0:AL
structure Rk where
 q0:DF
structure RU where
 q0:DF
 q1:List BF
structure Tn where
 q0:DF
structure N8 where
 q0:AL
 q1:DF
structure Jr where
 q0:Bool
 q1:DF
structure Tj where
 q0:Bool
 q1:List AL
structure RQ where
 q0:Int
 q1:List AL
structure QI where
 q0:Int
 q1:EM
 q2:List AL
 q3:List BF
structure N9 where
 q0:Int
 q1:EM
 q2:List AL
 q3:List BF
structure Nb where
 q0:Int
 q1:EM
 q2:List AL
 q3:List BF
 q4:List BC
structure UT where
 q0:List BC
structure RY where
 q0:Int
 q1:EM
 q2:List AL
 q3:List BF
@[reducible] def Ty:Nat->Type
 | 1344=>UB
 | 1345=>QD
 | 1346=>QE
 | 1347=>WJ
 | 1349=>I8
 | 1351=>KN
 | 1352=>Rt
 | 1350=>PD
 | 1348=>QT
 | 1353=>Ru
 | 1354=>IM
 | 1355=>MZ
 | 1361=>Us
 | 1356=>JE
 | 1381=>Rh
 | 1372=>UN
 | 1373=>UM
 | 1374=>UL
 | 1375=>UH
 | 1376=>UD
 | 1377=>UG
 | 1378=>UI
 | 1379=>UE
 | 1380=>UF
 | 1369=>Oi
 | 1370=>RV
 | 1371=>RZ
 | 1362=>Rk
 | 1367=>RU
 | 1368=>Tn
 | 1363=>N8
 | 1364=>Jr
 | 1365=>Tj
 | 1366=>RQ
 | 1357=>QI
 | 1358=>N9
 | 1359=>Nb
 | 1382=>UT
 | 1360=>RY
 | 249=>Unit
 | 115=>Nl
 | 206=>QM
 | 4=>Bool
 | 5=>Int
 | 83=>EN
 | 113=>Em
 | 59=>Il
 | 68=>BB
 | 156=>AL
 | 138=>BF
 | 99=>BC
 | 44=>Ac
 | 3=>Int
 | 60=>Ac×Int×Bool
 | 45=>Int
 | 46=>Ac×Int
 | 31=>List BB
 | 39=>A7
 | 36=>List AL
 | 62=>List Int
 | 37=>List BF
 | 42=>List BC
 | 109=>CS
 | 110=>CS×Int
 | 28=>Fa
 | 29=>Int
 | 25=>Int
 | 52=>Ot
 | 33=>Bd
 | 35=>Du
 | 24=>DT
 | 26=>Int
 | 226=>List Int
 | 63=>Ac×(List Int)
 | 148=>BD
 | 77=>List BD
 | 86=>Ac×(List BD)×Bool
 | 78=>Ac×(List BD)
 | 70=>Be
 | 75=>Bd×Be
 | 71=>Be×Int
 | 120=>(List Int)×Int
 | 104=>Int×Int
 | 30=>Int
 | 22=>Int
 | 189=>Bd×Int
 | 262=>Bl
 | 41=>Cm
 | 129=>Du×Int
 | 135=>A7×(List BF)
 | 140=>A7×(List AL)
 | 208=>(List BF)×(List BF)
 | 216=>A7×AL
 | 269=>(List BF)×Int
 | 222=>A7×(List AL)×Int
 | 9=>ByteArray
 | 254=>List Int
 | 163=>Bd×BB×Bool×Bool
 | 231=>AL×Int
 | 233=>A7×(List BD)
 | 237=>A7×(List AL)×(List BD)
 | 174=>Fb
 | 240=>List Fb
 | 256=>List (List Int)
 | 252=>Eh
 | 253=>List Eh
 | 312=>J5
 | _=>Empty
abbrev Ej:AO Ty Int:=AO.int .u8
abbrev O8:AO Ty Int:=AO.int .u16
abbrev Oa:AO Ty Int:=AO.int .u32
abbrev DL:AO Ty Int:=AO.int .u64
abbrev BN:AO Ty Int:=AO.int .i64
abbrev Dt:AO Ty Bool:=AO.bool
abbrev cst:AO Ty ByteArray:=AO.str
def II:AO Ty BB:=AO.CY (fun x=>(x.CQ,x.Payload,())) (fun p=>⟨p.1,p.2.1⟩) (AO.pair BN (AO.pair (AO.list 5 1 (fun(a:Int)=>Ej.BV a):AO Ty (List (Ty 5))) AO.unit))
def ML:AO Ty DT:=AO.CY (fun x=>(x.EX,x.EW,x.Dp,x.Dq,x.Ei,())) (fun p=>⟨p.1,p.2.1,p.2.2.1,p.2.2.2.1,p.2.2.2.2.1⟩) (AO.pair BN (AO.pair BN (AO.pair BN (AO.pair BN (AO.pair BN AO.unit)))))
def Pm:AO Ty EN:=AO.CY (fun x=>(x.Side,x.Kind,x.BU,x.BG,x.Map,x.Number,x.Key,())) (fun p=>⟨p.1,p.2.1,p.2.2.1,p.2.2.2.1,p.2.2.2.2.1,p.2.2.2.2.2.1,p.2.2.2.2.2.2.1⟩) (AO.pair BN (AO.pair BN (AO.pair II (AO.pair ML (AO.pair DL (AO.pair DL (AO.pair DL AO.unit)))))))
def Qp:AO Ty Em:=AO.CY (fun x=>(x.RG,x.Vu,x.Vm,())) (fun p=>⟨p.1,p.2.1,p.2.2.1⟩) (AO.pair (AO.list 83 12 (fun(a:EN)=>.agg (Pm.BJ a)):AO Ty (List (Ty 83))) (AO.pair BN (AO.pair BN AO.unit)))
def Pv:AO Ty Fa:=AO.CY (fun x=>(x.P5,x.Qz,x.BG,x.Map,x.Hop,x.iM,x.SG,())) (fun p=>⟨p.1,p.2.1,p.2.2.1,p.2.2.2.1,p.2.2.2.2.1,p.2.2.2.2.2.1,p.2.2.2.2.2.2.1⟩) (AO.pair Oa (AO.pair Oa (AO.pair ML (AO.pair DL (AO.pair BN (AO.pair BN (AO.pair BN AO.unit)))))))
def vJ:AO Ty Z3K:=AO.CY (fun x=>(x.x0,x.x1,())) (fun p=>⟨p.1,p.2.1⟩) (AO.pair DL (AO.pair DL AO.unit))
def Vg:AO Ty Il:=AO.CY (fun x=>(x.CZ,x.Keys,x.Eg,x.Events,x.BR,x.BU,())) (fun p=>⟨p.1,p.2.1,p.2.2.1,p.2.2.2.1,p.2.2.2.2.1,p.2.2.2.2.2.1⟩) (AO.pair Pv (AO.pair vJ (AO.pair DL (AO.pair (AO.list 113 3 (fun(a:Em)=>.agg (Qp.BJ a)):AO Ty (List (Ty 113))) (AO.pair BN (AO.pair BN AO.unit))))))
def GV:AO Ty AL:=AO.CY (fun x=>(x.Kind,x.BG,x.Map,x.CP,x.Bq,x.Dx,x.CE,x.Mark,x.DK,x.Version,x.Length,())) (fun p=>⟨p.1,p.2.1,p.2.2.1,p.2.2.2.1,p.2.2.2.2.1,p.2.2.2.2.2.1,p.2.2.2.2.2.2.1,p.2.2.2.2.2.2.2.1,p.2.2.2.2.2.2.2.2.1,p.2.2.2.2.2.2.2.2.2.1,p.2.2.2.2.2.2.2.2.2.2.1⟩) (AO.pair BN (AO.pair ML (AO.pair DL (AO.pair O8 (AO.pair BN (AO.pair BN (AO.pair DL (AO.pair DL (AO.pair DL (AO.pair BN (AO.pair BN AO.unit)))))))))))
def HY:AO Ty BF:=AO.CY (fun x=>(x.Kind,x.CP,x.BG,x.Map,())) (fun p=>⟨p.1,p.2.1,p.2.2.1,p.2.2.2.1⟩) (AO.pair BN (AO.pair O8 (AO.pair ML (AO.pair DL AO.unit))))
def MQ:AO Ty BC:=AO.CY (fun x=>(x.Good,x.FN,())) (fun p=>⟨p.1,p.2.1⟩) (AO.pair BN (AO.pair BN AO.unit))
def NU:AO Ty Bd:=AO.CY (fun x=>(x.SN,x.Ee,x.Aq,x.Open,x.Empty,x.Ec,x.Taken,())) (fun p=>⟨p.1,p.2.1,p.2.2.1,p.2.2.2.1,p.2.2.2.2.1,p.2.2.2.2.2.1,p.2.2.2.2.2.2.1⟩) (AO.pair BN (AO.pair BN (AO.pair (AO.list 68 2 (fun(a:BB)=>.agg (II.BJ a)):AO Ty (List (Ty 68))) (AO.pair Dt (AO.pair Dt (AO.pair BN (AO.pair BN AO.unit)))))))
def RH:AO Ty Du:=AO.CY (fun x=>(x.Dq,x.SS,x.Full,())) (fun p=>⟨p.1,p.2.1,p.2.2.1⟩) (AO.pair BN (AO.pair BN (AO.pair Dt AO.unit)))
def Ih:AO Ty A7:=AO.CY (fun x=>(x.BR,x.Own,x.Since,x.Aa,x.Other,x.Gz,x.Ak,x.Told,x.DK,x.Ic,x.Fg,x.FX,x.Version,x.Length,x.Limit,x.CE,x.GK,x.Mark,x.CJ,x.ER,())) (fun p=>⟨p.1,p.2.1,p.2.2.1,p.2.2.2.1,p.2.2.2.2.1,p.2.2.2.2.2.1,p.2.2.2.2.2.2.1,p.2.2.2.2.2.2.2.1,p.2.2.2.2.2.2.2.2.1,p.2.2.2.2.2.2.2.2.2.1,p.2.2.2.2.2.2.2.2.2.2.1,p.2.2.2.2.2.2.2.2.2.2.2.1,p.2.2.2.2.2.2.2.2.2.2.2.2.1,p.2.2.2.2.2.2.2.2.2.2.2.2.2.1,p.2.2.2.2.2.2.2.2.2.2.2.2.2.2.1,p.2.2.2.2.2.2.2.2.2.2.2.2.2.2.2.1,p.2.2.2.2.2.2.2.2.2.2.2.2.2.2.2.2.1,p.2.2.2.2.2.2.2.2.2.2.2.2.2.2.2.2.2.1,p.2.2.2.2.2.2.2.2.2.2.2.2.2.2.2.2.2.2.1,p.2.2.2.2.2.2.2.2.2.2.2.2.2.2.2.2.2.2.2.1⟩) (AO.pair BN (AO.pair BN (AO.pair BN (AO.pair (AO.list 156 15 (fun(a:AL)=>.agg (GV.BJ a)):AO Ty (List (Ty 156))) (AO.pair BN (AO.pair BN (AO.pair (AO.list 138 8 (fun(a:BF)=>.agg (HY.BJ a)):AO Ty (List (Ty 138))) (AO.pair Dt (AO.pair DL (AO.pair DL (AO.pair Dt (AO.pair Dt (AO.pair BN (AO.pair BN (AO.pair BN (AO.pair DL (AO.pair DL (AO.pair DL (AO.pair BN (AO.pair BN AO.unit))))))))))))))))))))
def Vp:AO Ty Cm:=AO.CY (fun x=>(x.BR,x.Key,x.CE,x.Jq,x.Jl,x.Tx,x.Rx,())) (fun p=>⟨p.1,p.2.1,p.2.2.1,p.2.2.2.1,p.2.2.2.2.1,p.2.2.2.2.2.1,p.2.2.2.2.2.2.1⟩) (AO.pair BN (AO.pair DL (AO.pair DL (AO.pair Dt (AO.pair Dt (AO.pair DL (AO.pair DL AO.unit)))))))
def JC:AO Ty Ac:=AO.CY (fun x=>(x.BR,x.CZ,x.Clock,x.Event,x.Last,x.Fq,x.Size,x.Sync,x.Hf,x.Gq,x.Hm,x.Good,x.Ec,x.More,x.Ag,x.FZ,x.AB,x.Dk,x.Key,x.BI,x.Aw,x.Bq,x.Eg,())) (fun p=>⟨p.1,p.2.1,p.2.2.1,p.2.2.2.1,p.2.2.2.2.1,p.2.2.2.2.2.1,p.2.2.2.2.2.2.1,p.2.2.2.2.2.2.2.1,p.2.2.2.2.2.2.2.2.1,p.2.2.2.2.2.2.2.2.2.1,p.2.2.2.2.2.2.2.2.2.2.1,p.2.2.2.2.2.2.2.2.2.2.2.1,p.2.2.2.2.2.2.2.2.2.2.2.2.1,p.2.2.2.2.2.2.2.2.2.2.2.2.2.1,p.2.2.2.2.2.2.2.2.2.2.2.2.2.2.1,p.2.2.2.2.2.2.2.2.2.2.2.2.2.2.2.1,p.2.2.2.2.2.2.2.2.2.2.2.2.2.2.2.2.1,p.2.2.2.2.2.2.2.2.2.2.2.2.2.2.2.2.2.1,p.2.2.2.2.2.2.2.2.2.2.2.2.2.2.2.2.2.2.1,p.2.2.2.2.2.2.2.2.2.2.2.2.2.2.2.2.2.2.2.1,p.2.2.2.2.2.2.2.2.2.2.2.2.2.2.2.2.2.2.2.2.1,p.2.2.2.2.2.2.2.2.2.2.2.2.2.2.2.2.2.2.2.2.2.1,p.2.2.2.2.2.2.2.2.2.2.2.2.2.2.2.2.2.2.2.2.2.2.1⟩) (AO.pair BN (AO.pair Pv (AO.pair BN (AO.pair O8 (AO.pair BN (AO.pair BN (AO.pair BN (AO.pair BN (AO.pair BN (AO.pair Dt (AO.pair Dt (AO.pair Dt (AO.pair Dt (AO.pair Dt (AO.pair NU (AO.pair RH (AO.pair Ih (AO.pair Vp (AO.pair DL (AO.pair (AO.list 99 2 (fun(a:BC)=>.agg (MQ.BJ a)):AO Ty (List (Ty 99))) (AO.pair (AO.list 156 15 (fun(a:AL)=>.agg (GV.BJ a)):AO Ty (List (Ty 156))) (AO.pair BN (AO.pair DL AO.unit)))))))))))))))))))))))
def V4:AO Ty CS:=AO.CY (fun x=>(x.x0,x.x1,())) (fun p=>⟨p.1,p.2.1⟩) (AO.pair JC (AO.pair JC AO.unit))
def vN:AO Ty Ot:=AO.CY (fun x=>(x.Start,x.End,())) (fun p=>⟨p.1,p.2.1⟩) (AO.pair BN (AO.pair BN AO.unit))
def IZ:AO Ty BD:=AO.CY (fun x=>(x.Kind,x.Event,x.BU,x.ZDP,x.Number,x.BG,())) (fun p=>⟨p.1,p.2.1,p.2.2.1,p.2.2.2.1,p.2.2.2.2.1,p.2.2.2.2.2.1⟩) (AO.pair BN (AO.pair O8 (AO.pair II (AO.pair HY (AO.pair DL (AO.pair ML AO.unit))))))
def Qu:AO Ty Be:=AO.CY (fun x=>(x.SN,x.Ee,x.MD,x.BU,())) (fun p=>⟨p.1,p.2.1,p.2.2.1,p.2.2.2.1⟩) (AO.pair BN (AO.pair BN (AO.pair BN (AO.pair II AO.unit))))
def uN:AO Ty Bl:=AO.CY (fun x=>(x.Fg,x.BG,x.Map,x.CP,x.Bq,x.Dx,x.CE,x.Mark,x.DK,x.Version,x.Length,())) (fun p=>⟨p.1,p.2.1,p.2.2.1,p.2.2.2.1,p.2.2.2.2.1,p.2.2.2.2.2.1,p.2.2.2.2.2.2.1,p.2.2.2.2.2.2.2.1,p.2.2.2.2.2.2.2.2.1,p.2.2.2.2.2.2.2.2.2.1,p.2.2.2.2.2.2.2.2.2.2.1⟩) (AO.pair Dt (AO.pair Dt (AO.pair Dt (AO.pair Dt (AO.pair Dt (AO.pair Dt (AO.pair Dt (AO.pair Dt (AO.pair Dt (AO.pair Dt (AO.pair Dt AO.unit)))))))))))
def OX:AO Ty Fb:=AO.CY (fun x=>(x.TV,x.f_low,x.tN,())) (fun p=>⟨p.1,p.2.1,p.2.2.1⟩) (AO.pair BN (AO.pair BN (AO.pair BN AO.unit)))
def O0:AO Ty Eh:=AO.CY (fun x=>(x.Size,x.Value,())) (fun p=>⟨p.1,p.2.1⟩) (AO.pair BN (AO.pair DL AO.unit))
def uP:AO Ty J5:=AO.CY (fun x=>(x.x0,x.x1,())) (fun p=>⟨p.1,p.2.1⟩) (AO.pair Oa (AO.pair Oa AO.unit))
def ZeB:AO Ty Z2w:=AO.CY (fun x=>(x.SN,x.Ee,(),x.Open,x.Empty,x.Ec,x.Taken,())) (fun p=>⟨p.1,p.2.1,p.2.2.2.1,p.2.2.2.2.1,p.2.2.2.2.2.1,p.2.2.2.2.2.2.1⟩) (AO.pair BN (AO.pair BN (AO.pair AO.skip (AO.pair Dt (AO.pair Dt (AO.pair BN (AO.pair BN AO.unit)))))))
def Z4f:AO Ty Ye:=AO.CY (fun x=>(x.BR,x.Own,x.Since,(),x.Other,x.Gz,(),x.Told,x.DK,x.Ic,x.Fg,x.FX,x.Version,x.Length,x.Limit,x.CE,x.GK,x.Mark,x.CJ,x.ER,())) (fun p=>⟨p.1,p.2.1,p.2.2.1,p.2.2.2.2.1,p.2.2.2.2.2.1,p.2.2.2.2.2.2.2.1,p.2.2.2.2.2.2.2.2.1,p.2.2.2.2.2.2.2.2.2.1,p.2.2.2.2.2.2.2.2.2.2.1,p.2.2.2.2.2.2.2.2.2.2.2.1,p.2.2.2.2.2.2.2.2.2.2.2.2.1,p.2.2.2.2.2.2.2.2.2.2.2.2.2.1,p.2.2.2.2.2.2.2.2.2.2.2.2.2.2.1,p.2.2.2.2.2.2.2.2.2.2.2.2.2.2.2.1,p.2.2.2.2.2.2.2.2.2.2.2.2.2.2.2.2.1,p.2.2.2.2.2.2.2.2.2.2.2.2.2.2.2.2.2.1,p.2.2.2.2.2.2.2.2.2.2.2.2.2.2.2.2.2.2.1,p.2.2.2.2.2.2.2.2.2.2.2.2.2.2.2.2.2.2.2.1⟩) (AO.pair BN (AO.pair BN (AO.pair BN (AO.pair AO.skip (AO.pair BN (AO.pair BN (AO.pair AO.skip (AO.pair Dt (AO.pair DL (AO.pair DL (AO.pair Dt (AO.pair Dt (AO.pair BN (AO.pair BN (AO.pair BN (AO.pair DL (AO.pair DL (AO.pair DL (AO.pair BN (AO.pair BN AO.unit))))))))))))))))))))
def Zel:AO Ty Z22:=AO.CY (fun x=>(x.BR,x.CZ,x.Clock,x.Event,x.Last,x.Fq,x.Size,x.Sync,x.Hf,x.Gq,x.Hm,x.Good,x.Ec,x.More,x.Ag,x.FZ,x.AB,x.Dk,x.Key,(),(),x.Bq,x.Eg,())) (fun p=>⟨p.1,p.2.1,p.2.2.1,p.2.2.2.1,p.2.2.2.2.1,p.2.2.2.2.2.1,p.2.2.2.2.2.2.1,p.2.2.2.2.2.2.2.1,p.2.2.2.2.2.2.2.2.1,p.2.2.2.2.2.2.2.2.2.1,p.2.2.2.2.2.2.2.2.2.2.1,p.2.2.2.2.2.2.2.2.2.2.2.1,p.2.2.2.2.2.2.2.2.2.2.2.2.1,p.2.2.2.2.2.2.2.2.2.2.2.2.2.1,p.2.2.2.2.2.2.2.2.2.2.2.2.2.2.1,p.2.2.2.2.2.2.2.2.2.2.2.2.2.2.2.1,p.2.2.2.2.2.2.2.2.2.2.2.2.2.2.2.2.1,p.2.2.2.2.2.2.2.2.2.2.2.2.2.2.2.2.2.1,p.2.2.2.2.2.2.2.2.2.2.2.2.2.2.2.2.2.2.1,p.2.2.2.2.2.2.2.2.2.2.2.2.2.2.2.2.2.2.2.2.2.1,p.2.2.2.2.2.2.2.2.2.2.2.2.2.2.2.2.2.2.2.2.2.2.1⟩) (AO.pair BN (AO.pair Pv (AO.pair BN (AO.pair O8 (AO.pair BN (AO.pair BN (AO.pair BN (AO.pair BN (AO.pair BN (AO.pair Dt (AO.pair Dt (AO.pair Dt (AO.pair Dt (AO.pair Dt (AO.pair ZeB (AO.pair RH (AO.pair Z4f (AO.pair Vp (AO.pair DL (AO.pair AO.skip (AO.pair AO.skip (AO.pair BN (AO.pair DL AO.unit)))))))))))))))))))))))
def tY:AO Ty Nl:=AO.CY (fun x=>(x.Link,(),())) (fun p=>⟨p.1⟩) (AO.pair Zel (AO.pair AO.skip AO.unit))
def uA:AO Ty QM:=AO.CY (fun x=>(x.AB,x.KW,x.IE,(),(),())) (fun p=>⟨p.1,p.2.1,p.2.2.1⟩) (AO.pair Z4f (AO.pair O8 (AO.pair BN (AO.pair AO.skip (AO.pair AO.skip AO.unit)))))
def ZAQ:List V:=[.lit (.int .i64 5),.agg [.sl false 1 [],.fn 348 [] [],.fn 349 [] [],.fn 309 [] []],
 .lit (.int .i64 6),.agg [.sl false 1 [],.fn 348 [] [],.fn 349 [] [],.fn 309 [] []],
 .lit (.int .i64 18),.agg [.sl false 1 [],.fn 348 [] [],.fn 349 [] [],.fn 309 [] []],
 .lit (.int .i64 19),.agg [.sl false 1 [],.fn 348 [] [],.fn 349 [] [],.fn 309 [] []],
 .lit (.int .i64 8),.agg [.sl false 1 [.lit (.int .i64 8)],.fn 350 [] [],.fn 351 [] [],.fn 309 [] []],
 .lit (.int .i64 9),.agg [.sl false 1 [.lit (.int .i64 8)],.fn 350 [] [],.fn 351 [] [],.fn 309 [] []],
 .lit (.int .i64 20),.agg [.sl false 1 [.lit (.int .i64 1)],.fn 352 [] [],.fn 353 [] [],.fn 354 [] []],
 .lit (.int .i64 21),.agg [.sl false 1 [.lit (.int .i64 1)],.fn 352 [] [],.fn 353 [] [],.fn 354 [] []],
 .lit (.int .i64 0),.agg [.sl false 1 [.lit (.int .i64 1),.lit (.int .i64 2),.lit (.int .i64 2),.lit (.int .i64 2),.lit (.int .i64 2),.lit (.int .i64 2)],.fn 292 [] [],.fn 294 [] [],.fn 296 [] []],
 .lit (.int .i64 1),.agg [.sl false 1 [.lit (.int .i64 5),.lit (.int .i64 2)],.fn 297 [] [],.fn 298 [] [],.fn 299 [] []],
 .lit (.int .i64 15),.agg [.sl false 1 [.lit (.int .i64 1),.lit (.int .i64 2),.lit (.int .i64 2),.lit (.int .i64 2),.lit (.int .i64 2)],.fn 300 [] [],.fn 301 [] [],.fn 302 [] []],
 .lit (.int .i64 2),.agg [.sl false 1 [.lit (.int .i64 1)],.fn 303 [] [],.fn 304 [] [],.fn 305 [] []],
 .lit (.int .i64 3),.agg [.sl false 1 [.lit (.int .i64 8),.lit (.int .i64 8)],.fn 307 [] [],.fn 308 [] [],.fn 309 [] []],
 .lit (.int .i64 4),.agg [.sl false 1 [.lit (.int .i64 8)],.fn 310 [] [],.fn 311 [] [],.fn 309 [] []],
 .lit (.int .i64 7),.agg [.sl false 1 [.lit (.int .i64 1)],.fn 312 [] [],.fn 313 [] [],.fn 314 [] []],
 .lit (.int .i64 12),.agg [.sl false 1 [.lit (.int .i64 1)],.fn 315 [] [],.fn 316 [] [],.fn 317 [] []],
 .lit (.int .i64 13),.agg [.sl false 1 [.lit (.int .i64 1),.lit (.int .i64 1)],.fn 318 [] [],.fn 319 [] [],.fn 320 [] []]]
def ZCh:List (SV Ty):=[.lit (.int .i64 5),.agg [.sl 3 ([]:List Int),.fn 348 [] [],.fn 349 [] [],.fn 309 [] []],
 .lit (.int .i64 6),.agg [.sl 3 ([]:List Int),.fn 348 [] [],.fn 349 [] [],.fn 309 [] []],
 .lit (.int .i64 18),.agg [.sl 3 ([]:List Int),.fn 348 [] [],.fn 349 [] [],.fn 309 [] []],
 .lit (.int .i64 19),.agg [.sl 3 ([]:List Int),.fn 348 [] [],.fn 349 [] [],.fn 309 [] []],
 .lit (.int .i64 8),.agg [.sl 3 ([8]:List Int),.fn 350 [] [],.fn 351 [] [],.fn 309 [] []],
 .lit (.int .i64 9),.agg [.sl 3 ([8]:List Int),.fn 350 [] [],.fn 351 [] [],.fn 309 [] []],
 .lit (.int .i64 20),.agg [.sl 3 ([1]:List Int),.fn 352 [] [],.fn 353 [] [],.fn 354 [] []],
 .lit (.int .i64 21),.agg [.sl 3 ([1]:List Int),.fn 352 [] [],.fn 353 [] [],.fn 354 [] []],
 .lit (.int .i64 0),.agg [.sl 3 ([1,2,2,2,2,2]:List Int),.fn 292 [] [],.fn 294 [] [],.fn 296 [] []],
 .lit (.int .i64 1),.agg [.sl 3 ([5,2]:List Int),.fn 297 [] [],.fn 298 [] [],.fn 299 [] []],
 .lit (.int .i64 15),.agg [.sl 3 ([1,2,2,2,2]:List Int),.fn 300 [] [],.fn 301 [] [],.fn 302 [] []],
 .lit (.int .i64 2),.agg [.sl 3 ([1]:List Int),.fn 303 [] [],.fn 304 [] [],.fn 305 [] []],
 .lit (.int .i64 3),.agg [.sl 3 ([8,8]:List Int),.fn 307 [] [],.fn 308 [] [],.fn 309 [] []],
 .lit (.int .i64 4),.agg [.sl 3 ([8]:List Int),.fn 310 [] [],.fn 311 [] [],.fn 309 [] []],
 .lit (.int .i64 7),.agg [.sl 3 ([1]:List Int),.fn 312 [] [],.fn 313 [] [],.fn 314 [] []],
 .lit (.int .i64 12),.agg [.sl 3 ([1]:List Int),.fn 315 [] [],.fn 316 [] [],.fn 317 [] []],
 .lit (.int .i64 13),.agg [.sl 3 ([1,1]:List Int),.fn 318 [] [],.fn 319 [] [],.fn 320 [] []]]
@[reducible] def U:Cc where
 Ty:=Ty
 Ar:=fun t=>match t with
  | 4=>1
  | 5=>1
  | 83=>12
  | 113=>3
  | 59=>17
  | 68=>2
  | 156=>15
  | 138=>8
  | 99=>2
  | 44=>66
  | 3=>1
  | 60=>1
  | 45=>1
  | 46=>1
  | 31=>1
  | 39=>20
  | 36=>1
  | 62=>1
  | 37=>1
  | 42=>1
  | 109=>132
  | 110=>1
  | 28=>11
  | 29=>1
  | 25=>1
  | 52=>2
  | 33=>7
  | 35=>3
  | 24=>5
  | 26=>1
  | 226=>1
  | 63=>1
  | 148=>18
  | 77=>1
  | 86=>1
  | 78=>1
  | 70=>5
  | 75=>1
  | 71=>1
  | 120=>1
  | 104=>1
  | 30=>1
  | 22=>1
  | 189=>1
  | 262=>11
  | 41=>7
  | 129=>1
  | 135=>1
  | 140=>1
  | 208=>1
  | 216=>1
  | 269=>1
  | 222=>1
  | 9=>1
  | 254=>1
  | 163=>1
  | 231=>1
  | 233=>1
  | 237=>1
  | 174=>3
  | 240=>1
  | 256=>1
  | 252=>2
  | 253=>1
  | 312=>2
  | _=>0
 enc:=fun t=>match t with
  | 249=>fun(_:Unit)=>.GY ZAQ
  | 115=>fun(a:Nl)=>tY.NW 67 a
  | 206=>fun(a:QM)=>uA.NW 24 a
  | 4=>fun(a:Bool)=>Dt.BV a
  | 5=>fun(a:Int)=>Ej.BV a
  | 83=>fun(a:EN)=>.agg (Pm.BJ a)
  | 113=>fun(a:Em)=>.agg (Qp.BJ a)
  | 59=>fun(a:Il)=>.agg (Vg.BJ a)
  | 68=>fun(a:BB)=>.agg (II.BJ a)
  | 156=>fun(a:AL)=>.agg (GV.BJ a)
  | 138=>fun(a:BF)=>.agg (HY.BJ a)
  | 99=>fun(a:BC)=>.agg (MQ.BJ a)
  | 44=>fun(a:Ac)=>.agg (JC.BJ a)
  | 3=>fun(a:Int)=>BN.BV a
  | 60=>fun(a:Ac×Int×Bool)=>.BL [(.agg (JC.BJ a.1)),(BN.BV a.2.1),(Dt.BV a.2.2)]
  | 45=>fun(a:Int)=>BN.BV a
  | 46=>fun(a:Ac×Int)=>.BL [(.agg (JC.BJ a.1)),(BN.BV a.2)]
  | 31=>fun(a:List BB)=>((AO.list 68 2 (fun(a:BB)=>.agg (II.BJ a)):AO Ty (List (Ty 68)))).BV a
  | 39=>fun(a:A7)=>.agg (Ih.BJ a)
  | 36=>fun(a:List AL)=>((AO.list 156 15 (fun(a:AL)=>.agg (GV.BJ a)):AO Ty (List (Ty 156)))).BV a
  | 62=>fun(a:List Int)=>((AO.list 5 1 (fun(a:Int)=>Ej.BV a):AO Ty (List (Ty 5)))).BV a
  | 37=>fun(a:List BF)=>((AO.list 138 8 (fun(a:BF)=>.agg (HY.BJ a)):AO Ty (List (Ty 138)))).BV a
  | 42=>fun(a:List BC)=>((AO.list 99 2 (fun(a:BC)=>.agg (MQ.BJ a)):AO Ty (List (Ty 99)))).BV a
  | 109=>fun(a:CS)=>.agg (V4.BJ a)
  | 110=>fun(a:CS×Int)=>.BL [(.agg (V4.BJ a.1)),(BN.BV a.2)]
  | 28=>fun(a:Fa)=>.agg (Pv.BJ a)
  | 29=>fun(a:Int)=>DL.BV a
  | 25=>fun(a:Int)=>DL.BV a
  | 52=>fun(a:Ot)=>.agg (vN.BJ a)
  | 33=>fun(a:Bd)=>.agg (NU.BJ a)
  | 35=>fun(a:Du)=>.agg (RH.BJ a)
  | 24=>fun(a:DT)=>.agg (ML.BJ a)
  | 26=>fun(a:Int)=>DL.BV a
  | 226=>fun(a:List Int)=>((AO.list 3 1 (fun(a:Int)=>BN.BV a):AO Ty (List (Ty 3)))).BV a
  | 63=>fun(a:Ac×(List Int))=>.BL [(.agg (JC.BJ a.1)),(((AO.list 5 1 (fun(a:Int)=>Ej.BV a):AO Ty (List (Ty 5)))).BV a.2)]
  | 148=>fun(a:BD)=>.agg (IZ.BJ a)
  | 77=>fun(a:List BD)=>((AO.list 148 18 (fun(a:BD)=>.agg (IZ.BJ a)):AO Ty (List (Ty 148)))).BV a
  | 86=>fun(a:Ac×(List BD)×Bool)=>.BL [(.agg (JC.BJ a.1)),(((AO.list 148 18 (fun(a:BD)=>.agg (IZ.BJ a)):AO Ty (List (Ty 148)))).BV a.2.1),(Dt.BV a.2.2)]
  | 78=>fun(a:Ac×(List BD))=>.BL [(.agg (JC.BJ a.1)),(((AO.list 148 18 (fun(a:BD)=>.agg (IZ.BJ a)):AO Ty (List (Ty 148)))).BV a.2)]
  | 70=>fun(a:Be)=>.agg (Qu.BJ a)
  | 75=>fun(a:Bd×Be)=>.BL [(.agg (NU.BJ a.1)),(.agg (Qu.BJ a.2))]
  | 71=>fun(a:Be×Int)=>.BL [(.agg (Qu.BJ a.1)),(BN.BV a.2)]
  | 120=>fun(a:(List Int)×Int)=>.BL [(((AO.list 5 1 (fun(a:Int)=>Ej.BV a):AO Ty (List (Ty 5)))).BV a.1),(BN.BV a.2)]
  | 104=>fun(a:Int×Int)=>.BL [(BN.BV a.1),(BN.BV a.2)]
  | 30=>fun(a:Int)=>O8.BV a
  | 22=>fun(a:Int)=>Oa.BV a
  | 189=>fun(a:Bd×Int)=>.BL [(.agg (NU.BJ a.1)),(BN.BV a.2)]
  | 262=>fun(a:Bl)=>.agg (uN.BJ a)
  | 41=>fun(a:Cm)=>.agg (Vp.BJ a)
  | 129=>fun(a:Du×Int)=>.BL [(.agg (RH.BJ a.1)),(BN.BV a.2)]
  | 135=>fun(a:A7×(List BF))=>.BL [(.agg (Ih.BJ a.1)),(((AO.list 138 8 (fun(a:BF)=>.agg (HY.BJ a)):AO Ty (List (Ty 138)))).BV a.2)]
  | 140=>fun(a:A7×(List AL))=>.BL [(.agg (Ih.BJ a.1)),(((AO.list 156 15 (fun(a:AL)=>.agg (GV.BJ a)):AO Ty (List (Ty 156)))).BV a.2)]
  | 208=>fun(a:(List BF)×(List BF))=>.BL [(((AO.list 138 8 (fun(a:BF)=>.agg (HY.BJ a)):AO Ty (List (Ty 138)))).BV a.1),(((AO.list 138 8 (fun(a:BF)=>.agg (HY.BJ a)):AO Ty (List (Ty 138)))).BV a.2)]
  | 216=>fun(a:A7×AL)=>.BL [(.agg (Ih.BJ a.1)),(.agg (GV.BJ a.2))]
  | 269=>fun(a:(List BF)×Int)=>.BL [(((AO.list 138 8 (fun(a:BF)=>.agg (HY.BJ a)):AO Ty (List (Ty 138)))).BV a.1),(BN.BV a.2)]
  | 222=>fun(a:A7×(List AL)×Int)=>.BL [(.agg (Ih.BJ a.1)),(((AO.list 156 15 (fun(a:AL)=>.agg (GV.BJ a)):AO Ty (List (Ty 156)))).BV a.2.1),(BN.BV a.2.2)]
  | 9=>fun(a:ByteArray)=>cst.BV a
  | 254=>fun(a:List Int)=>((AO.list 25 1 (fun(a:Int)=>DL.BV a):AO Ty (List (Ty 25)))).BV a
  | 163=>fun(a:Bd×BB×Bool×Bool)=>.BL [(.agg (NU.BJ a.1)),(.agg (II.BJ a.2.1)),(Dt.BV a.2.2.1),(Dt.BV a.2.2.2)]
  | 231=>fun(a:AL×Int)=>.BL [(.agg (GV.BJ a.1)),(BN.BV a.2)]
  | 233=>fun(a:A7×(List BD))=>.BL [(.agg (Ih.BJ a.1)),(((AO.list 148 18 (fun(a:BD)=>.agg (IZ.BJ a)):AO Ty (List (Ty 148)))).BV a.2)]
  | 237=>fun(a:A7×(List AL)×(List BD))=>.BL [(.agg (Ih.BJ a.1)),(((AO.list 156 15 (fun(a:AL)=>.agg (GV.BJ a)):AO Ty (List (Ty 156)))).BV a.2.1),(((AO.list 148 18 (fun(a:BD)=>.agg (IZ.BJ a)):AO Ty (List (Ty 148)))).BV a.2.2)]
  | 174=>fun(a:Fb)=>.agg (OX.BJ a)
  | 240=>fun(a:List Fb)=>((AO.list 174 3 (fun(a:Fb)=>.agg (OX.BJ a)):AO Ty (List (Ty 174)))).BV a
  | 256=>fun(a:List (List Int))=>((AO.list 62 1 (fun(a:List Int)=>((AO.list 5 1 (fun(a:Int)=>Ej.BV a):AO Ty (List (Ty 5)))).BV a):AO Ty (List (Ty 62)))).BV a
  | 252=>fun(a:Eh)=>.agg (O0.BJ a)
  | 253=>fun(a:List Eh)=>((AO.list 252 2 (fun(a:Eh)=>.agg (O0.BJ a)):AO Ty (List (Ty 252)))).BV a
  | 312=>fun(a:J5)=>.agg (uP.BJ a)
  | _=>fun _=>.no
 encS:=fun t=>match t with
  | 249=>fun(_:Unit)=>.Og ZCh
  | 115=>fun(a:Nl)=>.raw (tY.NW 67 a)
  | 206=>fun(a:QM)=>.raw (uA.NW 24 a)
  | 4=>fun(a:Bool)=>Dt.DV a
  | 5=>fun(a:Int)=>Ej.DV a
  | 83=>fun(a:EN)=>.agg (Pm.encS a)
  | 113=>fun(a:Em)=>.agg (Qp.encS a)
  | 59=>fun(a:Il)=>.agg (Vg.encS a)
  | 68=>fun(a:BB)=>.agg (II.encS a)
  | 156=>fun(a:AL)=>.agg (GV.encS a)
  | 138=>fun(a:BF)=>.agg (HY.encS a)
  | 99=>fun(a:BC)=>.agg (MQ.encS a)
  | 44=>fun(a:Ac)=>.agg (JC.encS a)
  | 3=>fun(a:Int)=>BN.DV a
  | 60=>fun(a:Ac×Int×Bool)=>.BL [(.agg (JC.encS a.1)),(BN.DV a.2.1),(Dt.DV a.2.2)]
  | 45=>fun(a:Int)=>BN.DV a
  | 46=>fun(a:Ac×Int)=>.BL [(.agg (JC.encS a.1)),(BN.DV a.2)]
  | 31=>fun(a:List BB)=>((AO.list 68 2 (fun(a:BB)=>.agg (II.BJ a)):AO Ty (List (Ty 68)))).DV a
  | 39=>fun(a:A7)=>.agg (Ih.encS a)
  | 36=>fun(a:List AL)=>((AO.list 156 15 (fun(a:AL)=>.agg (GV.BJ a)):AO Ty (List (Ty 156)))).DV a
  | 62=>fun(a:List Int)=>((AO.list 5 1 (fun(a:Int)=>Ej.BV a):AO Ty (List (Ty 5)))).DV a
  | 37=>fun(a:List BF)=>((AO.list 138 8 (fun(a:BF)=>.agg (HY.BJ a)):AO Ty (List (Ty 138)))).DV a
  | 42=>fun(a:List BC)=>((AO.list 99 2 (fun(a:BC)=>.agg (MQ.BJ a)):AO Ty (List (Ty 99)))).DV a
  | 109=>fun(a:CS)=>.agg (V4.encS a)
  | 110=>fun(a:CS×Int)=>.BL [(.agg (V4.encS a.1)),(BN.DV a.2)]
  | 28=>fun(a:Fa)=>.agg (Pv.encS a)
  | 29=>fun(a:Int)=>DL.DV a
  | 25=>fun(a:Int)=>DL.DV a
  | 52=>fun(a:Ot)=>.agg (vN.encS a)
  | 33=>fun(a:Bd)=>.agg (NU.encS a)
  | 35=>fun(a:Du)=>.agg (RH.encS a)
  | 24=>fun(a:DT)=>.agg (ML.encS a)
  | 26=>fun(a:Int)=>DL.DV a
  | 226=>fun(a:List Int)=>((AO.list 3 1 (fun(a:Int)=>BN.BV a):AO Ty (List (Ty 3)))).DV a
  | 63=>fun(a:Ac×(List Int))=>.BL [(.agg (JC.encS a.1)),(((AO.list 5 1 (fun(a:Int)=>Ej.BV a):AO Ty (List (Ty 5)))).DV a.2)]
  | 148=>fun(a:BD)=>.agg (IZ.encS a)
  | 77=>fun(a:List BD)=>((AO.list 148 18 (fun(a:BD)=>.agg (IZ.BJ a)):AO Ty (List (Ty 148)))).DV a
  | 86=>fun(a:Ac×(List BD)×Bool)=>.BL [(.agg (JC.encS a.1)),(((AO.list 148 18 (fun(a:BD)=>.agg (IZ.BJ a)):AO Ty (List (Ty 148)))).DV a.2.1),(Dt.DV a.2.2)]
  | 78=>fun(a:Ac×(List BD))=>.BL [(.agg (JC.encS a.1)),(((AO.list 148 18 (fun(a:BD)=>.agg (IZ.BJ a)):AO Ty (List (Ty 148)))).DV a.2)]
  | 70=>fun(a:Be)=>.agg (Qu.encS a)
  | 75=>fun(a:Bd×Be)=>.BL [(.agg (NU.encS a.1)),(.agg (Qu.encS a.2))]
  | 71=>fun(a:Be×Int)=>.BL [(.agg (Qu.encS a.1)),(BN.DV a.2)]
  | 120=>fun(a:(List Int)×Int)=>.BL [(((AO.list 5 1 (fun(a:Int)=>Ej.BV a):AO Ty (List (Ty 5)))).DV a.1),(BN.DV a.2)]
  | 104=>fun(a:Int×Int)=>.BL [(BN.DV a.1),(BN.DV a.2)]
  | 30=>fun(a:Int)=>O8.DV a
  | 22=>fun(a:Int)=>Oa.DV a
  | 189=>fun(a:Bd×Int)=>.BL [(.agg (NU.encS a.1)),(BN.DV a.2)]
  | 262=>fun(a:Bl)=>.agg (uN.encS a)
  | 41=>fun(a:Cm)=>.agg (Vp.encS a)
  | 129=>fun(a:Du×Int)=>.BL [(.agg (RH.encS a.1)),(BN.DV a.2)]
  | 135=>fun(a:A7×(List BF))=>.BL [(.agg (Ih.encS a.1)),(((AO.list 138 8 (fun(a:BF)=>.agg (HY.BJ a)):AO Ty (List (Ty 138)))).DV a.2)]
  | 140=>fun(a:A7×(List AL))=>.BL [(.agg (Ih.encS a.1)),(((AO.list 156 15 (fun(a:AL)=>.agg (GV.BJ a)):AO Ty (List (Ty 156)))).DV a.2)]
  | 208=>fun(a:(List BF)×(List BF))=>.BL [(((AO.list 138 8 (fun(a:BF)=>.agg (HY.BJ a)):AO Ty (List (Ty 138)))).DV a.1),(((AO.list 138 8 (fun(a:BF)=>.agg (HY.BJ a)):AO Ty (List (Ty 138)))).DV a.2)]
  | 216=>fun(a:A7×AL)=>.BL [(.agg (Ih.encS a.1)),(.agg (GV.encS a.2))]
  | 269=>fun(a:(List BF)×Int)=>.BL [(((AO.list 138 8 (fun(a:BF)=>.agg (HY.BJ a)):AO Ty (List (Ty 138)))).DV a.1),(BN.DV a.2)]
  | 222=>fun(a:A7×(List AL)×Int)=>.BL [(.agg (Ih.encS a.1)),(((AO.list 156 15 (fun(a:AL)=>.agg (GV.BJ a)):AO Ty (List (Ty 156)))).DV a.2.1),(BN.DV a.2.2)]
  | 9=>fun(a:ByteArray)=>cst.DV a
  | 254=>fun(a:List Int)=>((AO.list 25 1 (fun(a:Int)=>DL.BV a):AO Ty (List (Ty 25)))).DV a
  | 163=>fun(a:Bd×BB×Bool×Bool)=>.BL [(.agg (NU.encS a.1)),(.agg (II.encS a.2.1)),(Dt.DV a.2.2.1),(Dt.DV a.2.2.2)]
  | 231=>fun(a:AL×Int)=>.BL [(.agg (GV.encS a.1)),(BN.DV a.2)]
  | 233=>fun(a:A7×(List BD))=>.BL [(.agg (Ih.encS a.1)),(((AO.list 148 18 (fun(a:BD)=>.agg (IZ.BJ a)):AO Ty (List (Ty 148)))).DV a.2)]
  | 237=>fun(a:A7×(List AL)×(List BD))=>.BL [(.agg (Ih.encS a.1)),(((AO.list 156 15 (fun(a:AL)=>.agg (GV.BJ a)):AO Ty (List (Ty 156)))).DV a.2.1),(((AO.list 148 18 (fun(a:BD)=>.agg (IZ.BJ a)):AO Ty (List (Ty 148)))).DV a.2.2)]
  | 174=>fun(a:Fb)=>.agg (OX.encS a)
  | 240=>fun(a:List Fb)=>((AO.list 174 3 (fun(a:Fb)=>.agg (OX.BJ a)):AO Ty (List (Ty 174)))).DV a
  | 256=>fun(a:List (List Int))=>((AO.list 62 1 (fun(a:List Int)=>((AO.list 5 1 (fun(a:Int)=>Ej.BV a):AO Ty (List (Ty 5)))).BV a):AO Ty (List (Ty 62)))).DV a
  | 252=>fun(a:Eh)=>.agg (O0.encS a)
  | 253=>fun(a:List Eh)=>((AO.list 252 2 (fun(a:Eh)=>.agg (O0.BJ a)):AO Ty (List (Ty 252)))).DV a
  | 312=>fun(a:J5)=>.agg (uP.encS a)
  | _=>fun _=>.no
 Gv:=fun t=>match t with
  | 115=>fun v=>tY.uZ 67 v
  | 206=>fun v=>uA.uZ 24 v
  | 4=>fun v=>Dt.one v
  | 5=>fun v=>Ej.one v
  | 83=>fun v=>Pm.agg v
  | 113=>fun v=>Qp.agg v
  | 59=>fun v=>Vg.agg v
  | 68=>fun v=>II.agg v
  | 156=>fun v=>GV.agg v
  | 138=>fun v=>HY.agg v
  | 99=>fun v=>MQ.agg v
  | 44=>fun v=>JC.agg v
  | 3=>fun v=>BN.one v
  | 60=>fun _=>none
  | 45=>fun v=>BN.one v
  | 46=>fun _=>none
  | 31=>fun v=>((AO.list 68 2 (fun(a:BB)=>.agg (II.BJ a)):AO Ty (List (Ty 68)))).one v
  | 39=>fun v=>Ih.agg v
  | 36=>fun v=>((AO.list 156 15 (fun(a:AL)=>.agg (GV.BJ a)):AO Ty (List (Ty 156)))).one v
  | 62=>fun v=>((AO.list 5 1 (fun(a:Int)=>Ej.BV a):AO Ty (List (Ty 5)))).one v
  | 37=>fun v=>((AO.list 138 8 (fun(a:BF)=>.agg (HY.BJ a)):AO Ty (List (Ty 138)))).one v
  | 42=>fun v=>((AO.list 99 2 (fun(a:BC)=>.agg (MQ.BJ a)):AO Ty (List (Ty 99)))).one v
  | 109=>fun v=>V4.agg v
  | 110=>fun _=>none
  | 28=>fun v=>Pv.agg v
  | 29=>fun v=>DL.one v
  | 25=>fun v=>DL.one v
  | 52=>fun v=>vN.agg v
  | 33=>fun v=>NU.agg v
  | 35=>fun v=>RH.agg v
  | 24=>fun v=>ML.agg v
  | 26=>fun v=>DL.one v
  | 226=>fun v=>((AO.list 3 1 (fun(a:Int)=>BN.BV a):AO Ty (List (Ty 3)))).one v
  | 63=>fun _=>none
  | 148=>fun v=>IZ.agg v
  | 77=>fun v=>((AO.list 148 18 (fun(a:BD)=>.agg (IZ.BJ a)):AO Ty (List (Ty 148)))).one v
  | 86=>fun _=>none
  | 78=>fun _=>none
  | 70=>fun v=>Qu.agg v
  | 75=>fun _=>none
  | 71=>fun _=>none
  | 120=>fun _=>none
  | 104=>fun _=>none
  | 30=>fun v=>O8.one v
  | 22=>fun v=>Oa.one v
  | 189=>fun _=>none
  | 262=>fun v=>uN.agg v
  | 41=>fun v=>Vp.agg v
  | 129=>fun _=>none
  | 135=>fun _=>none
  | 140=>fun _=>none
  | 208=>fun _=>none
  | 216=>fun _=>none
  | 269=>fun _=>none
  | 222=>fun _=>none
  | 9=>fun v=>cst.one v
  | 254=>fun v=>((AO.list 25 1 (fun(a:Int)=>DL.BV a):AO Ty (List (Ty 25)))).one v
  | 163=>fun _=>none
  | 231=>fun _=>none
  | 233=>fun _=>none
  | 237=>fun _=>none
  | 174=>fun v=>OX.agg v
  | 240=>fun v=>((AO.list 174 3 (fun(a:Fb)=>.agg (OX.BJ a)):AO Ty (List (Ty 174)))).one v
  | 256=>fun v=>((AO.list 62 1 (fun(a:List Int)=>((AO.list 5 1 (fun(a:Int)=>Ej.BV a):AO Ty (List (Ty 5)))).BV a):AO Ty (List (Ty 62)))).one v
  | 252=>fun v=>O0.agg v
  | 253=>fun v=>((AO.list 252 2 (fun(a:Eh)=>.agg (O0.BJ a)):AO Ty (List (Ty 252)))).one v
  | 312=>fun v=>uP.agg v
  | _=>fun _=>none
 keys:=[115,206,4,5,83,113,59,68,156,138,99,44,3,60,45,46,31,39,36,62,37,42,109,110,28,29,25,52,33,35,24,26,226,63,148,77,86,78,70,75,71,120,104,30,22,189,262,41,129,135,140,208,216,269,222,9,254,163,231,233,237,174,240,256,252,253,312]
theorem Qh:A8 U II [0,1]:=A8.CY ((A8.int _).pair ((A8.list (U:=U) (t:=5) (n:=1) (e:=fun(a:Int)=>Ej.BV a) (fun _=>rfl) rfl (fun a=>(A8.int _:A8 U Ej _).Ql a) (fun a b h=>(A8.int _:A8 U Ej _).Qb h)).pair A8.unit)) (fun _=>rfl) (fun _=>rfl)
theorem VY:A8 U ML [0,0,0,0,0]:=A8.CY ((A8.int _).pair ((A8.int _).pair ((A8.int _).pair ((A8.int _).pair ((A8.int _).pair A8.unit))))) (fun _=>rfl) (fun _=>rfl)
theorem Z44:A8 U Pm [0,0,0,1,0,0,0,0,0,0,0,0]:=A8.CY ((A8.int _).pair ((A8.int _).pair ((Qh).pair ((VY).pair ((A8.int _).pair ((A8.int _).pair ((A8.int _).pair A8.unit))))))) (fun _=>rfl) (fun _=>rfl)
theorem Z3s:A8 U Qp [12,0,0]:=A8.CY ((A8.list (U:=U) (t:=83) (n:=12) (e:=fun(a:EN)=>.agg (Pm.BJ a)) (fun _=>rfl) rfl (fun a=>Z44.nr a) (fun a b h=>Z44.inj _ _ (by injection h))).pair ((A8.int _).pair ((A8.int _).pair A8.unit))) (fun _=>rfl) (fun _=>rfl)
theorem uB:A8 U Pv [0,0,0,0,0,0,0,0,0,0,0]:=A8.CY ((A8.int _).pair ((A8.int _).pair ((VY).pair ((A8.int _).pair ((A8.int _).pair ((A8.int _).pair ((A8.int _).pair A8.unit))))))) (fun _=>rfl) (fun _=>rfl)
theorem ZCX:A8 U vJ [0,0]:=A8.CY ((A8.int _).pair ((A8.int _).pair A8.unit)) (fun _=>rfl) (fun _=>rfl)
theorem ZEi:A8 U Vg [0,0,0,0,0,0,0,0,0,0,0,0,0,0,3,0,0]:=A8.CY ((uB).pair ((ZCX).pair ((A8.int _).pair ((A8.list (U:=U) (t:=113) (n:=3) (e:=fun(a:Em)=>.agg (Qp.BJ a)) (fun _=>rfl) rfl (fun a=>Z3s.nr a) (fun a b h=>Z3s.inj _ _ (by injection h))).pair ((A8.int _).pair ((A8.int _).pair A8.unit)))))) (fun _=>rfl) (fun _=>rfl)
theorem SY:A8 U GV [0,0,0,0,0,0,0,0,0,0,0,0,0,0,0]:=A8.CY ((A8.int _).pair ((VY).pair ((A8.int _).pair ((A8.int _).pair ((A8.int _).pair ((A8.int _).pair ((A8.int _).pair ((A8.int _).pair ((A8.int _).pair ((A8.int _).pair ((A8.int _).pair A8.unit))))))))))) (fun _=>rfl) (fun _=>rfl)
theorem VN:A8 U HY [0,0,0,0,0,0,0,0]:=A8.CY ((A8.int _).pair ((A8.int _).pair ((VY).pair ((A8.int _).pair A8.unit)))) (fun _=>rfl) (fun _=>rfl)
theorem fB:A8 U MQ [0,0]:=A8.CY ((A8.int _).pair ((A8.int _).pair A8.unit)) (fun _=>rfl) (fun _=>rfl)
theorem ZdU:A8 U NU [0,0,2,0,0,0,0]:=A8.CY ((A8.int _).pair ((A8.int _).pair ((A8.list (U:=U) (t:=68) (n:=2) (e:=fun(a:BB)=>.agg (II.BJ a)) (fun _=>rfl) rfl (fun a=>Qh.nr a) (fun a b h=>Qh.inj _ _ (by injection h))).pair ((A8.bool).pair ((A8.bool).pair ((A8.int _).pair ((A8.int _).pair A8.unit))))))) (fun _=>rfl) (fun _=>rfl)
theorem Z3P:A8 U RH [0,0,0]:=A8.CY ((A8.int _).pair ((A8.int _).pair ((A8.bool).pair A8.unit))) (fun _=>rfl) (fun _=>rfl)
theorem Zej:A8 U Ih [0,0,0,15,0,0,8,0,0,0,0,0,0,0,0,0,0,0,0,0]:=A8.CY ((A8.int _).pair ((A8.int _).pair ((A8.int _).pair ((A8.list (U:=U) (t:=156) (n:=15) (e:=fun(a:AL)=>.agg (GV.BJ a)) (fun _=>rfl) rfl (fun a=>SY.nr a) (fun a b h=>SY.inj _ _ (by injection h))).pair ((A8.int _).pair ((A8.int _).pair ((A8.list (U:=U) (t:=138) (n:=8) (e:=fun(a:BF)=>.agg (HY.BJ a)) (fun _=>rfl) rfl (fun a=>VN.nr a) (fun a b h=>VN.inj _ _ (by injection h))).pair ((A8.bool).pair ((A8.int _).pair ((A8.int _).pair ((A8.bool).pair ((A8.bool).pair ((A8.int _).pair ((A8.int _).pair ((A8.int _).pair ((A8.int _).pair ((A8.int _).pair ((A8.int _).pair ((A8.int _).pair ((A8.int _).pair A8.unit)))))))))))))))))))) (fun _=>rfl) (fun _=>rfl)
theorem Z3S:A8 U Vp [0,0,0,0,0,0,0]:=A8.CY ((A8.int _).pair ((A8.int _).pair ((A8.int _).pair ((A8.bool).pair ((A8.bool).pair ((A8.int _).pair ((A8.int _).pair A8.unit))))))) (fun _=>rfl) (fun _=>rfl)
theorem Z3Q:A8 U JC [0,0,0,0,0,0,0,0,0,0,0,0,0,0,0,0,0,0,0,0,0,0,0,0,0,0,2,0,0,0,0,0,0,0,0,0,0,15,0,0,8,0,0,0,0,0,0,0,0,0,0,0,0,0,0,0,0,0,0,0,0,0,2,15,0,0]:=A8.CY ((A8.int _).pair ((uB).pair ((A8.int _).pair ((A8.int _).pair ((A8.int _).pair ((A8.int _).pair ((A8.int _).pair ((A8.int _).pair ((A8.int _).pair ((A8.bool).pair ((A8.bool).pair ((A8.bool).pair ((A8.bool).pair ((A8.bool).pair ((ZdU).pair ((Z3P).pair ((Zej).pair ((Z3S).pair ((A8.int _).pair ((A8.list (U:=U) (t:=99) (n:=2) (e:=fun(a:BC)=>.agg (MQ.BJ a)) (fun _=>rfl) rfl (fun a=>fB.nr a) (fun a b h=>fB.inj _ _ (by injection h))).pair ((A8.list (U:=U) (t:=156) (n:=15) (e:=fun(a:AL)=>.agg (GV.BJ a)) (fun _=>rfl) rfl (fun a=>SY.nr a) (fun a b h=>SY.inj _ _ (by injection h))).pair ((A8.int _).pair ((A8.int _).pair A8.unit))))))))))))))))))))))) (fun _=>rfl) (fun _=>rfl)
theorem ZBk:A8 U V4 [0,0,0,0,0,0,0,0,0,0,0,0,0,0,0,0,0,0,0,0,0,0,0,0,0,0,2,0,0,0,0,0,0,0,0,0,0,15,0,0,8,0,0,0,0,0,0,0,0,0,0,0,0,0,0,0,0,0,0,0,0,0,2,15,0,0,0,0,0,0,0,0,0,0,0,0,0,0,0,0,0,0,0,0,0,0,0,0,0,0,0,0,2,0,0,0,0,0,0,0,0,0,0,15,0,0,8,0,0,0,0,0,0,0,0,0,0,0,0,0,0,0,0,0,0,0,0,0,2,15,0,0]:=A8.CY ((Z3Q).pair ((Z3Q).pair A8.unit)) (fun _=>rfl) (fun _=>rfl)
theorem ZDA:A8 U vN [0,0]:=A8.CY ((A8.int _).pair ((A8.int _).pair A8.unit)) (fun _=>rfl) (fun _=>rfl)
theorem Z3l:A8 U IZ [0,0,0,1,0,0,0,0,0,0,0,0,0,0,0,0,0,0]:=A8.CY ((A8.int _).pair ((A8.int _).pair ((Qh).pair ((VN).pair ((A8.int _).pair ((VY).pair A8.unit)))))) (fun _=>rfl) (fun _=>rfl)
theorem ZDc:A8 U Qu [0,0,0,0,1]:=A8.CY ((A8.int _).pair ((A8.int _).pair ((A8.int _).pair ((Qh).pair A8.unit)))) (fun _=>rfl) (fun _=>rfl)
theorem ZCj:A8 U uN [0,0,0,0,0,0,0,0,0,0,0]:=A8.CY ((A8.bool).pair ((A8.bool).pair ((A8.bool).pair ((A8.bool).pair ((A8.bool).pair ((A8.bool).pair ((A8.bool).pair ((A8.bool).pair ((A8.bool).pair ((A8.bool).pair ((A8.bool).pair A8.unit))))))))))) (fun _=>rfl) (fun _=>rfl)
theorem Z3D:A8 U OX [0,0,0]:=A8.CY ((A8.int _).pair ((A8.int _).pair ((A8.int _).pair A8.unit))) (fun _=>rfl) (fun _=>rfl)
theorem Z3B:A8 U O0 [0,0]:=A8.CY ((A8.int _).pair ((A8.int _).pair A8.unit)) (fun _=>rfl) (fun _=>rfl)
theorem ZB9:A8 U uP [0,0]:=A8.CY ((A8.int _).pair ((A8.int _).pair A8.unit)) (fun _=>rfl) (fun _=>rfl)
theorem rows4:rowsOf Tryz.prog 4=[0]:=by kernel_rfl
abbrev RE (E:Env):Prop:=E.rows=rowsOf Tryz.prog
theorem fH {E} (q:RE E):CB U E 4:=.He (c:=Dt) (A8.bool) ((congrFun q 4).trans rows4) (fun h=>ZC8 h) (fun _=>rfl) (fun _=>rfl) (fun _=>rfl) (fun _=>rfl) (fun _=>rfl)
theorem rows5:rowsOf Tryz.prog 5=[0]:=by kernel_rfl
theorem tyok5 {E} (q:RE E):CB U E 5:=.He (c:=Ej) (A8.int _) ((congrFun q 5).trans rows5) (fun h=>Qd h) (fun _=>rfl) (fun _=>rfl) (fun _=>rfl) (fun _=>rfl) (fun _=>rfl)
theorem ZCO:rowsOf Tryz.prog 83=[0,0,0,1,0,0,0,0,0,0,0,0]:=by kernel_rfl
theorem ZEe {E} (q:RE E):CB U E 83:=.Gp Z44 ((congrFun q 83).trans ZCO) (fun _=>rfl) (fun _=>rfl) (fun _=>rfl)
theorem ZB4:rowsOf Tryz.prog 113=[12,0,0]:=by kernel_rfl
theorem ZBs {E} (q:RE E):CB U E 113:=.Gp Z3s ((congrFun q 113).trans ZB4) (fun _=>rfl) (fun _=>rfl) (fun _=>rfl)
theorem ZDm:rowsOf Tryz.prog 59=[0,0,0,0,0,0,0,0,0,0,0,0,0,0,3,0,0]:=by kernel_rfl
theorem ZEr {E} (q:RE E):CB U E 59:=.Gp ZEi ((congrFun q 59).trans ZDm) (fun _=>rfl) (fun _=>rfl) (fun _=>rfl)
theorem ZCZ:rowsOf Tryz.prog 68=[0,1]:=by kernel_rfl
theorem Zeb {E} (q:RE E):CB U E 68:=.Gp Qh ((congrFun q 68).trans ZCZ) (fun _=>rfl) (fun _=>rfl) (fun _=>rfl)
theorem ZCu:rowsOf Tryz.prog 156=[0,0,0,0,0,0,0,0,0,0,0,0,0,0,0]:=by kernel_rfl
theorem Z3z {E} (q:RE E):CB U E 156:=.Gp SY ((congrFun q 156).trans ZCu) (fun _=>rfl) (fun _=>rfl) (fun _=>rfl)
theorem ZBT:rowsOf Tryz.prog 138=[0,0,0,0,0,0,0,0]:=by kernel_rfl
theorem ZBZ {E} (q:RE E):CB U E 138:=.Gp VN ((congrFun q 138).trans ZBT) (fun _=>rfl) (fun _=>rfl) (fun _=>rfl)
theorem ZEC:rowsOf Tryz.prog 99=[0,0]:=by kernel_rfl
theorem ZCS {E} (q:RE E):CB U E 99:=.Gp fB ((congrFun q 99).trans ZEC) (fun _=>rfl) (fun _=>rfl) (fun _=>rfl)
theorem ZEu:rowsOf Tryz.prog 44=[0,0,0,0,0,0,0,0,0,0,0,0,0,0,0,0,0,0,0,0,0,0,0,0,0,0,2,0,0,0,0,0,0,0,0,0,0,15,0,0,8,0,0,0,0,0,0,0,0,0,0,0,0,0,0,0,0,0,0,0,0,0,2,15,0,0]:=by kernel_rfl
theorem VP {E} (q:RE E):CB U E 44:=.Gp Z3Q ((congrFun q 44).trans ZEu) (fun _=>rfl) (fun _=>rfl) (fun _=>rfl)
theorem rows3:rowsOf Tryz.prog 3=[0]:=by kernel_rfl
theorem fZ {E} (q:RE E):CB U E 3:=.He (c:=BN) (A8.int _) ((congrFun q 3).trans rows3) (fun h=>Qd h) (fun _=>rfl) (fun _=>rfl) (fun _=>rfl) (fun _=>rfl) (fun _=>rfl)
theorem ZDK {E} (q:RE E):CB U E 60:=.BL [⟨44,fun a=>a.1⟩,⟨3,fun a=>a.2.1⟩,⟨4,fun a=>a.2.2⟩] ⟨VP q,fZ q,fH q,trivial⟩ (fun _=>rfl) (fun _=>rfl) (fun _=>rfl) fun _ _ h=>Prod.ext h.1 (Prod.ext h.2.1 h.2.2.1)
theorem ZDw:rowsOf Tryz.prog 45=[0]:=by kernel_rfl
theorem PV {E} (q:RE E):CB U E 45:=.He (c:=BN) (A8.int _) ((congrFun q 45).trans ZDw) (fun h=>Qd h) (fun _=>rfl) (fun _=>rfl) (fun _=>rfl) (fun _=>rfl) (fun _=>rfl)
theorem ZDF {E} (q:RE E):CB U E 46:=.BL [⟨44,fun a=>a.1⟩,⟨45,fun a=>a.2⟩] ⟨VP q,PV q,trivial⟩ (fun _=>rfl) (fun _=>rfl) (fun _=>rfl) fun _ _ h=>Prod.ext h.1 h.2.1
theorem ZDI:rowsOf Tryz.prog 31=[2]:=by kernel_rfl
theorem ZDb {E} (q:RE E):CB U E 31:=.He (c:=(AO.list 68 2 (fun(a:BB)=>.agg (II.BJ a)):AO Ty (List (Ty 68)))) (A8.list (U:=U) (t:=68) (n:=2) (e:=fun(a:BB)=>.agg (II.BJ a)) (fun _=>rfl) rfl (fun a=>Qh.nr a) (fun a b h=>Qh.inj _ _ (by injection h))) ((congrFun q 31).trans ZDI) (fun h=>NJ (U:=U) (t:=68) (n:=2) (e:=fun(a:BB)=>.agg (II.BJ a)) h) (fun _=>rfl) (fun _=>rfl) (fun _=>rfl) (fun _=>rfl) (fun _=>rfl)
theorem ZDx:rowsOf Tryz.prog 39=[0,0,0,15,0,0,8,0,0,0,0,0,0,0,0,0,0,0,0,0]:=by kernel_rfl
theorem Sv {E} (q:RE E):CB U E 39:=.Gp Zej ((congrFun q 39).trans ZDx) (fun _=>rfl) (fun _=>rfl) (fun _=>rfl)
theorem ZDQ:rowsOf Tryz.prog 36=[15]:=by kernel_rfl
theorem sO {E} (q:RE E):CB U E 36:=.He (c:=(AO.list 156 15 (fun(a:AL)=>.agg (GV.BJ a)):AO Ty (List (Ty 156)))) (A8.list (U:=U) (t:=156) (n:=15) (e:=fun(a:AL)=>.agg (GV.BJ a)) (fun _=>rfl) rfl (fun a=>SY.nr a) (fun a b h=>SY.inj _ _ (by injection h))) ((congrFun q 36).trans ZDQ) (fun h=>NJ (U:=U) (t:=156) (n:=15) (e:=fun(a:AL)=>.agg (GV.BJ a)) h) (fun _=>rfl) (fun _=>rfl) (fun _=>rfl) (fun _=>rfl) (fun _=>rfl)
theorem ZEw:rowsOf Tryz.prog 62=[1]:=by kernel_rfl
theorem Z3G {E} (q:RE E):CB U E 62:=.He (c:=(AO.list 5 1 (fun(a:Int)=>Ej.BV a):AO Ty (List (Ty 5)))) (A8.list (U:=U) (t:=5) (n:=1) (e:=fun(a:Int)=>Ej.BV a) (fun _=>rfl) rfl (fun a=>(A8.int _:A8 U Ej _).Ql a) (fun a b h=>(A8.int _:A8 U Ej _).Qb h)) ((congrFun q 62).trans ZEw) (fun h=>NJ (U:=U) (t:=5) (n:=1) (e:=fun(a:Int)=>Ej.BV a) h) (fun _=>rfl) (fun _=>rfl) (fun _=>rfl) (fun _=>rfl) (fun _=>rfl)
theorem ZDq:rowsOf Tryz.prog 37=[8]:=by kernel_rfl
theorem fA {E} (q:RE E):CB U E 37:=.He (c:=(AO.list 138 8 (fun(a:BF)=>.agg (HY.BJ a)):AO Ty (List (Ty 138)))) (A8.list (U:=U) (t:=138) (n:=8) (e:=fun(a:BF)=>.agg (HY.BJ a)) (fun _=>rfl) rfl (fun a=>VN.nr a) (fun a b h=>VN.inj _ _ (by injection h))) ((congrFun q 37).trans ZDq) (fun h=>NJ (U:=U) (t:=138) (n:=8) (e:=fun(a:BF)=>.agg (HY.BJ a)) h) (fun _=>rfl) (fun _=>rfl) (fun _=>rfl) (fun _=>rfl) (fun _=>rfl)
theorem ZCT:rowsOf Tryz.prog 42=[2]:=by kernel_rfl
theorem ZCQ {E} (q:RE E):CB U E 42:=.He (c:=(AO.list 99 2 (fun(a:BC)=>.agg (MQ.BJ a)):AO Ty (List (Ty 99)))) (A8.list (U:=U) (t:=99) (n:=2) (e:=fun(a:BC)=>.agg (MQ.BJ a)) (fun _=>rfl) rfl (fun a=>fB.nr a) (fun a b h=>fB.inj _ _ (by injection h))) ((congrFun q 42).trans ZCT) (fun h=>NJ (U:=U) (t:=99) (n:=2) (e:=fun(a:BC)=>.agg (MQ.BJ a)) h) (fun _=>rfl) (fun _=>rfl) (fun _=>rfl) (fun _=>rfl) (fun _=>rfl)
theorem ZC1:rowsOf Tryz.prog 109=[0,0,0,0,0,0,0,0,0,0,0,0,0,0,0,0,0,0,0,0,0,0,0,0,0,0,2,0,0,0,0,0,0,0,0,0,0,15,0,0,8,0,0,0,0,0,0,0,0,0,0,0,0,0,0,0,0,0,0,0,0,0,2,15,0,0,0,0,0,0,0,0,0,0,0,0,0,0,0,0,0,0,0,0,0,0,0,0,0,0,0,0,2,0,0,0,0,0,0,0,0,0,0,15,0,0,8,0,0,0,0,0,0,0,0,0,0,0,0,0,0,0,0,0,0,0,0,0,2,15,0,0]:=by kernel_rfl
theorem Zdz {E} (q:RE E):CB U E 109:=.Gp ZBk ((congrFun q 109).trans ZC1) (fun _=>rfl) (fun _=>rfl) (fun _=>rfl)
theorem ZBF {E} (q:RE E):CB U E 110:=.BL [⟨109,fun a=>a.1⟩,⟨3,fun a=>a.2⟩] ⟨Zdz q,fZ q,trivial⟩ (fun _=>rfl) (fun _=>rfl) (fun _=>rfl) fun _ _ h=>Prod.ext h.1 h.2.1
theorem ZDk:rowsOf Tryz.prog 28=[0,0,0,0,0,0,0,0,0,0,0]:=by kernel_rfl
theorem ZEs {E} (q:RE E):CB U E 28:=.Gp uB ((congrFun q 28).trans ZDk) (fun _=>rfl) (fun _=>rfl) (fun _=>rfl)
theorem ZD2:rowsOf Tryz.prog 29=[0]:=by kernel_rfl
theorem ZED {E} (q:RE E):CB U E 29:=.He (c:=DL) (A8.int _) ((congrFun q 29).trans ZD2) (fun h=>Qd h) (fun _=>rfl) (fun _=>rfl) (fun _=>rfl) (fun _=>rfl) (fun _=>rfl)
theorem ZEy:rowsOf Tryz.prog 25=[0]:=by kernel_rfl
theorem ZCL {E} (q:RE E):CB U E 25:=.He (c:=DL) (A8.int _) ((congrFun q 25).trans ZEy) (fun h=>Qd h) (fun _=>rfl) (fun _=>rfl) (fun _=>rfl) (fun _=>rfl) (fun _=>rfl)
theorem ZE2:rowsOf Tryz.prog 52=[0,0]:=by kernel_rfl
theorem ZDL {E} (q:RE E):CB U E 52:=.Gp ZDA ((congrFun q 52).trans ZE2) (fun _=>rfl) (fun _=>rfl) (fun _=>rfl)
theorem ZDl:rowsOf Tryz.prog 33=[0,0,2,0,0,0,0]:=by kernel_rfl
theorem sJ {E} (q:RE E):CB U E 33:=.Gp ZdU ((congrFun q 33).trans ZDl) (fun _=>rfl) (fun _=>rfl) (fun _=>rfl)
theorem ZDr:rowsOf Tryz.prog 35=[0,0,0]:=by kernel_rfl
theorem Ze1 {E} (q:RE E):CB U E 35:=.Gp Z3P ((congrFun q 35).trans ZDr) (fun _=>rfl) (fun _=>rfl) (fun _=>rfl)
theorem ZDM:rowsOf Tryz.prog 24=[0,0,0,0,0]:=by kernel_rfl
theorem ZDW {E} (q:RE E):CB U E 24:=.Gp VY ((congrFun q 24).trans ZDM) (fun _=>rfl) (fun _=>rfl) (fun _=>rfl)
theorem ZDy:rowsOf Tryz.prog 26=[0]:=by kernel_rfl
theorem ZDH {E} (q:RE E):CB U E 26:=.He (c:=DL) (A8.int _) ((congrFun q 26).trans ZDy) (fun h=>Qd h) (fun _=>rfl) (fun _=>rfl) (fun _=>rfl) (fun _=>rfl) (fun _=>rfl)
theorem ZCz:rowsOf Tryz.prog 226=[1]:=by kernel_rfl
theorem ZBz {E} (q:RE E):CB U E 226:=.He (c:=(AO.list 3 1 (fun(a:Int)=>BN.BV a):AO Ty (List (Ty 3)))) (A8.list (U:=U) (t:=3) (n:=1) (e:=fun(a:Int)=>BN.BV a) (fun _=>rfl) rfl (fun a=>(A8.int _:A8 U BN _).Ql a) (fun a b h=>(A8.int _:A8 U BN _).Qb h)) ((congrFun q 226).trans ZCz) (fun h=>NJ (U:=U) (t:=3) (n:=1) (e:=fun(a:Int)=>BN.BV a) h) (fun _=>rfl) (fun _=>rfl) (fun _=>rfl) (fun _=>rfl) (fun _=>rfl)
theorem ZEh {E} (q:RE E):CB U E 63:=.BL [⟨44,fun a=>a.1⟩,⟨62,fun a=>a.2⟩] ⟨VP q,Z3G q,trivial⟩ (fun _=>rfl) (fun _=>rfl) (fun _=>rfl) fun _ _ h=>Prod.ext h.1 h.2.1
theorem ZCo:rowsOf Tryz.prog 148=[0,0,0,1,0,0,0,0,0,0,0,0,0,0,0,0,0,0]:=by kernel_rfl
theorem ZAI {E} (q:RE E):CB U E 148:=.Gp Z3l ((congrFun q 148).trans ZCo) (fun _=>rfl) (fun _=>rfl) (fun _=>rfl)
theorem ZER:rowsOf Tryz.prog 77=[18]:=by kernel_rfl
theorem eQ {E} (q:RE E):CB U E 77:=.He (c:=(AO.list 148 18 (fun(a:BD)=>.agg (IZ.BJ a)):AO Ty (List (Ty 148)))) (A8.list (U:=U) (t:=148) (n:=18) (e:=fun(a:BD)=>.agg (IZ.BJ a)) (fun _=>rfl) rfl (fun a=>Z3l.nr a) (fun a b h=>Z3l.inj _ _ (by injection h))) ((congrFun q 77).trans ZER) (fun h=>NJ (U:=U) (t:=148) (n:=18) (e:=fun(a:BD)=>.agg (IZ.BJ a)) h) (fun _=>rfl) (fun _=>rfl) (fun _=>rfl) (fun _=>rfl) (fun _=>rfl)
theorem ZCR {E} (q:RE E):CB U E 86:=.BL [⟨44,fun a=>a.1⟩,⟨77,fun a=>a.2.1⟩,⟨4,fun a=>a.2.2⟩] ⟨VP q,eQ q,fH q,trivial⟩ (fun _=>rfl) (fun _=>rfl) (fun _=>rfl) fun _ _ h=>Prod.ext h.1 (Prod.ext h.2.1 h.2.2.1)
theorem ZEl {E} (q:RE E):CB U E 78:=.BL [⟨44,fun a=>a.1⟩,⟨77,fun a=>a.2⟩] ⟨VP q,eQ q,trivial⟩ (fun _=>rfl) (fun _=>rfl) (fun _=>rfl) fun _ _ h=>Prod.ext h.1 h.2.1
theorem ZCK:rowsOf Tryz.prog 70=[0,0,0,0,1]:=by kernel_rfl
theorem Z3O {E} (q:RE E):CB U E 70:=.Gp ZDc ((congrFun q 70).trans ZCK) (fun _=>rfl) (fun _=>rfl) (fun _=>rfl)
theorem ZCV {E} (q:RE E):CB U E 75:=.BL [⟨33,fun a=>a.1⟩,⟨70,fun a=>a.2⟩] ⟨sJ q,Z3O q,trivial⟩ (fun _=>rfl) (fun _=>rfl) (fun _=>rfl) fun _ _ h=>Prod.ext h.1 h.2.1
theorem ZEL {E} (q:RE E):CB U E 71:=.BL [⟨70,fun a=>a.1⟩,⟨45,fun a=>a.2⟩] ⟨Z3O q,PV q,trivial⟩ (fun _=>rfl) (fun _=>rfl) (fun _=>rfl) fun _ _ h=>Prod.ext h.1 h.2.1
theorem ZBH {E} (q:RE E):CB U E 120:=.BL [⟨62,fun a=>a.1⟩,⟨45,fun a=>a.2⟩] ⟨Z3G q,PV q,trivial⟩ (fun _=>rfl) (fun _=>rfl) (fun _=>rfl) fun _ _ h=>Prod.ext h.1 h.2.1
theorem ZAJ {E} (q:RE E):CB U E 104:=.BL [⟨3,fun a=>a.1⟩,⟨3,fun a=>a.2⟩] ⟨fZ q,fZ q,trivial⟩ (fun _=>rfl) (fun _=>rfl) (fun _=>rfl) fun _ _ h=>Prod.ext h.1 h.2.1
theorem ZEO:rowsOf Tryz.prog 30=[0]:=by kernel_rfl
theorem ZD0 {E} (q:RE E):CB U E 30:=.He (c:=O8) (A8.int _) ((congrFun q 30).trans ZEO) (fun h=>Qd h) (fun _=>rfl) (fun _=>rfl) (fun _=>rfl) (fun _=>rfl) (fun _=>rfl)
theorem ZEg:rowsOf Tryz.prog 22=[0]:=by kernel_rfl
theorem ZEE {E} (q:RE E):CB U E 22:=.He (c:=Oa) (A8.int _) ((congrFun q 22).trans ZEg) (fun h=>Qd h) (fun _=>rfl) (fun _=>rfl) (fun _=>rfl) (fun _=>rfl) (fun _=>rfl)
theorem ZB1 {E} (q:RE E):CB U E 189:=.BL [⟨33,fun a=>a.1⟩,⟨45,fun a=>a.2⟩] ⟨sJ q,PV q,trivial⟩ (fun _=>rfl) (fun _=>rfl) (fun _=>rfl) fun _ _ h=>Prod.ext h.1 h.2.1
theorem ZAT:rowsOf Tryz.prog 262=[0,0,0,0,0,0,0,0,0,0,0]:=by kernel_rfl
theorem ZBN {E} (q:RE E):CB U E 262:=.Gp ZCj ((congrFun q 262).trans ZAT) (fun _=>rfl) (fun _=>rfl) (fun _=>rfl)
theorem ZDS:rowsOf Tryz.prog 41=[0,0,0,0,0,0,0]:=by kernel_rfl
theorem ZDn {E} (q:RE E):CB U E 41:=.Gp Z3S ((congrFun q 41).trans ZDS) (fun _=>rfl) (fun _=>rfl) (fun _=>rfl)
theorem ZCp {E} (q:RE E):CB U E 129:=.BL [⟨35,fun a=>a.1⟩,⟨45,fun a=>a.2⟩] ⟨Ze1 q,PV q,trivial⟩ (fun _=>rfl) (fun _=>rfl) (fun _=>rfl) fun _ _ h=>Prod.ext h.1 h.2.1
theorem ZAC {E} (q:RE E):CB U E 135:=.BL [⟨39,fun a=>a.1⟩,⟨37,fun a=>a.2⟩] ⟨Sv q,fA q,trivial⟩ (fun _=>rfl) (fun _=>rfl) (fun _=>rfl) fun _ _ h=>Prod.ext h.1 h.2.1
theorem ZCD {E} (q:RE E):CB U E 140:=.BL [⟨39,fun a=>a.1⟩,⟨36,fun a=>a.2⟩] ⟨Sv q,sO q,trivial⟩ (fun _=>rfl) (fun _=>rfl) (fun _=>rfl) fun _ _ h=>Prod.ext h.1 h.2.1
theorem ZCi {E} (q:RE E):CB U E 208:=.BL [⟨37,fun a=>a.1⟩,⟨37,fun a=>a.2⟩] ⟨fA q,fA q,trivial⟩ (fun _=>rfl) (fun _=>rfl) (fun _=>rfl) fun _ _ h=>Prod.ext h.1 h.2.1
theorem ZCC {E} (q:RE E):CB U E 216:=.BL [⟨39,fun a=>a.1⟩,⟨156,fun a=>a.2⟩] ⟨Sv q,Z3z q,trivial⟩ (fun _=>rfl) (fun _=>rfl) (fun _=>rfl) fun _ _ h=>Prod.ext h.1 h.2.1
theorem ZBn {E} (q:RE E):CB U E 269:=.BL [⟨37,fun a=>a.1⟩,⟨45,fun a=>a.2⟩] ⟨fA q,PV q,trivial⟩ (fun _=>rfl) (fun _=>rfl) (fun _=>rfl) fun _ _ h=>Prod.ext h.1 h.2.1
theorem ZAz {E} (q:RE E):CB U E 222:=.BL [⟨39,fun a=>a.1⟩,⟨36,fun a=>a.2.1⟩,⟨45,fun a=>a.2.2⟩] ⟨Sv q,sO q,PV q,trivial⟩ (fun _=>rfl) (fun _=>rfl) (fun _=>rfl) fun _ _ h=>Prod.ext h.1 (Prod.ext h.2.1 h.2.2.1)
theorem rows9:rowsOf Tryz.prog 9=[0]:=by kernel_rfl
theorem tyok9 {E} (q:RE E):CB U E 9:=.He (c:=cst) (A8.str) ((congrFun q 9).trans rows9) (fun h=>ZDE h) (fun _=>rfl) (fun _=>rfl) (fun _=>rfl) (fun _=>rfl) (fun _=>rfl)
theorem ZBC:rowsOf Tryz.prog 254=[1]:=by kernel_rfl
theorem ZCF {E} (q:RE E):CB U E 254:=.He (c:=(AO.list 25 1 (fun(a:Int)=>DL.BV a):AO Ty (List (Ty 25)))) (A8.list (U:=U) (t:=25) (n:=1) (e:=fun(a:Int)=>DL.BV a) (fun _=>rfl) rfl (fun a=>(A8.int _:A8 U DL _).Ql a) (fun a b h=>(A8.int _:A8 U DL _).Qb h)) ((congrFun q 254).trans ZBC) (fun h=>NJ (U:=U) (t:=25) (n:=1) (e:=fun(a:Int)=>DL.BV a) h) (fun _=>rfl) (fun _=>rfl) (fun _=>rfl) (fun _=>rfl) (fun _=>rfl)
theorem ZB3 {E} (q:RE E):CB U E 163:=.BL [⟨33,fun a=>a.1⟩,⟨68,fun a=>a.2.1⟩,⟨4,fun a=>a.2.2.1⟩,⟨4,fun a=>a.2.2.2⟩] ⟨sJ q,Zeb q,fH q,fH q,trivial⟩ (fun _=>rfl) (fun _=>rfl) (fun _=>rfl) fun _ _ h=>Prod.ext h.1 (Prod.ext h.2.1 (Prod.ext h.2.2.1 h.2.2.2.1))
theorem ZBK {E} (q:RE E):CB U E 231:=.BL [⟨156,fun a=>a.1⟩,⟨45,fun a=>a.2⟩] ⟨Z3z q,PV q,trivial⟩ (fun _=>rfl) (fun _=>rfl) (fun _=>rfl) fun _ _ h=>Prod.ext h.1 h.2.1
theorem ZAV {E} (q:RE E):CB U E 233:=.BL [⟨39,fun a=>a.1⟩,⟨77,fun a=>a.2⟩] ⟨Sv q,eQ q,trivial⟩ (fun _=>rfl) (fun _=>rfl) (fun _=>rfl) fun _ _ h=>Prod.ext h.1 h.2.1
theorem ZCt {E} (q:RE E):CB U E 237:=.BL [⟨39,fun a=>a.1⟩,⟨36,fun a=>a.2.1⟩,⟨77,fun a=>a.2.2⟩] ⟨Sv q,sO q,eQ q,trivial⟩ (fun _=>rfl) (fun _=>rfl) (fun _=>rfl) fun _ _ h=>Prod.ext h.1 (Prod.ext h.2.1 h.2.2.1)
theorem ZB8:rowsOf Tryz.prog 174=[0,0,0]:=by kernel_rfl
theorem ZBy {E} (q:RE E):CB U E 174:=.Gp Z3D ((congrFun q 174).trans ZB8) (fun _=>rfl) (fun _=>rfl) (fun _=>rfl)
theorem ZAy:rowsOf Tryz.prog 240=[3]:=by kernel_rfl
theorem ZAP {E} (q:RE E):CB U E 240:=.He (c:=(AO.list 174 3 (fun(a:Fb)=>.agg (OX.BJ a)):AO Ty (List (Ty 174)))) (A8.list (U:=U) (t:=174) (n:=3) (e:=fun(a:Fb)=>.agg (OX.BJ a)) (fun _=>rfl) rfl (fun a=>Z3D.nr a) (fun a b h=>Z3D.inj _ _ (by injection h))) ((congrFun q 240).trans ZAy) (fun h=>NJ (U:=U) (t:=174) (n:=3) (e:=fun(a:Fb)=>.agg (OX.BJ a)) h) (fun _=>rfl) (fun _=>rfl) (fun _=>rfl) (fun _=>rfl) (fun _=>rfl)
theorem ZCr:rowsOf Tryz.prog 256=[1]:=by kernel_rfl
theorem ZBO {E} (q:RE E):CB U E 256:=.He (c:=(AO.list 62 1 (fun(a:List Int)=>((AO.list 5 1 (fun(a:Int)=>Ej.BV a):AO Ty (List (Ty 5)))).BV a):AO Ty (List (Ty 62)))) (A8.list (U:=U) (t:=62) (n:=1) (e:=fun(a:List Int)=>((AO.list 5 1 (fun(a:Int)=>Ej.BV a):AO Ty (List (Ty 5)))).BV a) (fun _=>rfl) rfl (fun a=>(A8.list (U:=U) (t:=5) (n:=1) (e:=fun(a:Int)=>Ej.BV a) (fun _=>rfl) rfl (fun a=>(A8.int _:A8 U Ej _).Ql a) (fun a b h=>(A8.int _:A8 U Ej _).Qb h):A8 U (AO.list 5 1 (fun(a:Int)=>Ej.BV a):AO Ty (List (Ty 5))) _).Ql a) (fun a b h=>(A8.list (U:=U) (t:=5) (n:=1) (e:=fun(a:Int)=>Ej.BV a) (fun _=>rfl) rfl (fun a=>(A8.int _:A8 U Ej _).Ql a) (fun a b h=>(A8.int _:A8 U Ej _).Qb h):A8 U (AO.list 5 1 (fun(a:Int)=>Ej.BV a):AO Ty (List (Ty 5))) _).Qb h)) ((congrFun q 256).trans ZCr) (fun h=>NJ (U:=U) (t:=62) (n:=1) (e:=fun(a:List Int)=>((AO.list 5 1 (fun(a:Int)=>Ej.BV a):AO Ty (List (Ty 5)))).BV a) h) (fun _=>rfl) (fun _=>rfl) (fun _=>rfl) (fun _=>rfl) (fun _=>rfl)
theorem ZBe:rowsOf Tryz.prog 252=[0,0]:=by kernel_rfl
theorem ZC7 {E} (q:RE E):CB U E 252:=.Gp Z3B ((congrFun q 252).trans ZBe) (fun _=>rfl) (fun _=>rfl) (fun _=>rfl)
theorem ZC6:rowsOf Tryz.prog 253=[2]:=by kernel_rfl
theorem ZCs {E} (q:RE E):CB U E 253:=.He (c:=(AO.list 252 2 (fun(a:Eh)=>.agg (O0.BJ a)):AO Ty (List (Ty 252)))) (A8.list (U:=U) (t:=252) (n:=2) (e:=fun(a:Eh)=>.agg (O0.BJ a)) (fun _=>rfl) rfl (fun a=>Z3B.nr a) (fun a b h=>Z3B.inj _ _ (by injection h))) ((congrFun q 253).trans ZC6) (fun h=>NJ (U:=U) (t:=252) (n:=2) (e:=fun(a:Eh)=>.agg (O0.BJ a)) h) (fun _=>rfl) (fun _=>rfl) (fun _=>rfl) (fun _=>rfl) (fun _=>rfl)
theorem ZCw:rowsOf Tryz.prog 312=[0,0]:=by kernel_rfl
theorem ZB0 {E} (q:RE E):CB U E 312:=.Gp ZB9 ((congrFun q 312).trans ZCw) (fun _=>rfl) (fun _=>rfl) (fun _=>rfl)
theorem ZBv:A8 U ZeB [0,0,0,0,0,0,0]:=A8.CY ((A8.int _).pair ((A8.int _).pair ((A8.skip).pair ((A8.bool).pair ((A8.bool).pair ((A8.int _).pair ((A8.int _).pair A8.unit))))))) (fun _=>rfl) (fun _=>rfl)
theorem ZdL:A8 U Z4f [0,0,0,0,0,0,0,0,0,0,0,0,0,0,0,0,0,0,0,0]:=A8.CY ((A8.int _).pair ((A8.int _).pair ((A8.int _).pair ((A8.skip).pair ((A8.int _).pair ((A8.int _).pair ((A8.skip).pair ((A8.bool).pair ((A8.int _).pair ((A8.int _).pair ((A8.bool).pair ((A8.bool).pair ((A8.int _).pair ((A8.int _).pair ((A8.int _).pair ((A8.int _).pair ((A8.int _).pair ((A8.int _).pair ((A8.int _).pair ((A8.int _).pair A8.unit)))))))))))))))))))) (fun _=>rfl) (fun _=>rfl)
theorem ZCA:A8 U Zel [0,0,0,0,0,0,0,0,0,0,0,0,0,0,0,0,0,0,0,0,0,0,0,0,0,0,0,0,0,0,0,0,0,0,0,0,0,0,0,0,0,0,0,0,0,0,0,0,0,0,0,0,0,0,0,0,0,0,0,0,0,0,0,0,0,0]:=A8.CY ((A8.int _).pair ((uB).pair ((A8.int _).pair ((A8.int _).pair ((A8.int _).pair ((A8.int _).pair ((A8.int _).pair ((A8.int _).pair ((A8.int _).pair ((A8.bool).pair ((A8.bool).pair ((A8.bool).pair ((A8.bool).pair ((A8.bool).pair ((ZBv).pair ((Z3P).pair ((ZdL).pair ((Z3S).pair ((A8.int _).pair ((A8.skip).pair ((A8.skip).pair ((A8.int _).pair ((A8.int _).pair A8.unit))))))))))))))))))))))) (fun _=>rfl) (fun _=>rfl)
theorem Z2Z:A8 U tY [0,0,0,0,0,0,0,0,0,0,0,0,0,0,0,0,0,0,0,0,0,0,0,0,0,0,0,0,0,0,0,0,0,0,0,0,0,0,0,0,0,0,0,0,0,0,0,0,0,0,0,0,0,0,0,0,0,0,0,0,0,0,0,0,0,0,0]:=A8.CY ((ZCA).pair ((A8.skip).pair A8.unit)) (fun _=>rfl) (fun _=>rfl)
theorem Z37:A8 U uA [0,0,0,0,0,0,0,0,0,0,0,0,0,0,0,0,0,0,0,0,0,0,0,0]:=A8.CY ((ZdL).pair ((A8.int _).pair ((A8.int _).pair ((A8.skip).pair ((A8.skip).pair A8.unit))))) (fun _=>rfl) (fun _=>rfl)
theorem ZBp {E} (q:RE E):CB U E 115:=⟨fun a=>rfl,fun v a h=>Z2Z.Zdh h _,fun a=>rfl,fun a=>Z2Z.ZdX 67 a,fun a b h=>Z2Z.Zdx h⟩
theorem ZBX {E} (q:RE E):CB U E 206:=⟨fun a=>rfl,fun v a h=>Z37.Zdh h _,fun a=>rfl,fun a=>Z37.ZdX 24 a,fun a b h=>Z37.Zdx h⟩
theorem ZCq {E} (q:RE E):CB U E 249:=⟨fun a=>rfl,fun v a h=>(nomatch h),fun a=>rfl,fun a=>rfl,fun a b h=>rfl⟩
theorem CB.four {E:Env} {t:Nat} (h:CB U E t):(∀a,AU U (U.encS t a)=U.enc t a)/\(∀v a,U.Gv t v=some a->Dz (E.rows t) (AU U v)=U.enc t a)/\(∀a,(U.enc t a).cells=Au U (cellsS (U.encS t a)))/\(∀a,CW (U.enc t a)=true):=⟨h.encS,h.dec,h.cells,h.nr⟩
def vO:List Nat:=[4,5,83,113,59,68,156,138,99,44,3,60,45,46,31,39,36,62,37,42,109,110,28,29,25,52,33,35,24,26,226,63,148,77,86,78,70,75,71,120,104,30,22,189,262,41,129,135,140,208,216,269,222,9,254,163,231,233,237,174,240,256,252,253,312,115,206,249]
def tysY:List Nat:=[1344,1345,1346,1347,1349,1351,1352,1350,1348,1353,1354,1355,1361,1356,1381,1372,1373,1374,1375,1376,1377,1378,1379,1380,1369,1370,1371,1362,1367,1368,1363,1364,1365,1366,1357,1358,1359,1382,1360]
theorem ZzF (t:Nat) (h:t∉vO) (q : t∉tysY) (a:Ty t):False:=by
 unfold Ty at a;split at a<;>first|exact h (by decide)|exact q (by decide)|exact a.elim
theorem ZeD {E} (q:RE E):gK (CB U E) vO:=⟨fH q,tyok5 q,ZEe q,ZBs q,ZEr q,Zeb q,Z3z q,ZBZ q,ZCS q,VP q,fZ q,ZDK q,PV q,ZDF q,ZDb q,Sv q,sO q,Z3G q,fA q,ZCQ q,Zdz q,ZBF q,ZEs q,ZED q,ZCL q,ZDL q,sJ q,Ze1 q,ZDW q,ZDH q,ZBz q,ZEh q,ZAI q,eQ q,ZCR q,ZEl q,Z3O q,ZCV q,ZEL q,ZBH q,ZAJ q,ZD0 q,ZEE q,ZB1 q,ZBN q,ZDn q,ZCp q,ZAC q,ZCD q,ZCi q,ZCC q,ZBn q,ZAz q,tyok9 q,ZCF q,ZB3 q,ZBK q,ZAV q,ZCt q,ZBy q,ZAP q,ZBO q,ZC7 q,ZCs q,ZB0 q,ZBp q,ZBX q,ZCq q,trivial⟩
theorem all_Y (E:Env):gK (fun t=>(∀a,AU U (U.encS t a)=U.enc t a)/\(∀v a,U.Gv t v=some a->Dz (E.rows t) (AU U v)=U.enc t a)/\(∀a,(U.enc t a).cells=Au U (cellsS (U.encS t a)))/\(∀a,CW (U.enc t a)=true)) tysY:=by
 repeat' first|exact trivial|refine⟨⟨fun a=>rfl,(fun v a h=>nomatch h),fun a=>rfl,fun a=>rfl⟩,?_⟩
theorem Z3p (E:Env) (z:E.rows=rowsOf Tryz.prog):D9 U E:=by
 have key:∀t,(∀a,AU U (U.encS t a)=U.enc t a)/\(∀v a,U.Gv t v=some a->Dz (E.rows t) (AU U v)=U.enc t a)/\(∀a,(U.enc t a).cells=Au U (cellsS (U.encS t a)))/\(∀a,CW (U.enc t a)=true):=fun t=>by
  by_cases h:t∈vO
  ·exact CB.four ((ZeD z).at h)
  by_cases q : t∈tysY
  ·exact(all_Y E).at q
  have e:=fun a=>ZzF t h q a;exact⟨fun a=>(e a).elim,fun v a h=>(e a).elim,fun a=>(e a).elim,fun a=>(e a).elim⟩
 have sub:∀t∈U.keys,t∈vO:=by decide
 exact⟨fun t=>(key t).1,fun t=>(key t).2.1,fun t=>(key t).2.2.1,fun t=>(key t).2.2.2,fun t A=>((ZeD z).at (sub t A)).inj⟩
def sumsV:List V:=[0,1788928,3577856,3003392,7155712,7764992,6006784,4252672,14311424,12659712,15529984,16233472,12013568,11279360,8505344,10126336].map fun n=>V.lit (.int .u32 n)
def gl:Nat->Option (List V):=fun g=>if g=0 then some sumsV else none
theorem Qc:Tryz.prog.follows .mixedOrders=true:=by kernel_rfl
def noH:FuncId->List FuncId->Option (HMod U):=fun _ _=>none
def B0:Env:=EV (U:=U) Tryz.prog gl 0 (fun _=>none) noH
abbrev MS:={ms:FuncId->Option (Aj U) // ∀g m,ms g=some m->Ai Tryz.prog B0 g m}
abbrev HS:={q:FuncId->List FuncId->Option (HMod U) // ∀g k m,q g k=some m->DU Tryz.prog B0 g m}
def Af:MS:=⟨fun _=>none,fun _ _ h=>nomatch h⟩
def Ah:HS:=⟨fun _ _=>none,fun _ _ _ h=>nomatch h⟩
def mc {f:FuncId} {m:Aj U} (h:Ai Tryz.prog B0 f m) (s:MS):MS:=⟨fun g=>bif Nat.beq g f then some m else s.1 g,fun g q e=>by
 cases hb:Nat.beq g f with
 | true=>dsimp only at e;rw[hb]at e;cases e;exact(Nat.eq_of_beq_eq_true hb)▸h
 | false=>dsimp only at e;rw[hb]at e;exact s.2 g q e⟩
def hc {f:FuncId} {m:HMod U} (k:List FuncId) (h:DU Tryz.prog B0 f m) (s:HS):HS:=⟨fun g k' =>bif Nat.beq g f&&k' == k then some m else s.1 g k',fun g k' q e=>by
 cases hb:(Nat.beq g f&&k' == k) with
 | true=>dsimp only at e;rw[hb]at e;cases e;exact(Nat.eq_of_beq_eq_true ((Bool.and_eq_true _ _).mp hb).1)▸h
 | false=>dsimp only at e;rw[hb]at e;exact s.2 g k' q e⟩
def AN:Nat->Option Lay:=fun _=>none
noncomputable def Am (fn:Func) (ts:List Nat) (x:F9 U ts):Ae U:=⟨JI fn,[],eU ts x fn.ntmps,false⟩
noncomputable def E5 (fn:Func) (sh:Shape) (x:sh.X U):Ae U:=⟨JI fn,[],fD (sh.enc x) fn.ntmps,false⟩
noncomputable def Ad (fn:Func) (p:List Nat) (L:Lay) (x:L.sh.X U):Ae U:=spot (JI fn) p fn.ntmps L.keep (L.sh.enc x)
abbrev BlkP (f:FuncId) (fn:Func) (ms:MS) (C:HS) (A:Nat->Option Lay) (rt:Nat) {z:Type} (T:z->Tr U (U.Ty rt⊕z)) (q:z->Ae U):Prop:=
 ∀p,Le.EU (EV Tryz.prog gl f ms.1 C.1) (Qs ms.1 C.1) A f fn 0 (fG (EV Tryz.prog gl f ms.1 C.1) fn) 1000 (.run (q p).c) (q p).K (q p).st (q p).sk=(T p).map (TE (vI (U:=U) rt) q)
abbrev BlkH (f:FuncId) (fn:Func) (ms:MS) (C:HS) (A:Nat->Option Lay) (fa:List (List Fk)) (fb:List Bf) (k:Nat) (m:HMod U) {z:Type} (T:z->Tr U (U.Ty m.ky⊕z)) (q:z->Ae U):Prop:=
 ∀p,Le.EU (EV Tryz.prog gl f ms.1 C.1) (Qs ms.1 C.1) A f fn k (uG (EV Tryz.prog gl f ms.1 C.1) fn fa fb k m.JP m.one) 1000 (.run (q p).c) (q p).K (q p).st (q p).sk=(T p).map (TE m.out q)
theorem okP {f:FuncId} {fn:Func} {ms:MS} {C:HS} {A:Nat->Option Lay} {m:Aj U} {q:Type} {T:q->Tr U (U.Ty m.rt⊕q)} {F:q->Ae U} (h:BlkP f fn ms C A m.rt T F) (b0:F9 U m.ts->q)
  (hc:Ed (EV Tryz.prog gl f ms.1 C.1) f (JI fn)=true) (z:Tryz.prog.funcs[f]? = some fn) (G:(fn.name == "runtime.NumGoroutine")=false) (hb:fn.body=some (JI fn))
  (hm:∀x,m.fn x=AY T (b0 x)) (D:∀x,F (b0 x)=Am fn m.ts x):Ai Tryz.prog B0 f m:=
 Zd4 rfl (Z3p _ rfl) Qc ms.2 C.2 z G hb hc m T F h b0 hm D
theorem Ap {f rt:Nat} {ts:List Nat} {D:∀t∈ts,t∈U.keys} {fn:Func} {q:Type} {T:q->Tr U (U.Ty rt⊕q)} {b0:F9 U ts->q} (ms:MS) (F:HS) (A:Nat->Option Lay) (G:q->Ae U) (z:Tryz.prog.funcs[f]? = some fn) (h:BlkP f fn ms F A rt T G)
  (hc:(Ed (EV Tryz.prog gl f ms.1 F.1) f (JI fn),fn.name == "runtime.NumGoroutine",fn.body)=(true,false,some (JI fn))) (C:∀x,G (b0 x)=Am fn ts x):Ai Tryz.prog B0 f ⟨ts,rt,fun x=>AY T (b0 x),D⟩:=
 okP (m:=⟨ts,rt,fun x=>AY T (b0 x),D⟩) h b0 (congrArg (·.1) hc) z (congrArg (·.2.1) hc) (congrArg (·.2.2) hc) (fun _=>rfl) C
theorem okH {f:FuncId} {fn:Func} {ms:MS} {C:HS} {A:Nat->Option Lay} {fa:List (List Fk)} {fb:List Bf} {k:Nat} {m:HMod U} {q:Type} {T:q->Tr U (U.Ty m.ky⊕q)} {F:q->Ae U} (h:BlkH f fn ms C A fa fb k m T F) (b0:m.D7.X U->q)
  (G:∀x:m.D7.X U,(m.D7.enc x).2.length=k) (hc:Ed (EV Tryz.prog gl f ms.1 C.1) f (JI fn)=true) (z:Tryz.prog.funcs[f]? = some fn) (I:(fn.name == "runtime.NumGoroutine")=false) (hb:fn.body=some (JI fn))
  (hm:∀x:m.D7.X U,m.fn x=AY T (b0 x)) (D:∀x:m.D7.X U,F (b0 x)=E5 fn m.D7 x):DU Tryz.prog B0 f m:=
 ZyR rfl (Z3p _ rfl) Qc ms.2 C.2 z I hb hc m G T F h b0 hm D
theorem okR {f ky:Nat} {fn:Func} {D:List (List Fk)} {C:List Bf} {D7 JP:Shape} {one:Bool} {NZ:U.Ty ky->JP.X U} {G:D7.OK U} {z:Type} {T:z->Tr U (U.Ty ky⊕z)} {b0:D7.X U->z} (ms:MS) (I:HS) (A:Nat->Option Lay) (fa:List (List Fk)) (fb:List Bf) (k:Nat) (J:z->Ae U) (F:Tryz.prog.funcs[f]? = some fn)
  (h:BlkH f fn ms I A fa fb k ⟨D,C,D7,JP,one,ky,NZ,fun x=>AY T (b0 x),G⟩ T J) (hc:(Ed (EV Tryz.prog gl f ms.1 I.1) f (JI fn),fn.name == "runtime.NumGoroutine",fn.body)=(true,false,some (JI fn))) (q:∀x,((D7.enc x).2.length,J (b0 x))=(k,E5 fn D7 x)) :
  DU Tryz.prog B0 f ⟨D,C,D7,JP,one,ky,NZ,fun x=>AY T (b0 x),G⟩:=
 okH (m:=⟨D,C,D7,JP,one,ky,NZ,fun x=>AY T (b0 x),G⟩) h b0 (fun x=>congrArg (·.1) (q x)) (congrArg (·.1) hc) F (congrArg (·.2.1) hc) (congrArg (·.2.2) hc) (fun _=>rfl) (fun x=>congrArg (·.2) (q x))
abbrev kL {α:Type} (l:List α):Bool:=l.length==l.length
abbrev kA (n k:Nat):Bool:=decide (n*k<=lim)&&decide (n<=maxLen)
abbrev Gi (u c:AL):Bool:=(u.Kind==c.Kind)&&((u.BG.EX==c.BG.EX)&&((u.BG.EW==c.BG.EW)&&((u.BG.Dp==c.BG.Dp)&&((u.BG.Dq==c.BG.Dq)&&((u.BG.Ei==c.BG.Ei)&&((u.Map==c.Map)&&((u.CP==c.CP)&&((u.Bq==c.Bq)&&((u.Dx==c.Dx)&&((u.CE==c.CE)&&((u.Mark==c.Mark)&&((u.DK==c.DK)&&((u.Version==c.Version)&&((u.Length==c.Length)&&true))))))))))))))
abbrev KP:List Fk:=[.keep]
abbrev VC(t n:Nat):Pc:=.v t n false
abbrev OV(t:Nat):Sp:=.one (.v t 1 false)
abbrev PQ(j:Nat):Sp:=.one (.ptr j)
abbrev VA(e m:Nat):Pb:=.var e m (.agg [.v e m true])
abbrev k0:List Fk:=[.keep,.keep,.keep,.keep,.keep,.keep,.keep,.keep,.keep,.keep,.keep,.keep,.keep,.keep,.keep]
abbrev k1:List Fk:=[.keep,.keep,.keep,.s 156 15,.keep,.keep,.s 138 8,.keep,.keep,.keep,.keep,.keep,.keep,.keep,.keep,.keep,.keep,.keep,.keep,.keep]
abbrev k2:List Fk:=[.keep,.keep,.keep,.keep,.keep,.keep,.keep,.keep,.keep,.keep,.keep,.keep,.keep,.keep,.keep,.keep,.keep,.keep,.keep,.keep,.keep,.keep,.keep,.keep,.keep,.keep,.s 68 2,.keep,.keep,.keep,.keep,.keep,.keep,.keep,.keep,.keep,.keep,.s 156 15,.keep,.keep,.s 138 8,.keep,.keep,.keep,.keep,.keep,.keep,.keep,.keep,.keep,.keep,.keep,.keep,.keep,.keep,.keep,.keep,.keep,.keep,.keep,.keep,.keep,.s 99 2,.s 156 15,.keep,.keep]
abbrev k3:List Fk:=[.keep,.keep,.keep,.keep,.keep,.keep,.keep,.keep,.keep,.keep,.keep]
abbrev k4:List Fk:=[.keep,.keep,.keep,.keep,.keep,.keep,.keep,.keep,.keep,.keep,.keep,.keep,.keep,.keep,.keep,.keep,.keep,.keep,.keep,.keep,.keep,.keep,.keep,.keep,.keep,.keep,.s 68 2,.keep,.keep,.keep,.keep,.keep,.keep,.keep,.keep,.keep,.keep,.s 156 15,.keep,.keep,.s 138 8,.keep,.keep,.keep,.keep,.keep,.keep,.keep,.keep,.keep,.keep,.keep,.keep,.keep,.keep,.keep,.keep,.keep,.keep,.keep,.keep,.keep,.s 99 2,.s 156 15,.keep,.keep,.keep,.keep,.keep,.keep,.keep,.keep,.keep,.keep,.keep,.keep,.keep,.keep,.keep,.keep,.keep,.keep,.keep,.keep,.keep,.keep,.keep,.keep,.keep,.keep,.keep,.keep,.s 68 2,.keep,.keep,.keep,.keep,.keep,.keep,.keep,.keep,.keep,.keep,.s 156 15,.keep,.keep,.s 138 8,.keep,.keep,.keep,.keep,.keep,.keep,.keep,.keep,.keep,.keep,.keep,.keep,.keep,.keep,.keep,.keep,.keep,.keep,.keep,.keep,.keep,.s 99 2,.s 156 15,.keep,.keep]
abbrev k5:List Fk:=[.keep,.keep,.keep,.keep,.s 5 1]
abbrev k6:List Fk:=[.keep,.keep,.s 68 2,.keep,.keep,.keep,.keep]
abbrev k7:List Fk:=[.keep,.keep,.keep,.own 156 15,.keep,.keep,.own 138 8,.keep,.keep,.keep,.keep,.keep,.keep,.keep,.keep,.keep,.keep,.keep,.keep,.keep,.keep,.keep,.own 156 15,.own 148 18]
abbrev k8:List Fk:=[.keep,.keep,.keep,.keep,.keep,.keep,.keep]
abbrev k9:List Fk:=[.keep,.keep,.keep,.keep,.keep,.keep,.keep,.keep,.keep,.keep,.keep,.keep,.keep,.keep,.keep,.keep,.keep,.keep,.keep,.keep,.keep,.keep,.keep,.keep,.keep,.keep,.own 68 2,.keep,.keep,.keep,.keep,.keep,.keep,.keep,.keep,.keep,.keep,.own 156 15,.keep,.keep,.own 138 8,.keep,.keep,.keep,.keep,.keep,.keep,.keep,.keep,.keep,.keep,.keep,.keep,.keep,.keep,.keep,.keep,.keep,.keep,.keep,.keep,.keep,.own 99 2,.own 156 15,.keep,.keep,.own 148 18]
abbrev k10:List Fk:=[.keep,.keep,.keep,.keep,.keep,.keep,.keep,.keep,.keep,.keep,.keep,.keep,.keep,.keep,.keep,.keep,.keep,.keep,.keep,.keep,.keep,.keep,.keep,.keep,.keep,.keep,.s 68 2,.keep,.keep,.keep,.keep,.keep,.keep,.keep,.keep,.keep,.keep,.s 156 15,.keep,.keep,.s 138 8,.keep,.keep,.keep,.keep,.keep,.keep,.keep,.keep,.keep,.keep,.keep,.keep,.keep,.keep,.keep,.keep,.keep,.keep,.keep,.keep,.keep,.s 99 2,.own 156 15,.keep,.keep]
abbrev k11:List Fk:=[.keep,.keep,.keep,.own 156 15,.keep,.keep,.s 138 8,.keep,.keep,.keep,.keep,.keep,.keep,.keep,.keep,.keep,.keep,.keep,.keep,.keep,.keep,.keep,.own 156 15,.own 148 18]
abbrev k12:List Fk:=[.keep,.keep,.keep,.s 5 1,.keep,.keep,.keep,.keep,.keep,.keep,.keep,.keep]
abbrev k13:List Fk:=[.keep,.keep,.keep,.keep,.keep,.keep,.keep,.keep,.keep,.keep,.keep,.keep,.keep,.keep,.keep,.keep,.keep,.keep,.keep,.keep,.keep,.keep,.keep,.keep,.keep,.keep,.own 68 2,.keep,.keep,.keep,.keep,.keep,.keep,.keep,.keep,.keep,.keep,.s 156 15,.keep,.keep,.s 138 8,.keep,.keep,.keep,.keep,.keep,.keep,.keep,.keep,.keep,.keep,.keep,.keep,.keep,.keep,.keep,.keep,.keep,.keep,.keep,.keep,.keep,.own 99 2,.own 156 15,.keep,.keep,.own 148 18]
abbrev k14:List Fk:=[.keep,.keep,.keep,.keep,.keep,.keep,.keep,.keep]
abbrev k15:List Fk:=[.keep,.keep,.keep,.keep,.keep,.keep,.keep,.keep,.keep,.keep,.keep,.keep,.keep,.keep,.s 113 3,.keep,.keep]
abbrev k16:List Fk:=[.keep,.keep,.own 68 2,.keep,.keep,.keep,.keep]
abbrev k17:List Fk:=[.keep,.keep,.keep,.keep,.keep]
abbrev JR (a:DF):=((a.AB.BR,(a.AB.Own,(a.AB.Since,(a.AB.Other,(a.AB.Gz,(a.AB.Told,(a.AB.DK,(a.AB.Ic,(a.AB.Fg,(a.AB.FX,(a.AB.Version,(a.AB.Length,(a.AB.Limit,(a.AB.CE,(a.AB.GK,(a.AB.Mark,(a.AB.CJ,(a.AB.ER,(a.KW,(a.IE,())))))))))))))))))))),(a.AB.Aa,(a.AB.Ak,(a.f_out,(a.DJ,())))))
abbrev Px (a:EM):=((a.Link.BR,(a.Link.CZ,(a.Link.Clock,(a.Link.Event,(a.Link.Last,(a.Link.Fq,(a.Link.Size,(a.Link.Sync,(a.Link.Hf,(a.Link.Gq,(a.Link.Hm,(a.Link.Good,(a.Link.Ec,(a.Link.More,(a.Link.Ag.SN,(a.Link.Ag.Ee,(a.Link.Ag.Open,(a.Link.Ag.Empty,(a.Link.Ag.Ec,(a.Link.Ag.Taken,(a.Link.FZ,(a.Link.AB.BR,(a.Link.AB.Own,(a.Link.AB.Since,(a.Link.AB.Other,(a.Link.AB.Gz,(a.Link.AB.Told,(a.Link.AB.DK,(a.Link.AB.Ic,(a.Link.AB.Fg,(a.Link.AB.FX,(a.Link.AB.Version,(a.Link.AB.Length,(a.Link.AB.Limit,(a.Link.AB.CE,(a.Link.AB.GK,(a.Link.AB.Mark,(a.Link.AB.CJ,(a.Link.AB.ER,(a.Link.Dk,(a.Link.Key,(a.Link.Bq,(a.Link.Eg,()))))))))))))))))))))))))))))))))))))))))))),(a.Link.Ag.Aq,(a.Link.AB.Aa,(a.Link.AB.Ak,(a.Link.BI,(a.Link.Aw,(a.C9,())))))))
abbrev Vz (a:Ac):=(a.BR,(a.CZ,(a.Clock,(a.Event,(a.Last,(a.Fq,(a.Size,(a.Sync,(a.Hf,(a.Gq,(a.Hm,(a.Good,(a.Ec,(a.More,(a.Ag,(a.FZ,(a.AB,(a.Dk,(a.Key,(a.BI,(a.Bq,(a.Eg,()))))))))))))))))))))))
abbrev tu3 (a:DF):=(a.AB.BR,(a.AB.Own,(a.AB.Since,(a.AB.Other,(a.AB.Gz,(a.AB.Told,(a.AB.DK,(a.AB.Ic,(a.AB.Fg,(a.AB.FX,(a.AB.Version,(a.AB.Length,(a.AB.Limit,(a.AB.CE,(a.AB.GK,(a.AB.Mark,(a.AB.CJ,(a.AB.ER,(a.KW,(a.IE,()))))))))))))))))))))
abbrev tu4 (a:Bd):=(a.SN,(a.Ee,(a.Open,(a.Empty,(a.Ec,(a.Taken,()))))))
abbrev tu5 (a:DF):=((a.AB.BR,(a.AB.Own,(a.AB.Since,(a.AB.Other,(a.AB.Gz,(a.AB.Ak,(a.AB.Told,(a.AB.DK,(a.AB.Ic,(a.AB.Fg,(a.AB.FX,(a.AB.Version,(a.AB.Length,(a.AB.Limit,(a.AB.CE,(a.AB.GK,(a.AB.Mark,(a.AB.CJ,(a.AB.ER,(a.KW,(a.IE,()))))))))))))))))))))),(a.AB.Aa,(a.f_out,(a.DJ,()))))
abbrev tu6 (a:DF):=(a.AB.BR,(a.AB.Own,(a.AB.Since,(a.AB.Other,(a.AB.Gz,(a.AB.Ak,(a.AB.Told,(a.AB.DK,(a.AB.Ic,(a.AB.Fg,(a.AB.FX,(a.AB.Version,(a.AB.Length,(a.AB.Limit,(a.AB.CE,(a.AB.GK,(a.AB.Mark,(a.AB.CJ,(a.AB.ER,(a.KW,(a.IE,())))))))))))))))))))))
abbrev JU (i:Nat):Sp:=.agg [.v 3 1 false,.v 3 1 false,.v 3 1 false,.own 156 i,.v 3 1 false,.v 3 1 false,.own 138 (i+1),.v 4 1 false,.v 25 1 false,.v 25 1 false,.v 4 1 false,.v 4 1 false,.v 3 1 false,.v 3 1 false,.v 3 1 false,.v 25 1 false,.v 25 1 false,.v 25 1 false,.v 3 1 false,.v 3 1 false,.v 30 1 false,.v 3 1 false,.own 156 (i+2),.own 148 (i+3)]
abbrev Oe (i:Nat):Sp:=.agg [.v 3 1 false,.v 28 11 true,.v 3 1 false,.v 30 1 false,.v 3 1 false,.v 3 1 false,.v 3 1 false,.v 3 1 false,.v 3 1 false,.v 4 1 false,.v 4 1 false,.v 4 1 false,.v 4 1 false,.v 4 1 false,.v 3 1 false,.v 3 1 false,.own 68 i,.v 4 1 false,.v 4 1 false,.v 3 1 false,.v 3 1 false,.v 35 3 true,.v 3 1 false,.v 3 1 false,.v 3 1 false,.own 156 (i+1),.v 3 1 false,.v 3 1 false,.own 138 (i+2),.v 4 1 false,.v 25 1 false,.v 25 1 false,.v 4 1 false,.v 4 1 false,.v 3 1 false,.v 3 1 false,.v 3 1 false,.v 25 1 false,.v 25 1 false,.v 25 1 false,.v 3 1 false,.v 3 1 false,.v 41 7 true,.v 29 1 false,.own 99 (i+3),.own 156 (i+4),.v 3 1 false,.v 25 1 false,.own 148 (i+5)]
abbrev iE (i:Nat):Sp:=.agg [.v 3 1 false,.v 28 11 true,.v 3 1 false,.v 30 1 false,.v 3 1 false,.v 3 1 false,.v 3 1 false,.v 3 1 false,.v 3 1 false,.v 4 1 false,.v 4 1 false,.v 4 1 false,.v 4 1 false,.v 4 1 false,.v 33 7 true,.v 35 3 true,.v 39 20 true,.v 41 7 true,.v 29 1 false,.v 42 1 false,.own 156 i,.v 3 1 false,.v 25 1 false]
abbrev vU (q z A C:Nat):Sp:=.agg [.v 3 1 false,.v 28 11 true,.v 3 1 false,.v 30 1 false,.v 3 1 false,.v 3 1 false,.v 3 1 false,.v 3 1 false,.v 3 1 false,.v 4 1 false,.v 4 1 false,.v 4 1 false,.v 4 1 false,.v 4 1 false,.v 3 1 false,.v 3 1 false,.own 68 q,.v 4 1 false,.v 4 1 false,.v 3 1 false,.v 3 1 false,.v 35 3 true,.v 39 20 true,.v 41 7 true,.v 29 1 false,.own 99 z,.own 156 A,.v 3 1 false,.v 25 1 false,.own 148 C]
abbrev ag4 (i:Nat):Sp:=.agg [.v 3 1 false,.v 3 1 false,.own 68 i,.v 4 1 false,.v 4 1 false,.v 3 1 false,.v 3 1 false]
abbrev ag5 (i:Nat):Sp:=.agg [.v 3 1 false,.v 3 1 false,.v 3 1 false,.own 156 i,.v 3 1 false,.v 3 1 false,.v 37 1 false,.v 4 1 false,.v 25 1 false,.v 25 1 false,.v 4 1 false,.v 4 1 false,.v 3 1 false,.v 3 1 false,.v 3 1 false,.v 25 1 false,.v 25 1 false,.v 25 1 false,.v 3 1 false,.v 3 1 false,.v 30 1 false,.v 3 1 false,.own 156 (i+1),.own 148 (i+2)]
abbrev ag6 (q z A:Nat):Sp:=.agg [.v 3 1 false,.v 3 1 false,.v 3 1 false,.own 156 q,.v 3 1 false,.v 3 1 false,.v 37 1 false,.v 4 1 false,.v 25 1 false,.v 25 1 false,.v 4 1 false,.v 4 1 false,.v 3 1 false,.v 3 1 false,.v 3 1 false,.v 25 1 false,.v 25 1 false,.v 25 1 false,.v 3 1 false,.v 3 1 false,.v 30 1 false,.v 3 1 false,.own 156 z,.own 148 A]
abbrev kl {α L:Type} (l:List α) (t:Tr U L):Tr U L:=.chk (kL l) t
abbrev kI {α:Type} (i:Int) (l:List α):Bool:=decide (0<=i/\i<(l.length:Int))
abbrev AA {L M:Type} (x:L):Tr U (L⊕M):=.leaf (.inl x)
abbrev AP {L M:Type} (x:M):Tr U (L⊕M):=.leaf (.inr x)
theorem DN:(∀(L R:Type) (l:L) (J:L->Option R),(Tr.leaf l:Tr U L).den J=J l)/\(∀(L R:Type) (c:Bool) (a b:Tr U L) (J:L->Option R),(Tr.br c a b).den J=cond c (a.den J) (b.den J))/\(∀(L R:Type) (t:Nat) (o:Option (U.Ty t)) (k:U.Ty t->Tr U L) (J:L->Option R),(Tr.bind t o k).den J=o.bind fun x=>(k x).den J) /\
  (∀(L R:Type) (c:Bool) (a:Tr U L) (J:L->Option R),(Tr.chk c a).den J=cond c (a.den J) none)/\(∀(L R:Type) (J:L->Option R),(Tr.fail:Tr U L).den J=none)/\(∀(R P:Type) (g:P->Option R) (r:R),Gs g (.inl r)=some r)/\(∀(R P:Type) (g:P->Option R) (q:P),Gs g (.inr q)=g q) /\
  (∀(α:Type) (l:List α),kL l=true)/\(∀(L R α:Type) (l:List α) (a:Tr U L) (J:L->Option R),(kl l a).den J=a.den J)/\(∀(L R:Type) (a:Tr U L) (J:L->Option R),(Tr.chk true a).den J=a.den J)/\(∀(α:Type) (i:Int) (l:List α),kI i l=decide (0<=i/\i<(l.length:Int)))/\(∀n k:Nat,kA n k=(decide (n*k<=lim)&&decide (n<=maxLen))):=
 ⟨fun _ _ _ _=>rfl,fun _ _ _ _ _ _=>rfl,fun _ _ _ _ _ _=>rfl,fun _ _ _ _ _=>rfl,fun _ _ _=>rfl,fun _ _ _ _=>rfl,fun _ _ _ _=>rfl,fun _ _=>beq_self_eq_true _,fun _ _ _ l a J=>by show cond (l.length==l.length) (a.den J) none=_;rw[beq_self_eq_true];rfl,fun _ _ _ _=>rfl,fun _ _ _=>rfl,fun _ _=>rfl⟩
abbrev nM (x:EM):Nl:=⟨(⟨x.Link.BR,x.Link.CZ,x.Link.Clock,x.Link.Event,x.Link.Last,x.Link.Fq,x.Link.Size,x.Link.Sync,x.Link.Hf,x.Link.Gq,x.Link.Hm,x.Link.Good,x.Link.Ec,x.Link.More,(⟨x.Link.Ag.SN,x.Link.Ag.Ee,x.Link.Ag.Open,x.Link.Ag.Empty,x.Link.Ag.Ec,x.Link.Ag.Taken⟩:Z2w),x.Link.FZ,(⟨x.Link.AB.BR,x.Link.AB.Own,x.Link.AB.Since,x.Link.AB.Other,x.Link.AB.Gz,x.Link.AB.Told,x.Link.AB.DK,x.Link.AB.Ic,x.Link.AB.Fg,x.Link.AB.FX,x.Link.AB.Version,x.Link.AB.Length,x.Link.AB.Limit,x.Link.AB.CE,x.Link.AB.GK,x.Link.AB.Mark,x.Link.AB.CJ,x.Link.AB.ER⟩:Ye),x.Link.Dk,x.Link.Key,x.Link.Bq,x.Link.Eg⟩:Z22)⟩
abbrev ZM (x:DF):QM:=⟨(⟨x.AB.BR,x.AB.Own,x.AB.Since,x.AB.Other,x.AB.Gz,x.AB.Told,x.AB.DK,x.AB.Ic,x.AB.Fg,x.AB.FX,x.AB.Version,x.AB.Length,x.AB.Limit,x.AB.CE,x.AB.GK,x.AB.Mark,x.AB.CJ,x.AB.ER⟩:Ye),x.KW,x.IE⟩
def Zeq:List Nat:=[115,206,4,5,3,60,45,46,31,36,62,37,42,110,29,25,26,226,63,77,86,78,75,71,120,104,30,22,189,129,135,140,208,216,269,222,9,254,163,231,233,237,240,256,253]
def Zer:List (Nat×Nat):=[(83,12),(113,3),(59,17),(68,2),(156,15),(138,8),(99,2),(44,66),(39,20),(109,132),(28,11),(52,2),(33,7),(35,3),(24,5),(148,18),(70,5),(262,11),(41,7),(174,3),(252,2),(312,2)]
theorem ZzL:∀t∈Zeq,t∈U.keys/\∀a,cellsS (U.encS t a)=[U.encS t a]:=by
 intro t ht
 repeat (rcases List.mem_cons.1 ht with rfl|ht;exact⟨by decide,fun _=>rfl⟩)
 cases ht
theorem Zzt:∀p∈Zer,p.1∈U.keys/\∀a,∃cs,U.encS p.1 a = .agg cs/\cs.length=p.2:=by
 intro p ht
 repeat (rcases List.mem_cons.1 ht with rfl|ht;exact⟨by decide,fun _=>⟨_,rfl,rfl⟩⟩)
 cases ht
theorem okS {s:Shape} (h:shB U Zeq Zer s=true):s.OK U:=Shape.ok_of ZzL Zzt h
abbrev AA0 (f:Nat) (m:Aj U):Prop:=Ai Tryz.prog B0 f m
theorem AA2 {ts:List Nat} (h:ts.all U.keys.contains=true):∀t∈ts,t∈U.keys:=by simpa using h
abbrev AA1 (f:Nat) (ts:List Nat) (rt:Nat) (fn:F9 U ts->Option (U.Ty rt)) (h:ts.all U.keys.contains=true):Prop:=Ai Tryz.prog B0 f ⟨ts,rt,fn,AA2 h⟩
@[reducible] def AA4 (R:Type):List Pc->Type
 | []=>R
 | .v t _ _::ps=>U.Ty t×AA4 R ps
 | _::ps=>AA4 R ps
@[reducible] def AA5 (R:Type):List Sp->Type
 | []=>R
 | p::ps=>AA4 (AA5 R ps) p.cells
@[reducible] def AA6:List Pb->Type
 | []=>Unit
 | .var _ _ p::q=>AA4 (AA6 q) p.cells
 | .row t _::q=>List (U.Ty t)×AA6 q
def AA7 {R:Type}:(l:List Pc)->AA4 R l->PX U l×R
 | [],x=>((),x)
 | .v _ _ _::ps,x=>((x.1,(AA7 ps x.2).1),(AA7 ps x.2).2)
 | .own _ _::ps,x=>AA7 ps x
 | .ptr _::ps,x=>AA7 ps x
 | .fn _ _ _::ps,x=>AA7 ps x
 | .no::ps,x=>AA7 ps x
 | .und::ps,x=>AA7 ps x
 | .iD _::ps,x=>AA7 ps x
def AA8 {R:Type}:(l:List Sp)->AA5 R l->AX U l×R
 | [],x=>((),x)
 | p::ps,x=>(((AA7 p.cells x).1,(AA8 ps (AA7 p.cells x).2).1),(AA8 ps (AA7 p.cells x).2).2)
def AA9:(l:List Pb)->AA6 l->BX U l
 | [],_=>()
 | .var _ _ p::q,x=>((AA7 p.cells x).1,AA9 q (AA7 p.cells x).2)
 | .row _ _::q,x=>(x.1,AA9 q x.2)
noncomputable def AA3 (fn:Func) (p:List Nat) (L:Lay) (x:AA5 (AA6 L.sh.boxes) L.sh.args):Ae U:=Ad fn p L ((AA8 _ x).1,AA9 _ (AA8 _ x).2)
end
end Go.Proofs.YtjodhcdmhobmoaaGreatDoor
