/- A part of it. -/
import Derived.Test.YtjodhcdmhobmoaaGreatDoorL6
import Derived.Test.YtjodhcdmhobmoaaGreatDoorProg
import Derived.KernelRfl
set_option linter.unusedVariables false
set_option linter.unusedSimpArgs false
namespace Go.Proofs.YtjodhcdmhobmoaaGreatDoor
open Go Go.Proofs.YtjodhcdmhobmoaaGreatDoor.Le
set_option maxRecDepth 100000
noncomputable section
structure DL where
 EK:Int
 EJ:Int
 Df:Int
 Dh:Int
 EO:Int
@[reducible] def BP:DL:=⟨(0:Int),(0:Int),(0:Int),(0:Int),(0:Int)⟩
structure Ey where
 IC:Int
 NT:Int
 BH:DL
 Map:Int
 Hop:Int
 Pj:Int
 KL:Int
@[reducible] def Z6P:Ey:=⟨(0:Int),(0:Int),BP,(0:Int),(0:Int),(0:Int),(0:Int)⟩
structure Z4b where
 x0:Int
 x1:Int
structure Aw where
 Bq:Int
 Payload:List Int
structure Gh where
 Side:Int
 Kind:Int
 BG:Aw
 BH:DL
 Map:Int
 Number:Int
 Key:Int
structure Eg where
 Qw:List Gh
 Vg:Int
 V6:Int
structure Il where
 Ce:Ey
 Keys:Z4b
 I4:Int
 Events:List Eg
 Bl:Int
 BG:Int
structure BU where
 SN:Int
 EF:Int
 Az:List Aw
 Open:Bool
 Empty:Bool
 Fp:Int
 Taken:Int
@[reducible] def Jc:BU:=⟨(0:Int),(0:Int),[],false,false,(0:Int),(0:Int)⟩
structure Dc where
 Dh:Int
 OC:Int
 Full:Bool
@[reducible] def ZkH:Dc:=⟨(0:Int),(0:Int),false⟩
structure AL where
 Kind:Int
 BH:DL
 Map:Int
 DD:Int
 Bc:Int
 DI:Int
 Bo:Int
 Mark:Int
 CQ:Int
 Version:Int
 Length:Int
@[reducible] def GZ:AL:=⟨(0:Int),BP,(0:Int),(0:Int),(0:Int),(0:Int),(0:Int),(0:Int),(0:Int),(0:Int),(0:Int)⟩
structure BN where
 Kind:Int
 DD:Int
 BH:DL
 Map:Int
@[reducible] def Me:BN:=⟨(0:Int),(0:Int),BP,(0:Int)⟩
structure Aa where
 Bl:Int
 Own:Int
 Since:Int
 BI:List AL
 Other:Int
 Ir:Int
 Bz:List BN
 Told:Bool
 CQ:Int
 MB:Int
 Hl:Bool
 JK:Bool
 Version:Int
 Length:Int
 Limit:Int
 Bo:Int
 JW:Int
 Mark:Int
 EI:Int
 GR:Int
@[reducible] def ES:Aa:=⟨(0:Int),(0:Int),(0:Int),[],(0:Int),(0:Int),[],false,(0:Int),(0:Int),false,false,(0:Int),(0:Int),(0:Int),(0:Int),(0:Int),(0:Int),(0:Int),(0:Int)⟩
structure C9 where
 Bl:Int
 Key:Int
 Bo:Int
 Jp:Bool
 NV:Bool
 Tx:Int
 Rx:Int
@[reducible] def RJ:C9:=⟨(0:Int),(0:Int),(0:Int),false,false,(0:Int),(0:Int)⟩
structure BR where
 Good:Int
 N8:Int
structure A8 where
 Bl:Int
 Ce:Ey
 Clock:Int
 Event:Int
 Last:Int
 Ed:Int
 Size:Int
 Sync:Int
 JR:Int
 Hw:Bool
 J6:Bool
 Good:Bool
 Fp:Bool
 More:Bool
 BB:BU
 GM:Dc
 Ak:Aa
 ED:C9
 Key:Int
 DJ:List BR
 BA:List AL
 Bc:Int
 I4:Int
@[reducible] def Dp:A8:=⟨(0:Int),Z6P,(0:Int),(0:Int),(0:Int),(0:Int),(0:Int),(0:Int),(0:Int),false,false,false,false,false,Jc,ZkH,ES,RJ,(0:Int),[],[],(0:Int),(0:Int)⟩
structure Hq where
 Start:Int
 End:Int
structure CS where
 x0:A8
 x1:A8
structure Am where
 Kind:Int
 Event:Int
 BG:Aw
 ZEX:BN
 Number:Int
 BH:DL
structure BM where
 SN:Int
 EF:Int
 MD:Int
 BG:Aw
@[reducible] def F8:BM:=⟨(0:Int),(0:Int),(0:Int),(⟨(0:Int),[]⟩:Aw)⟩
structure Be where
 Hl:Bool
 BH:Bool
 Map:Bool
 DD:Bool
 Bc:Bool
 DI:Bool
 Bo:Bool
 Mark:Bool
 CQ:Bool
 Version:Bool
 Length:Bool
@[reducible] def MZ:Be:=⟨false,false,false,false,false,false,false,false,false,false,false⟩
structure FO where
 Link:A8
 Dt:List Am
structure Io where
 x0:Int
 x1:Int
structure Bd where
 Size:Int
 Value:Int
structure IM where
 Z3v:List Int
structure FD where
 TA:Int
 f_low:Int
 tK:Int
structure Z2y where
 SN:Int
 EF:Int
 Open:Bool
 Empty:Bool
 Fp:Int
 Taken:Int
structure Z1j where
 Bl:Int
 Own:Int
 Since:Int
 Other:Int
 Ir:Int
 Told:Bool
 CQ:Int
 MB:Int
 Hl:Bool
 JK:Bool
 Version:Int
 Length:Int
 Limit:Int
 Bo:Int
 JW:Int
 Mark:Int
 EI:Int
 GR:Int
structure Z1C where
 Bl:Int
 Ce:Ey
 Clock:Int
 Event:Int
 Last:Int
 Ed:Int
 Size:Int
 Sync:Int
 JR:Int
 Hw:Bool
 J6:Bool
 Good:Bool
 Fp:Bool
 More:Bool
 BB:Z2y
 GM:Dc
 Ak:Z1j
 ED:C9
 Key:Int
 Bc:Int
 I4:Int
structure QJ where
 Link:Z1C
structure QC where
 Bl:Int
 Key:Int
 Bo:Int
 Jp:Bool
 NV:Bool
 Tx:Int
 Rx:Int
structure RD where
 q0:List Int
structure Qy where
 q0:List AL
structure Vu where
 q0:List BN
structure Vw where
 q0:List BR
structure I8 where
 q0:List Int
structure KN where
 q0:List Int
structure RP where
 q0:List Int
structure Om where
 q0:List Int
structure QH where
 q0:List Int
structure Rh where
 q0:BU
structure Tm where
 q0:C9
 q1:Int
structure Pv where
 q0:Int
structure TW where
 q0:List Int
structure UL where
 q0:FO
structure Tf where
 q0:FO
 q1:List Aw
 q2:List AL
structure RH where
 q0:List Int
structure Tc where
 q0:AL
structure Td where
 q0:AL
structure TZ where
 q0:AL
structure TQ where
 q0:AL
structure TU where
 q0:AL
structure TS where
 q0:AL
structure TR where
 q0:AL
structure TT where
 q0:AL
structure TP where
 q0:AL
structure Oe where
 q0:AL
structure Qz where
 q0:AL
structure RF where
 q0:AL
@[reducible] def Ty:Nat->Type
 | 1344=>RD
 | 1345=>Qy
 | 1346=>Vu
 | 1347=>Vw
 | 1349=>I8
 | 1351=>KN
 | 1352=>RP
 | 1350=>Om
 | 1348=>QH
 | 1355=>Rh
 | 1356=>Tm
 | 1357=>Pv
 | 1358=>TW
 | 1353=>UL
 | 1354=>Tf
 | 1371=>RH
 | 1362=>Tc
 | 1363=>Td
 | 1364=>TZ
 | 1365=>TQ
 | 1366=>TU
 | 1367=>TS
 | 1368=>TR
 | 1369=>TT
 | 1370=>TP
 | 1359=>Oe
 | 1360=>Qz
 | 1361=>RF
 | 249=>Unit
 | 115=>QJ
 | 3369=>Int
 | 3385=>QC
 | 4=>Bool
 | 5=>Int
 | 83=>Gh
 | 113=>Eg
 | 59=>Il
 | 68=>Aw
 | 156=>AL
 | 138=>BN
 | 99=>BR
 | 44=>A8
 | 3=>Int
 | 60=>A8×Int×Bool
 | 62=>List Int
 | 63=>A8×(List Int)
 | 52=>Hq
 | 31=>List Aw
 | 39=>Aa
 | 36=>List AL
 | 37=>List BN
 | 42=>List BR
 | 104=>Int×Int
 | 28=>Ey
 | 30=>Int
 | 22=>Int
 | 26=>Int
 | 25=>Int
 | 226=>List Int
 | 35=>Dc
 | 33=>BU
 | 109=>CS
 | 45=>Int
 | 46=>A8×Int
 | 110=>CS×Int
 | 29=>Int
 | 24=>DL
 | 148=>Am
 | 77=>List Am
 | 86=>A8×(List Am)×Bool
 | 78=>A8×(List Am)
 | 70=>BM
 | 75=>BU×BM
 | 71=>BM×Int
 | 120=>(List Int)×Int
 | 189=>BU×Int
 | 262=>Be
 | 41=>C9
 | 129=>Dc×Int
 | 135=>Aa×(List BN)
 | 140=>Aa×(List AL)
 | 208=>(List BN)×(List BN)
 | 216=>Aa×AL
 | 269=>(List BN)×Int
 | 222=>Aa×(List AL)×Int
 | 9=>ByteArray
 | 254=>List Int
 | 163=>BU×Aw×Bool×Bool
 | 231=>AL×Int
 | 233=>Aa×(List Am)
 | 237=>Aa×(List AL)×(List Am)
 | 194=>Int×Int
 | 256=>List (List Int)
 | 312=>Io
 | 252=>Bd
 | 253=>List Bd
 | 174=>FD
 | 240=>List FD
 | _=>Empty
abbrev Ef:AB Ty Int:=AB.int .u8
abbrev Pg:AB Ty Int:=AB.int .u16
abbrev O8:AB Ty Int:=AB.int .u32
abbrev CP:AB Ty Int:=AB.int .u64
abbrev BK:AB Ty Int:=AB.int .i64
abbrev Dk:AB Ty Bool:=AB.bool
abbrev cst:AB Ty ByteArray:=AB.str
def II:AB Ty Aw:=AB.CZ (fun x=>(x.Bq,x.Payload,())) (fun p=>⟨p.1,p.2.1⟩) (AB.pair BK (AB.pair (AB.list 5 1 (fun(a:Int)=>Ef.BV a):AB Ty (List (Ty 5))) AB.unit))
def MN:AB Ty DL:=AB.CZ (fun x=>(x.EK,x.EJ,x.Df,x.Dh,x.EO,())) (fun p=>⟨p.1,p.2.1,p.2.2.1,p.2.2.2.1,p.2.2.2.2.1⟩) (AB.pair BK (AB.pair BK (AB.pair BK (AB.pair BK (AB.pair BK AB.unit)))))
def Qs:AB Ty Gh:=AB.CZ (fun x=>(x.Side,x.Kind,x.BG,x.BH,x.Map,x.Number,x.Key,())) (fun p=>⟨p.1,p.2.1,p.2.2.1,p.2.2.2.1,p.2.2.2.2.1,p.2.2.2.2.2.1,p.2.2.2.2.2.2.1⟩) (AB.pair BK (AB.pair BK (AB.pair II (AB.pair MN (AB.pair CP (AB.pair CP (AB.pair CP AB.unit)))))))
def Qi:AB Ty Eg:=AB.CZ (fun x=>(x.Qw,x.Vg,x.V6,())) (fun p=>⟨p.1,p.2.1,p.2.2.1⟩) (AB.pair (AB.list 83 12 (fun(a:Gh)=>.agg (Qs.Au a)):AB Ty (List (Ty 83))) (AB.pair BK (AB.pair BK AB.unit)))
def Pe:AB Ty Ey:=AB.CZ (fun x=>(x.IC,x.NT,x.BH,x.Map,x.Hop,x.Pj,x.KL,())) (fun p=>⟨p.1,p.2.1,p.2.2.1,p.2.2.2.1,p.2.2.2.2.1,p.2.2.2.2.2.1,p.2.2.2.2.2.2.1⟩) (AB.pair O8 (AB.pair O8 (AB.pair MN (AB.pair CP (AB.pair BK (AB.pair BK (AB.pair BK AB.unit)))))))
def vK:AB Ty Z4b:=AB.CZ (fun x=>(x.x0,x.x1,())) (fun p=>⟨p.1,p.2.1⟩) (AB.pair CP (AB.pair CP AB.unit))
def V5:AB Ty Il:=AB.CZ (fun x=>(x.Ce,x.Keys,x.I4,x.Events,x.Bl,x.BG,())) (fun p=>⟨p.1,p.2.1,p.2.2.1,p.2.2.2.1,p.2.2.2.2.1,p.2.2.2.2.2.1⟩) (AB.pair Pe (AB.pair vK (AB.pair CP (AB.pair (AB.list 113 3 (fun(a:Eg)=>.agg (Qi.Au a)):AB Ty (List (Ty 113))) (AB.pair BK (AB.pair BK AB.unit))))))
def GN:AB Ty AL:=AB.CZ (fun x=>(x.Kind,x.BH,x.Map,x.DD,x.Bc,x.DI,x.Bo,x.Mark,x.CQ,x.Version,x.Length,())) (fun p=>⟨p.1,p.2.1,p.2.2.1,p.2.2.2.1,p.2.2.2.2.1,p.2.2.2.2.2.1,p.2.2.2.2.2.2.1,p.2.2.2.2.2.2.2.1,p.2.2.2.2.2.2.2.2.1,p.2.2.2.2.2.2.2.2.2.1,p.2.2.2.2.2.2.2.2.2.2.1⟩) (AB.pair BK (AB.pair MN (AB.pair CP (AB.pair Pg (AB.pair BK (AB.pair BK (AB.pair CP (AB.pair CP (AB.pair CP (AB.pair BK (AB.pair BK AB.unit)))))))))))
def He:AB Ty BN:=AB.CZ (fun x=>(x.Kind,x.DD,x.BH,x.Map,())) (fun p=>⟨p.1,p.2.1,p.2.2.1,p.2.2.2.1⟩) (AB.pair BK (AB.pair Pg (AB.pair MN (AB.pair CP AB.unit))))
def MO:AB Ty BR:=AB.CZ (fun x=>(x.Good,x.N8,())) (fun p=>⟨p.1,p.2.1⟩) (AB.pair BK (AB.pair BK AB.unit))
def NW:AB Ty BU:=AB.CZ (fun x=>(x.SN,x.EF,x.Az,x.Open,x.Empty,x.Fp,x.Taken,())) (fun p=>⟨p.1,p.2.1,p.2.2.1,p.2.2.2.1,p.2.2.2.2.1,p.2.2.2.2.2.1,p.2.2.2.2.2.2.1⟩) (AB.pair BK (AB.pair BK (AB.pair (AB.list 68 2 (fun(a:Aw)=>.agg (II.Au a)):AB Ty (List (Ty 68))) (AB.pair Dk (AB.pair Dk (AB.pair BK (AB.pair BK AB.unit)))))))
def Qm:AB Ty Dc:=AB.CZ (fun x=>(x.Dh,x.OC,x.Full,())) (fun p=>⟨p.1,p.2.1,p.2.2.1⟩) (AB.pair BK (AB.pair BK (AB.pair Dk AB.unit)))
def Ig:AB Ty Aa:=AB.CZ (fun x=>(x.Bl,x.Own,x.Since,x.BI,x.Other,x.Ir,x.Bz,x.Told,x.CQ,x.MB,x.Hl,x.JK,x.Version,x.Length,x.Limit,x.Bo,x.JW,x.Mark,x.EI,x.GR,())) (fun p=>⟨p.1,p.2.1,p.2.2.1,p.2.2.2.1,p.2.2.2.2.1,p.2.2.2.2.2.1,p.2.2.2.2.2.2.1,p.2.2.2.2.2.2.2.1,p.2.2.2.2.2.2.2.2.1,p.2.2.2.2.2.2.2.2.2.1,p.2.2.2.2.2.2.2.2.2.2.1,p.2.2.2.2.2.2.2.2.2.2.2.1,p.2.2.2.2.2.2.2.2.2.2.2.2.1,p.2.2.2.2.2.2.2.2.2.2.2.2.2.1,p.2.2.2.2.2.2.2.2.2.2.2.2.2.2.1,p.2.2.2.2.2.2.2.2.2.2.2.2.2.2.2.1,p.2.2.2.2.2.2.2.2.2.2.2.2.2.2.2.2.1,p.2.2.2.2.2.2.2.2.2.2.2.2.2.2.2.2.2.1,p.2.2.2.2.2.2.2.2.2.2.2.2.2.2.2.2.2.2.1,p.2.2.2.2.2.2.2.2.2.2.2.2.2.2.2.2.2.2.2.1⟩) (AB.pair BK (AB.pair BK (AB.pair BK (AB.pair (AB.list 156 15 (fun(a:AL)=>.agg (GN.Au a)):AB Ty (List (Ty 156))) (AB.pair BK (AB.pair BK (AB.pair (AB.list 138 8 (fun(a:BN)=>.agg (He.Au a)):AB Ty (List (Ty 138))) (AB.pair Dk (AB.pair CP (AB.pair CP (AB.pair Dk (AB.pair Dk (AB.pair BK (AB.pair BK (AB.pair BK (AB.pair CP (AB.pair CP (AB.pair CP (AB.pair BK (AB.pair BK AB.unit))))))))))))))))))))
def V7:AB Ty C9:=AB.CZ (fun x=>(x.Bl,x.Key,x.Bo,x.Jp,x.NV,x.Tx,x.Rx,())) (fun p=>⟨p.1,p.2.1,p.2.2.1,p.2.2.2.1,p.2.2.2.2.1,p.2.2.2.2.2.1,p.2.2.2.2.2.2.1⟩) (AB.pair BK (AB.pair CP (AB.pair CP (AB.pair Dk (AB.pair Dk (AB.pair CP (AB.pair CP AB.unit)))))))
def JH:AB Ty A8:=AB.CZ (fun x=>(x.Bl,x.Ce,x.Clock,x.Event,x.Last,x.Ed,x.Size,x.Sync,x.JR,x.Hw,x.J6,x.Good,x.Fp,x.More,x.BB,x.GM,x.Ak,x.ED,x.Key,x.DJ,x.BA,x.Bc,x.I4,())) (fun p=>⟨p.1,p.2.1,p.2.2.1,p.2.2.2.1,p.2.2.2.2.1,p.2.2.2.2.2.1,p.2.2.2.2.2.2.1,p.2.2.2.2.2.2.2.1,p.2.2.2.2.2.2.2.2.1,p.2.2.2.2.2.2.2.2.2.1,p.2.2.2.2.2.2.2.2.2.2.1,p.2.2.2.2.2.2.2.2.2.2.2.1,p.2.2.2.2.2.2.2.2.2.2.2.2.1,p.2.2.2.2.2.2.2.2.2.2.2.2.2.1,p.2.2.2.2.2.2.2.2.2.2.2.2.2.2.1,p.2.2.2.2.2.2.2.2.2.2.2.2.2.2.2.1,p.2.2.2.2.2.2.2.2.2.2.2.2.2.2.2.2.1,p.2.2.2.2.2.2.2.2.2.2.2.2.2.2.2.2.2.1,p.2.2.2.2.2.2.2.2.2.2.2.2.2.2.2.2.2.2.1,p.2.2.2.2.2.2.2.2.2.2.2.2.2.2.2.2.2.2.2.1,p.2.2.2.2.2.2.2.2.2.2.2.2.2.2.2.2.2.2.2.2.1,p.2.2.2.2.2.2.2.2.2.2.2.2.2.2.2.2.2.2.2.2.2.1,p.2.2.2.2.2.2.2.2.2.2.2.2.2.2.2.2.2.2.2.2.2.2.1⟩) (AB.pair BK (AB.pair Pe (AB.pair BK (AB.pair Pg (AB.pair BK (AB.pair BK (AB.pair BK (AB.pair BK (AB.pair BK (AB.pair Dk (AB.pair Dk (AB.pair Dk (AB.pair Dk (AB.pair Dk (AB.pair NW (AB.pair Qm (AB.pair Ig (AB.pair V7 (AB.pair CP (AB.pair (AB.list 99 2 (fun(a:BR)=>.agg (MO.Au a)):AB Ty (List (Ty 99))) (AB.pair (AB.list 156 15 (fun(a:AL)=>.agg (GN.Au a)):AB Ty (List (Ty 156))) (AB.pair BK (AB.pair CP AB.unit)))))))))))))))))))))))
def vG:AB Ty Hq:=AB.CZ (fun x=>(x.Start,x.End,())) (fun p=>⟨p.1,p.2.1⟩) (AB.pair BK (AB.pair BK AB.unit))
def VM:AB Ty CS:=AB.CZ (fun x=>(x.x0,x.x1,())) (fun p=>⟨p.1,p.2.1⟩) (AB.pair JH (AB.pair JH AB.unit))
def IX:AB Ty Am:=AB.CZ (fun x=>(x.Kind,x.Event,x.BG,x.ZEX,x.Number,x.BH,())) (fun p=>⟨p.1,p.2.1,p.2.2.1,p.2.2.2.1,p.2.2.2.2.1,p.2.2.2.2.2.1⟩) (AB.pair BK (AB.pair Pg (AB.pair II (AB.pair He (AB.pair CP (AB.pair MN AB.unit))))))
def Qr:AB Ty BM:=AB.CZ (fun x=>(x.SN,x.EF,x.MD,x.BG,())) (fun p=>⟨p.1,p.2.1,p.2.2.1,p.2.2.2.1⟩) (AB.pair BK (AB.pair BK (AB.pair BK (AB.pair II AB.unit))))
def uV:AB Ty Be:=AB.CZ (fun x=>(x.Hl,x.BH,x.Map,x.DD,x.Bc,x.DI,x.Bo,x.Mark,x.CQ,x.Version,x.Length,())) (fun p=>⟨p.1,p.2.1,p.2.2.1,p.2.2.2.1,p.2.2.2.2.1,p.2.2.2.2.2.1,p.2.2.2.2.2.2.1,p.2.2.2.2.2.2.2.1,p.2.2.2.2.2.2.2.2.1,p.2.2.2.2.2.2.2.2.2.1,p.2.2.2.2.2.2.2.2.2.2.1⟩) (AB.pair Dk (AB.pair Dk (AB.pair Dk (AB.pair Dk (AB.pair Dk (AB.pair Dk (AB.pair Dk (AB.pair Dk (AB.pair Dk (AB.pair Dk (AB.pair Dk AB.unit)))))))))))
def uX:AB Ty Io:=AB.CZ (fun x=>(x.x0,x.x1,())) (fun p=>⟨p.1,p.2.1⟩) (AB.pair O8 (AB.pair O8 AB.unit))
def OZ:AB Ty Bd:=AB.CZ (fun x=>(x.Size,x.Value,())) (fun p=>⟨p.1,p.2.1⟩) (AB.pair BK (AB.pair CP AB.unit))
def O4:AB Ty FD:=AB.CZ (fun x=>(x.TA,x.f_low,x.tK,())) (fun p=>⟨p.1,p.2.1,p.2.2.1⟩) (AB.pair BK (AB.pair BK (AB.pair BK AB.unit)))
def Zfa:AB Ty Z2y:=AB.CZ (fun x=>(x.SN,x.EF,(),x.Open,x.Empty,x.Fp,x.Taken,())) (fun p=>⟨p.1,p.2.1,p.2.2.2.1,p.2.2.2.2.1,p.2.2.2.2.2.1,p.2.2.2.2.2.2.1⟩) (AB.pair BK (AB.pair BK (AB.pair AB.skip (AB.pair Dk (AB.pair Dk (AB.pair BK (AB.pair BK AB.unit)))))))
def Zfc:AB Ty Z1j:=AB.CZ (fun x=>(x.Bl,x.Own,x.Since,(),x.Other,x.Ir,(),x.Told,x.CQ,x.MB,x.Hl,x.JK,x.Version,x.Length,x.Limit,x.Bo,x.JW,x.Mark,x.EI,x.GR,())) (fun p=>⟨p.1,p.2.1,p.2.2.1,p.2.2.2.2.1,p.2.2.2.2.2.1,p.2.2.2.2.2.2.2.1,p.2.2.2.2.2.2.2.2.1,p.2.2.2.2.2.2.2.2.2.1,p.2.2.2.2.2.2.2.2.2.2.1,p.2.2.2.2.2.2.2.2.2.2.2.1,p.2.2.2.2.2.2.2.2.2.2.2.2.1,p.2.2.2.2.2.2.2.2.2.2.2.2.2.1,p.2.2.2.2.2.2.2.2.2.2.2.2.2.2.1,p.2.2.2.2.2.2.2.2.2.2.2.2.2.2.2.1,p.2.2.2.2.2.2.2.2.2.2.2.2.2.2.2.2.1,p.2.2.2.2.2.2.2.2.2.2.2.2.2.2.2.2.2.1,p.2.2.2.2.2.2.2.2.2.2.2.2.2.2.2.2.2.2.1,p.2.2.2.2.2.2.2.2.2.2.2.2.2.2.2.2.2.2.2.1⟩) (AB.pair BK (AB.pair BK (AB.pair BK (AB.pair AB.skip (AB.pair BK (AB.pair BK (AB.pair AB.skip (AB.pair Dk (AB.pair CP (AB.pair CP (AB.pair Dk (AB.pair Dk (AB.pair BK (AB.pair BK (AB.pair BK (AB.pair CP (AB.pair CP (AB.pair CP (AB.pair BK (AB.pair BK AB.unit))))))))))))))))))))
def Zf8:AB Ty Z1C:=AB.CZ (fun x=>(x.Bl,x.Ce,x.Clock,x.Event,x.Last,x.Ed,x.Size,x.Sync,x.JR,x.Hw,x.J6,x.Good,x.Fp,x.More,x.BB,x.GM,x.Ak,x.ED,x.Key,(),(),x.Bc,x.I4,())) (fun p=>⟨p.1,p.2.1,p.2.2.1,p.2.2.2.1,p.2.2.2.2.1,p.2.2.2.2.2.1,p.2.2.2.2.2.2.1,p.2.2.2.2.2.2.2.1,p.2.2.2.2.2.2.2.2.1,p.2.2.2.2.2.2.2.2.2.1,p.2.2.2.2.2.2.2.2.2.2.1,p.2.2.2.2.2.2.2.2.2.2.2.1,p.2.2.2.2.2.2.2.2.2.2.2.2.1,p.2.2.2.2.2.2.2.2.2.2.2.2.2.1,p.2.2.2.2.2.2.2.2.2.2.2.2.2.2.1,p.2.2.2.2.2.2.2.2.2.2.2.2.2.2.2.1,p.2.2.2.2.2.2.2.2.2.2.2.2.2.2.2.2.1,p.2.2.2.2.2.2.2.2.2.2.2.2.2.2.2.2.2.1,p.2.2.2.2.2.2.2.2.2.2.2.2.2.2.2.2.2.2.1,p.2.2.2.2.2.2.2.2.2.2.2.2.2.2.2.2.2.2.2.2.2.1,p.2.2.2.2.2.2.2.2.2.2.2.2.2.2.2.2.2.2.2.2.2.2.1⟩) (AB.pair BK (AB.pair Pe (AB.pair BK (AB.pair Pg (AB.pair BK (AB.pair BK (AB.pair BK (AB.pair BK (AB.pair BK (AB.pair Dk (AB.pair Dk (AB.pair Dk (AB.pair Dk (AB.pair Dk (AB.pair Zfa (AB.pair Qm (AB.pair Zfc (AB.pair V7 (AB.pair CP (AB.pair AB.skip (AB.pair AB.skip (AB.pair BK (AB.pair CP AB.unit)))))))))))))))))))))))
def tZ:AB Ty QJ:=AB.CZ (fun x=>(x.Link,(),())) (fun p=>⟨p.1⟩) (AB.pair Zf8 (AB.pair AB.skip AB.unit))
def uY:AB Ty QC:=AB.CZ (fun x=>(x.Bl,x.Key,x.Bo,x.Jp,x.NV,x.Tx,x.Rx,())) (fun p=>⟨p.1,p.2.1,p.2.2.1,p.2.2.2.1,p.2.2.2.2.1,p.2.2.2.2.2.1,p.2.2.2.2.2.2.1⟩) (AB.pair BK (AB.pair CP (AB.pair CP (AB.pair Dk (AB.pair Dk (AB.pair CP (AB.pair CP AB.unit)))))))
def ZCH:List V:=[.lit (.int .i64 5),.agg [.sl false 1 [],.fn 348 [] [],.fn 349 [] [],.fn 309 [] []],
 .lit (.int .i64 6),.agg [.sl false 1 [],.fn 348 [] [],.fn 349 [] [],.fn 309 [] []],
 .lit (.int .i64 18),.agg [.sl false 1 [],.fn 348 [] [],.fn 349 [] [],.fn 309 [] []],
 .lit (.int .i64 19),.agg [.sl false 1 [],.fn 348 [] [],.fn 349 [] [],.fn 309 [] []],
 .lit (.int .i64 8),.agg [.sl false 1 [.lit (.int .i64 8)],.fn 350 [] [],.fn 351 [] [],.fn 309 [] []],
 .lit (.int .i64 9),.agg [.sl false 1 [.lit (.int .i64 8)],.fn 350 [] [],.fn 351 [] [],.fn 309 [] []],
 .lit (.int .i64 20),.agg [.sl false 1 [.lit (.int .i64 1)],.fn 352 [] [],.fn 353 [] [],.fn 354 [] []],
 .lit (.int .i64 21),.agg [.sl false 1 [.lit (.int .i64 1)],.fn 352 [] [],.fn 353 [] [],.fn 354 [] []],
 .lit (.int .i64 0),.agg [.sl false 1 [.lit (.int .i64 1),.lit (.int .i64 2),.lit (.int .i64 2),.lit (.int .i64 2),.lit (.int .i64 2),.lit (.int .i64 2)],.fn 292 [] [],.fn 294 [] [],.fn 296 [] []],
 .lit (.int .i64 1),.agg [.sl false 1 [.lit (.int .i64 5),.lit (.int .i64 2)],.fn 297 [] [],.fn 298 [] [],.fn 299 [] []],
 .lit (.int .i64 15),.agg [.sl false 1 [.lit (.int .i64 1),.lit (.int .i64 2),.lit (.int .i64 2),.lit (.int .i64 2),.lit (.int .i64 2)],.fn 300 [] [],.fn 301 [] [],.fn 302 [] []],
 .lit (.int .i64 2),.agg [.sl false 1 [.lit (.int .i64 1)],.fn 303 [] [],.fn 304 [] [],.fn 305 [] []],
 .lit (.int .i64 3),.agg [.sl false 1 [.lit (.int .i64 8),.lit (.int .i64 8)],.fn 307 [] [],.fn 308 [] [],.fn 309 [] []],
 .lit (.int .i64 4),.agg [.sl false 1 [.lit (.int .i64 8)],.fn 310 [] [],.fn 311 [] [],.fn 309 [] []],
 .lit (.int .i64 7),.agg [.sl false 1 [.lit (.int .i64 1)],.fn 312 [] [],.fn 313 [] [],.fn 314 [] []],
 .lit (.int .i64 12),.agg [.sl false 1 [.lit (.int .i64 1)],.fn 315 [] [],.fn 316 [] [],.fn 317 [] []],
 .lit (.int .i64 13),.agg [.sl false 1 [.lit (.int .i64 1),.lit (.int .i64 1)],.fn 318 [] [],.fn 319 [] [],.fn 320 [] []]]
def ZCb:List (SV Ty):=[.lit (.int .i64 5),.agg [.sl 3 ([]:List Int),.fn 348 [] [],.fn 349 [] [],.fn 309 [] []],
 .lit (.int .i64 6),.agg [.sl 3 ([]:List Int),.fn 348 [] [],.fn 349 [] [],.fn 309 [] []],
 .lit (.int .i64 18),.agg [.sl 3 ([]:List Int),.fn 348 [] [],.fn 349 [] [],.fn 309 [] []],
 .lit (.int .i64 19),.agg [.sl 3 ([]:List Int),.fn 348 [] [],.fn 349 [] [],.fn 309 [] []],
 .lit (.int .i64 8),.agg [.sl 3 ([8]:List Int),.fn 350 [] [],.fn 351 [] [],.fn 309 [] []],
 .lit (.int .i64 9),.agg [.sl 3 ([8]:List Int),.fn 350 [] [],.fn 351 [] [],.fn 309 [] []],
 .lit (.int .i64 20),.agg [.sl 3 ([1]:List Int),.fn 352 [] [],.fn 353 [] [],.fn 354 [] []],
 .lit (.int .i64 21),.agg [.sl 3 ([1]:List Int),.fn 352 [] [],.fn 353 [] [],.fn 354 [] []],
 .lit (.int .i64 0),.agg [.sl 3 ([1,2,2,2,2,2]:List Int),.fn 292 [] [],.fn 294 [] [],.fn 296 [] []],
 .lit (.int .i64 1),.agg [.sl 3 ([5,2]:List Int),.fn 297 [] [],.fn 298 [] [],.fn 299 [] []],
 .lit (.int .i64 15),.agg [.sl 3 ([1,2,2,2,2]:List Int),.fn 300 [] [],.fn 301 [] [],.fn 302 [] []],
 .lit (.int .i64 2),.agg [.sl 3 ([1]:List Int),.fn 303 [] [],.fn 304 [] [],.fn 305 [] []],
 .lit (.int .i64 3),.agg [.sl 3 ([8,8]:List Int),.fn 307 [] [],.fn 308 [] [],.fn 309 [] []],
 .lit (.int .i64 4),.agg [.sl 3 ([8]:List Int),.fn 310 [] [],.fn 311 [] [],.fn 309 [] []],
 .lit (.int .i64 7),.agg [.sl 3 ([1]:List Int),.fn 312 [] [],.fn 313 [] [],.fn 314 [] []],
 .lit (.int .i64 12),.agg [.sl 3 ([1]:List Int),.fn 315 [] [],.fn 316 [] [],.fn 317 [] []],
 .lit (.int .i64 13),.agg [.sl 3 ([1,1]:List Int),.fn 318 [] [],.fn 319 [] [],.fn 320 [] []]]
@[reducible] def U:CY where
 Ty:=Ty
 Ap:=fun t=>match t with
  | 4=>1
  | 5=>1
  | 83=>12
  | 113=>3
  | 59=>17
  | 68=>2
  | 156=>15
  | 138=>8
  | 99=>2
  | 44=>66
  | 3=>1
  | 60=>1
  | 62=>1
  | 63=>1
  | 52=>2
  | 31=>1
  | 39=>20
  | 36=>1
  | 37=>1
  | 42=>1
  | 104=>1
  | 28=>11
  | 30=>1
  | 22=>1
  | 26=>1
  | 25=>1
  | 226=>1
  | 35=>3
  | 33=>7
  | 109=>132
  | 45=>1
  | 46=>1
  | 110=>1
  | 29=>1
  | 24=>5
  | 148=>18
  | 77=>1
  | 86=>1
  | 78=>1
  | 70=>5
  | 75=>1
  | 71=>1
  | 120=>1
  | 189=>1
  | 262=>11
  | 41=>7
  | 129=>1
  | 135=>1
  | 140=>1
  | 208=>1
  | 216=>1
  | 269=>1
  | 222=>1
  | 9=>1
  | 254=>1
  | 163=>1
  | 231=>1
  | 233=>1
  | 237=>1
  | 194=>1
  | 256=>1
  | 312=>2
  | 252=>2
  | 253=>1
  | 174=>3
  | 240=>1
  | _=>0
 enc:=fun t=>match t with
  | 249=>fun(_:Unit)=>.GV ZCH
  | 115=>fun(a:QJ)=>tZ.NU 67 a
  | 3369=>fun(a:Int)=>(CP:AB Ty Int).PV 1 a
  | 3385=>fun(a:QC)=>uY.NU 7 a
  | 4=>fun(a:Bool)=>Dk.BV a
  | 5=>fun(a:Int)=>Ef.BV a
  | 83=>fun(a:Gh)=>.agg (Qs.Au a)
  | 113=>fun(a:Eg)=>.agg (Qi.Au a)
  | 59=>fun(a:Il)=>.agg (V5.Au a)
  | 68=>fun(a:Aw)=>.agg (II.Au a)
  | 156=>fun(a:AL)=>.agg (GN.Au a)
  | 138=>fun(a:BN)=>.agg (He.Au a)
  | 99=>fun(a:BR)=>.agg (MO.Au a)
  | 44=>fun(a:A8)=>.agg (JH.Au a)
  | 3=>fun(a:Int)=>BK.BV a
  | 60=>fun(a:A8×Int×Bool)=>.BF [(.agg (JH.Au a.1)),(BK.BV a.2.1),(Dk.BV a.2.2)]
  | 62=>fun(a:List Int)=>((AB.list 5 1 (fun(a:Int)=>Ef.BV a):AB Ty (List (Ty 5)))).BV a
  | 63=>fun(a:A8×(List Int))=>.BF [(.agg (JH.Au a.1)),(((AB.list 5 1 (fun(a:Int)=>Ef.BV a):AB Ty (List (Ty 5)))).BV a.2)]
  | 52=>fun(a:Hq)=>.agg (vG.Au a)
  | 31=>fun(a:List Aw)=>((AB.list 68 2 (fun(a:Aw)=>.agg (II.Au a)):AB Ty (List (Ty 68)))).BV a
  | 39=>fun(a:Aa)=>.agg (Ig.Au a)
  | 36=>fun(a:List AL)=>((AB.list 156 15 (fun(a:AL)=>.agg (GN.Au a)):AB Ty (List (Ty 156)))).BV a
  | 37=>fun(a:List BN)=>((AB.list 138 8 (fun(a:BN)=>.agg (He.Au a)):AB Ty (List (Ty 138)))).BV a
  | 42=>fun(a:List BR)=>((AB.list 99 2 (fun(a:BR)=>.agg (MO.Au a)):AB Ty (List (Ty 99)))).BV a
  | 104=>fun(a:Int×Int)=>.BF [(BK.BV a.1),(BK.BV a.2)]
  | 28=>fun(a:Ey)=>.agg (Pe.Au a)
  | 30=>fun(a:Int)=>Pg.BV a
  | 22=>fun(a:Int)=>O8.BV a
  | 26=>fun(a:Int)=>CP.BV a
  | 25=>fun(a:Int)=>CP.BV a
  | 226=>fun(a:List Int)=>((AB.list 3 1 (fun(a:Int)=>BK.BV a):AB Ty (List (Ty 3)))).BV a
  | 35=>fun(a:Dc)=>.agg (Qm.Au a)
  | 33=>fun(a:BU)=>.agg (NW.Au a)
  | 109=>fun(a:CS)=>.agg (VM.Au a)
  | 45=>fun(a:Int)=>BK.BV a
  | 46=>fun(a:A8×Int)=>.BF [(.agg (JH.Au a.1)),(BK.BV a.2)]
  | 110=>fun(a:CS×Int)=>.BF [(.agg (VM.Au a.1)),(BK.BV a.2)]
  | 29=>fun(a:Int)=>CP.BV a
  | 24=>fun(a:DL)=>.agg (MN.Au a)
  | 148=>fun(a:Am)=>.agg (IX.Au a)
  | 77=>fun(a:List Am)=>((AB.list 148 18 (fun(a:Am)=>.agg (IX.Au a)):AB Ty (List (Ty 148)))).BV a
  | 86=>fun(a:A8×(List Am)×Bool)=>.BF [(.agg (JH.Au a.1)),(((AB.list 148 18 (fun(a:Am)=>.agg (IX.Au a)):AB Ty (List (Ty 148)))).BV a.2.1),(Dk.BV a.2.2)]
  | 78=>fun(a:A8×(List Am))=>.BF [(.agg (JH.Au a.1)),(((AB.list 148 18 (fun(a:Am)=>.agg (IX.Au a)):AB Ty (List (Ty 148)))).BV a.2)]
  | 70=>fun(a:BM)=>.agg (Qr.Au a)
  | 75=>fun(a:BU×BM)=>.BF [(.agg (NW.Au a.1)),(.agg (Qr.Au a.2))]
  | 71=>fun(a:BM×Int)=>.BF [(.agg (Qr.Au a.1)),(BK.BV a.2)]
  | 120=>fun(a:(List Int)×Int)=>.BF [(((AB.list 5 1 (fun(a:Int)=>Ef.BV a):AB Ty (List (Ty 5)))).BV a.1),(BK.BV a.2)]
  | 189=>fun(a:BU×Int)=>.BF [(.agg (NW.Au a.1)),(BK.BV a.2)]
  | 262=>fun(a:Be)=>.agg (uV.Au a)
  | 41=>fun(a:C9)=>.agg (V7.Au a)
  | 129=>fun(a:Dc×Int)=>.BF [(.agg (Qm.Au a.1)),(BK.BV a.2)]
  | 135=>fun(a:Aa×(List BN))=>.BF [(.agg (Ig.Au a.1)),(((AB.list 138 8 (fun(a:BN)=>.agg (He.Au a)):AB Ty (List (Ty 138)))).BV a.2)]
  | 140=>fun(a:Aa×(List AL))=>.BF [(.agg (Ig.Au a.1)),(((AB.list 156 15 (fun(a:AL)=>.agg (GN.Au a)):AB Ty (List (Ty 156)))).BV a.2)]
  | 208=>fun(a:(List BN)×(List BN))=>.BF [(((AB.list 138 8 (fun(a:BN)=>.agg (He.Au a)):AB Ty (List (Ty 138)))).BV a.1),(((AB.list 138 8 (fun(a:BN)=>.agg (He.Au a)):AB Ty (List (Ty 138)))).BV a.2)]
  | 216=>fun(a:Aa×AL)=>.BF [(.agg (Ig.Au a.1)),(.agg (GN.Au a.2))]
  | 269=>fun(a:(List BN)×Int)=>.BF [(((AB.list 138 8 (fun(a:BN)=>.agg (He.Au a)):AB Ty (List (Ty 138)))).BV a.1),(BK.BV a.2)]
  | 222=>fun(a:Aa×(List AL)×Int)=>.BF [(.agg (Ig.Au a.1)),(((AB.list 156 15 (fun(a:AL)=>.agg (GN.Au a)):AB Ty (List (Ty 156)))).BV a.2.1),(BK.BV a.2.2)]
  | 9=>fun(a:ByteArray)=>cst.BV a
  | 254=>fun(a:List Int)=>((AB.list 25 1 (fun(a:Int)=>CP.BV a):AB Ty (List (Ty 25)))).BV a
  | 163=>fun(a:BU×Aw×Bool×Bool)=>.BF [(.agg (NW.Au a.1)),(.agg (II.Au a.2.1)),(Dk.BV a.2.2.1),(Dk.BV a.2.2.2)]
  | 231=>fun(a:AL×Int)=>.BF [(.agg (GN.Au a.1)),(BK.BV a.2)]
  | 233=>fun(a:Aa×(List Am))=>.BF [(.agg (Ig.Au a.1)),(((AB.list 148 18 (fun(a:Am)=>.agg (IX.Au a)):AB Ty (List (Ty 148)))).BV a.2)]
  | 237=>fun(a:Aa×(List AL)×(List Am))=>.BF [(.agg (Ig.Au a.1)),(((AB.list 156 15 (fun(a:AL)=>.agg (GN.Au a)):AB Ty (List (Ty 156)))).BV a.2.1),(((AB.list 148 18 (fun(a:Am)=>.agg (IX.Au a)):AB Ty (List (Ty 148)))).BV a.2.2)]
  | 194=>fun(a:Int×Int)=>.BF [(CP.BV a.1),(CP.BV a.2)]
  | 256=>fun(a:List (List Int))=>((AB.list 62 1 (fun(a:List Int)=>((AB.list 5 1 (fun(a:Int)=>Ef.BV a):AB Ty (List (Ty 5)))).BV a):AB Ty (List (Ty 62)))).BV a
  | 312=>fun(a:Io)=>.agg (uX.Au a)
  | 252=>fun(a:Bd)=>.agg (OZ.Au a)
  | 253=>fun(a:List Bd)=>((AB.list 252 2 (fun(a:Bd)=>.agg (OZ.Au a)):AB Ty (List (Ty 252)))).BV a
  | 174=>fun(a:FD)=>.agg (O4.Au a)
  | 240=>fun(a:List FD)=>((AB.list 174 3 (fun(a:FD)=>.agg (O4.Au a)):AB Ty (List (Ty 174)))).BV a
  | _=>fun _=>.no
 encS:=fun t=>match t with
  | 249=>fun(_:Unit)=>.Oc ZCb
  | 115=>fun(a:QJ)=>.raw (tZ.NU 67 a)
  | 3369=>fun(a:Int)=>.raw ((CP:AB Ty Int).PV 1 a)
  | 3385=>fun(a:QC)=>.raw (uY.NU 7 a)
  | 4=>fun(a:Bool)=>Dk.DR a
  | 5=>fun(a:Int)=>Ef.DR a
  | 83=>fun(a:Gh)=>.agg (Qs.encS a)
  | 113=>fun(a:Eg)=>.agg (Qi.encS a)
  | 59=>fun(a:Il)=>.agg (V5.encS a)
  | 68=>fun(a:Aw)=>.agg (II.encS a)
  | 156=>fun(a:AL)=>.agg (GN.encS a)
  | 138=>fun(a:BN)=>.agg (He.encS a)
  | 99=>fun(a:BR)=>.agg (MO.encS a)
  | 44=>fun(a:A8)=>.agg (JH.encS a)
  | 3=>fun(a:Int)=>BK.DR a
  | 60=>fun(a:A8×Int×Bool)=>.BF [(.agg (JH.encS a.1)),(BK.DR a.2.1),(Dk.DR a.2.2)]
  | 62=>fun(a:List Int)=>((AB.list 5 1 (fun(a:Int)=>Ef.BV a):AB Ty (List (Ty 5)))).DR a
  | 63=>fun(a:A8×(List Int))=>.BF [(.agg (JH.encS a.1)),(((AB.list 5 1 (fun(a:Int)=>Ef.BV a):AB Ty (List (Ty 5)))).DR a.2)]
  | 52=>fun(a:Hq)=>.agg (vG.encS a)
  | 31=>fun(a:List Aw)=>((AB.list 68 2 (fun(a:Aw)=>.agg (II.Au a)):AB Ty (List (Ty 68)))).DR a
  | 39=>fun(a:Aa)=>.agg (Ig.encS a)
  | 36=>fun(a:List AL)=>((AB.list 156 15 (fun(a:AL)=>.agg (GN.Au a)):AB Ty (List (Ty 156)))).DR a
  | 37=>fun(a:List BN)=>((AB.list 138 8 (fun(a:BN)=>.agg (He.Au a)):AB Ty (List (Ty 138)))).DR a
  | 42=>fun(a:List BR)=>((AB.list 99 2 (fun(a:BR)=>.agg (MO.Au a)):AB Ty (List (Ty 99)))).DR a
  | 104=>fun(a:Int×Int)=>.BF [(BK.DR a.1),(BK.DR a.2)]
  | 28=>fun(a:Ey)=>.agg (Pe.encS a)
  | 30=>fun(a:Int)=>Pg.DR a
  | 22=>fun(a:Int)=>O8.DR a
  | 26=>fun(a:Int)=>CP.DR a
  | 25=>fun(a:Int)=>CP.DR a
  | 226=>fun(a:List Int)=>((AB.list 3 1 (fun(a:Int)=>BK.BV a):AB Ty (List (Ty 3)))).DR a
  | 35=>fun(a:Dc)=>.agg (Qm.encS a)
  | 33=>fun(a:BU)=>.agg (NW.encS a)
  | 109=>fun(a:CS)=>.agg (VM.encS a)
  | 45=>fun(a:Int)=>BK.DR a
  | 46=>fun(a:A8×Int)=>.BF [(.agg (JH.encS a.1)),(BK.DR a.2)]
  | 110=>fun(a:CS×Int)=>.BF [(.agg (VM.encS a.1)),(BK.DR a.2)]
  | 29=>fun(a:Int)=>CP.DR a
  | 24=>fun(a:DL)=>.agg (MN.encS a)
  | 148=>fun(a:Am)=>.agg (IX.encS a)
  | 77=>fun(a:List Am)=>((AB.list 148 18 (fun(a:Am)=>.agg (IX.Au a)):AB Ty (List (Ty 148)))).DR a
  | 86=>fun(a:A8×(List Am)×Bool)=>.BF [(.agg (JH.encS a.1)),(((AB.list 148 18 (fun(a:Am)=>.agg (IX.Au a)):AB Ty (List (Ty 148)))).DR a.2.1),(Dk.DR a.2.2)]
  | 78=>fun(a:A8×(List Am))=>.BF [(.agg (JH.encS a.1)),(((AB.list 148 18 (fun(a:Am)=>.agg (IX.Au a)):AB Ty (List (Ty 148)))).DR a.2)]
  | 70=>fun(a:BM)=>.agg (Qr.encS a)
  | 75=>fun(a:BU×BM)=>.BF [(.agg (NW.encS a.1)),(.agg (Qr.encS a.2))]
  | 71=>fun(a:BM×Int)=>.BF [(.agg (Qr.encS a.1)),(BK.DR a.2)]
  | 120=>fun(a:(List Int)×Int)=>.BF [(((AB.list 5 1 (fun(a:Int)=>Ef.BV a):AB Ty (List (Ty 5)))).DR a.1),(BK.DR a.2)]
  | 189=>fun(a:BU×Int)=>.BF [(.agg (NW.encS a.1)),(BK.DR a.2)]
  | 262=>fun(a:Be)=>.agg (uV.encS a)
  | 41=>fun(a:C9)=>.agg (V7.encS a)
  | 129=>fun(a:Dc×Int)=>.BF [(.agg (Qm.encS a.1)),(BK.DR a.2)]
  | 135=>fun(a:Aa×(List BN))=>.BF [(.agg (Ig.encS a.1)),(((AB.list 138 8 (fun(a:BN)=>.agg (He.Au a)):AB Ty (List (Ty 138)))).DR a.2)]
  | 140=>fun(a:Aa×(List AL))=>.BF [(.agg (Ig.encS a.1)),(((AB.list 156 15 (fun(a:AL)=>.agg (GN.Au a)):AB Ty (List (Ty 156)))).DR a.2)]
  | 208=>fun(a:(List BN)×(List BN))=>.BF [(((AB.list 138 8 (fun(a:BN)=>.agg (He.Au a)):AB Ty (List (Ty 138)))).DR a.1),(((AB.list 138 8 (fun(a:BN)=>.agg (He.Au a)):AB Ty (List (Ty 138)))).DR a.2)]
  | 216=>fun(a:Aa×AL)=>.BF [(.agg (Ig.encS a.1)),(.agg (GN.encS a.2))]
  | 269=>fun(a:(List BN)×Int)=>.BF [(((AB.list 138 8 (fun(a:BN)=>.agg (He.Au a)):AB Ty (List (Ty 138)))).DR a.1),(BK.DR a.2)]
  | 222=>fun(a:Aa×(List AL)×Int)=>.BF [(.agg (Ig.encS a.1)),(((AB.list 156 15 (fun(a:AL)=>.agg (GN.Au a)):AB Ty (List (Ty 156)))).DR a.2.1),(BK.DR a.2.2)]
  | 9=>fun(a:ByteArray)=>cst.DR a
  | 254=>fun(a:List Int)=>((AB.list 25 1 (fun(a:Int)=>CP.BV a):AB Ty (List (Ty 25)))).DR a
  | 163=>fun(a:BU×Aw×Bool×Bool)=>.BF [(.agg (NW.encS a.1)),(.agg (II.encS a.2.1)),(Dk.DR a.2.2.1),(Dk.DR a.2.2.2)]
  | 231=>fun(a:AL×Int)=>.BF [(.agg (GN.encS a.1)),(BK.DR a.2)]
  | 233=>fun(a:Aa×(List Am))=>.BF [(.agg (Ig.encS a.1)),(((AB.list 148 18 (fun(a:Am)=>.agg (IX.Au a)):AB Ty (List (Ty 148)))).DR a.2)]
  | 237=>fun(a:Aa×(List AL)×(List Am))=>.BF [(.agg (Ig.encS a.1)),(((AB.list 156 15 (fun(a:AL)=>.agg (GN.Au a)):AB Ty (List (Ty 156)))).DR a.2.1),(((AB.list 148 18 (fun(a:Am)=>.agg (IX.Au a)):AB Ty (List (Ty 148)))).DR a.2.2)]
  | 194=>fun(a:Int×Int)=>.BF [(CP.DR a.1),(CP.DR a.2)]
  | 256=>fun(a:List (List Int))=>((AB.list 62 1 (fun(a:List Int)=>((AB.list 5 1 (fun(a:Int)=>Ef.BV a):AB Ty (List (Ty 5)))).BV a):AB Ty (List (Ty 62)))).DR a
  | 312=>fun(a:Io)=>.agg (uX.encS a)
  | 252=>fun(a:Bd)=>.agg (OZ.encS a)
  | 253=>fun(a:List Bd)=>((AB.list 252 2 (fun(a:Bd)=>.agg (OZ.Au a)):AB Ty (List (Ty 252)))).DR a
  | 174=>fun(a:FD)=>.agg (O4.encS a)
  | 240=>fun(a:List FD)=>((AB.list 174 3 (fun(a:FD)=>.agg (O4.Au a)):AB Ty (List (Ty 174)))).DR a
  | _=>fun _=>.no
 Gq:=fun t=>match t with
  | 115=>fun v=>tZ.uZ 67 v
  | 3369=>fun v=>(CP:AB Ty Int).Z4r 1 v
  | 3385=>fun v=>uY.uZ 7 v
  | 4=>fun v=>Dk.one v
  | 5=>fun v=>Ef.one v
  | 83=>fun v=>Qs.agg v
  | 113=>fun v=>Qi.agg v
  | 59=>fun v=>V5.agg v
  | 68=>fun v=>II.agg v
  | 156=>fun v=>GN.agg v
  | 138=>fun v=>He.agg v
  | 99=>fun v=>MO.agg v
  | 44=>fun v=>JH.agg v
  | 3=>fun v=>BK.one v
  | 60=>fun _=>none
  | 62=>fun v=>((AB.list 5 1 (fun(a:Int)=>Ef.BV a):AB Ty (List (Ty 5)))).one v
  | 63=>fun _=>none
  | 52=>fun v=>vG.agg v
  | 31=>fun v=>((AB.list 68 2 (fun(a:Aw)=>.agg (II.Au a)):AB Ty (List (Ty 68)))).one v
  | 39=>fun v=>Ig.agg v
  | 36=>fun v=>((AB.list 156 15 (fun(a:AL)=>.agg (GN.Au a)):AB Ty (List (Ty 156)))).one v
  | 37=>fun v=>((AB.list 138 8 (fun(a:BN)=>.agg (He.Au a)):AB Ty (List (Ty 138)))).one v
  | 42=>fun v=>((AB.list 99 2 (fun(a:BR)=>.agg (MO.Au a)):AB Ty (List (Ty 99)))).one v
  | 104=>fun _=>none
  | 28=>fun v=>Pe.agg v
  | 30=>fun v=>Pg.one v
  | 22=>fun v=>O8.one v
  | 26=>fun v=>CP.one v
  | 25=>fun v=>CP.one v
  | 226=>fun v=>((AB.list 3 1 (fun(a:Int)=>BK.BV a):AB Ty (List (Ty 3)))).one v
  | 35=>fun v=>Qm.agg v
  | 33=>fun v=>NW.agg v
  | 109=>fun v=>VM.agg v
  | 45=>fun v=>BK.one v
  | 46=>fun _=>none
  | 110=>fun _=>none
  | 29=>fun v=>CP.one v
  | 24=>fun v=>MN.agg v
  | 148=>fun v=>IX.agg v
  | 77=>fun v=>((AB.list 148 18 (fun(a:Am)=>.agg (IX.Au a)):AB Ty (List (Ty 148)))).one v
  | 86=>fun _=>none
  | 78=>fun _=>none
  | 70=>fun v=>Qr.agg v
  | 75=>fun _=>none
  | 71=>fun _=>none
  | 120=>fun _=>none
  | 189=>fun _=>none
  | 262=>fun v=>uV.agg v
  | 41=>fun v=>V7.agg v
  | 129=>fun _=>none
  | 135=>fun _=>none
  | 140=>fun _=>none
  | 208=>fun _=>none
  | 216=>fun _=>none
  | 269=>fun _=>none
  | 222=>fun _=>none
  | 9=>fun v=>cst.one v
  | 254=>fun v=>((AB.list 25 1 (fun(a:Int)=>CP.BV a):AB Ty (List (Ty 25)))).one v
  | 163=>fun _=>none
  | 231=>fun _=>none
  | 233=>fun _=>none
  | 237=>fun _=>none
  | 194=>fun _=>none
  | 256=>fun v=>((AB.list 62 1 (fun(a:List Int)=>((AB.list 5 1 (fun(a:Int)=>Ef.BV a):AB Ty (List (Ty 5)))).BV a):AB Ty (List (Ty 62)))).one v
  | 312=>fun v=>uX.agg v
  | 252=>fun v=>OZ.agg v
  | 253=>fun v=>((AB.list 252 2 (fun(a:Bd)=>.agg (OZ.Au a)):AB Ty (List (Ty 252)))).one v
  | 174=>fun v=>O4.agg v
  | 240=>fun v=>((AB.list 174 3 (fun(a:FD)=>.agg (O4.Au a)):AB Ty (List (Ty 174)))).one v
  | _=>fun _=>none
 keys:=[115,3369,3385,4,5,83,113,59,68,156,138,99,44,3,60,62,63,52,31,39,36,37,42,104,28,30,22,26,25,226,35,33,109,45,46,110,29,24,148,77,86,78,70,75,71,120,189,262,41,129,135,140,208,216,269,222,9,254,163,231,233,237,194,256,312,252,253,174,240]
theorem Q8:A7 U II [0,1]:=A7.CZ ((A7.int _).pair ((A7.list (U:=U) (t:=5) (n:=1) (e:=fun(a:Int)=>Ef.BV a) (fun _=>rfl) rfl (fun a=>(A7.int _:A7 U Ef _).Qj a) (fun a b h=>(A7.int _:A7 U Ef _).Q4 h)).pair A7.unit)) (fun _=>rfl) (fun _=>rfl)
theorem VD:A7 U MN [0,0,0,0,0]:=A7.CZ ((A7.int _).pair ((A7.int _).pair ((A7.int _).pair ((A7.int _).pair ((A7.int _).pair A7.unit))))) (fun _=>rfl) (fun _=>rfl)
theorem Z4d:A7 U Qs [0,0,0,1,0,0,0,0,0,0,0,0]:=A7.CZ ((A7.int _).pair ((A7.int _).pair ((Q8).pair ((VD).pair ((A7.int _).pair ((A7.int _).pair ((A7.int _).pair A7.unit))))))) (fun _=>rfl) (fun _=>rfl)
theorem Z3t:A7 U Qi [12,0,0]:=A7.CZ ((A7.list (U:=U) (t:=83) (n:=12) (e:=fun(a:Gh)=>.agg (Qs.Au a)) (fun _=>rfl) rfl (fun a=>Z4d.nr a) (fun a b h=>Z4d.inj _ _ (by injection h))).pair ((A7.int _).pair ((A7.int _).pair A7.unit))) (fun _=>rfl) (fun _=>rfl)
theorem sS:A7 U Pe [0,0,0,0,0,0,0,0,0,0,0]:=A7.CZ ((A7.int _).pair ((A7.int _).pair ((VD).pair ((A7.int _).pair ((A7.int _).pair ((A7.int _).pair ((A7.int _).pair A7.unit))))))) (fun _=>rfl) (fun _=>rfl)
theorem ZE5:A7 U vK [0,0]:=A7.CZ ((A7.int _).pair ((A7.int _).pair A7.unit)) (fun _=>rfl) (fun _=>rfl)
theorem ZFo:A7 U V5 [0,0,0,0,0,0,0,0,0,0,0,0,0,0,3,0,0]:=A7.CZ ((sS).pair ((ZE5).pair ((A7.int _).pair ((A7.list (U:=U) (t:=113) (n:=3) (e:=fun(a:Eg)=>.agg (Qi.Au a)) (fun _=>rfl) rfl (fun a=>Z3t.nr a) (fun a b h=>Z3t.inj _ _ (by injection h))).pair ((A7.int _).pair ((A7.int _).pair A7.unit)))))) (fun _=>rfl) (fun _=>rfl)
theorem Rt:A7 U GN [0,0,0,0,0,0,0,0,0,0,0,0,0,0,0]:=A7.CZ ((A7.int _).pair ((VD).pair ((A7.int _).pair ((A7.int _).pair ((A7.int _).pair ((A7.int _).pair ((A7.int _).pair ((A7.int _).pair ((A7.int _).pair ((A7.int _).pair ((A7.int _).pair A7.unit))))))))))) (fun _=>rfl) (fun _=>rfl)
theorem Us:A7 U He [0,0,0,0,0,0,0,0]:=A7.CZ ((A7.int _).pair ((A7.int _).pair ((VD).pair ((A7.int _).pair A7.unit)))) (fun _=>rfl) (fun _=>rfl)
theorem fG:A7 U MO [0,0]:=A7.CZ ((A7.int _).pair ((A7.int _).pair A7.unit)) (fun _=>rfl) (fun _=>rfl)
theorem ZeI:A7 U NW [0,0,2,0,0,0,0]:=A7.CZ ((A7.int _).pair ((A7.int _).pair ((A7.list (U:=U) (t:=68) (n:=2) (e:=fun(a:Aw)=>.agg (II.Au a)) (fun _=>rfl) rfl (fun a=>Q8.nr a) (fun a b h=>Q8.inj _ _ (by injection h))).pair ((A7.bool).pair ((A7.bool).pair ((A7.int _).pair ((A7.int _).pair A7.unit))))))) (fun _=>rfl) (fun _=>rfl)
theorem Z3N:A7 U Qm [0,0,0]:=A7.CZ ((A7.int _).pair ((A7.int _).pair ((A7.bool).pair A7.unit))) (fun _=>rfl) (fun _=>rfl)
theorem ZeQ:A7 U Ig [0,0,0,15,0,0,8,0,0,0,0,0,0,0,0,0,0,0,0,0]:=A7.CZ ((A7.int _).pair ((A7.int _).pair ((A7.int _).pair ((A7.list (U:=U) (t:=156) (n:=15) (e:=fun(a:AL)=>.agg (GN.Au a)) (fun _=>rfl) rfl (fun a=>Rt.nr a) (fun a b h=>Rt.inj _ _ (by injection h))).pair ((A7.int _).pair ((A7.int _).pair ((A7.list (U:=U) (t:=138) (n:=8) (e:=fun(a:BN)=>.agg (He.Au a)) (fun _=>rfl) rfl (fun a=>Us.nr a) (fun a b h=>Us.inj _ _ (by injection h))).pair ((A7.bool).pair ((A7.int _).pair ((A7.int _).pair ((A7.bool).pair ((A7.bool).pair ((A7.int _).pair ((A7.int _).pair ((A7.int _).pair ((A7.int _).pair ((A7.int _).pair ((A7.int _).pair ((A7.int _).pair ((A7.int _).pair A7.unit)))))))))))))))))))) (fun _=>rfl) (fun _=>rfl)
theorem Z3O:A7 U V7 [0,0,0,0,0,0,0]:=A7.CZ ((A7.int _).pair ((A7.int _).pair ((A7.int _).pair ((A7.bool).pair ((A7.bool).pair ((A7.int _).pair ((A7.int _).pair A7.unit))))))) (fun _=>rfl) (fun _=>rfl)
theorem Z3U:A7 U JH [0,0,0,0,0,0,0,0,0,0,0,0,0,0,0,0,0,0,0,0,0,0,0,0,0,0,2,0,0,0,0,0,0,0,0,0,0,15,0,0,8,0,0,0,0,0,0,0,0,0,0,0,0,0,0,0,0,0,0,0,0,0,2,15,0,0]:=A7.CZ ((A7.int _).pair ((sS).pair ((A7.int _).pair ((A7.int _).pair ((A7.int _).pair ((A7.int _).pair ((A7.int _).pair ((A7.int _).pair ((A7.int _).pair ((A7.bool).pair ((A7.bool).pair ((A7.bool).pair ((A7.bool).pair ((A7.bool).pair ((ZeI).pair ((Z3N).pair ((ZeQ).pair ((Z3O).pair ((A7.int _).pair ((A7.list (U:=U) (t:=99) (n:=2) (e:=fun(a:BR)=>.agg (MO.Au a)) (fun _=>rfl) rfl (fun a=>fG.nr a) (fun a b h=>fG.inj _ _ (by injection h))).pair ((A7.list (U:=U) (t:=156) (n:=15) (e:=fun(a:AL)=>.agg (GN.Au a)) (fun _=>rfl) rfl (fun a=>Rt.nr a) (fun a b h=>Rt.inj _ _ (by injection h))).pair ((A7.int _).pair ((A7.int _).pair A7.unit))))))))))))))))))))))) (fun _=>rfl) (fun _=>rfl)
theorem ZE1:A7 U vG [0,0]:=A7.CZ ((A7.int _).pair ((A7.int _).pair A7.unit)) (fun _=>rfl) (fun _=>rfl)
theorem ZBK:A7 U VM [0,0,0,0,0,0,0,0,0,0,0,0,0,0,0,0,0,0,0,0,0,0,0,0,0,0,2,0,0,0,0,0,0,0,0,0,0,15,0,0,8,0,0,0,0,0,0,0,0,0,0,0,0,0,0,0,0,0,0,0,0,0,2,15,0,0,0,0,0,0,0,0,0,0,0,0,0,0,0,0,0,0,0,0,0,0,0,0,0,0,0,0,2,0,0,0,0,0,0,0,0,0,0,15,0,0,8,0,0,0,0,0,0,0,0,0,0,0,0,0,0,0,0,0,0,0,0,0,2,15,0,0]:=A7.CZ ((Z3U).pair ((Z3U).pair A7.unit)) (fun _=>rfl) (fun _=>rfl)
theorem Z3E:A7 U IX [0,0,0,1,0,0,0,0,0,0,0,0,0,0,0,0,0,0]:=A7.CZ ((A7.int _).pair ((A7.int _).pair ((Q8).pair ((Us).pair ((A7.int _).pair ((VD).pair A7.unit)))))) (fun _=>rfl) (fun _=>rfl)
theorem ZEe:A7 U Qr [0,0,0,0,1]:=A7.CZ ((A7.int _).pair ((A7.int _).pair ((A7.int _).pair ((Q8).pair A7.unit)))) (fun _=>rfl) (fun _=>rfl)
theorem ZDv:A7 U uV [0,0,0,0,0,0,0,0,0,0,0]:=A7.CZ ((A7.bool).pair ((A7.bool).pair ((A7.bool).pair ((A7.bool).pair ((A7.bool).pair ((A7.bool).pair ((A7.bool).pair ((A7.bool).pair ((A7.bool).pair ((A7.bool).pair ((A7.bool).pair A7.unit))))))))))) (fun _=>rfl) (fun _=>rfl)
theorem ZDB:A7 U uX [0,0]:=A7.CZ ((A7.int _).pair ((A7.int _).pair A7.unit)) (fun _=>rfl) (fun _=>rfl)
theorem Z3w:A7 U OZ [0,0]:=A7.CZ ((A7.int _).pair ((A7.int _).pair A7.unit)) (fun _=>rfl) (fun _=>rfl)
theorem Z3l:A7 U O4 [0,0,0]:=A7.CZ ((A7.int _).pair ((A7.int _).pair ((A7.int _).pair A7.unit))) (fun _=>rfl) (fun _=>rfl)
theorem rows4:rowsOf Tryz.prog 4=[0]:=by kernel_rfl
abbrev RE (E:Env):Prop:=E.rows=rowsOf Tryz.prog
theorem fV {E} (hE:RE E):CE U E 4:=.Hg (c:=Dk) (A7.bool) ((congrFun hE 4).trans rows4) (fun h=>ZD4 h) (fun _=>rfl) (fun _=>rfl) (fun _=>rfl) (fun _=>rfl) (fun _=>rfl)
theorem rows5:rowsOf Tryz.prog 5=[0]:=by kernel_rfl
theorem tyok5 {E} (hE:RE E):CE U E 5:=.Hg (c:=Ef) (A7.int _) ((congrFun hE 5).trans rows5) (fun h=>Q5 h) (fun _=>rfl) (fun _=>rfl) (fun _=>rfl) (fun _=>rfl) (fun _=>rfl)
theorem ZEr:rowsOf Tryz.prog 83=[0,0,0,1,0,0,0,0,0,0,0,0]:=by kernel_rfl
theorem ZG2 {E} (hE:RE E):CE U E 83:=.Gp Z4d ((congrFun hE 83).trans ZEr) (fun _=>rfl) (fun _=>rfl) (fun _=>rfl)
theorem ZBZ:rowsOf Tryz.prog 113=[12,0,0]:=by kernel_rfl
theorem ZCc {E} (hE:RE E):CE U E 113:=.Gp Z3t ((congrFun hE 113).trans ZBZ) (fun _=>rfl) (fun _=>rfl) (fun _=>rfl)
theorem ZFl:rowsOf Tryz.prog 59=[0,0,0,0,0,0,0,0,0,0,0,0,0,0,3,0,0]:=by kernel_rfl
theorem ZG1 {E} (hE:RE E):CE U E 59:=.Gp ZFo ((congrFun hE 59).trans ZFl) (fun _=>rfl) (fun _=>rfl) (fun _=>rfl)
theorem ZEZ:rowsOf Tryz.prog 68=[0,1]:=by kernel_rfl
theorem ZeG {E} (hE:RE E):CE U E 68:=.Gp Q8 ((congrFun hE 68).trans ZEZ) (fun _=>rfl) (fun _=>rfl) (fun _=>rfl)
theorem ZCu:rowsOf Tryz.prog 156=[0,0,0,0,0,0,0,0,0,0,0,0,0,0,0]:=by kernel_rfl
theorem Z3m {E} (hE:RE E):CE U E 156:=.Gp Rt ((congrFun hE 156).trans ZCu) (fun _=>rfl) (fun _=>rfl) (fun _=>rfl)
theorem ZCr:rowsOf Tryz.prog 138=[0,0,0,0,0,0,0,0]:=by kernel_rfl
theorem ZDA {E} (hE:RE E):CE U E 138:=.Gp Us ((congrFun hE 138).trans ZCr) (fun _=>rfl) (fun _=>rfl) (fun _=>rfl)
theorem ZET:rowsOf Tryz.prog 99=[0,0]:=by kernel_rfl
theorem ZFr {E} (hE:RE E):CE U E 99:=.Gp fG ((congrFun hE 99).trans ZET) (fun _=>rfl) (fun _=>rfl) (fun _=>rfl)
theorem ZEd:rowsOf Tryz.prog 44=[0,0,0,0,0,0,0,0,0,0,0,0,0,0,0,0,0,0,0,0,0,0,0,0,0,0,2,0,0,0,0,0,0,0,0,0,0,15,0,0,8,0,0,0,0,0,0,0,0,0,0,0,0,0,0,0,0,0,0,0,0,0,2,15,0,0]:=by kernel_rfl
theorem VH {E} (hE:RE E):CE U E 44:=.Gp Z3U ((congrFun hE 44).trans ZEd) (fun _=>rfl) (fun _=>rfl) (fun _=>rfl)
theorem rows3:rowsOf Tryz.prog 3=[0]:=by kernel_rfl
theorem fU {E} (hE:RE E):CE U E 3:=.Hg (c:=BK) (A7.int _) ((congrFun hE 3).trans rows3) (fun h=>Q5 h) (fun _=>rfl) (fun _=>rfl) (fun _=>rfl) (fun _=>rfl) (fun _=>rfl)
theorem ZFL {E} (hE:RE E):CE U E 60:=.BF [⟨44,fun a=>a.1⟩,⟨3,fun a=>a.2.1⟩,⟨4,fun a=>a.2.2⟩] ⟨VH hE,fU hE,fV hE,trivial⟩ (fun _=>rfl) (fun _=>rfl) (fun _=>rfl) fun _ _ h=>Prod.ext h.1 (Prod.ext h.2.1 h.2.2.1)
theorem ZE4:rowsOf Tryz.prog 62=[1]:=by kernel_rfl
theorem Z3P {E} (hE:RE E):CE U E 62:=.Hg (c:=(AB.list 5 1 (fun(a:Int)=>Ef.BV a):AB Ty (List (Ty 5)))) (A7.list (U:=U) (t:=5) (n:=1) (e:=fun(a:Int)=>Ef.BV a) (fun _=>rfl) rfl (fun a=>(A7.int _:A7 U Ef _).Qj a) (fun a b h=>(A7.int _:A7 U Ef _).Q4 h)) ((congrFun hE 62).trans ZE4) (fun h=>NK (U:=U) (t:=5) (n:=1) (e:=fun(a:Int)=>Ef.BV a) h) (fun _=>rfl) (fun _=>rfl) (fun _=>rfl) (fun _=>rfl) (fun _=>rfl)
theorem ZEi {E} (hE:RE E):CE U E 63:=.BF [⟨44,fun a=>a.1⟩,⟨62,fun a=>a.2⟩] ⟨VH hE,Z3P hE,trivial⟩ (fun _=>rfl) (fun _=>rfl) (fun _=>rfl) fun _ _ h=>Prod.ext h.1 h.2.1
theorem ZFz:rowsOf Tryz.prog 52=[0,0]:=by kernel_rfl
theorem ZEg {E} (hE:RE E):CE U E 52:=.Gp ZE1 ((congrFun hE 52).trans ZFz) (fun _=>rfl) (fun _=>rfl) (fun _=>rfl)
theorem ZE7:rowsOf Tryz.prog 31=[2]:=by kernel_rfl
theorem ZEY {E} (hE:RE E):CE U E 31:=.Hg (c:=(AB.list 68 2 (fun(a:Aw)=>.agg (II.Au a)):AB Ty (List (Ty 68)))) (A7.list (U:=U) (t:=68) (n:=2) (e:=fun(a:Aw)=>.agg (II.Au a)) (fun _=>rfl) rfl (fun a=>Q8.nr a) (fun a b h=>Q8.inj _ _ (by injection h))) ((congrFun hE 31).trans ZE7) (fun h=>NK (U:=U) (t:=68) (n:=2) (e:=fun(a:Aw)=>.agg (II.Au a)) h) (fun _=>rfl) (fun _=>rfl) (fun _=>rfl) (fun _=>rfl) (fun _=>rfl)
theorem ZE2:rowsOf Tryz.prog 39=[0,0,0,15,0,0,8,0,0,0,0,0,0,0,0,0,0,0,0,0]:=by kernel_rfl
theorem SQ {E} (hE:RE E):CE U E 39:=.Gp ZeQ ((congrFun hE 39).trans ZE2) (fun _=>rfl) (fun _=>rfl) (fun _=>rfl)
theorem ZFE:rowsOf Tryz.prog 36=[15]:=by kernel_rfl
theorem tH {E} (hE:RE E):CE U E 36:=.Hg (c:=(AB.list 156 15 (fun(a:AL)=>.agg (GN.Au a)):AB Ty (List (Ty 156)))) (A7.list (U:=U) (t:=156) (n:=15) (e:=fun(a:AL)=>.agg (GN.Au a)) (fun _=>rfl) rfl (fun a=>Rt.nr a) (fun a b h=>Rt.inj _ _ (by injection h))) ((congrFun hE 36).trans ZFE) (fun h=>NK (U:=U) (t:=156) (n:=15) (e:=fun(a:AL)=>.agg (GN.Au a)) h) (fun _=>rfl) (fun _=>rfl) (fun _=>rfl) (fun _=>rfl) (fun _=>rfl)
theorem ZFI:rowsOf Tryz.prog 37=[8]:=by kernel_rfl
theorem fK {E} (hE:RE E):CE U E 37:=.Hg (c:=(AB.list 138 8 (fun(a:BN)=>.agg (He.Au a)):AB Ty (List (Ty 138)))) (A7.list (U:=U) (t:=138) (n:=8) (e:=fun(a:BN)=>.agg (He.Au a)) (fun _=>rfl) rfl (fun a=>Us.nr a) (fun a b h=>Us.inj _ _ (by injection h))) ((congrFun hE 37).trans ZFI) (fun h=>NK (U:=U) (t:=138) (n:=8) (e:=fun(a:BN)=>.agg (He.Au a)) h) (fun _=>rfl) (fun _=>rfl) (fun _=>rfl) (fun _=>rfl) (fun _=>rfl)
theorem ZE3:rowsOf Tryz.prog 42=[2]:=by kernel_rfl
theorem ZEL {E} (hE:RE E):CE U E 42:=.Hg (c:=(AB.list 99 2 (fun(a:BR)=>.agg (MO.Au a)):AB Ty (List (Ty 99)))) (A7.list (U:=U) (t:=99) (n:=2) (e:=fun(a:BR)=>.agg (MO.Au a)) (fun _=>rfl) rfl (fun a=>fG.nr a) (fun a b h=>fG.inj _ _ (by injection h))) ((congrFun hE 42).trans ZE3) (fun h=>NK (U:=U) (t:=99) (n:=2) (e:=fun(a:BR)=>.agg (MO.Au a)) h) (fun _=>rfl) (fun _=>rfl) (fun _=>rfl) (fun _=>rfl) (fun _=>rfl)
theorem ZBT {E} (hE:RE E):CE U E 104:=.BF [⟨3,fun a=>a.1⟩,⟨3,fun a=>a.2⟩] ⟨fU hE,fU hE,trivial⟩ (fun _=>rfl) (fun _=>rfl) (fun _=>rfl) fun _ _ h=>Prod.ext h.1 h.2.1
theorem ZF0:rowsOf Tryz.prog 28=[0,0,0,0,0,0,0,0,0,0,0]:=by kernel_rfl
theorem ZFZ {E} (hE:RE E):CE U E 28:=.Gp sS ((congrFun hE 28).trans ZF0) (fun _=>rfl) (fun _=>rfl) (fun _=>rfl)
theorem ZEn:rowsOf Tryz.prog 30=[0]:=by kernel_rfl
theorem ZFh {E} (hE:RE E):CE U E 30:=.Hg (c:=Pg) (A7.int _) ((congrFun hE 30).trans ZEn) (fun h=>Q5 h) (fun _=>rfl) (fun _=>rfl) (fun _=>rfl) (fun _=>rfl) (fun _=>rfl)
theorem ZFj:rowsOf Tryz.prog 22=[0]:=by kernel_rfl
theorem ZDT {E} (hE:RE E):CE U E 22:=.Hg (c:=O8) (A7.int _) ((congrFun hE 22).trans ZFj) (fun h=>Q5 h) (fun _=>rfl) (fun _=>rfl) (fun _=>rfl) (fun _=>rfl) (fun _=>rfl)
theorem ZEx:rowsOf Tryz.prog 26=[0]:=by kernel_rfl
theorem ZF8 {E} (hE:RE E):CE U E 26:=.Hg (c:=CP) (A7.int _) ((congrFun hE 26).trans ZEx) (fun h=>Q5 h) (fun _=>rfl) (fun _=>rfl) (fun _=>rfl) (fun _=>rfl) (fun _=>rfl)
theorem ZFQ:rowsOf Tryz.prog 25=[0]:=by kernel_rfl
theorem Z48 {E} (hE:RE E):CE U E 25:=.Hg (c:=CP) (A7.int _) ((congrFun hE 25).trans ZFQ) (fun h=>Q5 h) (fun _=>rfl) (fun _=>rfl) (fun _=>rfl) (fun _=>rfl) (fun _=>rfl)
theorem ZC9:rowsOf Tryz.prog 226=[1]:=by kernel_rfl
theorem ZCa {E} (hE:RE E):CE U E 226:=.Hg (c:=(AB.list 3 1 (fun(a:Int)=>BK.BV a):AB Ty (List (Ty 3)))) (A7.list (U:=U) (t:=3) (n:=1) (e:=fun(a:Int)=>BK.BV a) (fun _=>rfl) rfl (fun a=>(A7.int _:A7 U BK _).Qj a) (fun a b h=>(A7.int _:A7 U BK _).Q4 h)) ((congrFun hE 226).trans ZC9) (fun h=>NK (U:=U) (t:=3) (n:=1) (e:=fun(a:Int)=>BK.BV a) h) (fun _=>rfl) (fun _=>rfl) (fun _=>rfl) (fun _=>rfl) (fun _=>rfl)
theorem ZFX:rowsOf Tryz.prog 35=[0,0,0]:=by kernel_rfl
theorem ZeF {E} (hE:RE E):CE U E 35:=.Gp Z3N ((congrFun hE 35).trans ZFX) (fun _=>rfl) (fun _=>rfl) (fun _=>rfl)
theorem ZF5:rowsOf Tryz.prog 33=[0,0,2,0,0,0,0]:=by kernel_rfl
theorem tN {E} (hE:RE E):CE U E 33:=.Gp ZeI ((congrFun hE 33).trans ZF5) (fun _=>rfl) (fun _=>rfl) (fun _=>rfl)
theorem ZDk:rowsOf Tryz.prog 109=[0,0,0,0,0,0,0,0,0,0,0,0,0,0,0,0,0,0,0,0,0,0,0,0,0,0,2,0,0,0,0,0,0,0,0,0,0,15,0,0,8,0,0,0,0,0,0,0,0,0,0,0,0,0,0,0,0,0,0,0,0,0,2,15,0,0,0,0,0,0,0,0,0,0,0,0,0,0,0,0,0,0,0,0,0,0,0,0,0,0,0,0,2,0,0,0,0,0,0,0,0,0,0,15,0,0,8,0,0,0,0,0,0,0,0,0,0,0,0,0,0,0,0,0,0,0,0,0,2,15,0,0]:=by kernel_rfl
theorem ZdM {E} (hE:RE E):CE U E 109:=.Gp ZBK ((congrFun hE 109).trans ZDk) (fun _=>rfl) (fun _=>rfl) (fun _=>rfl)
theorem ZDR:rowsOf Tryz.prog 45=[0]:=by kernel_rfl
theorem PT {E} (hE:RE E):CE U E 45:=.Hg (c:=BK) (A7.int _) ((congrFun hE 45).trans ZDR) (fun h=>Q5 h) (fun _=>rfl) (fun _=>rfl) (fun _=>rfl) (fun _=>rfl) (fun _=>rfl)
theorem ZFR {E} (hE:RE E):CE U E 46:=.BF [⟨44,fun a=>a.1⟩,⟨45,fun a=>a.2⟩] ⟨VH hE,PT hE,trivial⟩ (fun _=>rfl) (fun _=>rfl) (fun _=>rfl) fun _ _ h=>Prod.ext h.1 h.2.1
theorem ZD2 {E} (hE:RE E):CE U E 110:=.BF [⟨109,fun a=>a.1⟩,⟨3,fun a=>a.2⟩] ⟨ZdM hE,fU hE,trivial⟩ (fun _=>rfl) (fun _=>rfl) (fun _=>rfl) fun _ _ h=>Prod.ext h.1 h.2.1
theorem ZEI:rowsOf Tryz.prog 29=[0]:=by kernel_rfl
theorem ZF4 {E} (hE:RE E):CE U E 29:=.Hg (c:=CP) (A7.int _) ((congrFun hE 29).trans ZEI) (fun h=>Q5 h) (fun _=>rfl) (fun _=>rfl) (fun _=>rfl) (fun _=>rfl) (fun _=>rfl)
theorem ZEo:rowsOf Tryz.prog 24=[0,0,0,0,0]:=by kernel_rfl
theorem ZFi {E} (hE:RE E):CE U E 24:=.Gp VD ((congrFun hE 24).trans ZEo) (fun _=>rfl) (fun _=>rfl) (fun _=>rfl)
theorem ZCY:rowsOf Tryz.prog 148=[0,0,0,1,0,0,0,0,0,0,0,0,0,0,0,0,0,0]:=by kernel_rfl
theorem ZCd {E} (hE:RE E):CE U E 148:=.Gp Z3E ((congrFun hE 148).trans ZCY) (fun _=>rfl) (fun _=>rfl) (fun _=>rfl)
theorem ZEJ:rowsOf Tryz.prog 77=[18]:=by kernel_rfl
theorem fB {E} (hE:RE E):CE U E 77:=.Hg (c:=(AB.list 148 18 (fun(a:Am)=>.agg (IX.Au a)):AB Ty (List (Ty 148)))) (A7.list (U:=U) (t:=148) (n:=18) (e:=fun(a:Am)=>.agg (IX.Au a)) (fun _=>rfl) rfl (fun a=>Z3E.nr a) (fun a b h=>Z3E.inj _ _ (by injection h))) ((congrFun hE 77).trans ZEJ) (fun h=>NK (U:=U) (t:=148) (n:=18) (e:=fun(a:Am)=>.agg (IX.Au a)) h) (fun _=>rfl) (fun _=>rfl) (fun _=>rfl) (fun _=>rfl) (fun _=>rfl)
theorem ZEP {E} (hE:RE E):CE U E 86:=.BF [⟨44,fun a=>a.1⟩,⟨77,fun a=>a.2.1⟩,⟨4,fun a=>a.2.2⟩] ⟨VH hE,fB hE,fV hE,trivial⟩ (fun _=>rfl) (fun _=>rfl) (fun _=>rfl) fun _ _ h=>Prod.ext h.1 (Prod.ext h.2.1 h.2.2.1)
theorem ZF2 {E} (hE:RE E):CE U E 78:=.BF [⟨44,fun a=>a.1⟩,⟨77,fun a=>a.2⟩] ⟨VH hE,fB hE,trivial⟩ (fun _=>rfl) (fun _=>rfl) (fun _=>rfl) fun _ _ h=>Prod.ext h.1 h.2.1
theorem ZFV:rowsOf Tryz.prog 70=[0,0,0,0,1]:=by kernel_rfl
theorem Z3M {E} (hE:RE E):CE U E 70:=.Gp ZEe ((congrFun hE 70).trans ZFV) (fun _=>rfl) (fun _=>rfl) (fun _=>rfl)
theorem ZFb {E} (hE:RE E):CE U E 75:=.BF [⟨33,fun a=>a.1⟩,⟨70,fun a=>a.2⟩] ⟨tN hE,Z3M hE,trivial⟩ (fun _=>rfl) (fun _=>rfl) (fun _=>rfl) fun _ _ h=>Prod.ext h.1 h.2.1
theorem ZEU {E} (hE:RE E):CE U E 71:=.BF [⟨70,fun a=>a.1⟩,⟨45,fun a=>a.2⟩] ⟨Z3M hE,PT hE,trivial⟩ (fun _=>rfl) (fun _=>rfl) (fun _=>rfl) fun _ _ h=>Prod.ext h.1 h.2.1
theorem ZDu {E} (hE:RE E):CE U E 120:=.BF [⟨62,fun a=>a.1⟩,⟨45,fun a=>a.2⟩] ⟨Z3P hE,PT hE,trivial⟩ (fun _=>rfl) (fun _=>rfl) (fun _=>rfl) fun _ _ h=>Prod.ext h.1 h.2.1
theorem ZBW {E} (hE:RE E):CE U E 189:=.BF [⟨33,fun a=>a.1⟩,⟨45,fun a=>a.2⟩] ⟨tN hE,PT hE,trivial⟩ (fun _=>rfl) (fun _=>rfl) (fun _=>rfl) fun _ _ h=>Prod.ext h.1 h.2.1
theorem ZCT:rowsOf Tryz.prog 262=[0,0,0,0,0,0,0,0,0,0,0]:=by kernel_rfl
theorem ZBY {E} (hE:RE E):CE U E 262:=.Gp ZDv ((congrFun hE 262).trans ZCT) (fun _=>rfl) (fun _=>rfl) (fun _=>rfl)
theorem ZFY:rowsOf Tryz.prog 41=[0,0,0,0,0,0,0]:=by kernel_rfl
theorem ZFK {E} (hE:RE E):CE U E 41:=.Gp Z3O ((congrFun hE 41).trans ZFY) (fun _=>rfl) (fun _=>rfl) (fun _=>rfl)
theorem ZCF {E} (hE:RE E):CE U E 129:=.BF [⟨35,fun a=>a.1⟩,⟨45,fun a=>a.2⟩] ⟨ZeF hE,PT hE,trivial⟩ (fun _=>rfl) (fun _=>rfl) (fun _=>rfl) fun _ _ h=>Prod.ext h.1 h.2.1
theorem ZCL {E} (hE:RE E):CE U E 135:=.BF [⟨39,fun a=>a.1⟩,⟨37,fun a=>a.2⟩] ⟨SQ hE,fK hE,trivial⟩ (fun _=>rfl) (fun _=>rfl) (fun _=>rfl) fun _ _ h=>Prod.ext h.1 h.2.1
theorem ZDx {E} (hE:RE E):CE U E 140:=.BF [⟨39,fun a=>a.1⟩,⟨36,fun a=>a.2⟩] ⟨SQ hE,tH hE,trivial⟩ (fun _=>rfl) (fun _=>rfl) (fun _=>rfl) fun _ _ h=>Prod.ext h.1 h.2.1
theorem ZCP {E} (hE:RE E):CE U E 208:=.BF [⟨37,fun a=>a.1⟩,⟨37,fun a=>a.2⟩] ⟨fK hE,fK hE,trivial⟩ (fun _=>rfl) (fun _=>rfl) (fun _=>rfl) fun _ _ h=>Prod.ext h.1 h.2.1
theorem ZDp {E} (hE:RE E):CE U E 216:=.BF [⟨39,fun a=>a.1⟩,⟨156,fun a=>a.2⟩] ⟨SQ hE,Z3m hE,trivial⟩ (fun _=>rfl) (fun _=>rfl) (fun _=>rfl) fun _ _ h=>Prod.ext h.1 h.2.1
theorem ZCq {E} (hE:RE E):CE U E 269:=.BF [⟨37,fun a=>a.1⟩,⟨45,fun a=>a.2⟩] ⟨fK hE,PT hE,trivial⟩ (fun _=>rfl) (fun _=>rfl) (fun _=>rfl) fun _ _ h=>Prod.ext h.1 h.2.1
theorem ZDE {E} (hE:RE E):CE U E 222:=.BF [⟨39,fun a=>a.1⟩,⟨36,fun a=>a.2.1⟩,⟨45,fun a=>a.2.2⟩] ⟨SQ hE,tH hE,PT hE,trivial⟩ (fun _=>rfl) (fun _=>rfl) (fun _=>rfl) fun _ _ h=>Prod.ext h.1 (Prod.ext h.2.1 h.2.2.1)
theorem rows9:rowsOf Tryz.prog 9=[0]:=by kernel_rfl
theorem tyok9 {E} (hE:RE E):CE U E 9:=.Hg (c:=cst) (A7.str) ((congrFun hE 9).trans rows9) (fun h=>ZFP h) (fun _=>rfl) (fun _=>rfl) (fun _=>rfl) (fun _=>rfl) (fun _=>rfl)
theorem ZCC:rowsOf Tryz.prog 254=[1]:=by kernel_rfl
theorem ZDh {E} (hE:RE E):CE U E 254:=.Hg (c:=(AB.list 25 1 (fun(a:Int)=>CP.BV a):AB Ty (List (Ty 25)))) (A7.list (U:=U) (t:=25) (n:=1) (e:=fun(a:Int)=>CP.BV a) (fun _=>rfl) rfl (fun a=>(A7.int _:A7 U CP _).Qj a) (fun a b h=>(A7.int _:A7 U CP _).Q4 h)) ((congrFun hE 254).trans ZCC) (fun h=>NK (U:=U) (t:=25) (n:=1) (e:=fun(a:Int)=>CP.BV a) h) (fun _=>rfl) (fun _=>rfl) (fun _=>rfl) (fun _=>rfl) (fun _=>rfl)
theorem ZBX {E} (hE:RE E):CE U E 163:=.BF [⟨33,fun a=>a.1⟩,⟨68,fun a=>a.2.1⟩,⟨4,fun a=>a.2.2.1⟩,⟨4,fun a=>a.2.2.2⟩] ⟨tN hE,ZeG hE,fV hE,fV hE,trivial⟩ (fun _=>rfl) (fun _=>rfl) (fun _=>rfl) fun _ _ h=>Prod.ext h.1 (Prod.ext h.2.1 (Prod.ext h.2.2.1 h.2.2.2.1))
theorem ZCD {E} (hE:RE E):CE U E 231:=.BF [⟨156,fun a=>a.1⟩,⟨45,fun a=>a.2⟩] ⟨Z3m hE,PT hE,trivial⟩ (fun _=>rfl) (fun _=>rfl) (fun _=>rfl) fun _ _ h=>Prod.ext h.1 h.2.1
theorem ZCV {E} (hE:RE E):CE U E 233:=.BF [⟨39,fun a=>a.1⟩,⟨77,fun a=>a.2⟩] ⟨SQ hE,fB hE,trivial⟩ (fun _=>rfl) (fun _=>rfl) (fun _=>rfl) fun _ _ h=>Prod.ext h.1 h.2.1
theorem ZCy {E} (hE:RE E):CE U E 237:=.BF [⟨39,fun a=>a.1⟩,⟨36,fun a=>a.2.1⟩,⟨77,fun a=>a.2.2⟩] ⟨SQ hE,tH hE,fB hE,trivial⟩ (fun _=>rfl) (fun _=>rfl) (fun _=>rfl) fun _ _ h=>Prod.ext h.1 (Prod.ext h.2.1 h.2.2.1)
theorem ZDF {E} (hE:RE E):CE U E 194:=.BF [⟨25,fun a=>a.1⟩,⟨25,fun a=>a.2⟩] ⟨Z48 hE,Z48 hE,trivial⟩ (fun _=>rfl) (fun _=>rfl) (fun _=>rfl) fun _ _ h=>Prod.ext h.1 h.2.1
theorem ZDM:rowsOf Tryz.prog 256=[1]:=by kernel_rfl
theorem ZBR {E} (hE:RE E):CE U E 256:=.Hg (c:=(AB.list 62 1 (fun(a:List Int)=>((AB.list 5 1 (fun(a:Int)=>Ef.BV a):AB Ty (List (Ty 5)))).BV a):AB Ty (List (Ty 62)))) (A7.list (U:=U) (t:=62) (n:=1) (e:=fun(a:List Int)=>((AB.list 5 1 (fun(a:Int)=>Ef.BV a):AB Ty (List (Ty 5)))).BV a) (fun _=>rfl) rfl (fun a=>(A7.list (U:=U) (t:=5) (n:=1) (e:=fun(a:Int)=>Ef.BV a) (fun _=>rfl) rfl (fun a=>(A7.int _:A7 U Ef _).Qj a) (fun a b h=>(A7.int _:A7 U Ef _).Q4 h):A7 U (AB.list 5 1 (fun(a:Int)=>Ef.BV a):AB Ty (List (Ty 5))) _).Qj a) (fun a b h=>(A7.list (U:=U) (t:=5) (n:=1) (e:=fun(a:Int)=>Ef.BV a) (fun _=>rfl) rfl (fun a=>(A7.int _:A7 U Ef _).Qj a) (fun a b h=>(A7.int _:A7 U Ef _).Q4 h):A7 U (AB.list 5 1 (fun(a:Int)=>Ef.BV a):AB Ty (List (Ty 5))) _).Q4 h)) ((congrFun hE 256).trans ZDM) (fun h=>NK (U:=U) (t:=62) (n:=1) (e:=fun(a:List Int)=>((AB.list 5 1 (fun(a:Int)=>Ef.BV a):AB Ty (List (Ty 5)))).BV a) h) (fun _=>rfl) (fun _=>rfl) (fun _=>rfl) (fun _=>rfl) (fun _=>rfl)
theorem ZDc:rowsOf Tryz.prog 312=[0,0]:=by kernel_rfl
theorem ZDP {E} (hE:RE E):CE U E 312:=.Gp ZDB ((congrFun hE 312).trans ZDc) (fun _=>rfl) (fun _=>rfl) (fun _=>rfl)
theorem ZC5:rowsOf Tryz.prog 252=[0,0]:=by kernel_rfl
theorem ZCk {E} (hE:RE E):CE U E 252:=.Gp Z3w ((congrFun hE 252).trans ZC5) (fun _=>rfl) (fun _=>rfl) (fun _=>rfl)
theorem ZCE:rowsOf Tryz.prog 253=[2]:=by kernel_rfl
theorem ZDn {E} (hE:RE E):CE U E 253:=.Hg (c:=(AB.list 252 2 (fun(a:Bd)=>.agg (OZ.Au a)):AB Ty (List (Ty 252)))) (A7.list (U:=U) (t:=252) (n:=2) (e:=fun(a:Bd)=>.agg (OZ.Au a)) (fun _=>rfl) rfl (fun a=>Z3w.nr a) (fun a b h=>Z3w.inj _ _ (by injection h))) ((congrFun hE 253).trans ZCE) (fun h=>NK (U:=U) (t:=252) (n:=2) (e:=fun(a:Bd)=>.agg (OZ.Au a)) h) (fun _=>rfl) (fun _=>rfl) (fun _=>rfl) (fun _=>rfl) (fun _=>rfl)
theorem ZC3:rowsOf Tryz.prog 174=[0,0,0]:=by kernel_rfl
theorem ZDD {E} (hE:RE E):CE U E 174:=.Gp Z3l ((congrFun hE 174).trans ZC3) (fun _=>rfl) (fun _=>rfl) (fun _=>rfl)
theorem ZBV:rowsOf Tryz.prog 240=[3]:=by kernel_rfl
theorem ZCZ {E} (hE:RE E):CE U E 240:=.Hg (c:=(AB.list 174 3 (fun(a:FD)=>.agg (O4.Au a)):AB Ty (List (Ty 174)))) (A7.list (U:=U) (t:=174) (n:=3) (e:=fun(a:FD)=>.agg (O4.Au a)) (fun _=>rfl) rfl (fun a=>Z3l.nr a) (fun a b h=>Z3l.inj _ _ (by injection h))) ((congrFun hE 240).trans ZBV) (fun h=>NK (U:=U) (t:=174) (n:=3) (e:=fun(a:FD)=>.agg (O4.Au a)) h) (fun _=>rfl) (fun _=>rfl) (fun _=>rfl) (fun _=>rfl) (fun _=>rfl)
theorem ZCR:A7 U Zfa [0,0,0,0,0,0,0]:=A7.CZ ((A7.int _).pair ((A7.int _).pair ((A7.skip).pair ((A7.bool).pair ((A7.bool).pair ((A7.int _).pair ((A7.int _).pair A7.unit))))))) (fun _=>rfl) (fun _=>rfl)
theorem ZBJ:A7 U Zfc [0,0,0,0,0,0,0,0,0,0,0,0,0,0,0,0,0,0,0,0]:=A7.CZ ((A7.int _).pair ((A7.int _).pair ((A7.int _).pair ((A7.skip).pair ((A7.int _).pair ((A7.int _).pair ((A7.skip).pair ((A7.bool).pair ((A7.int _).pair ((A7.int _).pair ((A7.bool).pair ((A7.bool).pair ((A7.int _).pair ((A7.int _).pair ((A7.int _).pair ((A7.int _).pair ((A7.int _).pair ((A7.int _).pair ((A7.int _).pair ((A7.int _).pair A7.unit)))))))))))))))))))) (fun _=>rfl) (fun _=>rfl)
theorem ZDz:A7 U Zf8 [0,0,0,0,0,0,0,0,0,0,0,0,0,0,0,0,0,0,0,0,0,0,0,0,0,0,0,0,0,0,0,0,0,0,0,0,0,0,0,0,0,0,0,0,0,0,0,0,0,0,0,0,0,0,0,0,0,0,0,0,0,0,0,0,0,0]:=A7.CZ ((A7.int _).pair ((sS).pair ((A7.int _).pair ((A7.int _).pair ((A7.int _).pair ((A7.int _).pair ((A7.int _).pair ((A7.int _).pair ((A7.int _).pair ((A7.bool).pair ((A7.bool).pair ((A7.bool).pair ((A7.bool).pair ((A7.bool).pair ((ZCR).pair ((Z3N).pair ((ZBJ).pair ((Z3O).pair ((A7.int _).pair ((A7.skip).pair ((A7.skip).pair ((A7.int _).pair ((A7.int _).pair A7.unit))))))))))))))))))))))) (fun _=>rfl) (fun _=>rfl)
theorem Z37:A7 U tZ [0,0,0,0,0,0,0,0,0,0,0,0,0,0,0,0,0,0,0,0,0,0,0,0,0,0,0,0,0,0,0,0,0,0,0,0,0,0,0,0,0,0,0,0,0,0,0,0,0,0,0,0,0,0,0,0,0,0,0,0,0,0,0,0,0,0,0]:=A7.CZ ((ZDz).pair ((A7.skip).pair A7.unit)) (fun _=>rfl) (fun _=>rfl)
theorem Z3D:A7 U uY [0,0,0,0,0,0,0]:=A7.CZ ((A7.int _).pair ((A7.int _).pair ((A7.int _).pair ((A7.bool).pair ((A7.bool).pair ((A7.int _).pair ((A7.int _).pair A7.unit))))))) (fun _=>rfl) (fun _=>rfl)
theorem ZDd {E} (hE:RE E):CE U E 115:=⟨fun a=>rfl,fun v a h=>Z37.Ze0 h _,fun a=>rfl,fun a=>Z37.ZeE 67 a,fun a b h=>Z37.Ze2 h⟩
theorem ZBp {E} (hE:RE E):CE U E 3369:=⟨fun a=>rfl,fun v a h=>(A7.int _:A7 U ((CP:AB Ty Int)) _).ZAc h _,fun a=>rfl,fun a=>(A7.int _:A7 U ((CP:AB Ty Int)) _).ZD1 1 a,fun a b h=>(A7.int _:A7 U ((CP:AB Ty Int)) _).ZA7 h⟩
theorem ZBC {E} (hE:RE E):CE U E 3385:=⟨fun a=>rfl,fun v a h=>Z3D.Ze0 h _,fun a=>rfl,fun a=>Z3D.ZeE 7 a,fun a b h=>Z3D.Ze2 h⟩
theorem ZD7 {E} (hE:RE E):CE U E 249:=⟨fun a=>rfl,fun v a h=>(nomatch h),fun a=>rfl,fun a=>rfl,fun a b h=>rfl⟩
theorem CE.four {E:Env} {t:Nat} (h:CE U E t):(∀a,AU U (U.encS t a)=U.enc t a)/\(∀v a,U.Gq t v=some a->Du (E.rows t) (AU U v)=U.enc t a)/\(∀a,(U.enc t a).cells=Ar U (cellsS (U.encS t a)))/\(∀a,CU (U.enc t a)=true):=⟨h.encS,h.dec,h.cells,h.nr⟩
def vH:List Nat:=[4,5,83,113,59,68,156,138,99,44,3,60,62,63,52,31,39,36,37,42,104,28,30,22,26,25,226,35,33,109,45,46,110,29,24,148,77,86,78,70,75,71,120,189,262,41,129,135,140,208,216,269,222,9,254,163,231,233,237,194,256,312,252,253,174,240,115,3369,3385,249]
def tysY:List Nat:=[1344,1345,1346,1347,1349,1351,1352,1350,1348,1355,1356,1357,1358,1353,1354,1371,1362,1363,1364,1365,1366,1367,1368,1369,1370,1359,1360,1361]
theorem ZBv (t:Nat) (h:t∉vH) (h' : t∉tysY) (a:Ty t):False:=by
 unfold Ty at a
 split at a<;>first|exact h (by decide)|exact h' (by decide)|exact a.elim
theorem Zf7 {E} (hE:RE E):iE (CE U E) vH:=⟨fV hE,tyok5 hE,ZG2 hE,ZCc hE,ZG1 hE,ZeG hE,Z3m hE,ZDA hE,ZFr hE,VH hE,fU hE,ZFL hE,Z3P hE,ZEi hE,ZEg hE,ZEY hE,SQ hE,tH hE,fK hE,ZEL hE,ZBT hE,ZFZ hE,ZFh hE,ZDT hE,ZF8 hE,Z48 hE,ZCa hE,ZeF hE,tN hE,ZdM hE,PT hE,ZFR hE,ZD2 hE,ZF4 hE,ZFi hE,ZCd hE,fB hE,ZEP hE,ZF2 hE,Z3M hE,ZFb hE,ZEU hE,ZDu hE,ZBW hE,ZBY hE,ZFK hE,ZCF hE,ZCL hE,ZDx hE,ZCP hE,ZDp hE,ZCq hE,ZDE hE,tyok9 hE,ZDh hE,ZBX hE,ZCD hE,ZCV hE,ZCy hE,ZDF hE,ZBR hE,ZDP hE,ZCk hE,ZDn hE,ZDD hE,ZCZ hE,ZDd hE,ZBp hE,ZBC hE,ZD7 hE,trivial⟩
theorem all_Y (E:Env):iE (fun t=>(∀a,AU U (U.encS t a)=U.enc t a)/\(∀v a,U.Gq t v=some a->Du (E.rows t) (AU U v)=U.enc t a)/\(∀a,(U.enc t a).cells=Ar U (cellsS (U.encS t a)))/\(∀a,CU (U.enc t a)=true)) tysY:=by
 repeat' first|exact trivial|refine⟨⟨fun a=>rfl,(fun v a h=>nomatch h),fun a=>rfl,fun a=>rfl⟩,?_⟩
theorem Z3p (E:Env) (hE:E.rows=rowsOf Tryz.prog):D7 U E:=by
 have key:∀t,(∀a,AU U (U.encS t a)=U.enc t a)/\(∀v a,U.Gq t v=some a->Du (E.rows t) (AU U v)=U.enc t a)/\(∀a,(U.enc t a).cells=Ar U (cellsS (U.encS t a)))/\(∀a,CU (U.enc t a)=true):=fun t=>by
  by_cases h:t∈vH
  ·exact CE.four ((Zf7 hE).at h)
  by_cases h' : t∈tysY
  ·exact(all_Y E).at h'
  have e:=fun a=>ZBv t h h' a
  exact⟨fun a=>(e a).elim,fun v a h=>(e a).elim,fun a=>(e a).elim,fun a=>(e a).elim⟩
 have sub:∀t∈U.keys,t∈vH:=by decide
 exact⟨fun t=>(key t).1,fun t=>(key t).2.1,fun t=>(key t).2.2.1,fun t=>(key t).2.2.2,fun t ht=>((Zf7 hE).at (sub t ht)).inj⟩
def sumsV:List V:=[0,1788928,3577856,3003392,7155712,7764992,6006784,4252672,14311424,12659712,15529984,16233472,12013568,11279360,8505344,10126336].map fun n=>V.lit (.int .u32 n)
def gl:Nat->Option (List V):=fun g=>if g=0 then some sumsV else none
theorem Q9:Tryz.prog.follows .mixedOrders=true:=by kernel_rfl
def noH:FuncId->List FuncId->Option (HMod U):=fun _ _=>none
def B0:Env:=EV (U:=U) Tryz.prog gl 0 (fun _=>none) noH
abbrev MS:={ms:FuncId->Option (Af U) // ∀g m,ms g=some m->Ad Tryz.prog B0 g m}
abbrev HS:={hs:FuncId->List FuncId->Option (HMod U) // ∀g k m,hs g k=some m->Dv Tryz.prog B0 g m}
def Ag:MS:=⟨fun _=>none,fun _ _ h=>nomatch h⟩
def Ah:HS:=⟨fun _ _=>none,fun _ _ _ h=>nomatch h⟩
def mc {f:FuncId} {m:Af U} (h:Ad Tryz.prog B0 f m) (s:MS):MS:=⟨fun g=>bif Nat.beq g f then some m else s.1 g,fun g m' e=>by
 cases hb:Nat.beq g f with
 | true=>dsimp only at e;rw [hb] at e;cases e;exact(Nat.eq_of_beq_eq_true hb)▸h
 | false=>dsimp only at e;rw [hb] at e;exact s.2 g m' e⟩
def hc {f:FuncId} {m:HMod U} (k:List FuncId) (h:Dv Tryz.prog B0 f m) (s:HS):HS:=⟨fun g k' =>bif Nat.beq g f&&k' == k then some m else s.1 g k',fun g k' m' e=>by
 cases hb:(Nat.beq g f&&k' == k) with
 | true=>dsimp only at e;rw [hb] at e;cases e;exact(Nat.eq_of_beq_eq_true ((Bool.and_eq_true _ _).mp hb).1)▸h
 | false=>dsimp only at e;rw [hb] at e;exact s.2 g k' m' e⟩
def AN:Nat->Option Lay:=fun _=>none
noncomputable def Ai (fn:Func) (ts:List Nat) (x:FY U ts):Ac U:=⟨JM fn,[],fE ts x fn.ntmps,false⟩
noncomputable def Fe (fn:Func) (sh:Shape) (x:sh.X U):Ac U:=⟨JM fn,[],fD (sh.enc x) fn.ntmps,false⟩
noncomputable def Ae (fn:Func) (p:List Nat) (L:Lay) (x:L.sh.X U):Ac U:=spot (JM fn) p fn.ntmps L.keep (L.sh.enc x)
abbrev BlkP (f:FuncId) (fn:Func) (ms:MS) (hs:HS) (A:Nat->Option Lay) (rt:Nat) {Pt:Type} (T:Pt->Tr U (U.Ty rt⊕Pt)) (sp:Pt->Ac U):Prop:=
 ∀p,Le.ER (EV Tryz.prog gl f ms.1 hs.1) (Qk ms.1 hs.1) A f fn 0 (gG (EV Tryz.prog gl f ms.1 hs.1) fn) 1000 (.run (sp p).c) (sp p).K (sp p).st (sp p).sk=(T p).map (SG (vJ (U:=U) rt) sp)
abbrev BlkH (f:FuncId) (fn:Func) (ms:MS) (hs:HS) (A:Nat->Option Lay) (fa:List (List Fk)) (fb:List Bf) (k:Nat) (m:HMod U) {Pt:Type} (T:Pt->Tr U (U.Ty m.ky⊕Pt)) (sp:Pt->Ac U):Prop:=
 ∀p,Le.ER (EV Tryz.prog gl f ms.1 hs.1) (Qk ms.1 hs.1) A f fn k (uJ (EV Tryz.prog gl f ms.1 hs.1) fn fa fb k m.JX m.one) 1000 (.run (sp p).c) (sp p).K (sp p).st (sp p).sk=(T p).map (SG m.out sp)
theorem okP {f:FuncId} {fn:Func} {ms:MS} {hs:HS} {A:Nat->Option Lay} {m:Af U} {Pt:Type} {T:Pt->Tr U (U.Ty m.rt⊕Pt)} {sp:Pt->Ac U} (h:BlkP f fn ms hs A m.rt T sp) (b0:FY U m.ts->Pt)
  (hc:E8 (EV Tryz.prog gl f ms.1 hs.1) f (JM fn)=true) (hfn:Tryz.prog.funcs[f]? = some fn) (hn:(fn.name == "runtime.NumGoroutine")=false) (hb:fn.body=some (JM fn))
  (hm:∀x,m.fn x=AV T (b0 x)) (hsp:∀x,sp (b0 x)=Ai fn m.ts x):Ad Tryz.prog B0 f m:=
 Zdg rfl (Z3p _ rfl) Q9 ms.2 hs.2 hfn hn hb hc m T sp h b0 hm hsp
theorem Aj {f rt:Nat} {ts:List Nat} {hk:∀t∈ts,t∈U.keys} {fn:Func} {Pt:Type} {T:Pt->Tr U (U.Ty rt⊕Pt)} {b0:FY U ts->Pt} (ms:MS) (hs:HS) (A:Nat->Option Lay) (sp:Pt->Ac U) (hfn:Tryz.prog.funcs[f]? = some fn) (h:BlkP f fn ms hs A rt T sp)
  (hc:(E8 (EV Tryz.prog gl f ms.1 hs.1) f (JM fn),fn.name == "runtime.NumGoroutine",fn.body)=(true,false,some (JM fn))) (hsp:∀x,sp (b0 x)=Ai fn ts x):Ad Tryz.prog B0 f ⟨ts,rt,fun x=>AV T (b0 x),hk⟩:=
 okP (m:=⟨ts,rt,fun x=>AV T (b0 x),hk⟩) h b0 (congrArg (·.1) hc) hfn (congrArg (·.2.1) hc) (congrArg (·.2.2) hc) (fun _=>rfl) hsp
theorem okH {f:FuncId} {fn:Func} {ms:MS} {hs:HS} {A:Nat->Option Lay} {fa:List (List Fk)} {fb:List Bf} {k:Nat} {m:HMod U} {Pt:Type} {T:Pt->Tr U (U.Ty m.ky⊕Pt)} {sp:Pt->Ac U} (h:BlkH f fn ms hs A fa fb k m T sp) (b0:m.DZ.X U->Pt)
  (hk:∀x:m.DZ.X U,(m.DZ.enc x).2.length=k) (hc:E8 (EV Tryz.prog gl f ms.1 hs.1) f (JM fn)=true) (hfn:Tryz.prog.funcs[f]? = some fn) (hn:(fn.name == "runtime.NumGoroutine")=false) (hb:fn.body=some (JM fn))
  (hm:∀x:m.DZ.X U,m.fn x=AV T (b0 x)) (hsp:∀x:m.DZ.X U,sp (b0 x)=Fe fn m.DZ x):Dv Tryz.prog B0 f m:=
 ZyY rfl (Z3p _ rfl) Q9 ms.2 hs.2 hfn hn hb hc m hk T sp h b0 hm hsp
theorem okR {f ky:Nat} {fn:Func} {fi:List (List Fk)} {bi:List Bf} {DZ JX:Shape} {one:Bool} {N7:U.Ty ky->JX.X U} {ho:DZ.OK U} {Pt:Type} {T:Pt->Tr U (U.Ty ky⊕Pt)} {b0:DZ.X U->Pt} (ms:MS) (hs:HS) (A:Nat->Option Lay) (fa:List (List Fk)) (fb:List Bf) (k:Nat) (sp:Pt->Ac U) (hfn:Tryz.prog.funcs[f]? = some fn)
  (h:BlkH f fn ms hs A fa fb k ⟨fi,bi,DZ,JX,one,ky,N7,fun x=>AV T (b0 x),ho⟩ T sp) (hc:(E8 (EV Tryz.prog gl f ms.1 hs.1) f (JM fn),fn.name == "runtime.NumGoroutine",fn.body)=(true,false,some (JM fn))) (hsp:∀x,((DZ.enc x).2.length,sp (b0 x))=(k,Fe fn DZ x)) :
  Dv Tryz.prog B0 f ⟨fi,bi,DZ,JX,one,ky,N7,fun x=>AV T (b0 x),ho⟩:=
 okH (m:=⟨fi,bi,DZ,JX,one,ky,N7,fun x=>AV T (b0 x),ho⟩) h b0 (fun x=>congrArg (·.1) (hsp x)) (congrArg (·.1) hc) hfn (congrArg (·.2.1) hc) (congrArg (·.2.2) hc) (fun _=>rfl) (fun x=>congrArg (·.2) (hsp x))
abbrev kL {α:Type} (l:List α):Bool:=l.length==l.length
abbrev kA (n k:Nat):Bool:=decide (n*k<=lim)&&decide (n<=maxLen)
abbrev Gj (u c:AL):Bool:=(u.Kind==c.Kind)&&((u.BH.EK==c.BH.EK)&&((u.BH.EJ==c.BH.EJ)&&((u.BH.Df==c.BH.Df)&&((u.BH.Dh==c.BH.Dh)&&((u.BH.EO==c.BH.EO)&&((u.Map==c.Map)&&((u.DD==c.DD)&&((u.Bc==c.Bc)&&((u.DI==c.DI)&&((u.Bo==c.Bo)&&((u.Mark==c.Mark)&&((u.CQ==c.CQ)&&((u.Version==c.Version)&&((u.Length==c.Length)&&true))))))))))))))
abbrev KP:List Fk:=[.keep]
abbrev VC(t n:Nat):Pc:=.v t n false
abbrev OV(t:Nat):Sp:=.one (.v t 1 false)
abbrev PQ(j:Nat):Sp:=.one (.ptr j)
abbrev VA(e m:Nat):Pb:=.var e m (.agg [.v e m true])
abbrev k0:List Fk:=[.keep,.keep,.keep,.keep,.keep,.keep,.keep,.keep,.keep,.keep,.keep,.keep,.keep,.keep,.keep]
abbrev k1:List Fk:=[.keep,.keep,.keep,.s 156 15,.keep,.keep,.s 138 8,.keep,.keep,.keep,.keep,.keep,.keep,.keep,.keep,.keep,.keep,.keep,.keep,.keep]
abbrev k2:List Fk:=[.keep,.keep,.keep,.keep,.keep,.keep,.keep,.keep,.keep,.keep,.keep,.keep,.keep,.keep,.keep,.keep,.keep,.keep,.keep,.keep,.keep,.keep,.keep,.keep,.keep,.keep,.s 68 2,.keep,.keep,.keep,.keep,.keep,.keep,.keep,.keep,.keep,.keep,.s 156 15,.keep,.keep,.s 138 8,.keep,.keep,.keep,.keep,.keep,.keep,.keep,.keep,.keep,.keep,.keep,.keep,.keep,.keep,.keep,.keep,.keep,.keep,.keep,.keep,.keep,.s 99 2,.s 156 15,.keep,.keep]
abbrev k3:List Fk:=[.keep,.keep,.keep,.keep,.keep,.keep,.keep,.keep,.keep,.keep,.keep]
abbrev k4:List Fk:=[.keep,.keep,.keep,.keep,.s 5 1]
abbrev k5:List Fk:=[.keep,.keep,.keep,.keep,.keep,.keep,.keep,.keep,.keep,.keep,.keep,.keep,.keep,.keep,.keep,.keep,.keep,.keep,.keep,.keep,.keep,.keep,.keep,.keep,.keep,.keep,.s 68 2,.keep,.keep,.keep,.keep,.keep,.keep,.keep,.keep,.keep,.keep,.s 156 15,.keep,.keep,.s 138 8,.keep,.keep,.keep,.keep,.keep,.keep,.keep,.keep,.keep,.keep,.keep,.keep,.keep,.keep,.keep,.keep,.keep,.keep,.keep,.keep,.keep,.s 99 2,.s 156 15,.keep,.keep,.keep,.keep,.keep,.keep,.keep,.keep,.keep,.keep,.keep,.keep,.keep,.keep,.keep,.keep,.keep,.keep,.keep,.keep,.keep,.keep,.keep,.keep,.keep,.keep,.keep,.keep,.s 68 2,.keep,.keep,.keep,.keep,.keep,.keep,.keep,.keep,.keep,.keep,.s 156 15,.keep,.keep,.s 138 8,.keep,.keep,.keep,.keep,.keep,.keep,.keep,.keep,.keep,.keep,.keep,.keep,.keep,.keep,.keep,.keep,.keep,.keep,.keep,.keep,.keep,.s 99 2,.s 156 15,.keep,.keep]
abbrev k6:List Fk:=[.keep,.keep,.s 68 2,.keep,.keep,.keep,.keep]
abbrev k7:List Fk:=[.keep,.keep,.keep,.keep,.keep,.keep,.keep]
abbrev k8:List Fk:=[.keep,.keep,.own 68 2,.keep,.keep,.keep,.keep]
abbrev k9:List Fk:=[.keep,.keep,.keep,.keep,.keep,.keep,.keep,.keep,.keep,.keep,.keep,.keep,.keep,.keep,.keep,.keep,.keep,.keep,.keep,.keep,.keep,.keep,.keep,.keep,.keep,.keep,.s 68 2,.keep,.keep,.keep,.keep,.keep,.keep,.keep,.keep,.keep,.keep,.s 156 15,.keep,.keep,.s 138 8,.keep,.keep,.keep,.keep,.keep,.keep,.keep,.keep,.keep,.keep,.keep,.keep,.keep,.keep,.keep,.keep,.keep,.keep,.keep,.keep,.keep,.s 99 2,.own 156 15,.keep,.keep]
abbrev k10:List Fk:=[.keep,.keep,.keep,.keep,.keep,.keep,.keep,.keep,.keep,.keep,.keep,.keep,.keep,.keep,.keep,.keep,.keep,.keep,.keep,.keep,.keep,.keep,.keep,.keep,.keep,.keep,.s 68 2,.keep,.keep,.keep,.keep,.keep,.keep,.keep,.keep,.keep,.keep,.own 156 15,.keep,.keep,.own 138 8,.keep,.keep,.keep,.keep,.keep,.keep,.keep,.keep,.keep,.keep,.keep,.keep,.keep,.keep,.keep,.keep,.keep,.keep,.keep,.keep,.keep,.own 99 2,.own 156 15,.keep,.keep,.own 148 18]
abbrev k11:List Fk:=[.keep,.keep,.keep,.keep,.keep,.keep,.keep,.keep,.keep,.keep,.keep,.keep,.keep,.keep,.s 113 3,.keep,.keep]
abbrev k12:List Fk:=[.keep,.keep,.keep,.keep,.keep]
abbrev k13:List Fk:=[.keep,.keep,.keep,.keep,.keep,.keep,.keep,.keep]
abbrev k14:List Fk:=[.keep,.keep,.keep,.keep,.keep,.keep,.keep,.keep,.keep,.keep,.keep,.keep,.keep,.keep,.keep,.keep,.keep,.keep,.keep,.keep,.keep,.keep,.keep,.keep,.keep,.keep,.own 68 2,.keep,.keep,.keep,.keep,.keep,.keep,.keep,.keep,.keep,.keep,.own 156 15,.keep,.keep,.own 138 8,.keep,.keep,.keep,.keep,.keep,.keep,.keep,.keep,.keep,.keep,.keep,.keep,.keep,.keep,.keep,.keep,.keep,.keep,.keep,.keep,.keep,.own 99 2,.own 156 15,.keep,.keep,.own 148 18]
abbrev Vm (a:A8):=(a.Bl,(a.Ce,(a.Clock,(a.Event,(a.Last,(a.Ed,(a.Size,(a.Sync,(a.JR,(a.Hw,(a.J6,(a.Good,(a.Fp,(a.More,(a.BB,(a.GM,(a.Ak,(a.ED,(a.Key,(a.DJ,(a.Bc,(a.I4,()))))))))))))))))))))))
abbrev TC (a:BU):=(a.SN,(a.EF,(a.Open,(a.Empty,(a.Fp,(a.Taken,()))))))
abbrev Vj (a:FO):=(a.Link.Bl,(a.Link.Ce,(a.Link.Clock,(a.Link.Event,(a.Link.Last,(a.Link.Ed,(a.Link.Size,(a.Link.Sync,(a.Link.JR,(a.Link.Hw,(a.Link.J6,(a.Link.Good,(a.Link.Fp,(a.Link.More,(a.Link.BB,(a.Link.GM,(a.Link.Ak.Bl,(a.Link.Ak.Own,(a.Link.Ak.Since,(a.Link.Ak.Other,(a.Link.Ak.Ir,(a.Link.Ak.Told,(a.Link.Ak.CQ,(a.Link.Ak.MB,(a.Link.Ak.Hl,(a.Link.Ak.JK,(a.Link.Ak.Version,(a.Link.Ak.Length,(a.Link.Ak.Limit,(a.Link.Ak.Bo,(a.Link.Ak.JW,(a.Link.Ak.Mark,(a.Link.Ak.EI,(a.Link.Ak.GR,(a.Link.ED,(a.Link.Key,(a.Link.Bc,(a.Link.I4,()))))))))))))))))))))))))))))))))))))))
abbrev Vl (i:Nat):Sp:=.agg [.v 3 1 false,.v 3 1 false,.own 68 i,.v 4 1 false,.v 4 1 false,.v 3 1 false,.v 3 1 false]
abbrev iO (i:Nat):Sp:=.agg [.v 3 1 false,.v 28 11 true,.v 3 1 false,.v 30 1 false,.v 3 1 false,.v 3 1 false,.v 3 1 false,.v 3 1 false,.v 3 1 false,.v 4 1 false,.v 4 1 false,.v 4 1 false,.v 4 1 false,.v 4 1 false,.v 33 7 true,.v 35 3 true,.v 39 20 true,.v 41 7 true,.v 29 1 false,.v 42 1 false,.own 156 i,.v 3 1 false,.v 25 1 false]
abbrev ag2 (i:Nat):Sp:=.agg [.v 3 1 false,.v 28 11 true,.v 3 1 false,.v 30 1 false,.v 3 1 false,.v 3 1 false,.v 3 1 false,.v 3 1 false,.v 3 1 false,.v 4 1 false,.v 4 1 false,.v 4 1 false,.v 4 1 false,.v 4 1 false,.v 33 7 true,.v 35 3 true,.v 3 1 false,.v 3 1 false,.v 3 1 false,.own 156 i,.v 3 1 false,.v 3 1 false,.own 138 (i+1),.v 4 1 false,.v 25 1 false,.v 25 1 false,.v 4 1 false,.v 4 1 false,.v 3 1 false,.v 3 1 false,.v 3 1 false,.v 25 1 false,.v 25 1 false,.v 25 1 false,.v 3 1 false,.v 3 1 false,.v 41 7 true,.v 29 1 false,.own 99 (i+2),.own 156 (i+3),.v 3 1 false,.v 25 1 false,.own 148 (i+4)]
abbrev ag3 (i:Nat):Sp:=.agg [.v 3 1 false,.v 28 11 true,.v 3 1 false,.v 30 1 false,.v 3 1 false,.v 3 1 false,.v 3 1 false,.v 3 1 false,.v 3 1 false,.v 4 1 false,.v 4 1 false,.v 4 1 false,.v 4 1 false,.v 4 1 false,.v 3 1 false,.v 3 1 false,.own 68 i,.v 4 1 false,.v 4 1 false,.v 3 1 false,.v 3 1 false,.v 35 3 true,.v 3 1 false,.v 3 1 false,.v 3 1 false,.own 156 (i+1),.v 3 1 false,.v 3 1 false,.own 138 (i+2),.v 4 1 false,.v 25 1 false,.v 25 1 false,.v 4 1 false,.v 4 1 false,.v 3 1 false,.v 3 1 false,.v 3 1 false,.v 25 1 false,.v 25 1 false,.v 25 1 false,.v 3 1 false,.v 3 1 false,.v 41 7 true,.v 29 1 false,.own 99 (i+3),.own 156 (i+4),.v 3 1 false,.v 25 1 false,.own 148 (i+5)]
abbrev AA {L M:Type} (x:L):Tr U (L⊕M):=.leaf (.inl x)
abbrev AO {L M:Type} (x:M):Tr U (L⊕M):=.leaf (.inr x)
theorem DN:(∀(L R:Type) (l:L) (J:L->Option R),(Tr.leaf l:Tr U L).den J=J l)/\(∀(L R:Type) (c:Bool) (a b:Tr U L) (J:L->Option R),(Tr.br c a b).den J=cond c (a.den J) (b.den J))/\(∀(L R:Type) (t:Nat) (o:Option (U.Ty t)) (k:U.Ty t->Tr U L) (J:L->Option R),(Tr.bind t o k).den J=o.bind fun x=>(k x).den J) /\
  (∀(L R:Type) (c:Bool) (a:Tr U L) (J:L->Option R),(Tr.chk c a).den J=cond c (a.den J) none)/\(∀(L R:Type) (J:L->Option R),(Tr.fail:Tr U L).den J=none)/\(∀(R P:Type) (g:P->Option R) (r:R),Hf g (.inl r)=some r)/\(∀(R P:Type) (g:P->Option R) (q:P),Hf g (.inr q)=g q) /\
  (∀(α:Type) (l:List α),kL l=true)/\(∀n k:Nat,kA n k=(decide (n*k<=lim)&&decide (n<=maxLen))):=
 ⟨fun _ _ _ _=>rfl,fun _ _ _ _ _ _=>rfl,fun _ _ _ _ _ _=>rfl,fun _ _ _ _ _=>rfl,fun _ _ _=>rfl,fun _ _ _ _=>rfl,fun _ _ _ _=>rfl,fun _ _=>beq_self_eq_true _,fun _ _=>rfl⟩
abbrev ZrF (x:FO):QJ:=⟨(⟨x.Link.Bl,x.Link.Ce,x.Link.Clock,x.Link.Event,x.Link.Last,x.Link.Ed,x.Link.Size,x.Link.Sync,x.Link.JR,x.Link.Hw,x.Link.J6,x.Link.Good,x.Link.Fp,x.Link.More,(⟨x.Link.BB.SN,x.Link.BB.EF,x.Link.BB.Open,x.Link.BB.Empty,x.Link.BB.Fp,x.Link.BB.Taken⟩:Z2y),x.Link.GM,(⟨x.Link.Ak.Bl,x.Link.Ak.Own,x.Link.Ak.Since,x.Link.Ak.Other,x.Link.Ak.Ir,x.Link.Ak.Told,x.Link.Ak.CQ,x.Link.Ak.MB,x.Link.Ak.Hl,x.Link.Ak.JK,x.Link.Ak.Version,x.Link.Ak.Length,x.Link.Ak.Limit,x.Link.Ak.Bo,x.Link.Ak.JW,x.Link.Ak.Mark,x.Link.Ak.EI,x.Link.Ak.GR⟩:Z1j),x.Link.ED,x.Link.Key,x.Link.Bc,x.Link.I4⟩:Z1C)⟩
abbrev ZmT (x:C9):QC:=⟨x.Bl,x.Key,x.Bo,x.Jp,x.NV,x.Tx,x.Rx⟩
def Zf5:List Nat:=[115,3369,3385,4,5,3,60,62,63,31,36,37,42,104,30,22,26,25,226,45,46,110,29,77,86,78,75,71,120,189,129,135,140,208,216,269,222,9,254,163,231,233,237,194,256,253,240]
def ZeY:List (Nat×Nat):=[(83,12),(113,3),(59,17),(68,2),(156,15),(138,8),(99,2),(44,66),(52,2),(39,20),(28,11),(35,3),(33,7),(109,132),(24,5),(148,18),(70,5),(262,11),(41,7),(312,2),(252,2),(174,3)]
theorem ZB0:∀t∈Zf5,t∈U.keys/\∀a,cellsS (U.encS t a)=[U.encS t a]:=by
 intro t ht
 repeat (rcases List.mem_cons.1 ht with rfl|ht;exact⟨by decide,fun _=>rfl⟩)
 cases ht
theorem ZA9:∀p∈ZeY,p.1∈U.keys/\∀a,∃cs,U.encS p.1 a = .agg cs/\cs.length=p.2:=by
 intro p ht
 repeat (rcases List.mem_cons.1 ht with rfl|ht;exact⟨by decide,fun _=>⟨_,rfl,rfl⟩⟩)
 cases ht
theorem okS {s:Shape} (h:shB U Zf5 ZeY s=true):s.OK U:=Shape.ok_of ZB0 ZA9 h
abbrev AA0 (f:Nat) (m:Af U):Prop:=Ad Tryz.prog B0 f m
theorem AA2 {ts:List Nat} (h:ts.all U.keys.contains=true):∀t∈ts,t∈U.keys:=by simpa using h
abbrev AA1 (f:Nat) (ts:List Nat) (rt:Nat) (fn:FY U ts->Option (U.Ty rt)) (h:ts.all U.keys.contains=true):Prop:=Ad Tryz.prog B0 f ⟨ts,rt,fn,AA2 h⟩
@[reducible] def AA4 (R:Type):List Pc->Type
 | []=>R
 | .v t _ _::ps=>U.Ty t×AA4 R ps
 | _::ps=>AA4 R ps
@[reducible] def AA5 (R:Type):List Sp->Type
 | []=>R
 | p::ps=>AA4 (AA5 R ps) p.cells
@[reducible] def AA6:List Pb->Type
 | []=>Unit
 | .var _ _ p::bs=>AA4 (AA6 bs) p.cells
 | .row t _::bs=>List (U.Ty t)×AA6 bs
def AA7 {R:Type}:(l:List Pc)->AA4 R l->PX U l×R
 | [],x=>((),x)
 | .v _ _ _::ps,x=>((x.1,(AA7 ps x.2).1),(AA7 ps x.2).2)
 | .own _ _::ps,x=>AA7 ps x
 | .ptr _::ps,x=>AA7 ps x
 | .fn _ _ _::ps,x=>AA7 ps x
 | .no::ps,x=>AA7 ps x
 | .und::ps,x=>AA7 ps x
 | .iP _::ps,x=>AA7 ps x
def AA8 {R:Type}:(l:List Sp)->AA5 R l->AX U l×R
 | [],x=>((),x)
 | p::ps,x=>(((AA7 p.cells x).1,(AA8 ps (AA7 p.cells x).2).1),(AA8 ps (AA7 p.cells x).2).2)
def AA9:(l:List Pb)->AA6 l->BX U l
 | [],_=>()
 | .var _ _ p::bs,x=>((AA7 p.cells x).1,AA9 bs (AA7 p.cells x).2)
 | .row _ _::bs,x=>(x.1,AA9 bs x.2)
noncomputable def AA3 (fn:Func) (p:List Nat) (L:Lay) (x:AA5 (AA6 L.sh.boxes) L.sh.args):Ac U:=Ae fn p L ((AA8 _ x).1,AA9 _ (AA8 _ x).2)
end
end Go.Proofs.YtjodhcdmhobmoaaGreatDoor
