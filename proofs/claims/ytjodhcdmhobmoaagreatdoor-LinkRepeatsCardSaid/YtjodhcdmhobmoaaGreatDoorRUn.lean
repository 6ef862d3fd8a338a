/- A part of it. -/
import Derived.Test.YtjodhcdmhobmoaaGreatDoorL6
import Derived.Test.YtjodhcdmhobmoaaGreatDoorProg
import Derived.KernelRfl
set_option linter.unusedVariables false
set_option linter.unusedSimpArgs false
namespace Go.Proofs.YtjodhcdmhobmoaaGreatDoor
open Go Go.Proofs.YtjodhcdmhobmoaaGreatDoor.Le
set_option maxRecDepth 100000
noncomputable section
structure DL where
 ET:Int
 ES:Int
 Dl:Int
 Dx:Int
 Ea:Int
@[reducible] def BR:DL:=⟨(0:Int),(0:Int),(0:Int),(0:Int),(0:Int)⟩
structure Ey where
 IK:Int
 FQ:Int
 BI:DL
 Map:Int
 Hop:Int
 iY:Int
 KW:Int
@[reducible] def Z6I:Ey:=⟨(0:Int),(0:Int),BR,(0:Int),(0:Int),(0:Int),(0:Int)⟩
structure Z4g where
 x0:Int
 x1:Int
structure Aw where
 Ba:Int
 Payload:List Int
structure Gi where
 Side:Int
 Kind:Int
 Ak:Aw
 BI:DL
 Map:Int
 Number:Int
 Key:Int
structure Ej where
 RQ:List Gi
 Vx:Int
 Vp:Int
structure Iy where
 Bl:Ey
 Keys:Z4g
 Ic:Int
 Events:List Ej
 Bz:Int
 Ak:Int
structure BQ where
 SN:Int
 Dp:Int
 BA:List Aw
 Open:Bool
 Empty:Bool
 Fz:Int
 Taken:Int
@[reducible] def Jj:BQ:=⟨(0:Int),(0:Int),[],false,false,(0:Int),(0:Int)⟩
structure Dv where
 Dx:Int
 SK:Int
 Full:Bool
@[reducible] def Zl9:Dv:=⟨(0:Int),(0:Int),false⟩
structure AL where
 Kind:Int
 BI:DL
 Map:Int
 DF:Int
 Bd:Int
 DT:Int
 Bq:Int
 Mark:Int
 CW:Int
 Version:Int
 Length:Int
@[reducible] def Gg:AL:=⟨(0:Int),BR,(0:Int),(0:Int),(0:Int),(0:Int),(0:Int),(0:Int),(0:Int),(0:Int),(0:Int)⟩
structure BP where
 Kind:Int
 DF:Int
 BI:DL
 Map:Int
@[reducible] def U0:BP:=⟨(0:Int),(0:Int),BR,(0:Int)⟩
structure Aa where
 Bz:Int
 Own:Int
 Since:Int
 BJ:List AL
 Other:Int
 JC:Int
 CO:List BP
 Told:Bool
 CW:Int
 MI:Int
 Hm:Bool
 JV:Bool
 Version:Int
 Length:Int
 Limit:Int
 Bq:Int
 Jc:Int
 Mark:Int
 EJ:Int
 GR:Int
@[reducible] def EW:Aa:=⟨(0:Int),(0:Int),(0:Int),[],(0:Int),(0:Int),[],false,(0:Int),(0:Int),false,false,(0:Int),(0:Int),(0:Int),(0:Int),(0:Int),(0:Int),(0:Int),(0:Int)⟩
structure Cb where
 Bz:Int
 Key:Int
 Bq:Int
 Gm:Bool
 N9:Bool
 Tx:Int
 Rx:Int
@[reducible] def Rh:Cb:=⟨(0:Int),(0:Int),(0:Int),false,false,(0:Int),(0:Int)⟩
structure BV where
 Good:Int
 Nh:Int
structure A8 where
 Bz:Int
 Bl:Ey
 Clock:Int
 Event:Int
 Last:Int
 IL:Int
 Size:Int
 Sync:Int
 J6:Int
 JH:Bool
 Jd:Bool
 Good:Bool
 Fz:Bool
 More:Bool
 Az:BQ
 Hg:Dv
 Am:Aa
 DY:Cb
 Key:Int
 DI:List BV
 BC:List AL
 Bd:Int
 Ic:Int
@[reducible] def Dk:A8:=⟨(0:Int),Z6I,(0:Int),(0:Int),(0:Int),(0:Int),(0:Int),(0:Int),(0:Int),false,false,false,false,false,Jj,Zl9,EW,Rh,(0:Int),[],[],(0:Int),(0:Int)⟩
structure BD where
 SN:Int
 Dp:Int
 MD:Int
 Ak:Aw
@[reducible] def E5:BD:=⟨(0:Int),(0:Int),(0:Int),(⟨(0:Int),[]⟩:Aw)⟩
structure CQ where
 x0:A8
 x1:A8
structure Oz where
 Start:Int
 End:Int
structure BB where
 Kind:Int
 Event:Int
 Ak:Aw
 ZFd:BP
 Number:Int
 BI:DL
structure Be where
 Hm:Bool
 BI:Bool
 Map:Bool
 DF:Bool
 Bd:Bool
 DT:Bool
 Bq:Bool
 Mark:Bool
 CW:Bool
 Version:Bool
 Length:Bool
@[reducible] def ND:Be:=⟨false,false,false,false,false,false,false,false,false,false,false⟩
structure FO where
 Link:A8
 Dt:List BB
structure JA where
 x0:Int
 x1:Int
structure Cc where
 Size:Int
 Value:Int
structure IX where
 Z3F:List Int
structure F9 where
 TW:Int
 f_low:Int
 uK:Int
structure Z2r where
 SN:Int
 Dp:Int
 Open:Bool
 Empty:Bool
 Fz:Int
 Taken:Int
structure Z18 where
 Bz:Int
 Own:Int
 Since:Int
 Other:Int
 JC:Int
 Told:Bool
 CW:Int
 MI:Int
 Hm:Bool
 JV:Bool
 Version:Int
 Length:Int
 Limit:Int
 Bq:Int
 Jc:Int
 Mark:Int
 EJ:Int
 GR:Int
structure Z1D where
 Bz:Int
 Bl:Ey
 Clock:Int
 Event:Int
 Last:Int
 IL:Int
 Size:Int
 Sync:Int
 J6:Int
 JH:Bool
 Jd:Bool
 Good:Bool
 Fz:Bool
 More:Bool
 Az:Z2r
 Hg:Dv
 Am:Z18
 DY:Cb
 Key:Int
 Bd:Int
 Ic:Int
structure QZ where
 Link:Z1D
structure QQ where
 Bz:Int
 Key:Int
 Bq:Int
 Gm:Bool
 N9:Bool
 Tx:Int
 Rx:Int
structure QG where
 q0:List Int
structure RV where
 q0:List AL
structure WQ where
 q0:List BP
structure WR where
 q0:List BV
structure Ii where
 q0:List Int
structure KU where
 q0:List Int
structure Rn where
 q0:List Int
structure PM where
 q0:List Int
structure QV where
 q0:List Int
structure SE where
 q0:BQ
structure UJ where
 q0:Cb
 q1:Int
structure QH where
 q0:Int
structure UD where
 q0:List Int
structure U5 where
 q0:FO
structure UH where
 q0:FO
 q1:List Aw
 q2:List AL
structure Rf where
 q0:List Int
structure UC where
 q0:AL
structure UE where
 q0:AL
structure UB where
 q0:AL
structure Tu where
 q0:AL
structure Tt where
 q0:AL
structure Tq where
 q0:AL
structure UA where
 q0:AL
structure Tz where
 q0:AL
structure Tn where
 q0:AL
structure Ou where
 q0:AL
structure RX where
 q0:AL
structure RY where
 q0:AL
@[reducible] def Ty:Nat->Type
 | 1344=>QG
 | 1345=>RV
 | 1346=>WQ
 | 1347=>WR
 | 1349=>Ii
 | 1351=>KU
 | 1352=>Rn
 | 1350=>PM
 | 1348=>QV
 | 1355=>SE
 | 1356=>UJ
 | 1357=>QH
 | 1358=>UD
 | 1353=>U5
 | 1354=>UH
 | 1371=>Rf
 | 1362=>UC
 | 1363=>UE
 | 1364=>UB
 | 1365=>Tu
 | 1366=>Tt
 | 1367=>Tq
 | 1368=>UA
 | 1369=>Tz
 | 1370=>Tn
 | 1359=>Ou
 | 1360=>RX
 | 1361=>RY
 | 249=>Unit
 | 115=>QZ
 | 338=>Int
 | 3369=>Int
 | 3385=>QQ
 | 4=>Bool
 | 5=>Int
 | 83=>Gi
 | 113=>Ej
 | 59=>Iy
 | 68=>Aw
 | 156=>AL
 | 138=>BP
 | 99=>BV
 | 44=>A8
 | 3=>Int
 | 60=>A8×Int×Bool
 | 62=>List Int
 | 63=>A8×(List Int)
 | 70=>BD
 | 45=>Int
 | 71=>BD×Int
 | 33=>BQ
 | 75=>BQ×BD
 | 31=>List Aw
 | 39=>Aa
 | 36=>List AL
 | 37=>List BP
 | 42=>List BV
 | 109=>CQ
 | 46=>A8×Int
 | 110=>CQ×Int
 | 28=>Ey
 | 29=>Int
 | 25=>Int
 | 52=>Oz
 | 35=>Dv
 | 24=>DL
 | 26=>Int
 | 226=>List Int
 | 148=>BB
 | 77=>List BB
 | 86=>A8×(List BB)×Bool
 | 78=>A8×(List BB)
 | 120=>(List Int)×Int
 | 104=>Int×Int
 | 30=>Int
 | 22=>Int
 | 189=>BQ×Int
 | 262=>Be
 | 41=>Cb
 | 129=>Dv×Int
 | 135=>Aa×(List BP)
 | 140=>Aa×(List AL)
 | 208=>(List BP)×(List BP)
 | 216=>Aa×AL
 | 269=>(List BP)×Int
 | 222=>Aa×(List AL)×Int
 | 9=>ByteArray
 | 254=>List Int
 | 163=>BQ×Aw×Bool×Bool
 | 231=>AL×Int
 | 233=>Aa×(List BB)
 | 237=>Aa×(List AL)×(List BB)
 | 194=>Int×Int
 | 256=>List (List Int)
 | 312=>JA
 | 252=>Cc
 | 253=>List Cc
 | 174=>F9
 | 240=>List F9
 | _=>Empty
abbrev EK:AB Ty Int:=AB.int .u8
abbrev Py:AB Ty Int:=AB.int .u16
abbrev Om:AB Ty Int:=AB.int .u32
abbrev CP:AB Ty Int:=AB.int .u64
abbrev BL:AB Ty Int:=AB.int .i64
abbrev Dj:AB Ty Bool:=AB.bool
abbrev cst:AB Ty ByteArray:=AB.str
def IQ:AB Ty Aw:=AB.C9 (fun x=>(x.Ba,x.Payload,())) (fun p=>⟨p.1,p.2.1⟩) (AB.pair BL (AB.pair (AB.list 5 1 (fun(a:Int)=>EK.BU a):AB Ty (List (Ty 5))) AB.unit))
def MZ:AB Ty DL:=AB.C9 (fun x=>(x.ET,x.ES,x.Dl,x.Dx,x.Ea,())) (fun p=>⟨p.1,p.2.1,p.2.2.1,p.2.2.2.1,p.2.2.2.2.1⟩) (AB.pair BL (AB.pair BL (AB.pair BL (AB.pair BL (AB.pair BL AB.unit)))))
def RN:AB Ty Gi:=AB.C9 (fun x=>(x.Side,x.Kind,x.Ak,x.BI,x.Map,x.Number,x.Key,())) (fun p=>⟨p.1,p.2.1,p.2.2.1,p.2.2.2.1,p.2.2.2.2.1,p.2.2.2.2.2.1,p.2.2.2.2.2.2.1⟩) (AB.pair BL (AB.pair BL (AB.pair IQ (AB.pair MZ (AB.pair CP (AB.pair CP (AB.pair CP AB.unit)))))))
def Qs:AB Ty Ej:=AB.C9 (fun x=>(x.RQ,x.Vx,x.Vp,())) (fun p=>⟨p.1,p.2.1,p.2.2.1⟩) (AB.pair (AB.list 83 12 (fun(a:Gi)=>.agg (RN.Au a)):AB Ty (List (Ty 83))) (AB.pair BL (AB.pair BL AB.unit)))
def QB:AB Ty Ey:=AB.C9 (fun x=>(x.IK,x.FQ,x.BI,x.Map,x.Hop,x.iY,x.KW,())) (fun p=>⟨p.1,p.2.1,p.2.2.1,p.2.2.2.1,p.2.2.2.2.1,p.2.2.2.2.2.1,p.2.2.2.2.2.2.1⟩) (AB.pair Om (AB.pair Om (AB.pair MZ (AB.pair CP (AB.pair BL (AB.pair BL (AB.pair BL AB.unit)))))))
def wC:AB Ty Z4g:=AB.C9 (fun x=>(x.x0,x.x1,())) (fun p=>⟨p.1,p.2.1⟩) (AB.pair CP (AB.pair CP AB.unit))
def Vu:AB Ty Iy:=AB.C9 (fun x=>(x.Bl,x.Keys,x.Ic,x.Events,x.Bz,x.Ak,())) (fun p=>⟨p.1,p.2.1,p.2.2.1,p.2.2.2.1,p.2.2.2.2.1,p.2.2.2.2.2.1⟩) (AB.pair QB (AB.pair wC (AB.pair CP (AB.pair (AB.list 113 3 (fun(a:Ej)=>.agg (Qs.Au a)):AB Ty (List (Ty 113))) (AB.pair BL (AB.pair BL AB.unit))))))
def GV:AB Ty AL:=AB.C9 (fun x=>(x.Kind,x.BI,x.Map,x.DF,x.Bd,x.DT,x.Bq,x.Mark,x.CW,x.Version,x.Length,())) (fun p=>⟨p.1,p.2.1,p.2.2.1,p.2.2.2.1,p.2.2.2.2.1,p.2.2.2.2.2.1,p.2.2.2.2.2.2.1,p.2.2.2.2.2.2.2.1,p.2.2.2.2.2.2.2.2.1,p.2.2.2.2.2.2.2.2.2.1,p.2.2.2.2.2.2.2.2.2.2.1⟩) (AB.pair BL (AB.pair MZ (AB.pair CP (AB.pair Py (AB.pair BL (AB.pair BL (AB.pair CP (AB.pair CP (AB.pair CP (AB.pair BL (AB.pair BL AB.unit)))))))))))
def Ho:AB Ty BP:=AB.C9 (fun x=>(x.Kind,x.DF,x.BI,x.Map,())) (fun p=>⟨p.1,p.2.1,p.2.2.1,p.2.2.2.1⟩) (AB.pair BL (AB.pair Py (AB.pair MZ (AB.pair CP AB.unit))))
def MX:AB Ty BV:=AB.C9 (fun x=>(x.Good,x.Nh,())) (fun p=>⟨p.1,p.2.1⟩) (AB.pair BL (AB.pair BL AB.unit))
def Nc:AB Ty BQ:=AB.C9 (fun x=>(x.SN,x.Dp,x.BA,x.Open,x.Empty,x.Fz,x.Taken,())) (fun p=>⟨p.1,p.2.1,p.2.2.1,p.2.2.2.1,p.2.2.2.2.1,p.2.2.2.2.2.1,p.2.2.2.2.2.2.1⟩) (AB.pair BL (AB.pair BL (AB.pair (AB.list 68 2 (fun(a:Aw)=>.agg (IQ.Au a)):AB Ty (List (Ty 68))) (AB.pair Dj (AB.pair Dj (AB.pair BL (AB.pair BL AB.unit)))))))
def RF:AB Ty Dv:=AB.C9 (fun x=>(x.Dx,x.SK,x.Full,())) (fun p=>⟨p.1,p.2.1,p.2.2.1⟩) (AB.pair BL (AB.pair BL (AB.pair Dj AB.unit)))
def Iu:AB Ty Aa:=AB.C9 (fun x=>(x.Bz,x.Own,x.Since,x.BJ,x.Other,x.JC,x.CO,x.Told,x.CW,x.MI,x.Hm,x.JV,x.Version,x.Length,x.Limit,x.Bq,x.Jc,x.Mark,x.EJ,x.GR,())) (fun p=>⟨p.1,p.2.1,p.2.2.1,p.2.2.2.1,p.2.2.2.2.1,p.2.2.2.2.2.1,p.2.2.2.2.2.2.1,p.2.2.2.2.2.2.2.1,p.2.2.2.2.2.2.2.2.1,p.2.2.2.2.2.2.2.2.2.1,p.2.2.2.2.2.2.2.2.2.2.1,p.2.2.2.2.2.2.2.2.2.2.2.1,p.2.2.2.2.2.2.2.2.2.2.2.2.1,p.2.2.2.2.2.2.2.2.2.2.2.2.2.1,p.2.2.2.2.2.2.2.2.2.2.2.2.2.2.1,p.2.2.2.2.2.2.2.2.2.2.2.2.2.2.2.1,p.2.2.2.2.2.2.2.2.2.2.2.2.2.2.2.2.1,p.2.2.2.2.2.2.2.2.2.2.2.2.2.2.2.2.2.1,p.2.2.2.2.2.2.2.2.2.2.2.2.2.2.2.2.2.2.1,p.2.2.2.2.2.2.2.2.2.2.2.2.2.2.2.2.2.2.2.1⟩) (AB.pair BL (AB.pair BL (AB.pair BL (AB.pair (AB.list 156 15 (fun(a:AL)=>.agg (GV.Au a)):AB Ty (List (Ty 156))) (AB.pair BL (AB.pair BL (AB.pair (AB.list 138 8 (fun(a:BP)=>.agg (Ho.Au a)):AB Ty (List (Ty 138))) (AB.pair Dj (AB.pair CP (AB.pair CP (AB.pair Dj (AB.pair Dj (AB.pair BL (AB.pair BL (AB.pair BL (AB.pair CP (AB.pair CP (AB.pair CP (AB.pair BL (AB.pair BL AB.unit))))))))))))))))))))
def Vj:AB Ty Cb:=AB.C9 (fun x=>(x.Bz,x.Key,x.Bq,x.Gm,x.N9,x.Tx,x.Rx,())) (fun p=>⟨p.1,p.2.1,p.2.2.1,p.2.2.2.1,p.2.2.2.2.1,p.2.2.2.2.2.1,p.2.2.2.2.2.2.1⟩) (AB.pair BL (AB.pair CP (AB.pair CP (AB.pair Dj (AB.pair Dj (AB.pair CP (AB.pair CP AB.unit)))))))
def JO:AB Ty A8:=AB.C9 (fun x=>(x.Bz,x.Bl,x.Clock,x.Event,x.Last,x.IL,x.Size,x.Sync,x.J6,x.JH,x.Jd,x.Good,x.Fz,x.More,x.Az,x.Hg,x.Am,x.DY,x.Key,x.DI,x.BC,x.Bd,x.Ic,())) (fun p=>⟨p.1,p.2.1,p.2.2.1,p.2.2.2.1,p.2.2.2.2.1,p.2.2.2.2.2.1,p.2.2.2.2.2.2.1,p.2.2.2.2.2.2.2.1,p.2.2.2.2.2.2.2.2.1,p.2.2.2.2.2.2.2.2.2.1,p.2.2.2.2.2.2.2.2.2.2.1,p.2.2.2.2.2.2.2.2.2.2.2.1,p.2.2.2.2.2.2.2.2.2.2.2.2.1,p.2.2.2.2.2.2.2.2.2.2.2.2.2.1,p.2.2.2.2.2.2.2.2.2.2.2.2.2.2.1,p.2.2.2.2.2.2.2.2.2.2.2.2.2.2.2.1,p.2.2.2.2.2.2.2.2.2.2.2.2.2.2.2.2.1,p.2.2.2.2.2.2.2.2.2.2.2.2.2.2.2.2.2.1,p.2.2.2.2.2.2.2.2.2.2.2.2.2.2.2.2.2.2.1,p.2.2.2.2.2.2.2.2.2.2.2.2.2.2.2.2.2.2.2.1,p.2.2.2.2.2.2.2.2.2.2.2.2.2.2.2.2.2.2.2.2.1,p.2.2.2.2.2.2.2.2.2.2.2.2.2.2.2.2.2.2.2.2.2.1,p.2.2.2.2.2.2.2.2.2.2.2.2.2.2.2.2.2.2.2.2.2.2.1⟩) (AB.pair BL (AB.pair QB (AB.pair BL (AB.pair Py (AB.pair BL (AB.pair BL (AB.pair BL (AB.pair BL (AB.pair BL (AB.pair Dj (AB.pair Dj (AB.pair Dj (AB.pair Dj (AB.pair Dj (AB.pair Nc (AB.pair RF (AB.pair Iu (AB.pair Vj (AB.pair CP (AB.pair (AB.list 99 2 (fun(a:BV)=>.agg (MX.Au a)):AB Ty (List (Ty 99))) (AB.pair (AB.list 156 15 (fun(a:AL)=>.agg (GV.Au a)):AB Ty (List (Ty 156))) (AB.pair BL (AB.pair CP AB.unit)))))))))))))))))))))))
def RU:AB Ty BD:=AB.C9 (fun x=>(x.SN,x.Dp,x.MD,x.Ak,())) (fun p=>⟨p.1,p.2.1,p.2.2.1,p.2.2.2.1⟩) (AB.pair BL (AB.pair BL (AB.pair BL (AB.pair IQ AB.unit))))
def V8:AB Ty CQ:=AB.C9 (fun x=>(x.x0,x.x1,())) (fun p=>⟨p.1,p.2.1⟩) (AB.pair JO (AB.pair JO AB.unit))
def vS:AB Ty Oz:=AB.C9 (fun x=>(x.Start,x.End,())) (fun p=>⟨p.1,p.2.1⟩) (AB.pair BL (AB.pair BL AB.unit))
def I9:AB Ty BB:=AB.C9 (fun x=>(x.Kind,x.Event,x.Ak,x.ZFd,x.Number,x.BI,())) (fun p=>⟨p.1,p.2.1,p.2.2.1,p.2.2.2.1,p.2.2.2.2.1,p.2.2.2.2.2.1⟩) (AB.pair BL (AB.pair Py (AB.pair IQ (AB.pair Ho (AB.pair CP (AB.pair MZ AB.unit))))))
def vJ:AB Ty Be:=AB.C9 (fun x=>(x.Hm,x.BI,x.Map,x.DF,x.Bd,x.DT,x.Bq,x.Mark,x.CW,x.Version,x.Length,())) (fun p=>⟨p.1,p.2.1,p.2.2.1,p.2.2.2.1,p.2.2.2.2.1,p.2.2.2.2.2.1,p.2.2.2.2.2.2.1,p.2.2.2.2.2.2.2.1,p.2.2.2.2.2.2.2.2.1,p.2.2.2.2.2.2.2.2.2.1,p.2.2.2.2.2.2.2.2.2.2.1⟩) (AB.pair Dj (AB.pair Dj (AB.pair Dj (AB.pair Dj (AB.pair Dj (AB.pair Dj (AB.pair Dj (AB.pair Dj (AB.pair Dj (AB.pair Dj (AB.pair Dj AB.unit)))))))))))
def vK:AB Ty JA:=AB.C9 (fun x=>(x.x0,x.x1,())) (fun p=>⟨p.1,p.2.1⟩) (AB.pair Om (AB.pair Om AB.unit))
def O5:AB Ty Cc:=AB.C9 (fun x=>(x.Size,x.Value,())) (fun p=>⟨p.1,p.2.1⟩) (AB.pair BL (AB.pair CP AB.unit))
def Oa:AB Ty F9:=AB.C9 (fun x=>(x.TW,x.f_low,x.uK,())) (fun p=>⟨p.1,p.2.1,p.2.2.1⟩) (AB.pair BL (AB.pair BL (AB.pair BL AB.unit)))
def Zfp:AB Ty Z2r:=AB.C9 (fun x=>(x.SN,x.Dp,(),x.Open,x.Empty,x.Fz,x.Taken,())) (fun p=>⟨p.1,p.2.1,p.2.2.2.1,p.2.2.2.2.1,p.2.2.2.2.2.1,p.2.2.2.2.2.2.1⟩) (AB.pair BL (AB.pair BL (AB.pair AB.skip (AB.pair Dj (AB.pair Dj (AB.pair BL (AB.pair BL AB.unit)))))))
def ZfB:AB Ty Z18:=AB.C9 (fun x=>(x.Bz,x.Own,x.Since,(),x.Other,x.JC,(),x.Told,x.CW,x.MI,x.Hm,x.JV,x.Version,x.Length,x.Limit,x.Bq,x.Jc,x.Mark,x.EJ,x.GR,())) (fun p=>⟨p.1,p.2.1,p.2.2.1,p.2.2.2.2.1,p.2.2.2.2.2.1,p.2.2.2.2.2.2.2.1,p.2.2.2.2.2.2.2.2.1,p.2.2.2.2.2.2.2.2.2.1,p.2.2.2.2.2.2.2.2.2.2.1,p.2.2.2.2.2.2.2.2.2.2.2.1,p.2.2.2.2.2.2.2.2.2.2.2.2.1,p.2.2.2.2.2.2.2.2.2.2.2.2.2.1,p.2.2.2.2.2.2.2.2.2.2.2.2.2.2.1,p.2.2.2.2.2.2.2.2.2.2.2.2.2.2.2.1,p.2.2.2.2.2.2.2.2.2.2.2.2.2.2.2.2.1,p.2.2.2.2.2.2.2.2.2.2.2.2.2.2.2.2.2.1,p.2.2.2.2.2.2.2.2.2.2.2.2.2.2.2.2.2.2.1,p.2.2.2.2.2.2.2.2.2.2.2.2.2.2.2.2.2.2.2.1⟩) (AB.pair BL (AB.pair BL (AB.pair BL (AB.pair AB.skip (AB.pair BL (AB.pair BL (AB.pair AB.skip (AB.pair Dj (AB.pair CP (AB.pair CP (AB.pair Dj (AB.pair Dj (AB.pair BL (AB.pair BL (AB.pair BL (AB.pair CP (AB.pair CP (AB.pair CP (AB.pair BL (AB.pair BL AB.unit))))))))))))))))))))
def ZfC:AB Ty Z1D:=AB.C9 (fun x=>(x.Bz,x.Bl,x.Clock,x.Event,x.Last,x.IL,x.Size,x.Sync,x.J6,x.JH,x.Jd,x.Good,x.Fz,x.More,x.Az,x.Hg,x.Am,x.DY,x.Key,(),(),x.Bd,x.Ic,())) (fun p=>⟨p.1,p.2.1,p.2.2.1,p.2.2.2.1,p.2.2.2.2.1,p.2.2.2.2.2.1,p.2.2.2.2.2.2.1,p.2.2.2.2.2.2.2.1,p.2.2.2.2.2.2.2.2.1,p.2.2.2.2.2.2.2.2.2.1,p.2.2.2.2.2.2.2.2.2.2.1,p.2.2.2.2.2.2.2.2.2.2.2.1,p.2.2.2.2.2.2.2.2.2.2.2.2.1,p.2.2.2.2.2.2.2.2.2.2.2.2.2.1,p.2.2.2.2.2.2.2.2.2.2.2.2.2.2.1,p.2.2.2.2.2.2.2.2.2.2.2.2.2.2.2.1,p.2.2.2.2.2.2.2.2.2.2.2.2.2.2.2.2.1,p.2.2.2.2.2.2.2.2.2.2.2.2.2.2.2.2.2.1,p.2.2.2.2.2.2.2.2.2.2.2.2.2.2.2.2.2.2.1,p.2.2.2.2.2.2.2.2.2.2.2.2.2.2.2.2.2.2.2.2.2.1,p.2.2.2.2.2.2.2.2.2.2.2.2.2.2.2.2.2.2.2.2.2.2.1⟩) (AB.pair BL (AB.pair QB (AB.pair BL (AB.pair Py (AB.pair BL (AB.pair BL (AB.pair BL (AB.pair BL (AB.pair BL (AB.pair Dj (AB.pair Dj (AB.pair Dj (AB.pair Dj (AB.pair Dj (AB.pair Zfp (AB.pair RF (AB.pair ZfB (AB.pair Vj (AB.pair CP (AB.pair AB.skip (AB.pair AB.skip (AB.pair BL (AB.pair CP AB.unit)))))))))))))))))))))))
def uB:AB Ty QZ:=AB.C9 (fun x=>(x.Link,(),())) (fun p=>⟨p.1⟩) (AB.pair ZfC (AB.pair AB.skip AB.unit))
def uZ:AB Ty QQ:=AB.C9 (fun x=>(x.Bz,x.Key,x.Bq,x.Gm,x.N9,x.Tx,x.Rx,())) (fun p=>⟨p.1,p.2.1,p.2.2.1,p.2.2.2.1,p.2.2.2.2.1,p.2.2.2.2.2.1,p.2.2.2.2.2.2.1⟩) (AB.pair BL (AB.pair CP (AB.pair CP (AB.pair Dj (AB.pair Dj (AB.pair CP (AB.pair CP AB.unit)))))))
def ZC8:List V:=[.lit (.int .i64 5),.agg [.sl false 1 [],.fn 348 [] [],.fn 349 [] [],.fn 309 [] []],
 .lit (.int .i64 6),.agg [.sl false 1 [],.fn 348 [] [],.fn 349 [] [],.fn 309 [] []],
 .lit (.int .i64 18),.agg [.sl false 1 [],.fn 348 [] [],.fn 349 [] [],.fn 309 [] []],
 .lit (.int .i64 19),.agg [.sl false 1 [],.fn 348 [] [],.fn 349 [] [],.fn 309 [] []],
 .lit (.int .i64 8),.agg [.sl false 1 [.lit (.int .i64 8)],.fn 350 [] [],.fn 351 [] [],.fn 309 [] []],
 .lit (.int .i64 9),.agg [.sl false 1 [.lit (.int .i64 8)],.fn 350 [] [],.fn 351 [] [],.fn 309 [] []],
 .lit (.int .i64 20),.agg [.sl false 1 [.lit (.int .i64 1)],.fn 352 [] [],.fn 353 [] [],.fn 354 [] []],
 .lit (.int .i64 21),.agg [.sl false 1 [.lit (.int .i64 1)],.fn 352 [] [],.fn 353 [] [],.fn 354 [] []],
 .lit (.int .i64 0),.agg [.sl false 1 [.lit (.int .i64 1),.lit (.int .i64 2),.lit (.int .i64 2),.lit (.int .i64 2),.lit (.int .i64 2),.lit (.int .i64 2)],.fn 292 [] [],.fn 294 [] [],.fn 296 [] []],
 .lit (.int .i64 1),.agg [.sl false 1 [.lit (.int .i64 5),.lit (.int .i64 2)],.fn 297 [] [],.fn 298 [] [],.fn 299 [] []],
 .lit (.int .i64 15),.agg [.sl false 1 [.lit (.int .i64 1),.lit (.int .i64 2),.lit (.int .i64 2),.lit (.int .i64 2),.lit (.int .i64 2)],.fn 300 [] [],.fn 301 [] [],.fn 302 [] []],
 .lit (.int .i64 2),.agg [.sl false 1 [.lit (.int .i64 1)],.fn 303 [] [],.fn 304 [] [],.fn 305 [] []],
 .lit (.int .i64 3),.agg [.sl false 1 [.lit (.int .i64 8),.lit (.int .i64 8)],.fn 307 [] [],.fn 308 [] [],.fn 309 [] []],
 .lit (.int .i64 4),.agg [.sl false 1 [.lit (.int .i64 8)],.fn 310 [] [],.fn 311 [] [],.fn 309 [] []],
 .lit (.int .i64 7),.agg [.sl false 1 [.lit (.int .i64 1)],.fn 312 [] [],.fn 313 [] [],.fn 314 [] []],
 .lit (.int .i64 12),.agg [.sl false 1 [.lit (.int .i64 1)],.fn 315 [] [],.fn 316 [] [],.fn 317 [] []],
 .lit (.int .i64 13),.agg [.sl false 1 [.lit (.int .i64 1),.lit (.int .i64 1)],.fn 318 [] [],.fn 319 [] [],.fn 320 [] []]]
def ZDq:List (SV Ty):=[.lit (.int .i64 5),.agg [.sl 3 ([]:List Int),.fn 348 [] [],.fn 349 [] [],.fn 309 [] []],
 .lit (.int .i64 6),.agg [.sl 3 ([]:List Int),.fn 348 [] [],.fn 349 [] [],.fn 309 [] []],
 .lit (.int .i64 18),.agg [.sl 3 ([]:List Int),.fn 348 [] [],.fn 349 [] [],.fn 309 [] []],
 .lit (.int .i64 19),.agg [.sl 3 ([]:List Int),.fn 348 [] [],.fn 349 [] [],.fn 309 [] []],
 .lit (.int .i64 8),.agg [.sl 3 ([8]:List Int),.fn 350 [] [],.fn 351 [] [],.fn 309 [] []],
 .lit (.int .i64 9),.agg [.sl 3 ([8]:List Int),.fn 350 [] [],.fn 351 [] [],.fn 309 [] []],
 .lit (.int .i64 20),.agg [.sl 3 ([1]:List Int),.fn 352 [] [],.fn 353 [] [],.fn 354 [] []],
 .lit (.int .i64 21),.agg [.sl 3 ([1]:List Int),.fn 352 [] [],.fn 353 [] [],.fn 354 [] []],
 .lit (.int .i64 0),.agg [.sl 3 ([1,2,2,2,2,2]:List Int),.fn 292 [] [],.fn 294 [] [],.fn 296 [] []],
 .lit (.int .i64 1),.agg [.sl 3 ([5,2]:List Int),.fn 297 [] [],.fn 298 [] [],.fn 299 [] []],
 .lit (.int .i64 15),.agg [.sl 3 ([1,2,2,2,2]:List Int),.fn 300 [] [],.fn 301 [] [],.fn 302 [] []],
 .lit (.int .i64 2),.agg [.sl 3 ([1]:List Int),.fn 303 [] [],.fn 304 [] [],.fn 305 [] []],
 .lit (.int .i64 3),.agg [.sl 3 ([8,8]:List Int),.fn 307 [] [],.fn 308 [] [],.fn 309 [] []],
 .lit (.int .i64 4),.agg [.sl 3 ([8]:List Int),.fn 310 [] [],.fn 311 [] [],.fn 309 [] []],
 .lit (.int .i64 7),.agg [.sl 3 ([1]:List Int),.fn 312 [] [],.fn 313 [] [],.fn 314 [] []],
 .lit (.int .i64 12),.agg [.sl 3 ([1]:List Int),.fn 315 [] [],.fn 316 [] [],.fn 317 [] []],
 .lit (.int .i64 13),.agg [.sl 3 ([1,1]:List Int),.fn 318 [] [],.fn 319 [] [],.fn 320 [] []]]
@[reducible] def U:CY where
 Ty:=Ty
 Ap:=fun t=>match t with
  | 4=>1
  | 5=>1
  | 83=>12
  | 113=>3
  | 59=>17
  | 68=>2
  | 156=>15
  | 138=>8
  | 99=>2
  | 44=>66
  | 3=>1
  | 60=>1
  | 62=>1
  | 63=>1
  | 70=>5
  | 45=>1
  | 71=>1
  | 33=>7
  | 75=>1
  | 31=>1
  | 39=>20
  | 36=>1
  | 37=>1
  | 42=>1
  | 109=>132
  | 46=>1
  | 110=>1
  | 28=>11
  | 29=>1
  | 25=>1
  | 52=>2
  | 35=>3
  | 24=>5
  | 26=>1
  | 226=>1
  | 148=>18
  | 77=>1
  | 86=>1
  | 78=>1
  | 120=>1
  | 104=>1
  | 30=>1
  | 22=>1
  | 189=>1
  | 262=>11
  | 41=>7
  | 129=>1
  | 135=>1
  | 140=>1
  | 208=>1
  | 216=>1
  | 269=>1
  | 222=>1
  | 9=>1
  | 254=>1
  | 163=>1
  | 231=>1
  | 233=>1
  | 237=>1
  | 194=>1
  | 256=>1
  | 312=>2
  | 252=>2
  | 253=>1
  | 174=>3
  | 240=>1
  | _=>0
 enc:=fun t=>match t with
  | 249=>fun(_:Unit)=>.GY ZC8
  | 115=>fun(a:QZ)=>uB.N8 67 a
  | 338=>fun(a:Int)=>(EK:AB Ty Int).NU 1 a
  | 3369=>fun(a:Int)=>(CP:AB Ty Int).NU 1 a
  | 3385=>fun(a:QQ)=>uZ.N8 7 a
  | 4=>fun(a:Bool)=>Dj.BU a
  | 5=>fun(a:Int)=>EK.BU a
  | 83=>fun(a:Gi)=>.agg (RN.Au a)
  | 113=>fun(a:Ej)=>.agg (Qs.Au a)
  | 59=>fun(a:Iy)=>.agg (Vu.Au a)
  | 68=>fun(a:Aw)=>.agg (IQ.Au a)
  | 156=>fun(a:AL)=>.agg (GV.Au a)
  | 138=>fun(a:BP)=>.agg (Ho.Au a)
  | 99=>fun(a:BV)=>.agg (MX.Au a)
  | 44=>fun(a:A8)=>.agg (JO.Au a)
  | 3=>fun(a:Int)=>BL.BU a
  | 60=>fun(a:A8×Int×Bool)=>.BH [(.agg (JO.Au a.1)),(BL.BU a.2.1),(Dj.BU a.2.2)]
  | 62=>fun(a:List Int)=>((AB.list 5 1 (fun(a:Int)=>EK.BU a):AB Ty (List (Ty 5)))).BU a
  | 63=>fun(a:A8×(List Int))=>.BH [(.agg (JO.Au a.1)),(((AB.list 5 1 (fun(a:Int)=>EK.BU a):AB Ty (List (Ty 5)))).BU a.2)]
  | 70=>fun(a:BD)=>.agg (RU.Au a)
  | 45=>fun(a:Int)=>BL.BU a
  | 71=>fun(a:BD×Int)=>.BH [(.agg (RU.Au a.1)),(BL.BU a.2)]
  | 33=>fun(a:BQ)=>.agg (Nc.Au a)
  | 75=>fun(a:BQ×BD)=>.BH [(.agg (Nc.Au a.1)),(.agg (RU.Au a.2))]
  | 31=>fun(a:List Aw)=>((AB.list 68 2 (fun(a:Aw)=>.agg (IQ.Au a)):AB Ty (List (Ty 68)))).BU a
  | 39=>fun(a:Aa)=>.agg (Iu.Au a)
  | 36=>fun(a:List AL)=>((AB.list 156 15 (fun(a:AL)=>.agg (GV.Au a)):AB Ty (List (Ty 156)))).BU a
  | 37=>fun(a:List BP)=>((AB.list 138 8 (fun(a:BP)=>.agg (Ho.Au a)):AB Ty (List (Ty 138)))).BU a
  | 42=>fun(a:List BV)=>((AB.list 99 2 (fun(a:BV)=>.agg (MX.Au a)):AB Ty (List (Ty 99)))).BU a
  | 109=>fun(a:CQ)=>.agg (V8.Au a)
  | 46=>fun(a:A8×Int)=>.BH [(.agg (JO.Au a.1)),(BL.BU a.2)]
  | 110=>fun(a:CQ×Int)=>.BH [(.agg (V8.Au a.1)),(BL.BU a.2)]
  | 28=>fun(a:Ey)=>.agg (QB.Au a)
  | 29=>fun(a:Int)=>CP.BU a
  | 25=>fun(a:Int)=>CP.BU a
  | 52=>fun(a:Oz)=>.agg (vS.Au a)
  | 35=>fun(a:Dv)=>.agg (RF.Au a)
  | 24=>fun(a:DL)=>.agg (MZ.Au a)
  | 26=>fun(a:Int)=>CP.BU a
  | 226=>fun(a:List Int)=>((AB.list 3 1 (fun(a:Int)=>BL.BU a):AB Ty (List (Ty 3)))).BU a
  | 148=>fun(a:BB)=>.agg (I9.Au a)
  | 77=>fun(a:List BB)=>((AB.list 148 18 (fun(a:BB)=>.agg (I9.Au a)):AB Ty (List (Ty 148)))).BU a
  | 86=>fun(a:A8×(List BB)×Bool)=>.BH [(.agg (JO.Au a.1)),(((AB.list 148 18 (fun(a:BB)=>.agg (I9.Au a)):AB Ty (List (Ty 148)))).BU a.2.1),(Dj.BU a.2.2)]
  | 78=>fun(a:A8×(List BB))=>.BH [(.agg (JO.Au a.1)),(((AB.list 148 18 (fun(a:BB)=>.agg (I9.Au a)):AB Ty (List (Ty 148)))).BU a.2)]
  | 120=>fun(a:(List Int)×Int)=>.BH [(((AB.list 5 1 (fun(a:Int)=>EK.BU a):AB Ty (List (Ty 5)))).BU a.1),(BL.BU a.2)]
  | 104=>fun(a:Int×Int)=>.BH [(BL.BU a.1),(BL.BU a.2)]
  | 30=>fun(a:Int)=>Py.BU a
  | 22=>fun(a:Int)=>Om.BU a
  | 189=>fun(a:BQ×Int)=>.BH [(.agg (Nc.Au a.1)),(BL.BU a.2)]
  | 262=>fun(a:Be)=>.agg (vJ.Au a)
  | 41=>fun(a:Cb)=>.agg (Vj.Au a)
  | 129=>fun(a:Dv×Int)=>.BH [(.agg (RF.Au a.1)),(BL.BU a.2)]
  | 135=>fun(a:Aa×(List BP))=>.BH [(.agg (Iu.Au a.1)),(((AB.list 138 8 (fun(a:BP)=>.agg (Ho.Au a)):AB Ty (List (Ty 138)))).BU a.2)]
  | 140=>fun(a:Aa×(List AL))=>.BH [(.agg (Iu.Au a.1)),(((AB.list 156 15 (fun(a:AL)=>.agg (GV.Au a)):AB Ty (List (Ty 156)))).BU a.2)]
  | 208=>fun(a:(List BP)×(List BP))=>.BH [(((AB.list 138 8 (fun(a:BP)=>.agg (Ho.Au a)):AB Ty (List (Ty 138)))).BU a.1),(((AB.list 138 8 (fun(a:BP)=>.agg (Ho.Au a)):AB Ty (List (Ty 138)))).BU a.2)]
  | 216=>fun(a:Aa×AL)=>.BH [(.agg (Iu.Au a.1)),(.agg (GV.Au a.2))]
  | 269=>fun(a:(List BP)×Int)=>.BH [(((AB.list 138 8 (fun(a:BP)=>.agg (Ho.Au a)):AB Ty (List (Ty 138)))).BU a.1),(BL.BU a.2)]
  | 222=>fun(a:Aa×(List AL)×Int)=>.BH [(.agg (Iu.Au a.1)),(((AB.list 156 15 (fun(a:AL)=>.agg (GV.Au a)):AB Ty (List (Ty 156)))).BU a.2.1),(BL.BU a.2.2)]
  | 9=>fun(a:ByteArray)=>cst.BU a
  | 254=>fun(a:List Int)=>((AB.list 25 1 (fun(a:Int)=>CP.BU a):AB Ty (List (Ty 25)))).BU a
  | 163=>fun(a:BQ×Aw×Bool×Bool)=>.BH [(.agg (Nc.Au a.1)),(.agg (IQ.Au a.2.1)),(Dj.BU a.2.2.1),(Dj.BU a.2.2.2)]
  | 231=>fun(a:AL×Int)=>.BH [(.agg (GV.Au a.1)),(BL.BU a.2)]
  | 233=>fun(a:Aa×(List BB))=>.BH [(.agg (Iu.Au a.1)),(((AB.list 148 18 (fun(a:BB)=>.agg (I9.Au a)):AB Ty (List (Ty 148)))).BU a.2)]
  | 237=>fun(a:Aa×(List AL)×(List BB))=>.BH [(.agg (Iu.Au a.1)),(((AB.list 156 15 (fun(a:AL)=>.agg (GV.Au a)):AB Ty (List (Ty 156)))).BU a.2.1),(((AB.list 148 18 (fun(a:BB)=>.agg (I9.Au a)):AB Ty (List (Ty 148)))).BU a.2.2)]
  | 194=>fun(a:Int×Int)=>.BH [(CP.BU a.1),(CP.BU a.2)]
  | 256=>fun(a:List (List Int))=>((AB.list 62 1 (fun(a:List Int)=>((AB.list 5 1 (fun(a:Int)=>EK.BU a):AB Ty (List (Ty 5)))).BU a):AB Ty (List (Ty 62)))).BU a
  | 312=>fun(a:JA)=>.agg (vK.Au a)
  | 252=>fun(a:Cc)=>.agg (O5.Au a)
  | 253=>fun(a:List Cc)=>((AB.list 252 2 (fun(a:Cc)=>.agg (O5.Au a)):AB Ty (List (Ty 252)))).BU a
  | 174=>fun(a:F9)=>.agg (Oa.Au a)
  | 240=>fun(a:List F9)=>((AB.list 174 3 (fun(a:F9)=>.agg (Oa.Au a)):AB Ty (List (Ty 174)))).BU a
  | _=>fun _=>.no
 encS:=fun t=>match t with
  | 249=>fun(_:Unit)=>.Ot ZDq
  | 115=>fun(a:QZ)=>.raw (uB.N8 67 a)
  | 338=>fun(a:Int)=>.raw ((EK:AB Ty Int).NU 1 a)
  | 3369=>fun(a:Int)=>.raw ((CP:AB Ty Int).NU 1 a)
  | 3385=>fun(a:QQ)=>.raw (uZ.N8 7 a)
  | 4=>fun(a:Bool)=>Dj.DR a
  | 5=>fun(a:Int)=>EK.DR a
  | 83=>fun(a:Gi)=>.agg (RN.encS a)
  | 113=>fun(a:Ej)=>.agg (Qs.encS a)
  | 59=>fun(a:Iy)=>.agg (Vu.encS a)
  | 68=>fun(a:Aw)=>.agg (IQ.encS a)
  | 156=>fun(a:AL)=>.agg (GV.encS a)
  | 138=>fun(a:BP)=>.agg (Ho.encS a)
  | 99=>fun(a:BV)=>.agg (MX.encS a)
  | 44=>fun(a:A8)=>.agg (JO.encS a)
  | 3=>fun(a:Int)=>BL.DR a
  | 60=>fun(a:A8×Int×Bool)=>.BH [(.agg (JO.encS a.1)),(BL.DR a.2.1),(Dj.DR a.2.2)]
  | 62=>fun(a:List Int)=>((AB.list 5 1 (fun(a:Int)=>EK.BU a):AB Ty (List (Ty 5)))).DR a
  | 63=>fun(a:A8×(List Int))=>.BH [(.agg (JO.encS a.1)),(((AB.list 5 1 (fun(a:Int)=>EK.BU a):AB Ty (List (Ty 5)))).DR a.2)]
  | 70=>fun(a:BD)=>.agg (RU.encS a)
  | 45=>fun(a:Int)=>BL.DR a
  | 71=>fun(a:BD×Int)=>.BH [(.agg (RU.encS a.1)),(BL.DR a.2)]
  | 33=>fun(a:BQ)=>.agg (Nc.encS a)
  | 75=>fun(a:BQ×BD)=>.BH [(.agg (Nc.encS a.1)),(.agg (RU.encS a.2))]
  | 31=>fun(a:List Aw)=>((AB.list 68 2 (fun(a:Aw)=>.agg (IQ.Au a)):AB Ty (List (Ty 68)))).DR a
  | 39=>fun(a:Aa)=>.agg (Iu.encS a)
  | 36=>fun(a:List AL)=>((AB.list 156 15 (fun(a:AL)=>.agg (GV.Au a)):AB Ty (List (Ty 156)))).DR a
  | 37=>fun(a:List BP)=>((AB.list 138 8 (fun(a:BP)=>.agg (Ho.Au a)):AB Ty (List (Ty 138)))).DR a
  | 42=>fun(a:List BV)=>((AB.list 99 2 (fun(a:BV)=>.agg (MX.Au a)):AB Ty (List (Ty 99)))).DR a
  | 109=>fun(a:CQ)=>.agg (V8.encS a)
  | 46=>fun(a:A8×Int)=>.BH [(.agg (JO.encS a.1)),(BL.DR a.2)]
  | 110=>fun(a:CQ×Int)=>.BH [(.agg (V8.encS a.1)),(BL.DR a.2)]
  | 28=>fun(a:Ey)=>.agg (QB.encS a)
  | 29=>fun(a:Int)=>CP.DR a
  | 25=>fun(a:Int)=>CP.DR a
  | 52=>fun(a:Oz)=>.agg (vS.encS a)
  | 35=>fun(a:Dv)=>.agg (RF.encS a)
  | 24=>fun(a:DL)=>.agg (MZ.encS a)
  | 26=>fun(a:Int)=>CP.DR a
  | 226=>fun(a:List Int)=>((AB.list 3 1 (fun(a:Int)=>BL.BU a):AB Ty (List (Ty 3)))).DR a
  | 148=>fun(a:BB)=>.agg (I9.encS a)
  | 77=>fun(a:List BB)=>((AB.list 148 18 (fun(a:BB)=>.agg (I9.Au a)):AB Ty (List (Ty 148)))).DR a
  | 86=>fun(a:A8×(List BB)×Bool)=>.BH [(.agg (JO.encS a.1)),(((AB.list 148 18 (fun(a:BB)=>.agg (I9.Au a)):AB Ty (List (Ty 148)))).DR a.2.1),(Dj.DR a.2.2)]
  | 78=>fun(a:A8×(List BB))=>.BH [(.agg (JO.encS a.1)),(((AB.list 148 18 (fun(a:BB)=>.agg (I9.Au a)):AB Ty (List (Ty 148)))).DR a.2)]
  | 120=>fun(a:(List Int)×Int)=>.BH [(((AB.list 5 1 (fun(a:Int)=>EK.BU a):AB Ty (List (Ty 5)))).DR a.1),(BL.DR a.2)]
  | 104=>fun(a:Int×Int)=>.BH [(BL.DR a.1),(BL.DR a.2)]
  | 30=>fun(a:Int)=>Py.DR a
  | 22=>fun(a:Int)=>Om.DR a
  | 189=>fun(a:BQ×Int)=>.BH [(.agg (Nc.encS a.1)),(BL.DR a.2)]
  | 262=>fun(a:Be)=>.agg (vJ.encS a)
  | 41=>fun(a:Cb)=>.agg (Vj.encS a)
  | 129=>fun(a:Dv×Int)=>.BH [(.agg (RF.encS a.1)),(BL.DR a.2)]
  | 135=>fun(a:Aa×(List BP))=>.BH [(.agg (Iu.encS a.1)),(((AB.list 138 8 (fun(a:BP)=>.agg (Ho.Au a)):AB Ty (List (Ty 138)))).DR a.2)]
  | 140=>fun(a:Aa×(List AL))=>.BH [(.agg (Iu.encS a.1)),(((AB.list 156 15 (fun(a:AL)=>.agg (GV.Au a)):AB Ty (List (Ty 156)))).DR a.2)]
  | 208=>fun(a:(List BP)×(List BP))=>.BH [(((AB.list 138 8 (fun(a:BP)=>.agg (Ho.Au a)):AB Ty (List (Ty 138)))).DR a.1),(((AB.list 138 8 (fun(a:BP)=>.agg (Ho.Au a)):AB Ty (List (Ty 138)))).DR a.2)]
  | 216=>fun(a:Aa×AL)=>.BH [(.agg (Iu.encS a.1)),(.agg (GV.encS a.2))]
  | 269=>fun(a:(List BP)×Int)=>.BH [(((AB.list 138 8 (fun(a:BP)=>.agg (Ho.Au a)):AB Ty (List (Ty 138)))).DR a.1),(BL.DR a.2)]
  | 222=>fun(a:Aa×(List AL)×Int)=>.BH [(.agg (Iu.encS a.1)),(((AB.list 156 15 (fun(a:AL)=>.agg (GV.Au a)):AB Ty (List (Ty 156)))).DR a.2.1),(BL.DR a.2.2)]
  | 9=>fun(a:ByteArray)=>cst.DR a
  | 254=>fun(a:List Int)=>((AB.list 25 1 (fun(a:Int)=>CP.BU a):AB Ty (List (Ty 25)))).DR a
  | 163=>fun(a:BQ×Aw×Bool×Bool)=>.BH [(.agg (Nc.encS a.1)),(.agg (IQ.encS a.2.1)),(Dj.DR a.2.2.1),(Dj.DR a.2.2.2)]
  | 231=>fun(a:AL×Int)=>.BH [(.agg (GV.encS a.1)),(BL.DR a.2)]
  | 233=>fun(a:Aa×(List BB))=>.BH [(.agg (Iu.encS a.1)),(((AB.list 148 18 (fun(a:BB)=>.agg (I9.Au a)):AB Ty (List (Ty 148)))).DR a.2)]
  | 237=>fun(a:Aa×(List AL)×(List BB))=>.BH [(.agg (Iu.encS a.1)),(((AB.list 156 15 (fun(a:AL)=>.agg (GV.Au a)):AB Ty (List (Ty 156)))).DR a.2.1),(((AB.list 148 18 (fun(a:BB)=>.agg (I9.Au a)):AB Ty (List (Ty 148)))).DR a.2.2)]
  | 194=>fun(a:Int×Int)=>.BH [(CP.DR a.1),(CP.DR a.2)]
  | 256=>fun(a:List (List Int))=>((AB.list 62 1 (fun(a:List Int)=>((AB.list 5 1 (fun(a:Int)=>EK.BU a):AB Ty (List (Ty 5)))).BU a):AB Ty (List (Ty 62)))).DR a
  | 312=>fun(a:JA)=>.agg (vK.encS a)
  | 252=>fun(a:Cc)=>.agg (O5.encS a)
  | 253=>fun(a:List Cc)=>((AB.list 252 2 (fun(a:Cc)=>.agg (O5.Au a)):AB Ty (List (Ty 252)))).DR a
  | 174=>fun(a:F9)=>.agg (Oa.encS a)
  | 240=>fun(a:List F9)=>((AB.list 174 3 (fun(a:F9)=>.agg (Oa.Au a)):AB Ty (List (Ty 174)))).DR a
  | _=>fun _=>.no
 Gw:=fun t=>match t with
  | 115=>fun v=>uB.vX 67 v
  | 338=>fun v=>(EK:AB Ty Int).uT 1 v
  | 3369=>fun v=>(CP:AB Ty Int).uT 1 v
  | 3385=>fun v=>uZ.vX 7 v
  | 4=>fun v=>Dj.one v
  | 5=>fun v=>EK.one v
  | 83=>fun v=>RN.agg v
  | 113=>fun v=>Qs.agg v
  | 59=>fun v=>Vu.agg v
  | 68=>fun v=>IQ.agg v
  | 156=>fun v=>GV.agg v
  | 138=>fun v=>Ho.agg v
  | 99=>fun v=>MX.agg v
  | 44=>fun v=>JO.agg v
  | 3=>fun v=>BL.one v
  | 60=>fun _=>none
  | 62=>fun v=>((AB.list 5 1 (fun(a:Int)=>EK.BU a):AB Ty (List (Ty 5)))).one v
  | 63=>fun _=>none
  | 70=>fun v=>RU.agg v
  | 45=>fun v=>BL.one v
  | 71=>fun _=>none
  | 33=>fun v=>Nc.agg v
  | 75=>fun _=>none
  | 31=>fun v=>((AB.list 68 2 (fun(a:Aw)=>.agg (IQ.Au a)):AB Ty (List (Ty 68)))).one v
  | 39=>fun v=>Iu.agg v
  | 36=>fun v=>((AB.list 156 15 (fun(a:AL)=>.agg (GV.Au a)):AB Ty (List (Ty 156)))).one v
  | 37=>fun v=>((AB.list 138 8 (fun(a:BP)=>.agg (Ho.Au a)):AB Ty (List (Ty 138)))).one v
  | 42=>fun v=>((AB.list 99 2 (fun(a:BV)=>.agg (MX.Au a)):AB Ty (List (Ty 99)))).one v
  | 109=>fun v=>V8.agg v
  | 46=>fun _=>none
  | 110=>fun _=>none
  | 28=>fun v=>QB.agg v
  | 29=>fun v=>CP.one v
  | 25=>fun v=>CP.one v
  | 52=>fun v=>vS.agg v
  | 35=>fun v=>RF.agg v
  | 24=>fun v=>MZ.agg v
  | 26=>fun v=>CP.one v
  | 226=>fun v=>((AB.list 3 1 (fun(a:Int)=>BL.BU a):AB Ty (List (Ty 3)))).one v
  | 148=>fun v=>I9.agg v
  | 77=>fun v=>((AB.list 148 18 (fun(a:BB)=>.agg (I9.Au a)):AB Ty (List (Ty 148)))).one v
  | 86=>fun _=>none
  | 78=>fun _=>none
  | 120=>fun _=>none
  | 104=>fun _=>none
  | 30=>fun v=>Py.one v
  | 22=>fun v=>Om.one v
  | 189=>fun _=>none
  | 262=>fun v=>vJ.agg v
  | 41=>fun v=>Vj.agg v
  | 129=>fun _=>none
  | 135=>fun _=>none
  | 140=>fun _=>none
  | 208=>fun _=>none
  | 216=>fun _=>none
  | 269=>fun _=>none
  | 222=>fun _=>none
  | 9=>fun v=>cst.one v
  | 254=>fun v=>((AB.list 25 1 (fun(a:Int)=>CP.BU a):AB Ty (List (Ty 25)))).one v
  | 163=>fun _=>none
  | 231=>fun _=>none
  | 233=>fun _=>none
  | 237=>fun _=>none
  | 194=>fun _=>none
  | 256=>fun v=>((AB.list 62 1 (fun(a:List Int)=>((AB.list 5 1 (fun(a:Int)=>EK.BU a):AB Ty (List (Ty 5)))).BU a):AB Ty (List (Ty 62)))).one v
  | 312=>fun v=>vK.agg v
  | 252=>fun v=>O5.agg v
  | 253=>fun v=>((AB.list 252 2 (fun(a:Cc)=>.agg (O5.Au a)):AB Ty (List (Ty 252)))).one v
  | 174=>fun v=>Oa.agg v
  | 240=>fun v=>((AB.list 174 3 (fun(a:F9)=>.agg (Oa.Au a)):AB Ty (List (Ty 174)))).one v
  | _=>fun _=>none
 keys:=[115,338,3369,3385,4,5,83,113,59,68,156,138,99,44,3,60,62,63,70,45,71,33,75,31,39,36,37,42,109,46,110,28,29,25,52,35,24,26,226,148,77,86,78,120,104,30,22,189,262,41,129,135,140,208,216,269,222,9,254,163,231,233,237,194,256,312,252,253,174,240]
theorem Qn:A7 U IQ [0,1]:=A7.C9 ((A7.int _).pair ((A7.list (U:=U) (t:=5) (n:=1) (e:=fun(a:Int)=>EK.BU a) (fun _=>rfl) rfl (fun a=>(A7.int _:A7 U EK _).Qr a) (fun a b h=>(A7.int _:A7 U EK _).Ql h)).pair A7.unit)) (fun _=>rfl) (fun _=>rfl)
theorem VY:A7 U MZ [0,0,0,0,0]:=A7.C9 ((A7.int _).pair ((A7.int _).pair ((A7.int _).pair ((A7.int _).pair ((A7.int _).pair A7.unit))))) (fun _=>rfl) (fun _=>rfl)
theorem Z3Y:A7 U RN [0,0,0,1,0,0,0,0,0,0,0,0]:=A7.C9 ((A7.int _).pair ((A7.int _).pair ((Qn).pair ((VY).pair ((A7.int _).pair ((A7.int _).pair ((A7.int _).pair A7.unit))))))) (fun _=>rfl) (fun _=>rfl)
theorem Z3L:A7 U Qs [12,0,0]:=A7.C9 ((A7.list (U:=U) (t:=83) (n:=12) (e:=fun(a:Gi)=>.agg (RN.Au a)) (fun _=>rfl) rfl (fun a=>Z3Y.nr a) (fun a b h=>Z3Y.inj _ _ (by injection h))).pair ((A7.int _).pair ((A7.int _).pair A7.unit))) (fun _=>rfl) (fun _=>rfl)
theorem tY:A7 U QB [0,0,0,0,0,0,0,0,0,0,0]:=A7.C9 ((A7.int _).pair ((A7.int _).pair ((VY).pair ((A7.int _).pair ((A7.int _).pair ((A7.int _).pair ((A7.int _).pair A7.unit))))))) (fun _=>rfl) (fun _=>rfl)
theorem ZFl:A7 U wC [0,0]:=A7.C9 ((A7.int _).pair ((A7.int _).pair A7.unit)) (fun _=>rfl) (fun _=>rfl)
theorem ZF0:A7 U Vu [0,0,0,0,0,0,0,0,0,0,0,0,0,0,3,0,0]:=A7.C9 ((tY).pair ((ZFl).pair ((A7.int _).pair ((A7.list (U:=U) (t:=113) (n:=3) (e:=fun(a:Ej)=>.agg (Qs.Au a)) (fun _=>rfl) rfl (fun a=>Z3L.nr a) (fun a b h=>Z3L.inj _ _ (by injection h))).pair ((A7.int _).pair ((A7.int _).pair A7.unit)))))) (fun _=>rfl) (fun _=>rfl)
theorem SS:A7 U GV [0,0,0,0,0,0,0,0,0,0,0,0,0,0,0]:=A7.C9 ((A7.int _).pair ((VY).pair ((A7.int _).pair ((A7.int _).pair ((A7.int _).pair ((A7.int _).pair ((A7.int _).pair ((A7.int _).pair ((A7.int _).pair ((A7.int _).pair ((A7.int _).pair A7.unit))))))))))) (fun _=>rfl) (fun _=>rfl)
theorem VK:A7 U Ho [0,0,0,0,0,0,0,0]:=A7.C9 ((A7.int _).pair ((A7.int _).pair ((VY).pair ((A7.int _).pair A7.unit)))) (fun _=>rfl) (fun _=>rfl)
theorem fO:A7 U MX [0,0]:=A7.C9 ((A7.int _).pair ((A7.int _).pair A7.unit)) (fun _=>rfl) (fun _=>rfl)
theorem ZeX:A7 U Nc [0,0,2,0,0,0,0]:=A7.C9 ((A7.int _).pair ((A7.int _).pair ((A7.list (U:=U) (t:=68) (n:=2) (e:=fun(a:Aw)=>.agg (IQ.Au a)) (fun _=>rfl) rfl (fun a=>Qn.nr a) (fun a b h=>Qn.inj _ _ (by injection h))).pair ((A7.bool).pair ((A7.bool).pair ((A7.int _).pair ((A7.int _).pair A7.unit))))))) (fun _=>rfl) (fun _=>rfl)
theorem Z43:A7 U RF [0,0,0]:=A7.C9 ((A7.int _).pair ((A7.int _).pair ((A7.bool).pair A7.unit))) (fun _=>rfl) (fun _=>rfl)
theorem Zfa:A7 U Iu [0,0,0,15,0,0,8,0,0,0,0,0,0,0,0,0,0,0,0,0]:=A7.C9 ((A7.int _).pair ((A7.int _).pair ((A7.int _).pair ((A7.list (U:=U) (t:=156) (n:=15) (e:=fun(a:AL)=>.agg (GV.Au a)) (fun _=>rfl) rfl (fun a=>SS.nr a) (fun a b h=>SS.inj _ _ (by injection h))).pair ((A7.int _).pair ((A7.int _).pair ((A7.list (U:=U) (t:=138) (n:=8) (e:=fun(a:BP)=>.agg (Ho.Au a)) (fun _=>rfl) rfl (fun a=>VK.nr a) (fun a b h=>VK.inj _ _ (by injection h))).pair ((A7.bool).pair ((A7.int _).pair ((A7.int _).pair ((A7.bool).pair ((A7.bool).pair ((A7.int _).pair ((A7.int _).pair ((A7.int _).pair ((A7.int _).pair ((A7.int _).pair ((A7.int _).pair ((A7.int _).pair ((A7.int _).pair A7.unit)))))))))))))))))))) (fun _=>rfl) (fun _=>rfl)
theorem Z4e:A7 U Vj [0,0,0,0,0,0,0]:=A7.C9 ((A7.int _).pair ((A7.int _).pair ((A7.int _).pair ((A7.bool).pair ((A7.bool).pair ((A7.int _).pair ((A7.int _).pair A7.unit))))))) (fun _=>rfl) (fun _=>rfl)
theorem Z41:A7 U JO [0,0,0,0,0,0,0,0,0,0,0,0,0,0,0,0,0,0,0,0,0,0,0,0,0,0,2,0,0,0,0,0,0,0,0,0,0,15,0,0,8,0,0,0,0,0,0,0,0,0,0,0,0,0,0,0,0,0,0,0,0,0,2,15,0,0]:=A7.C9 ((A7.int _).pair ((tY).pair ((A7.int _).pair ((A7.int _).pair ((A7.int _).pair ((A7.int _).pair ((A7.int _).pair ((A7.int _).pair ((A7.int _).pair ((A7.bool).pair ((A7.bool).pair ((A7.bool).pair ((A7.bool).pair ((A7.bool).pair ((ZeX).pair ((Z43).pair ((Zfa).pair ((Z4e).pair ((A7.int _).pair ((A7.list (U:=U) (t:=99) (n:=2) (e:=fun(a:BV)=>.agg (MX.Au a)) (fun _=>rfl) rfl (fun a=>fO.nr a) (fun a b h=>fO.inj _ _ (by injection h))).pair ((A7.list (U:=U) (t:=156) (n:=15) (e:=fun(a:AL)=>.agg (GV.Au a)) (fun _=>rfl) rfl (fun a=>SS.nr a) (fun a b h=>SS.inj _ _ (by injection h))).pair ((A7.int _).pair ((A7.int _).pair A7.unit))))))))))))))))))))))) (fun _=>rfl) (fun _=>rfl)
theorem ZEm:A7 U RU [0,0,0,0,1]:=A7.C9 ((A7.int _).pair ((A7.int _).pair ((A7.int _).pair ((Qn).pair A7.unit)))) (fun _=>rfl) (fun _=>rfl)
theorem ZDD:A7 U V8 [0,0,0,0,0,0,0,0,0,0,0,0,0,0,0,0,0,0,0,0,0,0,0,0,0,0,2,0,0,0,0,0,0,0,0,0,0,15,0,0,8,0,0,0,0,0,0,0,0,0,0,0,0,0,0,0,0,0,0,0,0,0,2,15,0,0,0,0,0,0,0,0,0,0,0,0,0,0,0,0,0,0,0,0,0,0,0,0,0,0,0,0,2,0,0,0,0,0,0,0,0,0,0,15,0,0,8,0,0,0,0,0,0,0,0,0,0,0,0,0,0,0,0,0,0,0,0,0,2,15,0,0]:=A7.C9 ((Z41).pair ((Z41).pair A7.unit)) (fun _=>rfl) (fun _=>rfl)
theorem ZEX:A7 U vS [0,0]:=A7.C9 ((A7.int _).pair ((A7.int _).pair A7.unit)) (fun _=>rfl) (fun _=>rfl)
theorem Z3s:A7 U I9 [0,0,0,1,0,0,0,0,0,0,0,0,0,0,0,0,0,0]:=A7.C9 ((A7.int _).pair ((A7.int _).pair ((Qn).pair ((VK).pair ((A7.int _).pair ((VY).pair A7.unit)))))) (fun _=>rfl) (fun _=>rfl)
theorem ZCE:A7 U vJ [0,0,0,0,0,0,0,0,0,0,0]:=A7.C9 ((A7.bool).pair ((A7.bool).pair ((A7.bool).pair ((A7.bool).pair ((A7.bool).pair ((A7.bool).pair ((A7.bool).pair ((A7.bool).pair ((A7.bool).pair ((A7.bool).pair ((A7.bool).pair A7.unit))))))))))) (fun _=>rfl) (fun _=>rfl)
theorem ZDG:A7 U vK [0,0]:=A7.C9 ((A7.int _).pair ((A7.int _).pair A7.unit)) (fun _=>rfl) (fun _=>rfl)
theorem Z3o:A7 U O5 [0,0]:=A7.C9 ((A7.int _).pair ((A7.int _).pair A7.unit)) (fun _=>rfl) (fun _=>rfl)
theorem Z3t:A7 U Oa [0,0,0]:=A7.C9 ((A7.int _).pair ((A7.int _).pair ((A7.int _).pair A7.unit))) (fun _=>rfl) (fun _=>rfl)
theorem rows4:rowsOf Tryz.prog 4=[0]:=by kernel_rfl
abbrev RE (E:Env):Prop:=E.rows=rowsOf Tryz.prog
theorem gZ {E} (q:RE E):Bv U E 4:=.Hq (c:=Dj) (A7.bool) ((congrFun q 4).trans rows4) (fun h=>ZCr h) (fun _=>rfl) (fun _=>rfl) (fun _=>rfl) (fun _=>rfl) (fun _=>rfl)
theorem rows5:rowsOf Tryz.prog 5=[0]:=by kernel_rfl
theorem tyok5 {E} (q:RE E):Bv U E 5:=.Hq (c:=EK) (A7.int _) ((congrFun q 5).trans rows5) (fun h=>Qo h) (fun _=>rfl) (fun _=>rfl) (fun _=>rfl) (fun _=>rfl) (fun _=>rfl)
theorem ZEW:rowsOf Tryz.prog 83=[0,0,0,1,0,0,0,0,0,0,0,0]:=by kernel_rfl
theorem ZFB {E} (q:RE E):Bv U E 83:=.Gt Z3Y ((congrFun q 83).trans ZEW) (fun _=>rfl) (fun _=>rfl) (fun _=>rfl)
theorem ZDr:rowsOf Tryz.prog 113=[12,0,0]:=by kernel_rfl
theorem ZDa {E} (q:RE E):Bv U E 113:=.Gt Z3L ((congrFun q 113).trans ZDr) (fun _=>rfl) (fun _=>rfl) (fun _=>rfl)
theorem ZFs:rowsOf Tryz.prog 59=[0,0,0,0,0,0,0,0,0,0,0,0,0,0,3,0,0]:=by kernel_rfl
theorem ZFT {E} (q:RE E):Bv U E 59:=.Gt ZF0 ((congrFun q 59).trans ZFs) (fun _=>rfl) (fun _=>rfl) (fun _=>rfl)
theorem ZEM:rowsOf Tryz.prog 68=[0,1]:=by kernel_rfl
theorem Zf7 {E} (q:RE E):Bv U E 68:=.Gt Qn ((congrFun q 68).trans ZEM) (fun _=>rfl) (fun _=>rfl) (fun _=>rfl)
theorem ZCc:rowsOf Tryz.prog 156=[0,0,0,0,0,0,0,0,0,0,0,0,0,0,0]:=by kernel_rfl
theorem Z3q {E} (q:RE E):Bv U E 156:=.Gt SS ((congrFun q 156).trans ZCc) (fun _=>rfl) (fun _=>rfl) (fun _=>rfl)
theorem ZBT:rowsOf Tryz.prog 138=[0,0,0,0,0,0,0,0]:=by kernel_rfl
theorem ZCR {E} (q:RE E):Bv U E 138:=.Gt VK ((congrFun q 138).trans ZBT) (fun _=>rfl) (fun _=>rfl) (fun _=>rfl)
theorem ZEn:rowsOf Tryz.prog 99=[0,0]:=by kernel_rfl
theorem ZFg {E} (q:RE E):Bv U E 99:=.Gt fO ((congrFun q 99).trans ZEn) (fun _=>rfl) (fun _=>rfl) (fun _=>rfl)
theorem ZFF:rowsOf Tryz.prog 44=[0,0,0,0,0,0,0,0,0,0,0,0,0,0,0,0,0,0,0,0,0,0,0,0,0,0,2,0,0,0,0,0,0,0,0,0,0,15,0,0,8,0,0,0,0,0,0,0,0,0,0,0,0,0,0,0,0,0,0,0,0,0,2,15,0,0]:=by kernel_rfl
theorem VS {E} (q:RE E):Bv U E 44:=.Gt Z41 ((congrFun q 44).trans ZFF) (fun _=>rfl) (fun _=>rfl) (fun _=>rfl)
theorem rows3:rowsOf Tryz.prog 3=[0]:=by kernel_rfl
theorem gY {E} (q:RE E):Bv U E 3:=.Hq (c:=BL) (A7.int _) ((congrFun q 3).trans rows3) (fun h=>Qo h) (fun _=>rfl) (fun _=>rfl) (fun _=>rfl) (fun _=>rfl) (fun _=>rfl)
theorem ZEw {E} (q:RE E):Bv U E 60:=.BH [⟨44,fun a=>a.1⟩,⟨3,fun a=>a.2.1⟩,⟨4,fun a=>a.2.2⟩] ⟨VS q,gY q,gZ q,trivial⟩ (fun _=>rfl) (fun _=>rfl) (fun _=>rfl) fun _ _ h=>Prod.ext h.1 (Prod.ext h.2.1 h.2.2.1)
theorem ZEN:rowsOf Tryz.prog 62=[1]:=by kernel_rfl
theorem Z4d {E} (q:RE E):Bv U E 62:=.Hq (c:=(AB.list 5 1 (fun(a:Int)=>EK.BU a):AB Ty (List (Ty 5)))) (A7.list (U:=U) (t:=5) (n:=1) (e:=fun(a:Int)=>EK.BU a) (fun _=>rfl) rfl (fun a=>(A7.int _:A7 U EK _).Qr a) (fun a b h=>(A7.int _:A7 U EK _).Ql h)) ((congrFun q 62).trans ZEN) (fun h=>NR (U:=U) (t:=5) (n:=1) (e:=fun(a:Int)=>EK.BU a) h) (fun _=>rfl) (fun _=>rfl) (fun _=>rfl) (fun _=>rfl) (fun _=>rfl)
theorem ZES {E} (q:RE E):Bv U E 63:=.BH [⟨44,fun a=>a.1⟩,⟨62,fun a=>a.2⟩] ⟨VS q,Z4d q,trivial⟩ (fun _=>rfl) (fun _=>rfl) (fun _=>rfl) fun _ _ h=>Prod.ext h.1 h.2.1
theorem ZEZ:rowsOf Tryz.prog 70=[0,0,0,0,1]:=by kernel_rfl
theorem Z3V {E} (q:RE E):Bv U E 70:=.Gt ZEm ((congrFun q 70).trans ZEZ) (fun _=>rfl) (fun _=>rfl) (fun _=>rfl)
theorem ZEt:rowsOf Tryz.prog 45=[0]:=by kernel_rfl
theorem P7 {E} (q:RE E):Bv U E 45:=.Hq (c:=BL) (A7.int _) ((congrFun q 45).trans ZEt) (fun h=>Qo h) (fun _=>rfl) (fun _=>rfl) (fun _=>rfl) (fun _=>rfl) (fun _=>rfl)
theorem ZE5 {E} (q:RE E):Bv U E 71:=.BH [⟨70,fun a=>a.1⟩,⟨45,fun a=>a.2⟩] ⟨Z3V q,P7 q,trivial⟩ (fun _=>rfl) (fun _=>rfl) (fun _=>rfl) fun _ _ h=>Prod.ext h.1 h.2.1
theorem ZEz:rowsOf Tryz.prog 33=[0,0,2,0,0,0,0]:=by kernel_rfl
theorem uM {E} (q:RE E):Bv U E 33:=.Gt ZeX ((congrFun q 33).trans ZEz) (fun _=>rfl) (fun _=>rfl) (fun _=>rfl)
theorem ZFK {E} (q:RE E):Bv U E 75:=.BH [⟨33,fun a=>a.1⟩,⟨70,fun a=>a.2⟩] ⟨uM q,Z3V q,trivial⟩ (fun _=>rfl) (fun _=>rfl) (fun _=>rfl) fun _ _ h=>Prod.ext h.1 h.2.1
theorem ZEl:rowsOf Tryz.prog 31=[2]:=by kernel_rfl
theorem ZFA {E} (q:RE E):Bv U E 31:=.Hq (c:=(AB.list 68 2 (fun(a:Aw)=>.agg (IQ.Au a)):AB Ty (List (Ty 68)))) (A7.list (U:=U) (t:=68) (n:=2) (e:=fun(a:Aw)=>.agg (IQ.Au a)) (fun _=>rfl) rfl (fun a=>Qn.nr a) (fun a b h=>Qn.inj _ _ (by injection h))) ((congrFun q 31).trans ZEl) (fun h=>NR (U:=U) (t:=68) (n:=2) (e:=fun(a:Aw)=>.agg (IQ.Au a)) h) (fun _=>rfl) (fun _=>rfl) (fun _=>rfl) (fun _=>rfl) (fun _=>rfl)
theorem ZDT:rowsOf Tryz.prog 39=[0,0,0,15,0,0,8,0,0,0,0,0,0,0,0,0,0,0,0,0]:=by kernel_rfl
theorem TB {E} (q:RE E):Bv U E 39:=.Gt Zfa ((congrFun q 39).trans ZDT) (fun _=>rfl) (fun _=>rfl) (fun _=>rfl)
theorem ZFP:rowsOf Tryz.prog 36=[15]:=by kernel_rfl
theorem tJ {E} (q:RE E):Bv U E 36:=.Hq (c:=(AB.list 156 15 (fun(a:AL)=>.agg (GV.Au a)):AB Ty (List (Ty 156)))) (A7.list (U:=U) (t:=156) (n:=15) (e:=fun(a:AL)=>.agg (GV.Au a)) (fun _=>rfl) rfl (fun a=>SS.nr a) (fun a b h=>SS.inj _ _ (by injection h))) ((congrFun q 36).trans ZFP) (fun h=>NR (U:=U) (t:=156) (n:=15) (e:=fun(a:AL)=>.agg (GV.Au a)) h) (fun _=>rfl) (fun _=>rfl) (fun _=>rfl) (fun _=>rfl) (fun _=>rfl)
theorem ZDS:rowsOf Tryz.prog 37=[8]:=by kernel_rfl
theorem gU {E} (q:RE E):Bv U E 37:=.Hq (c:=(AB.list 138 8 (fun(a:BP)=>.agg (Ho.Au a)):AB Ty (List (Ty 138)))) (A7.list (U:=U) (t:=138) (n:=8) (e:=fun(a:BP)=>.agg (Ho.Au a)) (fun _=>rfl) rfl (fun a=>VK.nr a) (fun a b h=>VK.inj _ _ (by injection h))) ((congrFun q 37).trans ZDS) (fun h=>NR (U:=U) (t:=138) (n:=8) (e:=fun(a:BP)=>.agg (Ho.Au a)) h) (fun _=>rfl) (fun _=>rfl) (fun _=>rfl) (fun _=>rfl) (fun _=>rfl)
theorem ZFy:rowsOf Tryz.prog 42=[2]:=by kernel_rfl
theorem ZFR {E} (q:RE E):Bv U E 42:=.Hq (c:=(AB.list 99 2 (fun(a:BV)=>.agg (MX.Au a)):AB Ty (List (Ty 99)))) (A7.list (U:=U) (t:=99) (n:=2) (e:=fun(a:BV)=>.agg (MX.Au a)) (fun _=>rfl) rfl (fun a=>fO.nr a) (fun a b h=>fO.inj _ _ (by injection h))) ((congrFun q 42).trans ZFy) (fun h=>NR (U:=U) (t:=99) (n:=2) (e:=fun(a:BV)=>.agg (MX.Au a)) h) (fun _=>rfl) (fun _=>rfl) (fun _=>rfl) (fun _=>rfl) (fun _=>rfl)
theorem ZCq:rowsOf Tryz.prog 109=[0,0,0,0,0,0,0,0,0,0,0,0,0,0,0,0,0,0,0,0,0,0,0,0,0,0,2,0,0,0,0,0,0,0,0,0,0,15,0,0,8,0,0,0,0,0,0,0,0,0,0,0,0,0,0,0,0,0,0,0,0,0,2,15,0,0,0,0,0,0,0,0,0,0,0,0,0,0,0,0,0,0,0,0,0,0,0,0,0,0,0,0,2,0,0,0,0,0,0,0,0,0,0,15,0,0,8,0,0,0,0,0,0,0,0,0,0,0,0,0,0,0,0,0,0,0,0,0,2,15,0,0]:=by kernel_rfl
theorem Zed {E} (q:RE E):Bv U E 109:=.Gt ZDD ((congrFun q 109).trans ZCq) (fun _=>rfl) (fun _=>rfl) (fun _=>rfl)
theorem ZDW {E} (q:RE E):Bv U E 46:=.BH [⟨44,fun a=>a.1⟩,⟨45,fun a=>a.2⟩] ⟨VS q,P7 q,trivial⟩ (fun _=>rfl) (fun _=>rfl) (fun _=>rfl) fun _ _ h=>Prod.ext h.1 h.2.1
theorem ZBF {E} (q:RE E):Bv U E 110:=.BH [⟨109,fun a=>a.1⟩,⟨3,fun a=>a.2⟩] ⟨Zed q,gY q,trivial⟩ (fun _=>rfl) (fun _=>rfl) (fun _=>rfl) fun _ _ h=>Prod.ext h.1 h.2.1
theorem ZDP:rowsOf Tryz.prog 28=[0,0,0,0,0,0,0,0,0,0,0]:=by kernel_rfl
theorem ZEE {E} (q:RE E):Bv U E 28:=.Gt tY ((congrFun q 28).trans ZDP) (fun _=>rfl) (fun _=>rfl) (fun _=>rfl)
theorem ZFZ:rowsOf Tryz.prog 29=[0]:=by kernel_rfl
theorem ZEL {E} (q:RE E):Bv U E 29:=.Hq (c:=CP) (A7.int _) ((congrFun q 29).trans ZFZ) (fun h=>Qo h) (fun _=>rfl) (fun _=>rfl) (fun _=>rfl) (fun _=>rfl) (fun _=>rfl)
theorem ZF4:rowsOf Tryz.prog 25=[0]:=by kernel_rfl
theorem Z3X {E} (q:RE E):Bv U E 25:=.Hq (c:=CP) (A7.int _) ((congrFun q 25).trans ZF4) (fun h=>Qo h) (fun _=>rfl) (fun _=>rfl) (fun _=>rfl) (fun _=>rfl) (fun _=>rfl)
theorem ZFL:rowsOf Tryz.prog 52=[0,0]:=by kernel_rfl
theorem ZFW {E} (q:RE E):Bv U E 52:=.Gt ZEX ((congrFun q 52).trans ZFL) (fun _=>rfl) (fun _=>rfl) (fun _=>rfl)
theorem ZFz:rowsOf Tryz.prog 35=[0,0,0]:=by kernel_rfl
theorem Zfg {E} (q:RE E):Bv U E 35:=.Gt Z43 ((congrFun q 35).trans ZFz) (fun _=>rfl) (fun _=>rfl) (fun _=>rfl)
theorem ZFX:rowsOf Tryz.prog 24=[0,0,0,0,0]:=by kernel_rfl
theorem ZFq {E} (q:RE E):Bv U E 24:=.Gt VY ((congrFun q 24).trans ZFX) (fun _=>rfl) (fun _=>rfl) (fun _=>rfl)
theorem ZEh:rowsOf Tryz.prog 26=[0]:=by kernel_rfl
theorem ZEa {E} (q:RE E):Bv U E 26:=.Hq (c:=CP) (A7.int _) ((congrFun q 26).trans ZEh) (fun h=>Qo h) (fun _=>rfl) (fun _=>rfl) (fun _=>rfl) (fun _=>rfl) (fun _=>rfl)
theorem ZCH:rowsOf Tryz.prog 226=[1]:=by kernel_rfl
theorem ZDJ {E} (q:RE E):Bv U E 226:=.Hq (c:=(AB.list 3 1 (fun(a:Int)=>BL.BU a):AB Ty (List (Ty 3)))) (A7.list (U:=U) (t:=3) (n:=1) (e:=fun(a:Int)=>BL.BU a) (fun _=>rfl) rfl (fun a=>(A7.int _:A7 U BL _).Qr a) (fun a b h=>(A7.int _:A7 U BL _).Ql h)) ((congrFun q 226).trans ZCH) (fun h=>NR (U:=U) (t:=3) (n:=1) (e:=fun(a:Int)=>BL.BU a) h) (fun _=>rfl) (fun _=>rfl) (fun _=>rfl) (fun _=>rfl) (fun _=>rfl)
theorem ZD8:rowsOf Tryz.prog 148=[0,0,0,1,0,0,0,0,0,0,0,0,0,0,0,0,0,0]:=by kernel_rfl
theorem ZC1 {E} (q:RE E):Bv U E 148:=.Gt Z3s ((congrFun q 148).trans ZD8) (fun _=>rfl) (fun _=>rfl) (fun _=>rfl)
theorem ZFt:rowsOf Tryz.prog 77=[18]:=by kernel_rfl
theorem gB {E} (q:RE E):Bv U E 77:=.Hq (c:=(AB.list 148 18 (fun(a:BB)=>.agg (I9.Au a)):AB Ty (List (Ty 148)))) (A7.list (U:=U) (t:=148) (n:=18) (e:=fun(a:BB)=>.agg (I9.Au a)) (fun _=>rfl) rfl (fun a=>Z3s.nr a) (fun a b h=>Z3s.inj _ _ (by injection h))) ((congrFun q 77).trans ZFt) (fun h=>NR (U:=U) (t:=148) (n:=18) (e:=fun(a:BB)=>.agg (I9.Au a)) h) (fun _=>rfl) (fun _=>rfl) (fun _=>rfl) (fun _=>rfl) (fun _=>rfl)
theorem ZDY {E} (q:RE E):Bv U E 86:=.BH [⟨44,fun a=>a.1⟩,⟨77,fun a=>a.2.1⟩,⟨4,fun a=>a.2.2⟩] ⟨VS q,gB q,gZ q,trivial⟩ (fun _=>rfl) (fun _=>rfl) (fun _=>rfl) fun _ _ h=>Prod.ext h.1 (Prod.ext h.2.1 h.2.2.1)
theorem ZEk {E} (q:RE E):Bv U E 78:=.BH [⟨44,fun a=>a.1⟩,⟨77,fun a=>a.2⟩] ⟨VS q,gB q,trivial⟩ (fun _=>rfl) (fun _=>rfl) (fun _=>rfl) fun _ _ h=>Prod.ext h.1 h.2.1
theorem ZDd {E} (q:RE E):Bv U E 120:=.BH [⟨62,fun a=>a.1⟩,⟨45,fun a=>a.2⟩] ⟨Z4d q,P7 q,trivial⟩ (fun _=>rfl) (fun _=>rfl) (fun _=>rfl) fun _ _ h=>Prod.ext h.1 h.2.1
theorem ZD7 {E} (q:RE E):Bv U E 104:=.BH [⟨3,fun a=>a.1⟩,⟨3,fun a=>a.2⟩] ⟨gY q,gY q,trivial⟩ (fun _=>rfl) (fun _=>rfl) (fun _=>rfl) fun _ _ h=>Prod.ext h.1 h.2.1
theorem ZFe:rowsOf Tryz.prog 30=[0]:=by kernel_rfl
theorem ZEo {E} (q:RE E):Bv U E 30:=.Hq (c:=Py) (A7.int _) ((congrFun q 30).trans ZFe) (fun h=>Qo h) (fun _=>rfl) (fun _=>rfl) (fun _=>rfl) (fun _=>rfl) (fun _=>rfl)
theorem ZEI:rowsOf Tryz.prog 22=[0]:=by kernel_rfl
theorem ZDU {E} (q:RE E):Bv U E 22:=.Hq (c:=Om) (A7.int _) ((congrFun q 22).trans ZEI) (fun h=>Qo h) (fun _=>rfl) (fun _=>rfl) (fun _=>rfl) (fun _=>rfl) (fun _=>rfl)
theorem ZC5 {E} (q:RE E):Bv U E 189:=.BH [⟨33,fun a=>a.1⟩,⟨45,fun a=>a.2⟩] ⟨uM q,P7 q,trivial⟩ (fun _=>rfl) (fun _=>rfl) (fun _=>rfl) fun _ _ h=>Prod.ext h.1 h.2.1
theorem ZDw:rowsOf Tryz.prog 262=[0,0,0,0,0,0,0,0,0,0,0]:=by kernel_rfl
theorem ZBS {E} (q:RE E):Bv U E 262:=.Gt ZCE ((congrFun q 262).trans ZDw) (fun _=>rfl) (fun _=>rfl) (fun _=>rfl)
theorem ZFv:rowsOf Tryz.prog 41=[0,0,0,0,0,0,0]:=by kernel_rfl
theorem ZEf {E} (q:RE E):Bv U E 41:=.Gt Z4e ((congrFun q 41).trans ZFv) (fun _=>rfl) (fun _=>rfl) (fun _=>rfl)
theorem ZCp {E} (q:RE E):Bv U E 129:=.BH [⟨35,fun a=>a.1⟩,⟨45,fun a=>a.2⟩] ⟨Zfg q,P7 q,trivial⟩ (fun _=>rfl) (fun _=>rfl) (fun _=>rfl) fun _ _ h=>Prod.ext h.1 h.2.1
theorem ZCC {E} (q:RE E):Bv U E 135:=.BH [⟨39,fun a=>a.1⟩,⟨37,fun a=>a.2⟩] ⟨TB q,gU q,trivial⟩ (fun _=>rfl) (fun _=>rfl) (fun _=>rfl) fun _ _ h=>Prod.ext h.1 h.2.1
theorem ZDL {E} (q:RE E):Bv U E 140:=.BH [⟨39,fun a=>a.1⟩,⟨36,fun a=>a.2⟩] ⟨TB q,tJ q,trivial⟩ (fun _=>rfl) (fun _=>rfl) (fun _=>rfl) fun _ _ h=>Prod.ext h.1 h.2.1
theorem ZCf {E} (q:RE E):Bv U E 208:=.BH [⟨37,fun a=>a.1⟩,⟨37,fun a=>a.2⟩] ⟨gU q,gU q,trivial⟩ (fun _=>rfl) (fun _=>rfl) (fun _=>rfl) fun _ _ h=>Prod.ext h.1 h.2.1
theorem ZCJ {E} (q:RE E):Bv U E 216:=.BH [⟨39,fun a=>a.1⟩,⟨156,fun a=>a.2⟩] ⟨TB q,Z3q q,trivial⟩ (fun _=>rfl) (fun _=>rfl) (fun _=>rfl) fun _ _ h=>Prod.ext h.1 h.2.1
theorem ZCb {E} (q:RE E):Bv U E 269:=.BH [⟨37,fun a=>a.1⟩,⟨45,fun a=>a.2⟩] ⟨gU q,P7 q,trivial⟩ (fun _=>rfl) (fun _=>rfl) (fun _=>rfl) fun _ _ h=>Prod.ext h.1 h.2.1
theorem ZBQ {E} (q:RE E):Bv U E 222:=.BH [⟨39,fun a=>a.1⟩,⟨36,fun a=>a.2.1⟩,⟨45,fun a=>a.2.2⟩] ⟨TB q,tJ q,P7 q,trivial⟩ (fun _=>rfl) (fun _=>rfl) (fun _=>rfl) fun _ _ h=>Prod.ext h.1 (Prod.ext h.2.1 h.2.2.1)
theorem rows9:rowsOf Tryz.prog 9=[0]:=by kernel_rfl
theorem tyok9 {E} (q:RE E):Bv U E 9:=.Hq (c:=cst) (A7.str) ((congrFun q 9).trans rows9) (fun h=>ZFV h) (fun _=>rfl) (fun _=>rfl) (fun _=>rfl) (fun _=>rfl) (fun _=>rfl)
theorem ZBz:rowsOf Tryz.prog 254=[1]:=by kernel_rfl
theorem ZDj {E} (q:RE E):Bv U E 254:=.Hq (c:=(AB.list 25 1 (fun(a:Int)=>CP.BU a):AB Ty (List (Ty 25)))) (A7.list (U:=U) (t:=25) (n:=1) (e:=fun(a:Int)=>CP.BU a) (fun _=>rfl) rfl (fun a=>(A7.int _:A7 U CP _).Qr a) (fun a b h=>(A7.int _:A7 U CP _).Ql h)) ((congrFun q 254).trans ZBz) (fun h=>NR (U:=U) (t:=25) (n:=1) (e:=fun(a:Int)=>CP.BU a) h) (fun _=>rfl) (fun _=>rfl) (fun _=>rfl) (fun _=>rfl) (fun _=>rfl)
theorem ZBR {E} (q:RE E):Bv U E 163:=.BH [⟨33,fun a=>a.1⟩,⟨68,fun a=>a.2.1⟩,⟨4,fun a=>a.2.2.1⟩,⟨4,fun a=>a.2.2.2⟩] ⟨uM q,Zf7 q,gZ q,gZ q,trivial⟩ (fun _=>rfl) (fun _=>rfl) (fun _=>rfl) fun _ _ h=>Prod.ext h.1 (Prod.ext h.2.1 (Prod.ext h.2.2.1 h.2.2.2.1))
theorem ZDx {E} (q:RE E):Bv U E 231:=.BH [⟨156,fun a=>a.1⟩,⟨45,fun a=>a.2⟩] ⟨Z3q q,P7 q,trivial⟩ (fun _=>rfl) (fun _=>rfl) (fun _=>rfl) fun _ _ h=>Prod.ext h.1 h.2.1
theorem ZCP {E} (q:RE E):Bv U E 233:=.BH [⟨39,fun a=>a.1⟩,⟨77,fun a=>a.2⟩] ⟨TB q,gB q,trivial⟩ (fun _=>rfl) (fun _=>rfl) (fun _=>rfl) fun _ _ h=>Prod.ext h.1 h.2.1
theorem ZDo {E} (q:RE E):Bv U E 237:=.BH [⟨39,fun a=>a.1⟩,⟨36,fun a=>a.2.1⟩,⟨77,fun a=>a.2.2⟩] ⟨TB q,tJ q,gB q,trivial⟩ (fun _=>rfl) (fun _=>rfl) (fun _=>rfl) fun _ _ h=>Prod.ext h.1 (Prod.ext h.2.1 h.2.2.1)
theorem ZBJ {E} (q:RE E):Bv U E 194:=.BH [⟨25,fun a=>a.1⟩,⟨25,fun a=>a.2⟩] ⟨Z3X q,Z3X q,trivial⟩ (fun _=>rfl) (fun _=>rfl) (fun _=>rfl) fun _ _ h=>Prod.ext h.1 h.2.1
theorem ZBD:rowsOf Tryz.prog 256=[1]:=by kernel_rfl
theorem ZBP {E} (q:RE E):Bv U E 256:=.Hq (c:=(AB.list 62 1 (fun(a:List Int)=>((AB.list 5 1 (fun(a:Int)=>EK.BU a):AB Ty (List (Ty 5)))).BU a):AB Ty (List (Ty 62)))) (A7.list (U:=U) (t:=62) (n:=1) (e:=fun(a:List Int)=>((AB.list 5 1 (fun(a:Int)=>EK.BU a):AB Ty (List (Ty 5)))).BU a) (fun _=>rfl) rfl (fun a=>(A7.list (U:=U) (t:=5) (n:=1) (e:=fun(a:Int)=>EK.BU a) (fun _=>rfl) rfl (fun a=>(A7.int _:A7 U EK _).Qr a) (fun a b h=>(A7.int _:A7 U EK _).Ql h):A7 U (AB.list 5 1 (fun(a:Int)=>EK.BU a):AB Ty (List (Ty 5))) _).Qr a) (fun a b h=>(A7.list (U:=U) (t:=5) (n:=1) (e:=fun(a:Int)=>EK.BU a) (fun _=>rfl) rfl (fun a=>(A7.int _:A7 U EK _).Qr a) (fun a b h=>(A7.int _:A7 U EK _).Ql h):A7 U (AB.list 5 1 (fun(a:Int)=>EK.BU a):AB Ty (List (Ty 5))) _).Ql h)) ((congrFun q 256).trans ZBD) (fun h=>NR (U:=U) (t:=62) (n:=1) (e:=fun(a:List Int)=>((AB.list 5 1 (fun(a:Int)=>EK.BU a):AB Ty (List (Ty 5)))).BU a) h) (fun _=>rfl) (fun _=>rfl) (fun _=>rfl) (fun _=>rfl) (fun _=>rfl)
theorem ZD1:rowsOf Tryz.prog 312=[0,0]:=by kernel_rfl
theorem ZCd {E} (q:RE E):Bv U E 312:=.Gt ZDG ((congrFun q 312).trans ZD1) (fun _=>rfl) (fun _=>rfl) (fun _=>rfl)
theorem ZCu:rowsOf Tryz.prog 252=[0,0]:=by kernel_rfl
theorem ZD5 {E} (q:RE E):Bv U E 252:=.Gt Z3o ((congrFun q 252).trans ZCu) (fun _=>rfl) (fun _=>rfl) (fun _=>rfl)
theorem ZCM:rowsOf Tryz.prog 253=[2]:=by kernel_rfl
theorem ZDK {E} (q:RE E):Bv U E 253:=.Hq (c:=(AB.list 252 2 (fun(a:Cc)=>.agg (O5.Au a)):AB Ty (List (Ty 252)))) (A7.list (U:=U) (t:=252) (n:=2) (e:=fun(a:Cc)=>.agg (O5.Au a)) (fun _=>rfl) rfl (fun a=>Z3o.nr a) (fun a b h=>Z3o.inj _ _ (by injection h))) ((congrFun q 253).trans ZCM) (fun h=>NR (U:=U) (t:=252) (n:=2) (e:=fun(a:Cc)=>.agg (O5.Au a)) h) (fun _=>rfl) (fun _=>rfl) (fun _=>rfl) (fun _=>rfl) (fun _=>rfl)
theorem ZCh:rowsOf Tryz.prog 174=[0,0,0]:=by kernel_rfl
theorem ZD6 {E} (q:RE E):Bv U E 174:=.Gt Z3t ((congrFun q 174).trans ZCh) (fun _=>rfl) (fun _=>rfl) (fun _=>rfl)
theorem ZDi:rowsOf Tryz.prog 240=[3]:=by kernel_rfl
theorem ZDs {E} (q:RE E):Bv U E 240:=.Hq (c:=(AB.list 174 3 (fun(a:F9)=>.agg (Oa.Au a)):AB Ty (List (Ty 174)))) (A7.list (U:=U) (t:=174) (n:=3) (e:=fun(a:F9)=>.agg (Oa.Au a)) (fun _=>rfl) rfl (fun a=>Z3t.nr a) (fun a b h=>Z3t.inj _ _ (by injection h))) ((congrFun q 240).trans ZDi) (fun h=>NR (U:=U) (t:=174) (n:=3) (e:=fun(a:F9)=>.agg (Oa.Au a)) h) (fun _=>rfl) (fun _=>rfl) (fun _=>rfl) (fun _=>rfl) (fun _=>rfl)
theorem ZBY:A7 U Zfp [0,0,0,0,0,0,0]:=A7.C9 ((A7.int _).pair ((A7.int _).pair ((A7.skip).pair ((A7.bool).pair ((A7.bool).pair ((A7.int _).pair ((A7.int _).pair A7.unit))))))) (fun _=>rfl) (fun _=>rfl)
theorem ZC0:A7 U ZfB [0,0,0,0,0,0,0,0,0,0,0,0,0,0,0,0,0,0,0,0]:=A7.C9 ((A7.int _).pair ((A7.int _).pair ((A7.int _).pair ((A7.skip).pair ((A7.int _).pair ((A7.int _).pair ((A7.skip).pair ((A7.bool).pair ((A7.int _).pair ((A7.int _).pair ((A7.bool).pair ((A7.bool).pair ((A7.int _).pair ((A7.int _).pair ((A7.int _).pair ((A7.int _).pair ((A7.int _).pair ((A7.int _).pair ((A7.int _).pair ((A7.int _).pair A7.unit)))))))))))))))))))) (fun _=>rfl) (fun _=>rfl)
theorem ZCn:A7 U ZfC [0,0,0,0,0,0,0,0,0,0,0,0,0,0,0,0,0,0,0,0,0,0,0,0,0,0,0,0,0,0,0,0,0,0,0,0,0,0,0,0,0,0,0,0,0,0,0,0,0,0,0,0,0,0,0,0,0,0,0,0,0,0,0,0,0,0]:=A7.C9 ((A7.int _).pair ((tY).pair ((A7.int _).pair ((A7.int _).pair ((A7.int _).pair ((A7.int _).pair ((A7.int _).pair ((A7.int _).pair ((A7.int _).pair ((A7.bool).pair ((A7.bool).pair ((A7.bool).pair ((A7.bool).pair ((A7.bool).pair ((ZBY).pair ((Z43).pair ((ZC0).pair ((Z4e).pair ((A7.int _).pair ((A7.skip).pair ((A7.skip).pair ((A7.int _).pair ((A7.int _).pair A7.unit))))))))))))))))))))))) (fun _=>rfl) (fun _=>rfl)
theorem Z2Y:A7 U uB [0,0,0,0,0,0,0,0,0,0,0,0,0,0,0,0,0,0,0,0,0,0,0,0,0,0,0,0,0,0,0,0,0,0,0,0,0,0,0,0,0,0,0,0,0,0,0,0,0,0,0,0,0,0,0,0,0,0,0,0,0,0,0,0,0,0,0]:=A7.C9 ((ZCn).pair ((A7.skip).pair A7.unit)) (fun _=>rfl) (fun _=>rfl)
theorem Z3C:A7 U uZ [0,0,0,0,0,0,0]:=A7.C9 ((A7.int _).pair ((A7.int _).pair ((A7.int _).pair ((A7.bool).pair ((A7.bool).pair ((A7.int _).pair ((A7.int _).pair A7.unit))))))) (fun _=>rfl) (fun _=>rfl)
theorem ZD0 {E} (q:RE E):Bv U E 115:=⟨fun a=>rfl,fun v a h=>Z2Y.Zen h _,fun a=>rfl,fun a=>Z2Y.ZeM 67 a,fun a b h=>Z2Y.Zek h⟩
theorem ZCN {E} (q:RE E):Bv U E 338:=⟨fun a=>rfl,fun v a h=>(A7.int _:A7 U ((EK:AB Ty Int)) _).ZdP h _,fun a=>rfl,fun a=>(A7.int _:A7 U ((EK:AB Ty Int)) _).Ze3 1 a,fun a b h=>(A7.int _:A7 U ((EK:AB Ty Int)) _).Zdt h⟩
theorem ZB8 {E} (q:RE E):Bv U E 3369:=⟨fun a=>rfl,fun v a h=>(A7.int _:A7 U ((CP:AB Ty Int)) _).ZdP h _,fun a=>rfl,fun a=>(A7.int _:A7 U ((CP:AB Ty Int)) _).Ze3 1 a,fun a b h=>(A7.int _:A7 U ((CP:AB Ty Int)) _).Zdt h⟩
theorem ZA4 {E} (q:RE E):Bv U E 3385:=⟨fun a=>rfl,fun v a h=>Z3C.Zen h _,fun a=>rfl,fun a=>Z3C.ZeM 7 a,fun a b h=>Z3C.Zek h⟩
theorem ZD3 {E} (q:RE E):Bv U E 249:=⟨fun a=>rfl,fun v a h=>(nomatch h),fun a=>rfl,fun a=>rfl,fun a b h=>rfl⟩
theorem Bv.four {E:Env} {t:Nat} (h:Bv U E t):(∀a,AU U (U.encS t a)=U.enc t a)/\(∀v a,U.Gw t v=some a->Du (E.rows t) (AU U v)=U.enc t a)/\(∀a,(U.enc t a).cells=Aq U (cellsS (U.encS t a)))/\(∀a,CS (U.enc t a)=true):=⟨h.encS,h.dec,h.cells,h.nr⟩
def vV:List Nat:=[4,5,83,113,59,68,156,138,99,44,3,60,62,63,70,45,71,33,75,31,39,36,37,42,109,46,110,28,29,25,52,35,24,26,226,148,77,86,78,120,104,30,22,189,262,41,129,135,140,208,216,269,222,9,254,163,231,233,237,194,256,312,252,253,174,240,115,338,3369,3385,249]
def tysY:List Nat:=[1344,1345,1346,1347,1349,1351,1352,1350,1348,1355,1356,1357,1358,1353,1354,1371,1362,1363,1364,1365,1366,1367,1368,1369,1370,1359,1360,1361]
theorem ZA3 (t:Nat) (h:t∉vV) (q : t∉tysY) (a:Ty t):False:=by
 unfold Ty at a;split at a<;>first|exact h (by decide)|exact q (by decide)|exact a.elim
theorem Zfi {E} (q:RE E):iM (Bv U E) vV:=⟨gZ q,tyok5 q,ZFB q,ZDa q,ZFT q,Zf7 q,Z3q q,ZCR q,ZFg q,VS q,gY q,ZEw q,Z4d q,ZES q,Z3V q,P7 q,ZE5 q,uM q,ZFK q,ZFA q,TB q,tJ q,gU q,ZFR q,Zed q,ZDW q,ZBF q,ZEE q,ZEL q,Z3X q,ZFW q,Zfg q,ZFq q,ZEa q,ZDJ q,ZC1 q,gB q,ZDY q,ZEk q,ZDd q,ZD7 q,ZEo q,ZDU q,ZC5 q,ZBS q,ZEf q,ZCp q,ZCC q,ZDL q,ZCf q,ZCJ q,ZCb q,ZBQ q,tyok9 q,ZDj q,ZBR q,ZDx q,ZCP q,ZDo q,ZBJ q,ZBP q,ZCd q,ZD5 q,ZDK q,ZD6 q,ZDs q,ZD0 q,ZCN q,ZB8 q,ZA4 q,ZD3 q,trivial⟩
theorem all_Y (E:Env):iM (fun t=>(∀a,AU U (U.encS t a)=U.enc t a)/\(∀v a,U.Gw t v=some a->Du (E.rows t) (AU U v)=U.enc t a)/\(∀a,(U.enc t a).cells=Aq U (cellsS (U.encS t a)))/\(∀a,CS (U.enc t a)=true)) tysY:=by
 repeat' first|exact trivial|refine⟨⟨fun a=>rfl,(fun v a h=>nomatch h),fun a=>rfl,fun a=>rfl⟩,?_⟩
theorem Z3z (E:Env) (z:E.rows=rowsOf Tryz.prog):D6 U E:=by
 have key:∀t,(∀a,AU U (U.encS t a)=U.enc t a)/\(∀v a,U.Gw t v=some a->Du (E.rows t) (AU U v)=U.enc t a)/\(∀a,(U.enc t a).cells=Aq U (cellsS (U.encS t a)))/\(∀a,CS (U.enc t a)=true):=fun t=>by
  by_cases h:t∈vV
  ·exact Bv.four ((Zfi z).at h)
  by_cases q : t∈tysY
  ·exact(all_Y E).at q
  have e:=fun a=>ZA3 t h q a;exact⟨fun a=>(e a).elim,fun v a h=>(e a).elim,fun a=>(e a).elim,fun a=>(e a).elim⟩
 have sub:∀t∈U.keys,t∈vV:=by decide
 exact⟨fun t=>(key t).1,fun t=>(key t).2.1,fun t=>(key t).2.2.1,fun t=>(key t).2.2.2,fun t A=>((Zfi z).at (sub t A)).inj⟩
def sumsV:List V:=[0,1788928,3577856,3003392,7155712,7764992,6006784,4252672,14311424,12659712,15529984,16233472,12013568,11279360,8505344,10126336].map fun n=>V.lit (.int .u32 n)
def gl:Nat->Option (List V):=fun g=>if g=0 then some sumsV else none
theorem Qk:Tryz.prog.follows .mixedOrders=true:=by kernel_rfl
def noH:FuncId->List FuncId->Option (HMod U):=fun _ _=>none
def B0:Env:=EV (U:=U) Tryz.prog gl 0 (fun _=>none) noH
abbrev MS:={ms:FuncId->Option (Af U) // ∀g m,ms g=some m->Ae Tryz.prog B0 g m}
abbrev HS:={q:FuncId->List FuncId->Option (HMod U) // ∀g k m,q g k=some m->Dy Tryz.prog B0 g m}
def Ag:MS:=⟨fun _=>none,fun _ _ h=>nomatch h⟩
def Ah:HS:=⟨fun _ _=>none,fun _ _ _ h=>nomatch h⟩
def mc {f:FuncId} {m:Af U} (h:Ae Tryz.prog B0 f m) (s:MS):MS:=⟨fun g=>bif Nat.beq g f then some m else s.1 g,fun g q e=>by
 cases hb:Nat.beq g f with
 | true=>dsimp only at e;rw[hb]at e;cases e;exact(Nat.eq_of_beq_eq_true hb)▸h
 | false=>dsimp only at e;rw[hb]at e;exact s.2 g q e⟩
def hc {f:FuncId} {m:HMod U} (k:List FuncId) (h:Dy Tryz.prog B0 f m) (s:HS):HS:=⟨fun g k' =>bif Nat.beq g f&&k' == k then some m else s.1 g k',fun g k' q e=>by
 cases hb:(Nat.beq g f&&k' == k) with
 | true=>dsimp only at e;rw[hb]at e;cases e;exact(Nat.eq_of_beq_eq_true ((Bool.and_eq_true _ _).mp hb).1)▸h
 | false=>dsimp only at e;rw[hb]at e;exact s.2 g k' q e⟩
def AN:Nat->Option Lay:=fun _=>none
noncomputable def Ai (fn:Func) (ts:List Nat) (x:F8 U ts):Ac U:=⟨JY fn,[],gG ts x fn.ntmps,false⟩
noncomputable def Ff (fn:Func) (sh:Shape) (x:sh.X U):Ac U:=⟨JY fn,[],fZ (sh.enc x) fn.ntmps,false⟩
noncomputable def Ad (fn:Func) (p:List Nat) (L:Lay) (x:L.sh.X U):Ac U:=spot (JY fn) p fn.ntmps L.keep (L.sh.enc x)
abbrev BlkP (f:FuncId) (fn:Func) (ms:MS) (C:HS) (A:Nat->Option Lay) (rt:Nat) {z:Type} (T:z->Tr U (U.Ty rt⊕z)) (q:z->Ac U):Prop:=
 ∀p,Le.EU (EV Tryz.prog gl f ms.1 C.1) (Qv ms.1 C.1) A f fn 0 (iJ (EV Tryz.prog gl f ms.1 C.1) fn) 1000 (.run (q p).c) (q p).K (q p).st (q p).sk=(T p).map (TA (vO (U:=U) rt) q)
abbrev BlkH (f:FuncId) (fn:Func) (ms:MS) (C:HS) (A:Nat->Option Lay) (fa:List (List Fk)) (fb:List Bf) (k:Nat) (m:HMod U) {z:Type} (T:z->Tr U (U.Ty m.ky⊕z)) (q:z->Ac U):Prop:=
 ∀p,Le.EU (EV Tryz.prog gl f ms.1 C.1) (Qv ms.1 C.1) A f fn k (uO (EV Tryz.prog gl f ms.1 C.1) fn fa fb k m.Jb m.one) 1000 (.run (q p).c) (q p).K (q p).st (q p).sk=(T p).map (TA m.out q)
theorem okP {f:FuncId} {fn:Func} {ms:MS} {C:HS} {A:Nat->Option Lay} {m:Af U} {q:Type} {T:q->Tr U (U.Ty m.rt⊕q)} {F:q->Ac U} (h:BlkP f fn ms C A m.rt T F) (b0:F8 U m.ts->q)
  (hc:Ed (EV Tryz.prog gl f ms.1 C.1) f (JY fn)=true) (z:Tryz.prog.funcs[f]? = some fn) (G:(fn.name == "runtime.NumGoroutine")=false) (hb:fn.body=some (JY fn))
  (hm:∀x,m.fn x=AV T (b0 x)) (D:∀x,F (b0 x)=Ai fn m.ts x):Ae Tryz.prog B0 f m:=
 Zdw rfl (Z3z _ rfl) Qk ms.2 C.2 z G hb hc m T F h b0 hm D
theorem Aj {f rt:Nat} {ts:List Nat} {D:∀t∈ts,t∈U.keys} {fn:Func} {q:Type} {T:q->Tr U (U.Ty rt⊕q)} {b0:F8 U ts->q} (ms:MS) (F:HS) (A:Nat->Option Lay) (G:q->Ac U) (z:Tryz.prog.funcs[f]? = some fn) (h:BlkP f fn ms F A rt T G)
  (hc:(Ed (EV Tryz.prog gl f ms.1 F.1) f (JY fn),fn.name == "runtime.NumGoroutine",fn.body)=(true,false,some (JY fn))) (C:∀x,G (b0 x)=Ai fn ts x):Ae Tryz.prog B0 f ⟨ts,rt,fun x=>AV T (b0 x),D⟩:=
 okP (m:=⟨ts,rt,fun x=>AV T (b0 x),D⟩) h b0 (congrArg (·.1) hc) z (congrArg (·.2.1) hc) (congrArg (·.2.2) hc) (fun _=>rfl) C
theorem okH {f:FuncId} {fn:Func} {ms:MS} {C:HS} {A:Nat->Option Lay} {fa:List (List Fk)} {fb:List Bf} {k:Nat} {m:HMod U} {q:Type} {T:q->Tr U (U.Ty m.ky⊕q)} {F:q->Ac U} (h:BlkH f fn ms C A fa fb k m T F) (b0:m.D5.X U->q)
  (G:∀x:m.D5.X U,(m.D5.enc x).2.length=k) (hc:Ed (EV Tryz.prog gl f ms.1 C.1) f (JY fn)=true) (z:Tryz.prog.funcs[f]? = some fn) (I:(fn.name == "runtime.NumGoroutine")=false) (hb:fn.body=some (JY fn))
  (hm:∀x:m.D5.X U,m.fn x=AV T (b0 x)) (D:∀x:m.D5.X U,F (b0 x)=Ff fn m.D5 x):Dy Tryz.prog B0 f m:=
 ZyE rfl (Z3z _ rfl) Qk ms.2 C.2 z I hb hc m G T F h b0 hm D
theorem okR {f ky:Nat} {fn:Func} {D:List (List Fk)} {C:List Bf} {D5 Jb:Shape} {one:Bool} {Nj:U.Ty ky->Jb.X U} {G:D5.OK U} {z:Type} {T:z->Tr U (U.Ty ky⊕z)} {b0:D5.X U->z} (ms:MS) (I:HS) (A:Nat->Option Lay) (fa:List (List Fk)) (fb:List Bf) (k:Nat) (J:z->Ac U) (F:Tryz.prog.funcs[f]? = some fn)
  (h:BlkH f fn ms I A fa fb k ⟨D,C,D5,Jb,one,ky,Nj,fun x=>AV T (b0 x),G⟩ T J) (hc:(Ed (EV Tryz.prog gl f ms.1 I.1) f (JY fn),fn.name == "runtime.NumGoroutine",fn.body)=(true,false,some (JY fn))) (q:∀x,((D5.enc x).2.length,J (b0 x))=(k,Ff fn D5 x)) :
  Dy Tryz.prog B0 f ⟨D,C,D5,Jb,one,ky,Nj,fun x=>AV T (b0 x),G⟩:=
 okH (m:=⟨D,C,D5,Jb,one,ky,Nj,fun x=>AV T (b0 x),G⟩) h b0 (fun x=>congrArg (·.1) (q x)) (congrArg (·.1) hc) F (congrArg (·.2.1) hc) (congrArg (·.2.2) hc) (fun _=>rfl) (fun x=>congrArg (·.2) (q x))
abbrev kL {α:Type} (l:List α):Bool:=l.length==l.length
abbrev kA (n k:Nat):Bool:=decide (n*k<=lim)&&decide (n<=maxLen)
abbrev Gn (u c:AL):Bool:=(u.Kind==c.Kind)&&((u.BI.ET==c.BI.ET)&&((u.BI.ES==c.BI.ES)&&((u.BI.Dl==c.BI.Dl)&&((u.BI.Dx==c.BI.Dx)&&((u.BI.Ea==c.BI.Ea)&&((u.Map==c.Map)&&((u.DF==c.DF)&&((u.Bd==c.Bd)&&((u.DT==c.DT)&&((u.Bq==c.Bq)&&((u.Mark==c.Mark)&&((u.CW==c.CW)&&((u.Version==c.Version)&&((u.Length==c.Length)&&true))))))))))))))
abbrev KP:List Fk:=[.keep]
abbrev VC(t n:Nat):Pc:=.v t n false
abbrev OV(t:Nat):Sp:=.one (.v t 1 false)
abbrev PQ(j:Nat):Sp:=.one (.ptr j)
abbrev VA(e m:Nat):Pb:=.var e m (.agg [.v e m true])
abbrev k0:List Fk:=[.keep,.keep,.keep,.keep,.keep,.keep,.keep,.keep,.keep,.keep,.keep,.keep,.keep,.keep,.keep]
abbrev k1:List Fk:=[.keep,.keep,.keep,.s 156 15,.keep,.keep,.s 138 8,.keep,.keep,.keep,.keep,.keep,.keep,.keep,.keep,.keep,.keep,.keep,.keep,.keep]
abbrev k2:List Fk:=[.keep,.keep,.keep,.keep,.keep,.keep,.keep,.keep,.keep,.keep,.keep,.keep,.keep,.keep,.keep,.keep,.keep,.keep,.keep,.keep,.keep,.keep,.keep,.keep,.keep,.keep,.s 68 2,.keep,.keep,.keep,.keep,.keep,.keep,.keep,.keep,.keep,.keep,.s 156 15,.keep,.keep,.s 138 8,.keep,.keep,.keep,.keep,.keep,.keep,.keep,.keep,.keep,.keep,.keep,.keep,.keep,.keep,.keep,.keep,.keep,.keep,.keep,.keep,.keep,.s 99 2,.s 156 15,.keep,.keep]
abbrev k3:List Fk:=[.keep,.keep,.keep,.keep,.keep,.keep,.keep,.keep,.keep,.keep,.keep]
abbrev k4:List Fk:=[.keep,.keep,.keep,.keep,.s 5 1]
abbrev k5:List Fk:=[.keep,.keep,.keep,.keep,.keep,.keep,.keep,.keep,.keep,.keep,.keep,.keep,.keep,.keep,.keep,.keep,.keep,.keep,.keep,.keep,.keep,.keep,.keep,.keep,.keep,.keep,.s 68 2,.keep,.keep,.keep,.keep,.keep,.keep,.keep,.keep,.keep,.keep,.s 156 15,.keep,.keep,.s 138 8,.keep,.keep,.keep,.keep,.keep,.keep,.keep,.keep,.keep,.keep,.keep,.keep,.keep,.keep,.keep,.keep,.keep,.keep,.keep,.keep,.keep,.s 99 2,.s 156 15,.keep,.keep,.keep,.keep,.keep,.keep,.keep,.keep,.keep,.keep,.keep,.keep,.keep,.keep,.keep,.keep,.keep,.keep,.keep,.keep,.keep,.keep,.keep,.keep,.keep,.keep,.keep,.keep,.s 68 2,.keep,.keep,.keep,.keep,.keep,.keep,.keep,.keep,.keep,.keep,.s 156 15,.keep,.keep,.s 138 8,.keep,.keep,.keep,.keep,.keep,.keep,.keep,.keep,.keep,.keep,.keep,.keep,.keep,.keep,.keep,.keep,.keep,.keep,.keep,.keep,.keep,.s 99 2,.s 156 15,.keep,.keep]
abbrev k6:List Fk:=[.keep,.keep,.s 68 2,.keep,.keep,.keep,.keep]
abbrev k7:List Fk:=[.keep,.keep,.keep,.keep,.keep,.keep,.keep]
abbrev k8:List Fk:=[.keep,.keep,.own 68 2,.keep,.keep,.keep,.keep]
abbrev k9:List Fk:=[.keep,.keep,.keep,.keep,.keep,.keep,.keep,.keep,.keep,.keep,.keep,.keep,.keep,.keep,.keep,.keep,.keep,.keep,.keep,.keep,.keep,.keep,.keep,.keep,.keep,.keep,.s 68 2,.keep,.keep,.keep,.keep,.keep,.keep,.keep,.keep,.keep,.keep,.s 156 15,.keep,.keep,.s 138 8,.keep,.keep,.keep,.keep,.keep,.keep,.keep,.keep,.keep,.keep,.keep,.keep,.keep,.keep,.keep,.keep,.keep,.keep,.keep,.keep,.keep,.s 99 2,.own 156 15,.keep,.keep]
abbrev k10:List Fk:=[.keep,.keep,.keep,.keep,.keep,.keep,.keep,.keep,.keep,.keep,.keep,.keep,.keep,.keep,.keep,.keep,.keep,.keep,.keep,.keep,.keep,.keep,.keep,.keep,.keep,.keep,.s 68 2,.keep,.keep,.keep,.keep,.keep,.keep,.keep,.keep,.keep,.keep,.own 156 15,.keep,.keep,.own 138 8,.keep,.keep,.keep,.keep,.keep,.keep,.keep,.keep,.keep,.keep,.keep,.keep,.keep,.keep,.keep,.keep,.keep,.keep,.keep,.keep,.keep,.own 99 2,.own 156 15,.keep,.keep,.own 148 18]
abbrev k11:List Fk:=[.keep,.keep,.keep,.keep,.keep,.keep,.keep,.keep,.keep,.keep,.keep,.keep,.keep,.keep,.s 113 3,.keep,.keep]
abbrev k12:List Fk:=[.keep,.keep,.keep,.keep,.keep]
abbrev k13:List Fk:=[.keep,.keep,.keep,.keep,.keep,.keep,.keep,.keep]
abbrev k14:List Fk:=[.keep,.keep,.keep,.keep,.keep,.keep,.keep,.keep,.keep,.keep,.keep,.keep,.keep,.keep,.keep,.keep,.keep,.keep,.keep,.keep,.keep,.keep,.keep,.keep,.keep,.keep,.own 68 2,.keep,.keep,.keep,.keep,.keep,.keep,.keep,.keep,.keep,.keep,.own 156 15,.keep,.keep,.own 138 8,.keep,.keep,.keep,.keep,.keep,.keep,.keep,.keep,.keep,.keep,.keep,.keep,.keep,.keep,.keep,.keep,.keep,.keep,.keep,.keep,.keep,.own 99 2,.own 156 15,.keep,.keep,.own 148 18]
abbrev WM (a:A8):=(a.Bz,(a.Bl,(a.Clock,(a.Event,(a.Last,(a.IL,(a.Size,(a.Sync,(a.J6,(a.JH,(a.Jd,(a.Good,(a.Fz,(a.More,(a.Az,(a.Hg,(a.Am,(a.DY,(a.Key,(a.DI,(a.Bd,(a.Ic,()))))))))))))))))))))))
abbrev TU (a:BQ):=(a.SN,(a.Dp,(a.Open,(a.Empty,(a.Fz,(a.Taken,()))))))
abbrev WN (a:FO):=(a.Link.Bz,(a.Link.Bl,(a.Link.Clock,(a.Link.Event,(a.Link.Last,(a.Link.IL,(a.Link.Size,(a.Link.Sync,(a.Link.J6,(a.Link.JH,(a.Link.Jd,(a.Link.Good,(a.Link.Fz,(a.Link.More,(a.Link.Az,(a.Link.Hg,(a.Link.Am.Bz,(a.Link.Am.Own,(a.Link.Am.Since,(a.Link.Am.Other,(a.Link.Am.JC,(a.Link.Am.Told,(a.Link.Am.CW,(a.Link.Am.MI,(a.Link.Am.Hm,(a.Link.Am.JV,(a.Link.Am.Version,(a.Link.Am.Length,(a.Link.Am.Limit,(a.Link.Am.Bq,(a.Link.Am.Jc,(a.Link.Am.Mark,(a.Link.Am.EJ,(a.Link.Am.GR,(a.Link.DY,(a.Link.Key,(a.Link.Bd,(a.Link.Ic,()))))))))))))))))))))))))))))))))))))))
abbrev WJ (i:Nat):Sp:=.agg [.v 3 1 false,.v 3 1 false,.own 68 i,.v 4 1 false,.v 4 1 false,.v 3 1 false,.v 3 1 false]
abbrev iW (i:Nat):Sp:=.agg [.v 3 1 false,.v 28 11 true,.v 3 1 false,.v 30 1 false,.v 3 1 false,.v 3 1 false,.v 3 1 false,.v 3 1 false,.v 3 1 false,.v 4 1 false,.v 4 1 false,.v 4 1 false,.v 4 1 false,.v 4 1 false,.v 33 7 true,.v 35 3 true,.v 39 20 true,.v 41 7 true,.v 29 1 false,.v 42 1 false,.own 156 i,.v 3 1 false,.v 25 1 false]
abbrev ag2 (i:Nat):Sp:=.agg [.v 3 1 false,.v 28 11 true,.v 3 1 false,.v 30 1 false,.v 3 1 false,.v 3 1 false,.v 3 1 false,.v 3 1 false,.v 3 1 false,.v 4 1 false,.v 4 1 false,.v 4 1 false,.v 4 1 false,.v 4 1 false,.v 33 7 true,.v 35 3 true,.v 3 1 false,.v 3 1 false,.v 3 1 false,.own 156 i,.v 3 1 false,.v 3 1 false,.own 138 (i+1),.v 4 1 false,.v 25 1 false,.v 25 1 false,.v 4 1 false,.v 4 1 false,.v 3 1 false,.v 3 1 false,.v 3 1 false,.v 25 1 false,.v 25 1 false,.v 25 1 false,.v 3 1 false,.v 3 1 false,.v 41 7 true,.v 29 1 false,.own 99 (i+2),.own 156 (i+3),.v 3 1 false,.v 25 1 false,.own 148 (i+4)]
abbrev ag3 (i:Nat):Sp:=.agg [.v 3 1 false,.v 28 11 true,.v 3 1 false,.v 30 1 false,.v 3 1 false,.v 3 1 false,.v 3 1 false,.v 3 1 false,.v 3 1 false,.v 4 1 false,.v 4 1 false,.v 4 1 false,.v 4 1 false,.v 4 1 false,.v 3 1 false,.v 3 1 false,.own 68 i,.v 4 1 false,.v 4 1 false,.v 3 1 false,.v 3 1 false,.v 35 3 true,.v 3 1 false,.v 3 1 false,.v 3 1 false,.own 156 (i+1),.v 3 1 false,.v 3 1 false,.own 138 (i+2),.v 4 1 false,.v 25 1 false,.v 25 1 false,.v 4 1 false,.v 4 1 false,.v 3 1 false,.v 3 1 false,.v 3 1 false,.v 25 1 false,.v 25 1 false,.v 25 1 false,.v 3 1 false,.v 3 1 false,.v 41 7 true,.v 29 1 false,.own 99 (i+3),.own 156 (i+4),.v 3 1 false,.v 25 1 false,.own 148 (i+5)]
abbrev kl {α L:Type} (l:List α) (t:Tr U L):Tr U L:=.chk (kL l) t
abbrev kI {α:Type} (i:Int) (l:List α):Bool:=decide (0<=i/\i<(l.length:Int))
abbrev AA {L M:Type} (x:L):Tr U (L⊕M):=.leaf (.inl x)
abbrev AO {L M:Type} (x:M):Tr U (L⊕M):=.leaf (.inr x)
theorem DN:(∀(L R:Type) (l:L) (J:L->Option R),(Tr.leaf l:Tr U L).den J=J l)/\(∀(L R:Type) (c:Bool) (a b:Tr U L) (J:L->Option R),(Tr.br c a b).den J=cond c (a.den J) (b.den J))/\(∀(L R:Type) (t:Nat) (o:Option (U.Ty t)) (k:U.Ty t->Tr U L) (J:L->Option R),(Tr.bind t o k).den J=o.bind fun x=>(k x).den J) /\
  (∀(L R:Type) (c:Bool) (a:Tr U L) (J:L->Option R),(Tr.chk c a).den J=cond c (a.den J) none)/\(∀(L R:Type) (J:L->Option R),(Tr.fail:Tr U L).den J=none)/\(∀(R P:Type) (g:P->Option R) (r:R),Hl g (.inl r)=some r)/\(∀(R P:Type) (g:P->Option R) (q:P),Hl g (.inr q)=g q) /\
  (∀(α:Type) (l:List α),kL l=true)/\(∀(L R α:Type) (l:List α) (a:Tr U L) (J:L->Option R),(kl l a).den J=a.den J)/\(∀(L R:Type) (a:Tr U L) (J:L->Option R),(Tr.chk true a).den J=a.den J)/\(∀(α:Type) (i:Int) (l:List α),kI i l=decide (0<=i/\i<(l.length:Int)))/\(∀n k:Nat,kA n k=(decide (n*k<=lim)&&decide (n<=maxLen))):=
 ⟨fun _ _ _ _=>rfl,fun _ _ _ _ _ _=>rfl,fun _ _ _ _ _ _=>rfl,fun _ _ _ _ _=>rfl,fun _ _ _=>rfl,fun _ _ _ _=>rfl,fun _ _ _ _=>rfl,fun _ _=>beq_self_eq_true _,fun _ _ _ l a J=>by show cond (l.length==l.length) (a.den J) none=_;rw[beq_self_eq_true];rfl,fun _ _ _ _=>rfl,fun _ _ _=>rfl,fun _ _=>rfl⟩
abbrev ZtB (x:FO):QZ:=⟨(⟨x.Link.Bz,x.Link.Bl,x.Link.Clock,x.Link.Event,x.Link.Last,x.Link.IL,x.Link.Size,x.Link.Sync,x.Link.J6,x.Link.JH,x.Link.Jd,x.Link.Good,x.Link.Fz,x.Link.More,(⟨x.Link.Az.SN,x.Link.Az.Dp,x.Link.Az.Open,x.Link.Az.Empty,x.Link.Az.Fz,x.Link.Az.Taken⟩:Z2r),x.Link.Hg,(⟨x.Link.Am.Bz,x.Link.Am.Own,x.Link.Am.Since,x.Link.Am.Other,x.Link.Am.JC,x.Link.Am.Told,x.Link.Am.CW,x.Link.Am.MI,x.Link.Am.Hm,x.Link.Am.JV,x.Link.Am.Version,x.Link.Am.Length,x.Link.Am.Limit,x.Link.Am.Bq,x.Link.Am.Jc,x.Link.Am.Mark,x.Link.Am.EJ,x.Link.Am.GR⟩:Z18),x.Link.DY,x.Link.Key,x.Link.Bd,x.Link.Ic⟩:Z1D)⟩
abbrev Zn3 (x:Cb):QQ:=⟨x.Bz,x.Key,x.Bq,x.Gm,x.N9,x.Tx,x.Rx⟩
def Zfv:List Nat:=[115,338,3369,3385,4,5,3,60,62,63,45,71,75,31,36,37,42,46,110,29,25,26,226,77,86,78,120,104,30,22,189,129,135,140,208,216,269,222,9,254,163,231,233,237,194,256,253,240]
def ZfG:List (Nat×Nat):=[(83,12),(113,3),(59,17),(68,2),(156,15),(138,8),(99,2),(44,66),(70,5),(33,7),(39,20),(109,132),(28,11),(52,2),(35,3),(24,5),(148,18),(262,11),(41,7),(312,2),(252,2),(174,3)]
theorem ZBg:∀t∈Zfv,t∈U.keys/\∀a,cellsS (U.encS t a)=[U.encS t a]:=by
 intro t ht
 repeat (rcases List.mem_cons.1 ht with rfl|ht;exact⟨by decide,fun _=>rfl⟩)
 cases ht
theorem ZBf:∀p∈ZfG,p.1∈U.keys/\∀a,∃cs,U.encS p.1 a = .agg cs/\cs.length=p.2:=by
 intro p ht
 repeat (rcases List.mem_cons.1 ht with rfl|ht;exact⟨by decide,fun _=>⟨_,rfl,rfl⟩⟩)
 cases ht
theorem okS {s:Shape} (h:shB U Zfv ZfG s=true):s.OK U:=Shape.ok_of ZBg ZBf h
abbrev AA0 (f:Nat) (m:Af U):Prop:=Ae Tryz.prog B0 f m
theorem AA2 {ts:List Nat} (h:ts.all U.keys.contains=true):∀t∈ts,t∈U.keys:=by simpa using h
abbrev AA1 (f:Nat) (ts:List Nat) (rt:Nat) (fn:F8 U ts->Option (U.Ty rt)) (h:ts.all U.keys.contains=true):Prop:=Ae Tryz.prog B0 f ⟨ts,rt,fn,AA2 h⟩
@[reducible] def AA4 (R:Type):List Pc->Type
 | []=>R
 | .v t _ _::ps=>U.Ty t×AA4 R ps
 | _::ps=>AA4 R ps
@[reducible] def AA5 (R:Type):List Sp->Type
 | []=>R
 | p::ps=>AA4 (AA5 R ps) p.cells
@[reducible] def AA6:List Pb->Type
 | []=>Unit
 | .var _ _ p::q=>AA4 (AA6 q) p.cells
 | .row t _::q=>List (U.Ty t)×AA6 q
def AA7 {R:Type}:(l:List Pc)->AA4 R l->PX U l×R
 | [],x=>((),x)
 | .v _ _ _::ps,x=>((x.1,(AA7 ps x.2).1),(AA7 ps x.2).2)
 | .own _ _::ps,x=>AA7 ps x
 | .ptr _::ps,x=>AA7 ps x
 | .fn _ _ _::ps,x=>AA7 ps x
 | .no::ps,x=>AA7 ps x
 | .und::ps,x=>AA7 ps x
 | .jA _::ps,x=>AA7 ps x
def AA8 {R:Type}:(l:List Sp)->AA5 R l->AX U l×R
 | [],x=>((),x)
 | p::ps,x=>(((AA7 p.cells x).1,(AA8 ps (AA7 p.cells x).2).1),(AA8 ps (AA7 p.cells x).2).2)
def AA9:(l:List Pb)->AA6 l->BX U l
 | [],_=>()
 | .var _ _ p::q,x=>((AA7 p.cells x).1,AA9 q (AA7 p.cells x).2)
 | .row _ _::q,x=>(x.1,AA9 q x.2)
noncomputable def AA3 (fn:Func) (p:List Nat) (L:Lay) (x:AA5 (AA6 L.sh.boxes) L.sh.args):Ac U:=Ad fn p L ((AA8 _ x).1,AA9 _ (AA8 _ x).2)
end
end Go.Proofs.YtjodhcdmhobmoaaGreatDoor
