/- A part of it. -/
import Derived.Test.YteinepnbndegdaaGreatL6
import Derived.Test.YteinepnbndegdaaGreatProg
import Derived.KernelRfl
set_option linter.unusedVariables false
set_option linter.unusedSimpArgs false
namespace Go.Proofs.YteinepnbndegdaaGreat
open Go Go.Proofs.YteinepnbndegdaaGreat.Le
set_option maxRecDepth 100000
noncomputable section
structure BR where
 A:Int
 B:Int
structure DK where
 ID:Int
 To:Int
structure F7 where
 Dq:List Bool
 Iz:List Bool
 BA:List BR
 BG:List DK
structure Bh where
 Key:Int
 C9:Int
 LC:Int
 Hide:Int
 JY:Int
@[reducible] def I8:Bh:=⟨(0:Int),(0:Int),(0:Int),(0:Int),(0:Int)⟩
structure EM where
 EP:Int
 Old:Bh
 New:Bh
@[reducible] def dP:EM:=⟨(0:Int),I8,I8⟩
structure CY where
 Index:Int
 GI:Bool
 Since:Int
@[reducible] def ED:CY:=⟨(0:Int),false,(0:Int)⟩
structure Ar where
 Src:Int
 IV:Int
 Seq:Int
structure DJ where
 Cf:Int
 Src:Int
 App:Bool
 Zero:Int
 IV:Int
 Parts:List (List Int)
 Acked:Int
 Em:Int
 IB:Int
 EL:Int
@[reducible] def N8:DJ:=⟨(0:Int),(0:Int),false,(0:Int),(0:Int),[],(0:Int),(0:Int),(0:Int),(0:Int)⟩
structure D9 where
 Src:Int
 Cf:Int
 App:Bool
 Zero:Int
 IV:Int
 Last:Int
 Parts:List (List Int)
 Block:Int
 Em:Int
 EL:Int
 Done:Bool
@[reducible] def U4:D9:=⟨(0:Int),(0:Int),false,(0:Int),(0:Int),(0:Int),[],(0:Int),(0:Int),(0:Int),false⟩
structure BV where
 Out:List DJ
 In:List D9
structure CG where
 IV:Int
 C9:Int
 Control:Bool
 EL:Int
 Seq:Int
 Src:Int
 Cf:Int
 Payload:List Int
@[reducible] def Oi:CG:=⟨(0:Int),(0:Int),false,(0:Int),(0:Int),(0:Int),(0:Int),[]⟩
structure Bc where
 Control:Bool
 Ox:Bool
 App:Bool
 Zero:Int
 Index:Int
 Last:Int
 QZ:Int
 Block:Int
 AB:Bool
 Bytes:List Int
@[reducible] def Zk0:Bc:=⟨false,false,false,(0:Int),(0:Int),(0:Int),(0:Int),(0:Int),false,[]⟩
structure Gh where
 PDU:CG
 Lower:Bc
structure EG where
 Low:Int
 Aa:List Gh
 AO:List Int
 Ed:Int
 Sent:Bool
 Hz:Int
 Counter:Int
 Dropped:Int
@[reducible] def Gu:EG:=⟨(0:Int),[],[],(0:Int),false,(0:Int),(0:Int),(0:Int)⟩
structure Df where
 EP:Int
 AB:Int
 Ed:Int
 Counter:Int
 Em:Int
 IB:Int
 AO:List Int
 Told:Int
 More:Bool
 Last:Int
@[reducible] def En:Df:=⟨(0:Int),(0:Int),(0:Int),(0:Int),(0:Int),(0:Int),[],(0:Int),false,(0:Int)⟩
structure BL where
 Em:Int
 Bytes:List Int
 To:Int
structure Ae where
 Address:Int
 Device:Int
 App:Int
 Keys:EM
 IV:CY
 Seq:Int
 Fz:Bool
 Hg:Bool
 Ah:List Int
 Cache:List Ar
 Ai:List Ar
 A7:BV
 AB:EG
 Low:Df
 Out:List BL
 G8:Int
 Up:Bool
@[reducible] def ZkU:Ae:=⟨(0:Int),(0:Int),(0:Int),dP,ED,(0:Int),false,false,[],[],[],(⟨[],[]⟩:BV),Gu,En,[],(0:Int),false⟩
structure CS where
 From:Int
 To:Int
 Em:Int
 Bytes:List Int
structure Dw where
 Src:Int
 Cf:Int
 App:Bool
 EL:Int
 Seq:Ar
 Bytes:List Int
structure BH where
 Kind:Int
 Ik:Dw
 Peer:Int
 Number:Int
structure EE where
 Node:Int
 Time:Int
 Event:BH
structure Aq where
 Ak:List Ae
 BA:List BR
 BG:List DK
 Count:Int
 Now:Int
 Flight:List CS
 Notes:List EE
@[reducible] def Ib:Aq:=⟨[],[],[],(0:Int),(0:Int),[],[]⟩
structure DV where
 Time:Int
 Node:Int
 Kind:Int
 Cf:Int
 EL:Int
 App:Bool
 Bytes:List Int
 Key:Int
 Number:Int
 Peer:Int
structure I9 where
 x0:Int
 x1:Int
structure BJ where
 Node:Ae
 DL:Int
structure EF where
 Src:Int
 Cf:Int
 EL:Int
 Lower:Bc
structure DF where
 Size:Int
 Value:Int
structure Dj where
 x0:Int
 x1:Int
 x2:Int
 x3:Int
 x4:Int
 x5:Int
@[reducible] def KY:Dj:=⟨(0:Int),(0:Int),(0:Int),(0:Int),(0:Int),(0:Int)⟩
structure Fb where
 Zaj:Bool
 GI:Bool
 Index:Int
@[reducible] def Zjl:Fb:=⟨false,false,(0:Int)⟩
structure JS where
 DW:CG
 Z1l:Bh
 X7:Bool
@[reducible] def Zjb:JS:=⟨Oi,I8,false⟩
structure JQ where
 IQ:List Ar
 Jj:Int
structure Jd where
 IQ:List Ar
 Jj:Int
structure yM where
 Low:Int
 Ed:Int
 Sent:Bool
 Hz:Int
 Counter:Int
 Dropped:Int
structure vO where
 EP:Int
 AB:Int
 Ed:Int
 Counter:Int
 Em:Int
 IB:Int
 Told:Int
 More:Bool
 Last:Int
structure Z8 where
 Address:Int
 Device:Int
 App:Int
 Keys:EM
 IV:CY
 Seq:Int
 Fz:Bool
 Hg:Bool
 AB:yM
 Low:vO
 G8:Int
 Up:Bool
structure Je where
 Node:Z8
 DL:Int
structure WV where
 q0:List Ae
structure WW where
 q0:List BR
structure WT where
 q0:List DK
structure WZ where
 q0:List CS
structure UK where
 q0:List Int
structure WO where
 q0:List EE
structure NY where
 q0:List Int
structure RD where
 q0:List Ar
structure QA where
 q0:List Ar
structure WN where
 q0:List DJ
structure WJ where
 q0:List D9
structure WQ where
 q0:List Gh
structure WR where
 q0:List BL
structure ZcC where
 q0:List (List Int)
structure QP where
 q0:Aq
structure TU where
 q0:Bool
 q1:Ae
structure Qx where
 q0:Int
 q1:Ae
structure Ue where
 q0:Bool
 q1:Ae
structure Ul where
 q0:Aq
 q1:Int
 q2:List Ae
 q3:List BR
 q4:List DK
 q5:List CS
 q6:List EE
structure Uo where
 q0:Ae
 q1:List BH
 q2:DV
 q3:Int
structure U3 where
 q0:BJ
 q1:DV
 q2:Int
 q3:List BH
 q4:List DJ
 q5:List D9
structure Tz where
 q0:Int
 q1:BJ
 q2:List BH
 q3:List DJ
 q4:List D9
structure UI where
 q0:Int
 q1:BJ
 q2:List BH
 q3:List DJ
 q4:List D9
structure Oa where
 q0:BV
structure O8 where
 q0:BJ
 q1:List BH
structure UB where
 q0:Bool
 q1:BJ
 q2:List BH
structure Qz where
 q0:BJ
 q1:List BH
structure Ti where
 q0:Int
 q1:BJ
 q2:List BH
structure Oo where
 q0:Ae
structure QN where
 q0:Aq
 q1:List Ae
 q2:List BR
 q3:List DK
 q4:List CS
 q5:List EE
structure Og where
 q0:Aq
structure Ug where
 q0:Ae
 q1:List BH
 q2:List BL
 q3:List BL
structure U9 where
 q0:BJ
 q1:List BL
 q2:List BH
 q3:List DJ
 q4:List D9
 q5:List Int
 q6:List BL
 q7:List BL
structure UN where
 q0:List BL
 q1:BJ
 q2:List BH
 q3:List DJ
 q4:List D9
 q5:List Int
 q6:List BL
structure Tj where
 q0:BJ
 q1:List BH
structure Tf where
 q0:BJ
 q1:List BH
 q2:List Int
structure Tu where
 q0:BJ
 q1:List BH
 q2:List DJ
 q3:List D9
structure QO where
 q0:Aq
structure QM where
 q0:Aq
structure Uf where
 q0:Ae
 q1:List BH
 q2:List Int
structure Ud where
 q0:BJ
 q1:List Int
 q2:List BH
 q3:List Ar
 q4:List Ar
 q5:List DJ
 q6:List D9
structure JR where
 q0:BJ
 q1:List BH
 q2:List Ar
 q3:List Ar
 q4:List DJ
 q5:List D9
structure Tq where
 q0:BJ
 q1:List BH
structure Tn where
 q0:JS
 q1:Bool
 q2:BJ
 q3:List BH
structure Tv where
 q0:Bool
 q1:BJ
 q2:List BH
structure Qy where
 q0:BJ
 q1:List BH
structure NW where
 q0:Bool
 q1:BJ
 q2:List BH
structure TV where
 q0:BJ
 q1:List BH
 q2:List Ar
 q3:List DJ
 q4:List D9
structure Qw where
 q0:Int
 q1:Int
structure U7 where
 q0:Bool
 q1:Int
structure Uh where
 q0:List BH
structure UW where
 q0:Aq
structure UJ where
 q0:List Int
 q1:List Ae
 q2:List BR
 q3:List DK
 q4:List CS
 q5:List EE
structure RG where
 q0:List Int
structure TT where
 q0:List Int
structure TS where
 q0:List Int
structure Ui where
 q0:Int
 q1:List Ae
 q2:List BR
 q3:List DK
 q4:List CS
 q5:List EE
structure Qv where
 q0:Bool
@[reducible] def Ty:Nat->Type
 | 1396=>WV
 | 1397=>WW
 | 1398=>WT
 | 1399=>WZ
 | 1400=>UK
 | 1401=>WO
 | 1402=>NY
 | 1403=>RD
 | 1404=>QA
 | 1405=>WN
 | 1406=>WJ
 | 1407=>WQ
 | 1408=>WR
 | 1409=>ZcC
 | 1413=>QP
 | 1410=>TU
 | 1411=>Qx
 | 1412=>Ue
 | 1432=>Ul
 | 1434=>Uo
 | 1436=>U3
 | 1437=>Tz
 | 1438=>UI
 | 1447=>Oa
 | 1443=>O8
 | 1445=>UB
 | 1446=>Qz
 | 1444=>Ti
 | 1435=>Oo
 | 1418=>QN
 | 1430=>Og
 | 1448=>Ug
 | 1449=>U9
 | 1450=>UN
 | 1453=>Tj
 | 1451=>Tf
 | 1452=>Tu
 | 1429=>QO
 | 1431=>QM
 | 1454=>Uf
 | 1455=>Ud
 | 1456=>JR
 | 1457=>Tq
 | 1458=>Tn
 | 1459=>Tv
 | 1460=>Qy
 | 1464=>NW
 | 1465=>TV
 | 1466=>Qw
 | 1467=>U7
 | 1463=>Uh
 | 1427=>UW
 | 1428=>UJ
 | 1424=>RG
 | 1425=>TT
 | 1426=>TS
 | 1417=>Ui
 | 1414=>Qv
 | 130=>Je
 | 4=>Bool
 | 79=>BR
 | 113=>DK
 | 26=>F7
 | 3=>Int
 | 5=>Int
 | 27=>List Int
 | 39=>Int
 | 49=>Ar
 | 138=>Ar
 | 149=>DJ
 | 135=>D9
 | 158=>Gh
 | 120=>BL
 | 76=>Ae
 | 106=>CS
 | 55=>EE
 | 33=>Aq
 | 34=>Int
 | 35=>Aq×Aq×Int×Bool
 | 43=>DV
 | 37=>Aq×Int
 | 45=>List Int
 | 40=>Int
 | 41=>Int
 | 366=>I9
 | 47=>Int
 | 29=>List Ae
 | 23=>List BR
 | 24=>List DK
 | 30=>List CS
 | 31=>List EE
 | 62=>List Int
 | 63=>List Ar
 | 64=>List Ar
 | 65=>List DJ
 | 66=>List D9
 | 69=>List Gh
 | 74=>List BL
 | 133=>List (List Int)
 | 59=>EM
 | 61=>CY
 | 71=>EG
 | 73=>Df
 | 96=>Ae×Int
 | 57=>Bh
 | 9=>ByteArray
 | 207=>List Int
 | 68=>BV
 | 44=>List DV
 | 53=>BH
 | 100=>List BH
 | 128=>Ae×(List BH)
 | 117=>Ae×(List BL)×(List BH)
 | 101=>Ae×(List BH)×Int
 | 156=>Bc
 | 213=>List Bc
 | 214=>BV×(List Bc)×Int
 | 219=>EF
 | 270=>(List Int)×Int
 | 154=>CG
 | 179=>EM×Int
 | 182=>EM×Bool
 | 184=>CY×Int
 | 262=>Int×(List Int)
 | 276=>DF
 | 328=>List DF
 | 51=>Dw
 | 228=>List Bh
 | 335=>Dj
 | 279=>(List Int)×(List Int)×Int
 | 245=>Df×(List Bc)
 | 247=>List EF
 | 248=>BV×(List EF)×(List Int)
 | 250=>BV×(List EF)
 | 221=>Fb
 | 226=>Fb×Int×Int
 | 230=>EM×CY
 | 282=>Int×Int×Int
 | 284=>Int×Bool
 | 286=>CG×Int
 | 233=>JS
 | 240=>Bc×Int
 | 310=>List Dw
 | 311=>BV×(List Dw)×Bool
 | 315=>(List Ar)×Int
 | 292=>JQ
 | 360=>Jd
 | 170=>Int
 | _=>Empty
abbrev BZ:AA Ty Int:=AA.int .u8
abbrev D6:AA Ty Int:=AA.int .u16
abbrev GG:AA Ty Int:=AA.int .u32
abbrev E8:AA Ty Int:=AA.int .u64
abbrev BM:AA Ty Int:=AA.int .i64
abbrev D8:AA Ty Bool:=AA.bool
abbrev cst:AA Ty ByteArray:=AA.str
def JI:AA Ty BR:=AA.Bg (fun x=>(x.A,x.B,())) (fun p=>⟨p.1,p.2.1⟩) (AA.pair BM (AA.pair BM AA.unit))
def JG:AA Ty DK:=AA.Bg (fun x=>(x.ID,x.To,())) (fun p=>⟨p.1,p.2.1⟩) (AA.pair BM (AA.pair BM AA.unit))
def Vu:AA Ty F7:=AA.Bg (fun x=>(x.Dq,x.Iz,x.BA,x.BG,())) (fun p=>⟨p.1,p.2.1,p.2.2.1,p.2.2.2.1⟩) (AA.pair (AA.list 4 1 (fun(a:Bool)=>D8.Am a):AA Ty (List (Ty 4))) (AA.pair (AA.list 4 1 (fun(a:Bool)=>D8.Am a):AA Ty (List (Ty 4))) (AA.pair (AA.list 79 2 (fun(a:BR)=>.agg (JI.Af a)):AA Ty (List (Ty 79))) (AA.pair (AA.list 113 2 (fun(a:DK)=>.agg (JG.Af a)):AA Ty (List (Ty 113))) AA.unit))))
def FI:AA Ty Ar:=AA.Bg (fun x=>(x.Src,x.IV,x.Seq,())) (fun p=>⟨p.1,p.2.1,p.2.2.1⟩) (AA.pair D6 (AA.pair GG (AA.pair GG AA.unit)))
def L6:AA Ty DJ:=AA.Bg (fun x=>(x.Cf,x.Src,x.App,x.Zero,x.IV,x.Parts,x.Acked,x.Em,x.IB,x.EL,())) (fun p=>⟨p.1,p.2.1,p.2.2.1,p.2.2.2.1,p.2.2.2.2.1,p.2.2.2.2.2.1,p.2.2.2.2.2.2.1,p.2.2.2.2.2.2.2.1,p.2.2.2.2.2.2.2.2.1,p.2.2.2.2.2.2.2.2.2.1⟩) (AA.pair D6 (AA.pair D6 (AA.pair D8 (AA.pair GG (AA.pair GG (AA.pair (AA.list 27 1 (fun(a:List Int)=>((AA.list 5 1 (fun(a:Int)=>BZ.Am a):AA Ty (List (Ty 5)))).Am a):AA Ty (List (Ty 27))) (AA.pair GG (AA.pair BM (AA.pair BM (AA.pair BM AA.unit))))))))))
def LY:AA Ty D9:=AA.Bg (fun x=>(x.Src,x.Cf,x.App,x.Zero,x.IV,x.Last,x.Parts,x.Block,x.Em,x.EL,x.Done,())) (fun p=>⟨p.1,p.2.1,p.2.2.1,p.2.2.2.1,p.2.2.2.2.1,p.2.2.2.2.2.1,p.2.2.2.2.2.2.1,p.2.2.2.2.2.2.2.1,p.2.2.2.2.2.2.2.2.1,p.2.2.2.2.2.2.2.2.2.1,p.2.2.2.2.2.2.2.2.2.2.1⟩) (AA.pair D6 (AA.pair D6 (AA.pair D8 (AA.pair GG (AA.pair GG (AA.pair BM (AA.pair (AA.list 27 1 (fun(a:List Int)=>((AA.list 5 1 (fun(a:Int)=>BZ.Am a):AA Ty (List (Ty 5)))).Am a):AA Ty (List (Ty 27))) (AA.pair GG (AA.pair BM (AA.pair BM (AA.pair D8 AA.unit)))))))))))
def Q9:AA Ty CG:=AA.Bg (fun x=>(x.IV,x.C9,x.Control,x.EL,x.Seq,x.Src,x.Cf,x.Payload,())) (fun p=>⟨p.1,p.2.1,p.2.2.1,p.2.2.2.1,p.2.2.2.2.1,p.2.2.2.2.2.1,p.2.2.2.2.2.2.1,p.2.2.2.2.2.2.2.1⟩) (AA.pair GG (AA.pair BM (AA.pair D8 (AA.pair BM (AA.pair GG (AA.pair D6 (AA.pair D6 (AA.pair (AA.list 5 1 (fun(a:Int)=>BZ.Am a):AA Ty (List (Ty 5))) AA.unit))))))))
def IU:AA Ty Bc:=AA.Bg (fun x=>(x.Control,x.Ox,x.App,x.Zero,x.Index,x.Last,x.QZ,x.Block,x.AB,x.Bytes,())) (fun p=>⟨p.1,p.2.1,p.2.2.1,p.2.2.2.1,p.2.2.2.2.1,p.2.2.2.2.2.1,p.2.2.2.2.2.2.1,p.2.2.2.2.2.2.2.1,p.2.2.2.2.2.2.2.2.1,p.2.2.2.2.2.2.2.2.2.1⟩) (AA.pair D8 (AA.pair D8 (AA.pair D8 (AA.pair BM (AA.pair BM (AA.pair BM (AA.pair BM (AA.pair GG (AA.pair D8 (AA.pair (AA.list 5 1 (fun(a:Int)=>BZ.Am a):AA Ty (List (Ty 5))) AA.unit))))))))))
def LV:AA Ty Gh:=AA.Bg (fun x=>(x.PDU,x.Lower,())) (fun p=>⟨p.1,p.2.1⟩) (AA.pair Q9 (AA.pair IU AA.unit))
def Jo:AA Ty BL:=AA.Bg (fun x=>(x.Em,x.Bytes,x.To,())) (fun p=>⟨p.1,p.2.1,p.2.2.1⟩) (AA.pair BM (AA.pair (AA.list 5 1 (fun(a:Int)=>BZ.Am a):AA Ty (List (Ty 5))) (AA.pair D6 AA.unit)))
def KT:AA Ty Bh:=AA.Bg (fun x=>(x.Key,x.C9,x.LC,x.Hide,x.JY,())) (fun p=>⟨p.1,p.2.1,p.2.2.1,p.2.2.2.1,p.2.2.2.2.1⟩) (AA.pair E8 (AA.pair BM (AA.pair E8 (AA.pair E8 (AA.pair E8 AA.unit)))))
def Lm:AA Ty EM:=AA.Bg (fun x=>(x.EP,x.Old,x.New,())) (fun p=>⟨p.1,p.2.1,p.2.2.1⟩) (AA.pair BM (AA.pair KT (AA.pair KT AA.unit)))
def OY:AA Ty CY:=AA.Bg (fun x=>(x.Index,x.GI,x.Since,())) (fun p=>⟨p.1,p.2.1,p.2.2.1⟩) (AA.pair GG (AA.pair D8 (AA.pair BM AA.unit)))
def KO:AA Ty BV:=AA.Bg (fun x=>(x.Out,x.In,())) (fun p=>⟨p.1,p.2.1⟩) (AA.pair (AA.list 149 10 (fun(a:DJ)=>.agg (L6.Af a)):AA Ty (List (Ty 149))) (AA.pair (AA.list 135 11 (fun(a:D9)=>.agg (LY.Af a)):AA Ty (List (Ty 135))) AA.unit))
def Y3:AA Ty EG:=AA.Bg (fun x=>(x.Low,x.Aa,x.AO,x.Ed,x.Sent,x.Hz,x.Counter,x.Dropped,())) (fun p=>⟨p.1,p.2.1,p.2.2.1,p.2.2.2.1,p.2.2.2.2.1,p.2.2.2.2.2.1,p.2.2.2.2.2.2.1,p.2.2.2.2.2.2.2.1⟩) (AA.pair D6 (AA.pair (AA.list 158 18 (fun(a:Gh)=>.agg (LV.Af a)):AA Ty (List (Ty 158))) (AA.pair (AA.list 39 1 (fun(a:Int)=>D6.Am a):AA Ty (List (Ty 39))) (AA.pair BM (AA.pair D8 (AA.pair BM (AA.pair BM (AA.pair BM AA.unit))))))))
def TA:AA Ty Df:=AA.Bg (fun x=>(x.EP,x.AB,x.Ed,x.Counter,x.Em,x.IB,x.AO,x.Told,x.More,x.Last,())) (fun p=>⟨p.1,p.2.1,p.2.2.1,p.2.2.2.1,p.2.2.2.2.1,p.2.2.2.2.2.1,p.2.2.2.2.2.2.1,p.2.2.2.2.2.2.2.1,p.2.2.2.2.2.2.2.2.1,p.2.2.2.2.2.2.2.2.2.1⟩) (AA.pair BM (AA.pair D6 (AA.pair BM (AA.pair BM (AA.pair BM (AA.pair BM (AA.pair (AA.list 39 1 (fun(a:Int)=>D6.Am a):AA Ty (List (Ty 39))) (AA.pair BM (AA.pair D8 (AA.pair BM AA.unit))))))))))
def Ht:AA Ty Ae:=AA.Bg (fun x=>(x.Address,x.Device,x.App,x.Keys,x.IV,x.Seq,x.Fz,x.Hg,x.Ah,x.Cache,x.Ai,x.A7,x.AB,x.Low,x.Out,x.G8,x.Up,())) (fun p=>⟨p.1,p.2.1,p.2.2.1,p.2.2.2.1,p.2.2.2.2.1,p.2.2.2.2.2.1,p.2.2.2.2.2.2.1,p.2.2.2.2.2.2.2.1,p.2.2.2.2.2.2.2.2.1,p.2.2.2.2.2.2.2.2.2.1,p.2.2.2.2.2.2.2.2.2.2.1,p.2.2.2.2.2.2.2.2.2.2.2.1,p.2.2.2.2.2.2.2.2.2.2.2.2.1,p.2.2.2.2.2.2.2.2.2.2.2.2.2.1,p.2.2.2.2.2.2.2.2.2.2.2.2.2.2.1,p.2.2.2.2.2.2.2.2.2.2.2.2.2.2.2.1,p.2.2.2.2.2.2.2.2.2.2.2.2.2.2.2.2.1⟩) (AA.pair D6 (AA.pair E8 (AA.pair E8 (AA.pair Lm (AA.pair OY (AA.pair GG (AA.pair D8 (AA.pair D8 (AA.pair (AA.list 39 1 (fun(a:Int)=>D6.Am a):AA Ty (List (Ty 39))) (AA.pair (AA.list 49 3 (fun(a:Ar)=>.agg (FI.Af a)):AA Ty (List (Ty 49))) (AA.pair (AA.list 138 3 (fun(a:Ar)=>.agg (FI.Af a)):AA Ty (List (Ty 138))) (AA.pair KO (AA.pair Y3 (AA.pair TA (AA.pair (AA.list 120 3 (fun(a:BL)=>.agg (Jo.Af a)):AA Ty (List (Ty 120))) (AA.pair GG (AA.pair D8 AA.unit)))))))))))))))))
def LZ:AA Ty CS:=AA.Bg (fun x=>(x.From,x.To,x.Em,x.Bytes,())) (fun p=>⟨p.1,p.2.1,p.2.2.1,p.2.2.2.1⟩) (AA.pair BM (AA.pair BM (AA.pair BM (AA.pair (AA.list 5 1 (fun(a:Int)=>BZ.Am a):AA Ty (List (Ty 5))) AA.unit))))
def KR:AA Ty Dw:=AA.Bg (fun x=>(x.Src,x.Cf,x.App,x.EL,x.Seq,x.Bytes,())) (fun p=>⟨p.1,p.2.1,p.2.2.1,p.2.2.2.1,p.2.2.2.2.1,p.2.2.2.2.2.1⟩) (AA.pair D6 (AA.pair D6 (AA.pair D8 (AA.pair BM (AA.pair FI (AA.pair (AA.list 5 1 (fun(a:Int)=>BZ.Am a):AA Ty (List (Ty 5))) AA.unit))))))
def Iq:AA Ty BH:=AA.Bg (fun x=>(x.Kind,x.Ik,x.Peer,x.Number,())) (fun p=>⟨p.1,p.2.1,p.2.2.1,p.2.2.2.1⟩) (AA.pair BM (AA.pair KR (AA.pair D6 (AA.pair E8 AA.unit))))
def Ll:AA Ty EE:=AA.Bg (fun x=>(x.Node,x.Time,x.Event,())) (fun p=>⟨p.1,p.2.1,p.2.2.1⟩) (AA.pair BM (AA.pair BM (AA.pair Iq AA.unit)))
def OO:AA Ty Aq:=AA.Bg (fun x=>(x.Ak,x.BA,x.BG,x.Count,x.Now,x.Flight,x.Notes,())) (fun p=>⟨p.1,p.2.1,p.2.2.1,p.2.2.2.1,p.2.2.2.2.1,p.2.2.2.2.2.1,p.2.2.2.2.2.2.1⟩) (AA.pair (AA.list 76 46 (fun(a:Ae)=>.agg (Ht.Af a)):AA Ty (List (Ty 76))) (AA.pair (AA.list 79 2 (fun(a:BR)=>.agg (JI.Af a)):AA Ty (List (Ty 79))) (AA.pair (AA.list 113 2 (fun(a:DK)=>.agg (JG.Af a)):AA Ty (List (Ty 113))) (AA.pair BM (AA.pair BM (AA.pair (AA.list 106 4 (fun(a:CS)=>.agg (LZ.Af a)):AA Ty (List (Ty 106))) (AA.pair (AA.list 55 13 (fun(a:EE)=>.agg (Ll.Af a)):AA Ty (List (Ty 55))) AA.unit)))))))
def OZ:AA Ty DV:=AA.Bg (fun x=>(x.Time,x.Node,x.Kind,x.Cf,x.EL,x.App,x.Bytes,x.Key,x.Number,x.Peer,())) (fun p=>⟨p.1,p.2.1,p.2.2.1,p.2.2.2.1,p.2.2.2.2.1,p.2.2.2.2.2.1,p.2.2.2.2.2.2.1,p.2.2.2.2.2.2.2.1,p.2.2.2.2.2.2.2.2.1,p.2.2.2.2.2.2.2.2.2.1⟩) (AA.pair BM (AA.pair BM (AA.pair BM (AA.pair D6 (AA.pair BM (AA.pair D8 (AA.pair (AA.list 5 1 (fun(a:Int)=>BZ.Am a):AA Ty (List (Ty 5))) (AA.pair E8 (AA.pair BM (AA.pair BM AA.unit))))))))))
def lV:AA Ty I9:=AA.Bg (fun x=>(x.x0,x.x1,())) (fun p=>⟨p.1,p.2.1⟩) (AA.pair GG (AA.pair GG AA.unit))
def Jr:AA Ty EF:=AA.Bg (fun x=>(x.Src,x.Cf,x.EL,x.Lower,())) (fun p=>⟨p.1,p.2.1,p.2.2.1,p.2.2.2.1⟩) (AA.pair D6 (AA.pair D6 (AA.pair BM (AA.pair IU AA.unit))))
def OH:AA Ty DF:=AA.Bg (fun x=>(x.Size,x.Value,())) (fun p=>⟨p.1,p.2.1⟩) (AA.pair BM (AA.pair E8 AA.unit))
def mW:AA Ty Dj:=AA.Bg (fun x=>(x.x0,x.x1,x.x2,x.x3,x.x4,x.x5,())) (fun p=>⟨p.1,p.2.1,p.2.2.1,p.2.2.2.1,p.2.2.2.2.1,p.2.2.2.2.2.1⟩) (AA.pair BZ (AA.pair BZ (AA.pair BZ (AA.pair BZ (AA.pair BZ (AA.pair BZ AA.unit))))))
def Vj:AA Ty Fb:=AA.Bg (fun x=>(x.Zaj,x.GI,x.Index,())) (fun p=>⟨p.1,p.2.1,p.2.2.1⟩) (AA.pair D8 (AA.pair D8 (AA.pair GG AA.unit)))
def lX:AA Ty JS:=AA.Bg (fun x=>(x.DW,x.Z1l,x.X7,())) (fun p=>⟨p.1,p.2.1,p.2.2.1⟩) (AA.pair Q9 (AA.pair KT (AA.pair D8 AA.unit)))
def mF:AA Ty JQ:=AA.Bg (fun x=>(x.IQ,x.Jj,())) (fun p=>⟨p.1,p.2.1⟩) (AA.pair (AA.list 49 3 (fun(a:Ar)=>.agg (FI.Af a)):AA Ty (List (Ty 49))) (AA.pair BM AA.unit))
def mZ:AA Ty Jd:=AA.Bg (fun x=>(x.IQ,x.Jj,())) (fun p=>⟨p.1,p.2.1⟩) (AA.pair (AA.list 138 3 (fun(a:Ar)=>.agg (FI.Af a)):AA Ty (List (Ty 138))) (AA.pair BM AA.unit))
def Zbr:AA Ty yM:=AA.Bg (fun x=>(x.Low,(),(),x.Ed,x.Sent,x.Hz,x.Counter,x.Dropped,())) (fun p=>⟨p.1,p.2.2.2.1,p.2.2.2.2.1,p.2.2.2.2.2.1,p.2.2.2.2.2.2.1,p.2.2.2.2.2.2.2.1⟩) (AA.pair D6 (AA.pair AA.skip (AA.pair AA.skip (AA.pair BM (AA.pair D8 (AA.pair BM (AA.pair BM (AA.pair BM AA.unit))))))))
def Zbp:AA Ty vO:=AA.Bg (fun x=>(x.EP,x.AB,x.Ed,x.Counter,x.Em,x.IB,(),x.Told,x.More,x.Last,())) (fun p=>⟨p.1,p.2.1,p.2.2.1,p.2.2.2.1,p.2.2.2.2.1,p.2.2.2.2.2.1,p.2.2.2.2.2.2.2.1,p.2.2.2.2.2.2.2.2.1,p.2.2.2.2.2.2.2.2.2.1⟩) (AA.pair BM (AA.pair D6 (AA.pair BM (AA.pair BM (AA.pair BM (AA.pair BM (AA.pair AA.skip (AA.pair BM (AA.pair D8 (AA.pair BM AA.unit))))))))))
def Zb9:AA Ty Z8:=AA.Bg (fun x=>(x.Address,x.Device,x.App,x.Keys,x.IV,x.Seq,x.Fz,x.Hg,(),(),(),(),(),x.AB,x.Low,(),x.G8,x.Up,())) (fun p=>⟨p.1,p.2.1,p.2.2.1,p.2.2.2.1,p.2.2.2.2.1,p.2.2.2.2.2.1,p.2.2.2.2.2.2.1,p.2.2.2.2.2.2.2.1,p.2.2.2.2.2.2.2.2.2.2.2.2.2.1,p.2.2.2.2.2.2.2.2.2.2.2.2.2.2.1,p.2.2.2.2.2.2.2.2.2.2.2.2.2.2.2.2.1,p.2.2.2.2.2.2.2.2.2.2.2.2.2.2.2.2.2.1⟩) (AA.pair D6 (AA.pair E8 (AA.pair E8 (AA.pair Lm (AA.pair OY (AA.pair GG (AA.pair D8 (AA.pair D8 (AA.pair AA.skip (AA.pair AA.skip (AA.pair AA.skip (AA.pair AA.skip (AA.pair AA.skip (AA.pair Zbr (AA.pair Zbp (AA.pair AA.skip (AA.pair GG (AA.pair D8 AA.unit))))))))))))))))))
def lQ:AA Ty Je:=AA.Bg (fun x=>(x.Node,x.DL,(),())) (fun p=>⟨p.1,p.2.1⟩) (AA.pair Zb9 (AA.pair BM (AA.pair AA.skip AA.unit)))
@[reducible] def U:CX where
 Ty:=Ty
 Ag:=fun t=>match t with
  | 4=>1
  | 79=>2
  | 113=>2
  | 26=>4
  | 3=>1
  | 5=>1
  | 27=>1
  | 39=>1
  | 49=>3
  | 138=>3
  | 149=>10
  | 135=>11
  | 158=>18
  | 120=>3
  | 76=>46
  | 106=>4
  | 55=>13
  | 33=>7
  | 34=>1
  | 35=>1
  | 43=>10
  | 37=>1
  | 45=>1
  | 40=>1
  | 41=>1
  | 366=>2
  | 47=>1
  | 29=>1
  | 23=>1
  | 24=>1
  | 30=>1
  | 31=>1
  | 62=>1
  | 63=>1
  | 64=>1
  | 65=>1
  | 66=>1
  | 69=>1
  | 74=>1
  | 133=>1
  | 59=>11
  | 61=>3
  | 71=>8
  | 73=>10
  | 96=>1
  | 57=>5
  | 9=>1
  | 207=>1
  | 68=>2
  | 44=>1
  | 53=>11
  | 100=>1
  | 128=>1
  | 117=>1
  | 101=>1
  | 156=>10
  | 213=>1
  | 214=>1
  | 219=>13
  | 270=>1
  | 154=>8
  | 179=>1
  | 182=>1
  | 184=>1
  | 262=>1
  | 276=>2
  | 328=>1
  | 51=>8
  | 228=>1
  | 335=>6
  | 279=>1
  | 245=>1
  | 247=>1
  | 248=>1
  | 250=>1
  | 221=>3
  | 226=>1
  | 230=>1
  | 282=>1
  | 284=>1
  | 286=>1
  | 233=>14
  | 240=>1
  | 310=>1
  | 311=>1
  | 315=>1
  | 292=>2
  | 360=>2
  | 170=>1
  | _=>0
 enc:=fun t=>match t with
  | 130=>fun(a:Je)=>lQ.Pn 48 a
  | 4=>fun(a:Bool)=>D8.Am a
  | 79=>fun(a:BR)=>.agg (JI.Af a)
  | 113=>fun(a:DK)=>.agg (JG.Af a)
  | 26=>fun(a:F7)=>.agg (Vu.Af a)
  | 3=>fun(a:Int)=>BM.Am a
  | 5=>fun(a:Int)=>BZ.Am a
  | 27=>fun(a:List Int)=>((AA.list 5 1 (fun(a:Int)=>BZ.Am a):AA Ty (List (Ty 5)))).Am a
  | 39=>fun(a:Int)=>D6.Am a
  | 49=>fun(a:Ar)=>.agg (FI.Af a)
  | 138=>fun(a:Ar)=>.agg (FI.Af a)
  | 149=>fun(a:DJ)=>.agg (L6.Af a)
  | 135=>fun(a:D9)=>.agg (LY.Af a)
  | 158=>fun(a:Gh)=>.agg (LV.Af a)
  | 120=>fun(a:BL)=>.agg (Jo.Af a)
  | 76=>fun(a:Ae)=>.agg (Ht.Af a)
  | 106=>fun(a:CS)=>.agg (LZ.Af a)
  | 55=>fun(a:EE)=>.agg (Ll.Af a)
  | 33=>fun(a:Aq)=>.agg (OO.Af a)
  | 34=>fun(a:Int)=>BM.Am a
  | 35=>fun(a:Aq×Aq×Int×Bool)=>.Ap [(.agg (OO.Af a.1)),(.agg (OO.Af a.2.1)),(BM.Am a.2.2.1),(D8.Am a.2.2.2)]
  | 43=>fun(a:DV)=>.agg (OZ.Af a)
  | 37=>fun(a:Aq×Int)=>.Ap [(.agg (OO.Af a.1)),(BM.Am a.2)]
  | 45=>fun(a:List Int)=>((AA.list 3 1 (fun(a:Int)=>BM.Am a):AA Ty (List (Ty 3)))).Am a
  | 40=>fun(a:Int)=>E8.Am a
  | 41=>fun(a:Int)=>E8.Am a
  | 366=>fun(a:I9)=>.agg (lV.Af a)
  | 47=>fun(a:Int)=>GG.Am a
  | 29=>fun(a:List Ae)=>((AA.list 76 46 (fun(a:Ae)=>.agg (Ht.Af a)):AA Ty (List (Ty 76)))).Am a
  | 23=>fun(a:List BR)=>((AA.list 79 2 (fun(a:BR)=>.agg (JI.Af a)):AA Ty (List (Ty 79)))).Am a
  | 24=>fun(a:List DK)=>((AA.list 113 2 (fun(a:DK)=>.agg (JG.Af a)):AA Ty (List (Ty 113)))).Am a
  | 30=>fun(a:List CS)=>((AA.list 106 4 (fun(a:CS)=>.agg (LZ.Af a)):AA Ty (List (Ty 106)))).Am a
  | 31=>fun(a:List EE)=>((AA.list 55 13 (fun(a:EE)=>.agg (Ll.Af a)):AA Ty (List (Ty 55)))).Am a
  | 62=>fun(a:List Int)=>((AA.list 39 1 (fun(a:Int)=>D6.Am a):AA Ty (List (Ty 39)))).Am a
  | 63=>fun(a:List Ar)=>((AA.list 49 3 (fun(a:Ar)=>.agg (FI.Af a)):AA Ty (List (Ty 49)))).Am a
  | 64=>fun(a:List Ar)=>((AA.list 138 3 (fun(a:Ar)=>.agg (FI.Af a)):AA Ty (List (Ty 138)))).Am a
  | 65=>fun(a:List DJ)=>((AA.list 149 10 (fun(a:DJ)=>.agg (L6.Af a)):AA Ty (List (Ty 149)))).Am a
  | 66=>fun(a:List D9)=>((AA.list 135 11 (fun(a:D9)=>.agg (LY.Af a)):AA Ty (List (Ty 135)))).Am a
  | 69=>fun(a:List Gh)=>((AA.list 158 18 (fun(a:Gh)=>.agg (LV.Af a)):AA Ty (List (Ty 158)))).Am a
  | 74=>fun(a:List BL)=>((AA.list 120 3 (fun(a:BL)=>.agg (Jo.Af a)):AA Ty (List (Ty 120)))).Am a
  | 133=>fun(a:List (List Int))=>((AA.list 27 1 (fun(a:List Int)=>((AA.list 5 1 (fun(a:Int)=>BZ.Am a):AA Ty (List (Ty 5)))).Am a):AA Ty (List (Ty 27)))).Am a
  | 59=>fun(a:EM)=>.agg (Lm.Af a)
  | 61=>fun(a:CY)=>.agg (OY.Af a)
  | 71=>fun(a:EG)=>.agg (Y3.Af a)
  | 73=>fun(a:Df)=>.agg (TA.Af a)
  | 96=>fun(a:Ae×Int)=>.Ap [(.agg (Ht.Af a.1)),(BM.Am a.2)]
  | 57=>fun(a:Bh)=>.agg (KT.Af a)
  | 9=>fun(a:ByteArray)=>cst.Am a
  | 207=>fun(a:List Int)=>((AA.list 40 1 (fun(a:Int)=>E8.Am a):AA Ty (List (Ty 40)))).Am a
  | 68=>fun(a:BV)=>.agg (KO.Af a)
  | 44=>fun(a:List DV)=>((AA.list 43 10 (fun(a:DV)=>.agg (OZ.Af a)):AA Ty (List (Ty 43)))).Am a
  | 53=>fun(a:BH)=>.agg (Iq.Af a)
  | 100=>fun(a:List BH)=>((AA.list 53 11 (fun(a:BH)=>.agg (Iq.Af a)):AA Ty (List (Ty 53)))).Am a
  | 128=>fun(a:Ae×(List BH))=>.Ap [(.agg (Ht.Af a.1)),(((AA.list 53 11 (fun(a:BH)=>.agg (Iq.Af a)):AA Ty (List (Ty 53)))).Am a.2)]
  | 117=>fun(a:Ae×(List BL)×(List BH))=>.Ap [(.agg (Ht.Af a.1)),(((AA.list 120 3 (fun(a:BL)=>.agg (Jo.Af a)):AA Ty (List (Ty 120)))).Am a.2.1),(((AA.list 53 11 (fun(a:BH)=>.agg (Iq.Af a)):AA Ty (List (Ty 53)))).Am a.2.2)]
  | 101=>fun(a:Ae×(List BH)×Int)=>.Ap [(.agg (Ht.Af a.1)),(((AA.list 53 11 (fun(a:BH)=>.agg (Iq.Af a)):AA Ty (List (Ty 53)))).Am a.2.1),(BM.Am a.2.2)]
  | 156=>fun(a:Bc)=>.agg (IU.Af a)
  | 213=>fun(a:List Bc)=>((AA.list 156 10 (fun(a:Bc)=>.agg (IU.Af a)):AA Ty (List (Ty 156)))).Am a
  | 214=>fun(a:BV×(List Bc)×Int)=>.Ap [(.agg (KO.Af a.1)),(((AA.list 156 10 (fun(a:Bc)=>.agg (IU.Af a)):AA Ty (List (Ty 156)))).Am a.2.1),(BM.Am a.2.2)]
  | 219=>fun(a:EF)=>.agg (Jr.Af a)
  | 270=>fun(a:(List Int)×Int)=>.Ap [(((AA.list 5 1 (fun(a:Int)=>BZ.Am a):AA Ty (List (Ty 5)))).Am a.1),(BM.Am a.2)]
  | 154=>fun(a:CG)=>.agg (Q9.Af a)
  | 179=>fun(a:EM×Int)=>.Ap [(.agg (Lm.Af a.1)),(BM.Am a.2)]
  | 182=>fun(a:EM×Bool)=>.Ap [(.agg (Lm.Af a.1)),(D8.Am a.2)]
  | 184=>fun(a:CY×Int)=>.Ap [(.agg (OY.Af a.1)),(BM.Am a.2)]
  | 262=>fun(a:Int×(List Int))=>.Ap [(E8.Am a.1),(((AA.list 5 1 (fun(a:Int)=>BZ.Am a):AA Ty (List (Ty 5)))).Am a.2)]
  | 276=>fun(a:DF)=>.agg (OH.Af a)
  | 328=>fun(a:List DF)=>((AA.list 276 2 (fun(a:DF)=>.agg (OH.Af a)):AA Ty (List (Ty 276)))).Am a
  | 51=>fun(a:Dw)=>.agg (KR.Af a)
  | 228=>fun(a:List Bh)=>((AA.list 57 5 (fun(a:Bh)=>.agg (KT.Af a)):AA Ty (List (Ty 57)))).Am a
  | 335=>fun(a:Dj)=>.agg (mW.Af a)
  | 279=>fun(a:(List Int)×(List Int)×Int)=>.Ap [(((AA.list 40 1 (fun(a:Int)=>E8.Am a):AA Ty (List (Ty 40)))).Am a.1),(((AA.list 5 1 (fun(a:Int)=>BZ.Am a):AA Ty (List (Ty 5)))).Am a.2.1),(BM.Am a.2.2)]
  | 245=>fun(a:Df×(List Bc))=>.Ap [(.agg (TA.Af a.1)),(((AA.list 156 10 (fun(a:Bc)=>.agg (IU.Af a)):AA Ty (List (Ty 156)))).Am a.2)]
  | 247=>fun(a:List EF)=>((AA.list 219 13 (fun(a:EF)=>.agg (Jr.Af a)):AA Ty (List (Ty 219)))).Am a
  | 248=>fun(a:BV×(List EF)×(List Int))=>.Ap [(.agg (KO.Af a.1)),(((AA.list 219 13 (fun(a:EF)=>.agg (Jr.Af a)):AA Ty (List (Ty 219)))).Am a.2.1),(((AA.list 39 1 (fun(a:Int)=>D6.Am a):AA Ty (List (Ty 39)))).Am a.2.2)]
  | 250=>fun(a:BV×(List EF))=>.Ap [(.agg (KO.Af a.1)),(((AA.list 219 13 (fun(a:EF)=>.agg (Jr.Af a)):AA Ty (List (Ty 219)))).Am a.2)]
  | 221=>fun(a:Fb)=>.agg (Vj.Af a)
  | 226=>fun(a:Fb×Int×Int)=>.Ap [(.agg (Vj.Af a.1)),(BM.Am a.2.1),(BM.Am a.2.2)]
  | 230=>fun(a:EM×CY)=>.Ap [(.agg (Lm.Af a.1)),(.agg (OY.Af a.2))]
  | 282=>fun(a:Int×Int×Int)=>.Ap [(BM.Am a.1),(BM.Am a.2.1),(BM.Am a.2.2)]
  | 284=>fun(a:Int×Bool)=>.Ap [(GG.Am a.1),(D8.Am a.2)]
  | 286=>fun(a:CG×Int)=>.Ap [(.agg (Q9.Af a.1)),(BM.Am a.2)]
  | 233=>fun(a:JS)=>.agg (lX.Af a)
  | 240=>fun(a:Bc×Int)=>.Ap [(.agg (IU.Af a.1)),(BM.Am a.2)]
  | 310=>fun(a:List Dw)=>((AA.list 51 8 (fun(a:Dw)=>.agg (KR.Af a)):AA Ty (List (Ty 51)))).Am a
  | 311=>fun(a:BV×(List Dw)×Bool)=>.Ap [(.agg (KO.Af a.1)),(((AA.list 51 8 (fun(a:Dw)=>.agg (KR.Af a)):AA Ty (List (Ty 51)))).Am a.2.1),(D8.Am a.2.2)]
  | 315=>fun(a:(List Ar)×Int)=>.Ap [(((AA.list 138 3 (fun(a:Ar)=>.agg (FI.Af a)):AA Ty (List (Ty 138)))).Am a.1),(BM.Am a.2)]
  | 292=>fun(a:JQ)=>.agg (mF.Af a)
  | 360=>fun(a:Jd)=>.agg (mZ.Af a)
  | 170=>fun(a:Int)=>E8.Am a
  | _=>fun _=>.no
 encS:=fun t=>match t with
  | 130=>fun(a:Je)=>.raw (lQ.Pn 48 a)
  | 4=>fun(a:Bool)=>D8.Bq a
  | 79=>fun(a:BR)=>.agg (JI.encS a)
  | 113=>fun(a:DK)=>.agg (JG.encS a)
  | 26=>fun(a:F7)=>.agg (Vu.encS a)
  | 3=>fun(a:Int)=>BM.Bq a
  | 5=>fun(a:Int)=>BZ.Bq a
  | 27=>fun(a:List Int)=>((AA.list 5 1 (fun(a:Int)=>BZ.Am a):AA Ty (List (Ty 5)))).Bq a
  | 39=>fun(a:Int)=>D6.Bq a
  | 49=>fun(a:Ar)=>.agg (FI.encS a)
  | 138=>fun(a:Ar)=>.agg (FI.encS a)
  | 149=>fun(a:DJ)=>.agg (L6.encS a)
  | 135=>fun(a:D9)=>.agg (LY.encS a)
  | 158=>fun(a:Gh)=>.agg (LV.encS a)
  | 120=>fun(a:BL)=>.agg (Jo.encS a)
  | 76=>fun(a:Ae)=>.agg (Ht.encS a)
  | 106=>fun(a:CS)=>.agg (LZ.encS a)
  | 55=>fun(a:EE)=>.agg (Ll.encS a)
  | 33=>fun(a:Aq)=>.agg (OO.encS a)
  | 34=>fun(a:Int)=>BM.Bq a
  | 35=>fun(a:Aq×Aq×Int×Bool)=>.Ap [(.agg (OO.encS a.1)),(.agg (OO.encS a.2.1)),(BM.Bq a.2.2.1),(D8.Bq a.2.2.2)]
  | 43=>fun(a:DV)=>.agg (OZ.encS a)
  | 37=>fun(a:Aq×Int)=>.Ap [(.agg (OO.encS a.1)),(BM.Bq a.2)]
  | 45=>fun(a:List Int)=>((AA.list 3 1 (fun(a:Int)=>BM.Am a):AA Ty (List (Ty 3)))).Bq a
  | 40=>fun(a:Int)=>E8.Bq a
  | 41=>fun(a:Int)=>E8.Bq a
  | 366=>fun(a:I9)=>.agg (lV.encS a)
  | 47=>fun(a:Int)=>GG.Bq a
  | 29=>fun(a:List Ae)=>((AA.list 76 46 (fun(a:Ae)=>.agg (Ht.Af a)):AA Ty (List (Ty 76)))).Bq a
  | 23=>fun(a:List BR)=>((AA.list 79 2 (fun(a:BR)=>.agg (JI.Af a)):AA Ty (List (Ty 79)))).Bq a
  | 24=>fun(a:List DK)=>((AA.list 113 2 (fun(a:DK)=>.agg (JG.Af a)):AA Ty (List (Ty 113)))).Bq a
  | 30=>fun(a:List CS)=>((AA.list 106 4 (fun(a:CS)=>.agg (LZ.Af a)):AA Ty (List (Ty 106)))).Bq a
  | 31=>fun(a:List EE)=>((AA.list 55 13 (fun(a:EE)=>.agg (Ll.Af a)):AA Ty (List (Ty 55)))).Bq a
  | 62=>fun(a:List Int)=>((AA.list 39 1 (fun(a:Int)=>D6.Am a):AA Ty (List (Ty 39)))).Bq a
  | 63=>fun(a:List Ar)=>((AA.list 49 3 (fun(a:Ar)=>.agg (FI.Af a)):AA Ty (List (Ty 49)))).Bq a
  | 64=>fun(a:List Ar)=>((AA.list 138 3 (fun(a:Ar)=>.agg (FI.Af a)):AA Ty (List (Ty 138)))).Bq a
  | 65=>fun(a:List DJ)=>((AA.list 149 10 (fun(a:DJ)=>.agg (L6.Af a)):AA Ty (List (Ty 149)))).Bq a
  | 66=>fun(a:List D9)=>((AA.list 135 11 (fun(a:D9)=>.agg (LY.Af a)):AA Ty (List (Ty 135)))).Bq a
  | 69=>fun(a:List Gh)=>((AA.list 158 18 (fun(a:Gh)=>.agg (LV.Af a)):AA Ty (List (Ty 158)))).Bq a
  | 74=>fun(a:List BL)=>((AA.list 120 3 (fun(a:BL)=>.agg (Jo.Af a)):AA Ty (List (Ty 120)))).Bq a
  | 133=>fun(a:List (List Int))=>((AA.list 27 1 (fun(a:List Int)=>((AA.list 5 1 (fun(a:Int)=>BZ.Am a):AA Ty (List (Ty 5)))).Am a):AA Ty (List (Ty 27)))).Bq a
  | 59=>fun(a:EM)=>.agg (Lm.encS a)
  | 61=>fun(a:CY)=>.agg (OY.encS a)
  | 71=>fun(a:EG)=>.agg (Y3.encS a)
  | 73=>fun(a:Df)=>.agg (TA.encS a)
  | 96=>fun(a:Ae×Int)=>.Ap [(.agg (Ht.encS a.1)),(BM.Bq a.2)]
  | 57=>fun(a:Bh)=>.agg (KT.encS a)
  | 9=>fun(a:ByteArray)=>cst.Bq a
  | 207=>fun(a:List Int)=>((AA.list 40 1 (fun(a:Int)=>E8.Am a):AA Ty (List (Ty 40)))).Bq a
  | 68=>fun(a:BV)=>.agg (KO.encS a)
  | 44=>fun(a:List DV)=>((AA.list 43 10 (fun(a:DV)=>.agg (OZ.Af a)):AA Ty (List (Ty 43)))).Bq a
  | 53=>fun(a:BH)=>.agg (Iq.encS a)
  | 100=>fun(a:List BH)=>((AA.list 53 11 (fun(a:BH)=>.agg (Iq.Af a)):AA Ty (List (Ty 53)))).Bq a
  | 128=>fun(a:Ae×(List BH))=>.Ap [(.agg (Ht.encS a.1)),(((AA.list 53 11 (fun(a:BH)=>.agg (Iq.Af a)):AA Ty (List (Ty 53)))).Bq a.2)]
  | 117=>fun(a:Ae×(List BL)×(List BH))=>.Ap [(.agg (Ht.encS a.1)),(((AA.list 120 3 (fun(a:BL)=>.agg (Jo.Af a)):AA Ty (List (Ty 120)))).Bq a.2.1),(((AA.list 53 11 (fun(a:BH)=>.agg (Iq.Af a)):AA Ty (List (Ty 53)))).Bq a.2.2)]
  | 101=>fun(a:Ae×(List BH)×Int)=>.Ap [(.agg (Ht.encS a.1)),(((AA.list 53 11 (fun(a:BH)=>.agg (Iq.Af a)):AA Ty (List (Ty 53)))).Bq a.2.1),(BM.Bq a.2.2)]
  | 156=>fun(a:Bc)=>.agg (IU.encS a)
  | 213=>fun(a:List Bc)=>((AA.list 156 10 (fun(a:Bc)=>.agg (IU.Af a)):AA Ty (List (Ty 156)))).Bq a
  | 214=>fun(a:BV×(List Bc)×Int)=>.Ap [(.agg (KO.encS a.1)),(((AA.list 156 10 (fun(a:Bc)=>.agg (IU.Af a)):AA Ty (List (Ty 156)))).Bq a.2.1),(BM.Bq a.2.2)]
  | 219=>fun(a:EF)=>.agg (Jr.encS a)
  | 270=>fun(a:(List Int)×Int)=>.Ap [(((AA.list 5 1 (fun(a:Int)=>BZ.Am a):AA Ty (List (Ty 5)))).Bq a.1),(BM.Bq a.2)]
  | 154=>fun(a:CG)=>.agg (Q9.encS a)
  | 179=>fun(a:EM×Int)=>.Ap [(.agg (Lm.encS a.1)),(BM.Bq a.2)]
  | 182=>fun(a:EM×Bool)=>.Ap [(.agg (Lm.encS a.1)),(D8.Bq a.2)]
  | 184=>fun(a:CY×Int)=>.Ap [(.agg (OY.encS a.1)),(BM.Bq a.2)]
  | 262=>fun(a:Int×(List Int))=>.Ap [(E8.Bq a.1),(((AA.list 5 1 (fun(a:Int)=>BZ.Am a):AA Ty (List (Ty 5)))).Bq a.2)]
  | 276=>fun(a:DF)=>.agg (OH.encS a)
  | 328=>fun(a:List DF)=>((AA.list 276 2 (fun(a:DF)=>.agg (OH.Af a)):AA Ty (List (Ty 276)))).Bq a
  | 51=>fun(a:Dw)=>.agg (KR.encS a)
  | 228=>fun(a:List Bh)=>((AA.list 57 5 (fun(a:Bh)=>.agg (KT.Af a)):AA Ty (List (Ty 57)))).Bq a
  | 335=>fun(a:Dj)=>.agg (mW.encS a)
  | 279=>fun(a:(List Int)×(List Int)×Int)=>.Ap [(((AA.list 40 1 (fun(a:Int)=>E8.Am a):AA Ty (List (Ty 40)))).Bq a.1),(((AA.list 5 1 (fun(a:Int)=>BZ.Am a):AA Ty (List (Ty 5)))).Bq a.2.1),(BM.Bq a.2.2)]
  | 245=>fun(a:Df×(List Bc))=>.Ap [(.agg (TA.encS a.1)),(((AA.list 156 10 (fun(a:Bc)=>.agg (IU.Af a)):AA Ty (List (Ty 156)))).Bq a.2)]
  | 247=>fun(a:List EF)=>((AA.list 219 13 (fun(a:EF)=>.agg (Jr.Af a)):AA Ty (List (Ty 219)))).Bq a
  | 248=>fun(a:BV×(List EF)×(List Int))=>.Ap [(.agg (KO.encS a.1)),(((AA.list 219 13 (fun(a:EF)=>.agg (Jr.Af a)):AA Ty (List (Ty 219)))).Bq a.2.1),(((AA.list 39 1 (fun(a:Int)=>D6.Am a):AA Ty (List (Ty 39)))).Bq a.2.2)]
  | 250=>fun(a:BV×(List EF))=>.Ap [(.agg (KO.encS a.1)),(((AA.list 219 13 (fun(a:EF)=>.agg (Jr.Af a)):AA Ty (List (Ty 219)))).Bq a.2)]
  | 221=>fun(a:Fb)=>.agg (Vj.encS a)
  | 226=>fun(a:Fb×Int×Int)=>.Ap [(.agg (Vj.encS a.1)),(BM.Bq a.2.1),(BM.Bq a.2.2)]
  | 230=>fun(a:EM×CY)=>.Ap [(.agg (Lm.encS a.1)),(.agg (OY.encS a.2))]
  | 282=>fun(a:Int×Int×Int)=>.Ap [(BM.Bq a.1),(BM.Bq a.2.1),(BM.Bq a.2.2)]
  | 284=>fun(a:Int×Bool)=>.Ap [(GG.Bq a.1),(D8.Bq a.2)]
  | 286=>fun(a:CG×Int)=>.Ap [(.agg (Q9.encS a.1)),(BM.Bq a.2)]
  | 233=>fun(a:JS)=>.agg (lX.encS a)
  | 240=>fun(a:Bc×Int)=>.Ap [(.agg (IU.encS a.1)),(BM.Bq a.2)]
  | 310=>fun(a:List Dw)=>((AA.list 51 8 (fun(a:Dw)=>.agg (KR.Af a)):AA Ty (List (Ty 51)))).Bq a
  | 311=>fun(a:BV×(List Dw)×Bool)=>.Ap [(.agg (KO.encS a.1)),(((AA.list 51 8 (fun(a:Dw)=>.agg (KR.Af a)):AA Ty (List (Ty 51)))).Bq a.2.1),(D8.Bq a.2.2)]
  | 315=>fun(a:(List Ar)×Int)=>.Ap [(((AA.list 138 3 (fun(a:Ar)=>.agg (FI.Af a)):AA Ty (List (Ty 138)))).Bq a.1),(BM.Bq a.2)]
  | 292=>fun(a:JQ)=>.agg (mF.encS a)
  | 360=>fun(a:Jd)=>.agg (mZ.encS a)
  | 170=>fun(a:Int)=>E8.Bq a
  | _=>fun _=>.no
 Gq:=fun t=>match t with
  | 130=>fun v=>lQ.ptrD 48 v
  | 4=>fun v=>D8.one v
  | 79=>fun v=>JI.agg v
  | 113=>fun v=>JG.agg v
  | 26=>fun v=>Vu.agg v
  | 3=>fun v=>BM.one v
  | 5=>fun v=>BZ.one v
  | 27=>fun v=>((AA.list 5 1 (fun(a:Int)=>BZ.Am a):AA Ty (List (Ty 5)))).one v
  | 39=>fun v=>D6.one v
  | 49=>fun v=>FI.agg v
  | 138=>fun v=>FI.agg v
  | 149=>fun v=>L6.agg v
  | 135=>fun v=>LY.agg v
  | 158=>fun v=>LV.agg v
  | 120=>fun v=>Jo.agg v
  | 76=>fun v=>Ht.agg v
  | 106=>fun v=>LZ.agg v
  | 55=>fun v=>Ll.agg v
  | 33=>fun v=>OO.agg v
  | 34=>fun v=>BM.one v
  | 35=>fun _=>none
  | 43=>fun v=>OZ.agg v
  | 37=>fun _=>none
  | 45=>fun v=>((AA.list 3 1 (fun(a:Int)=>BM.Am a):AA Ty (List (Ty 3)))).one v
  | 40=>fun v=>E8.one v
  | 41=>fun v=>E8.one v
  | 366=>fun v=>lV.agg v
  | 47=>fun v=>GG.one v
  | 29=>fun v=>((AA.list 76 46 (fun(a:Ae)=>.agg (Ht.Af a)):AA Ty (List (Ty 76)))).one v
  | 23=>fun v=>((AA.list 79 2 (fun(a:BR)=>.agg (JI.Af a)):AA Ty (List (Ty 79)))).one v
  | 24=>fun v=>((AA.list 113 2 (fun(a:DK)=>.agg (JG.Af a)):AA Ty (List (Ty 113)))).one v
  | 30=>fun v=>((AA.list 106 4 (fun(a:CS)=>.agg (LZ.Af a)):AA Ty (List (Ty 106)))).one v
  | 31=>fun v=>((AA.list 55 13 (fun(a:EE)=>.agg (Ll.Af a)):AA Ty (List (Ty 55)))).one v
  | 62=>fun v=>((AA.list 39 1 (fun(a:Int)=>D6.Am a):AA Ty (List (Ty 39)))).one v
  | 63=>fun v=>((AA.list 49 3 (fun(a:Ar)=>.agg (FI.Af a)):AA Ty (List (Ty 49)))).one v
  | 64=>fun v=>((AA.list 138 3 (fun(a:Ar)=>.agg (FI.Af a)):AA Ty (List (Ty 138)))).one v
  | 65=>fun v=>((AA.list 149 10 (fun(a:DJ)=>.agg (L6.Af a)):AA Ty (List (Ty 149)))).one v
  | 66=>fun v=>((AA.list 135 11 (fun(a:D9)=>.agg (LY.Af a)):AA Ty (List (Ty 135)))).one v
  | 69=>fun v=>((AA.list 158 18 (fun(a:Gh)=>.agg (LV.Af a)):AA Ty (List (Ty 158)))).one v
  | 74=>fun v=>((AA.list 120 3 (fun(a:BL)=>.agg (Jo.Af a)):AA Ty (List (Ty 120)))).one v
  | 133=>fun v=>((AA.list 27 1 (fun(a:List Int)=>((AA.list 5 1 (fun(a:Int)=>BZ.Am a):AA Ty (List (Ty 5)))).Am a):AA Ty (List (Ty 27)))).one v
  | 59=>fun v=>Lm.agg v
  | 61=>fun v=>OY.agg v
  | 71=>fun v=>Y3.agg v
  | 73=>fun v=>TA.agg v
  | 96=>fun _=>none
  | 57=>fun v=>KT.agg v
  | 9=>fun v=>cst.one v
  | 207=>fun v=>((AA.list 40 1 (fun(a:Int)=>E8.Am a):AA Ty (List (Ty 40)))).one v
  | 68=>fun v=>KO.agg v
  | 44=>fun v=>((AA.list 43 10 (fun(a:DV)=>.agg (OZ.Af a)):AA Ty (List (Ty 43)))).one v
  | 53=>fun v=>Iq.agg v
  | 100=>fun v=>((AA.list 53 11 (fun(a:BH)=>.agg (Iq.Af a)):AA Ty (List (Ty 53)))).one v
  | 128=>fun _=>none
  | 117=>fun _=>none
  | 101=>fun _=>none
  | 156=>fun v=>IU.agg v
  | 213=>fun v=>((AA.list 156 10 (fun(a:Bc)=>.agg (IU.Af a)):AA Ty (List (Ty 156)))).one v
  | 214=>fun _=>none
  | 219=>fun v=>Jr.agg v
  | 270=>fun _=>none
  | 154=>fun v=>Q9.agg v
  | 179=>fun _=>none
  | 182=>fun _=>none
  | 184=>fun _=>none
  | 262=>fun _=>none
  | 276=>fun v=>OH.agg v
  | 328=>fun v=>((AA.list 276 2 (fun(a:DF)=>.agg (OH.Af a)):AA Ty (List (Ty 276)))).one v
  | 51=>fun v=>KR.agg v
  | 228=>fun v=>((AA.list 57 5 (fun(a:Bh)=>.agg (KT.Af a)):AA Ty (List (Ty 57)))).one v
  | 335=>fun v=>mW.agg v
  | 279=>fun _=>none
  | 245=>fun _=>none
  | 247=>fun v=>((AA.list 219 13 (fun(a:EF)=>.agg (Jr.Af a)):AA Ty (List (Ty 219)))).one v
  | 248=>fun _=>none
  | 250=>fun _=>none
  | 221=>fun v=>Vj.agg v
  | 226=>fun _=>none
  | 230=>fun _=>none
  | 282=>fun _=>none
  | 284=>fun _=>none
  | 286=>fun _=>none
  | 233=>fun v=>lX.agg v
  | 240=>fun _=>none
  | 310=>fun v=>((AA.list 51 8 (fun(a:Dw)=>.agg (KR.Af a)):AA Ty (List (Ty 51)))).one v
  | 311=>fun _=>none
  | 315=>fun _=>none
  | 292=>fun v=>mF.agg v
  | 360=>fun v=>mZ.agg v
  | 170=>fun v=>E8.one v
  | _=>fun _=>none
 keys:=[130,4,79,113,26,3,5,27,39,49,138,149,135,158,120,76,106,55,33,34,35,43,37,45,40,41,366,47,29,23,24,30,31,62,63,64,65,66,69,74,133,59,61,71,73,96,57,9,207,68,44,53,100,128,117,101,156,213,214,219,270,154,179,182,184,262,276,328,51,228,335,279,245,247,248,250,221,226,230,282,284,286,233,240,310,311,315,292,360,170]
theorem SK:AP U JI [0,0]:=AP.Bg ((AP.int _).pair ((AP.int _).pair AP.unit)) (fun _=>rfl) (fun _=>rfl)
theorem Rw:AP U JG [0,0]:=AP.Bg ((AP.int _).pair ((AP.int _).pair AP.unit)) (fun _=>rfl) (fun _=>rfl)
theorem ZtP:AP U Vu [1,1,2,2]:=AP.Bg ((AP.list (U:=U) (t:=4) (n:=1) (e:=fun(a:Bool)=>D8.Am a) (fun _=>rfl) rfl (fun a=>(AP.bool:AP U D8 _).Fq a) (fun a b h=>(AP.bool:AP U D8 _).Fg h)).pair ((AP.list (U:=U) (t:=4) (n:=1) (e:=fun(a:Bool)=>D8.Am a) (fun _=>rfl) rfl (fun a=>(AP.bool:AP U D8 _).Fq a) (fun a b h=>(AP.bool:AP U D8 _).Fg h)).pair ((AP.list (U:=U) (t:=79) (n:=2) (e:=fun(a:BR)=>.agg (JI.Af a)) (fun _=>rfl) rfl (fun a=>SK.nr a) (fun a b h=>SK.inj _ _ (by injection h))).pair ((AP.list (U:=U) (t:=113) (n:=2) (e:=fun(a:DK)=>.agg (JG.Af a)) (fun _=>rfl) rfl (fun a=>Rw.nr a) (fun a b h=>Rw.inj _ _ (by injection h))).pair AP.unit)))) (fun _=>rfl) (fun _=>rfl)
theorem J5:AP U FI [0,0,0]:=AP.Bg ((AP.int _).pair ((AP.int _).pair ((AP.int _).pair AP.unit))) (fun _=>rfl) (fun _=>rfl)
theorem Xj:AP U L6 [0,0,0,0,0,1,0,0,0,0]:=AP.Bg ((AP.int _).pair ((AP.int _).pair ((AP.bool).pair ((AP.int _).pair ((AP.int _).pair ((AP.list (U:=U) (t:=27) (n:=1) (e:=fun(a:List Int)=>((AA.list 5 1 (fun(a:Int)=>BZ.Am a):AA Ty (List (Ty 5)))).Am a) (fun _=>rfl) rfl (fun a=>(AP.list (U:=U) (t:=5) (n:=1) (e:=fun(a:Int)=>BZ.Am a) (fun _=>rfl) rfl (fun a=>(AP.int _:AP U BZ _).Fq a) (fun a b h=>(AP.int _:AP U BZ _).Fg h):AP U (AA.list 5 1 (fun(a:Int)=>BZ.Am a):AA Ty (List (Ty 5))) _).Fq a) (fun a b h=>(AP.list (U:=U) (t:=5) (n:=1) (e:=fun(a:Int)=>BZ.Am a) (fun _=>rfl) rfl (fun a=>(AP.int _:AP U BZ _).Fq a) (fun a b h=>(AP.int _:AP U BZ _).Fg h):AP U (AA.list 5 1 (fun(a:Int)=>BZ.Am a):AA Ty (List (Ty 5))) _).Fg h)).pair ((AP.int _).pair ((AP.int _).pair ((AP.int _).pair ((AP.int _).pair AP.unit)))))))))) (fun _=>rfl) (fun _=>rfl)
theorem Xl:AP U LY [0,0,0,0,0,0,1,0,0,0,0]:=AP.Bg ((AP.int _).pair ((AP.int _).pair ((AP.bool).pair ((AP.int _).pair ((AP.int _).pair ((AP.int _).pair ((AP.list (U:=U) (t:=27) (n:=1) (e:=fun(a:List Int)=>((AA.list 5 1 (fun(a:Int)=>BZ.Am a):AA Ty (List (Ty 5)))).Am a) (fun _=>rfl) rfl (fun a=>(AP.list (U:=U) (t:=5) (n:=1) (e:=fun(a:Int)=>BZ.Am a) (fun _=>rfl) rfl (fun a=>(AP.int _:AP U BZ _).Fq a) (fun a b h=>(AP.int _:AP U BZ _).Fg h):AP U (AA.list 5 1 (fun(a:Int)=>BZ.Am a):AA Ty (List (Ty 5))) _).Fq a) (fun a b h=>(AP.list (U:=U) (t:=5) (n:=1) (e:=fun(a:Int)=>BZ.Am a) (fun _=>rfl) rfl (fun a=>(AP.int _:AP U BZ _).Fq a) (fun a b h=>(AP.int _:AP U BZ _).Fg h):AP U (AA.list 5 1 (fun(a:Int)=>BZ.Am a):AA Ty (List (Ty 5))) _).Fg h)).pair ((AP.int _).pair ((AP.int _).pair ((AP.int _).pair ((AP.bool).pair AP.unit))))))))))) (fun _=>rfl) (fun _=>rfl)
theorem Z0m:AP U Q9 [0,0,0,0,0,0,0,1]:=AP.Bg ((AP.int _).pair ((AP.int _).pair ((AP.bool).pair ((AP.int _).pair ((AP.int _).pair ((AP.int _).pair ((AP.int _).pair ((AP.list (U:=U) (t:=5) (n:=1) (e:=fun(a:Int)=>BZ.Am a) (fun _=>rfl) rfl (fun a=>(AP.int _:AP U BZ _).Fq a) (fun a b h=>(AP.int _:AP U BZ _).Fg h)).pair AP.unit)))))))) (fun _=>rfl) (fun _=>rfl)
theorem Xt:AP U IU [0,0,0,0,0,0,0,0,0,1]:=AP.Bg ((AP.bool).pair ((AP.bool).pair ((AP.bool).pair ((AP.int _).pair ((AP.int _).pair ((AP.int _).pair ((AP.int _).pair ((AP.int _).pair ((AP.bool).pair ((AP.list (U:=U) (t:=5) (n:=1) (e:=fun(a:Int)=>BZ.Am a) (fun _=>rfl) rfl (fun a=>(AP.int _:AP U BZ _).Fq a) (fun a b h=>(AP.int _:AP U BZ _).Fg h)).pair AP.unit)))))))))) (fun _=>rfl) (fun _=>rfl)
theorem Xo:AP U LV [0,0,0,0,0,0,0,1,0,0,0,0,0,0,0,0,0,1]:=AP.Bg ((Z0m).pair ((Xt).pair AP.unit)) (fun _=>rfl) (fun _=>rfl)
theorem Xq:AP U Jo [0,1,0]:=AP.Bg ((AP.int _).pair ((AP.list (U:=U) (t:=5) (n:=1) (e:=fun(a:Int)=>BZ.Am a) (fun _=>rfl) rfl (fun a=>(AP.int _:AP U BZ _).Fq a) (fun a b h=>(AP.int _:AP U BZ _).Fg h)).pair ((AP.int _).pair AP.unit))) (fun _=>rfl) (fun _=>rfl)
theorem VY:AP U KT [0,0,0,0,0]:=AP.Bg ((AP.int _).pair ((AP.int _).pair ((AP.int _).pair ((AP.int _).pair ((AP.int _).pair AP.unit))))) (fun _=>rfl) (fun _=>rfl)
theorem Z0R:AP U Lm [0,0,0,0,0,0,0,0,0,0,0]:=AP.Bg ((AP.int _).pair ((VY).pair ((VY).pair AP.unit))) (fun _=>rfl) (fun _=>rfl)
theorem Z0C:AP U OY [0,0,0]:=AP.Bg ((AP.int _).pair ((AP.bool).pair ((AP.int _).pair AP.unit))) (fun _=>rfl) (fun _=>rfl)
theorem ZaV:AP U KO [10,11]:=AP.Bg ((AP.list (U:=U) (t:=149) (n:=10) (e:=fun(a:DJ)=>.agg (L6.Af a)) (fun _=>rfl) rfl (fun a=>Xj.nr a) (fun a b h=>Xj.inj _ _ (by injection h))).pair ((AP.list (U:=U) (t:=135) (n:=11) (e:=fun(a:D9)=>.agg (LY.Af a)) (fun _=>rfl) rfl (fun a=>Xl.nr a) (fun a b h=>Xl.inj _ _ (by injection h))).pair AP.unit)) (fun _=>rfl) (fun _=>rfl)
theorem Zb5:AP U Y3 [0,18,1,0,0,0,0,0]:=AP.Bg ((AP.int _).pair ((AP.list (U:=U) (t:=158) (n:=18) (e:=fun(a:Gh)=>.agg (LV.Af a)) (fun _=>rfl) rfl (fun a=>Xo.nr a) (fun a b h=>Xo.inj _ _ (by injection h))).pair ((AP.list (U:=U) (t:=39) (n:=1) (e:=fun(a:Int)=>D6.Am a) (fun _=>rfl) rfl (fun a=>(AP.int _:AP U D6 _).Fq a) (fun a b h=>(AP.int _:AP U D6 _).Fg h)).pair ((AP.int _).pair ((AP.bool).pair ((AP.int _).pair ((AP.int _).pair ((AP.int _).pair AP.unit)))))))) (fun _=>rfl) (fun _=>rfl)
theorem ZaF:AP U TA [0,0,0,0,0,0,1,0,0,0]:=AP.Bg ((AP.int _).pair ((AP.int _).pair ((AP.int _).pair ((AP.int _).pair ((AP.int _).pair ((AP.int _).pair ((AP.list (U:=U) (t:=39) (n:=1) (e:=fun(a:Int)=>D6.Am a) (fun _=>rfl) rfl (fun a=>(AP.int _:AP U D6 _).Fq a) (fun a b h=>(AP.int _:AP U D6 _).Fg h)).pair ((AP.int _).pair ((AP.bool).pair ((AP.int _).pair AP.unit)))))))))) (fun _=>rfl) (fun _=>rfl)
theorem YF:AP U Ht [0,0,0,0,0,0,0,0,0,0,0,0,0,0,0,0,0,0,0,0,1,3,3,10,11,0,18,1,0,0,0,0,0,0,0,0,0,0,0,1,0,0,0,3,0,0]:=AP.Bg ((AP.int _).pair ((AP.int _).pair ((AP.int _).pair ((Z0R).pair ((Z0C).pair ((AP.int _).pair ((AP.bool).pair ((AP.bool).pair ((AP.list (U:=U) (t:=39) (n:=1) (e:=fun(a:Int)=>D6.Am a) (fun _=>rfl) rfl (fun a=>(AP.int _:AP U D6 _).Fq a) (fun a b h=>(AP.int _:AP U D6 _).Fg h)).pair ((AP.list (U:=U) (t:=49) (n:=3) (e:=fun(a:Ar)=>.agg (FI.Af a)) (fun _=>rfl) rfl (fun a=>J5.nr a) (fun a b h=>J5.inj _ _ (by injection h))).pair ((AP.list (U:=U) (t:=138) (n:=3) (e:=fun(a:Ar)=>.agg (FI.Af a)) (fun _=>rfl) rfl (fun a=>J5.nr a) (fun a b h=>J5.inj _ _ (by injection h))).pair ((ZaV).pair ((Zb5).pair ((ZaF).pair ((AP.list (U:=U) (t:=120) (n:=3) (e:=fun(a:BL)=>.agg (Jo.Af a)) (fun _=>rfl) rfl (fun a=>Xq.nr a) (fun a b h=>Xq.inj _ _ (by injection h))).pair ((AP.int _).pair ((AP.bool).pair AP.unit))))))))))))))))) (fun _=>rfl) (fun _=>rfl)
theorem Xi:AP U LZ [0,0,0,1]:=AP.Bg ((AP.int _).pair ((AP.int _).pair ((AP.int _).pair ((AP.list (U:=U) (t:=5) (n:=1) (e:=fun(a:Int)=>BZ.Am a) (fun _=>rfl) rfl (fun a=>(AP.int _:AP U BZ _).Fq a) (fun a b h=>(AP.int _:AP U BZ _).Fg h)).pair AP.unit)))) (fun _=>rfl) (fun _=>rfl)
theorem kC:AP U KR [0,0,0,0,0,0,0,1]:=AP.Bg ((AP.int _).pair ((AP.int _).pair ((AP.bool).pair ((AP.int _).pair ((J5).pair ((AP.list (U:=U) (t:=5) (n:=1) (e:=fun(a:Int)=>BZ.Am a) (fun _=>rfl) rfl (fun a=>(AP.int _:AP U BZ _).Fq a) (fun a b h=>(AP.int _:AP U BZ _).Fg h)).pair AP.unit)))))) (fun _=>rfl) (fun _=>rfl)
theorem kP:AP U Iq [0,0,0,0,0,0,0,0,1,0,0]:=AP.Bg ((AP.int _).pair ((kC).pair ((AP.int _).pair ((AP.int _).pair AP.unit)))) (fun _=>rfl) (fun _=>rfl)
theorem YD:AP U Ll [0,0,0,0,0,0,0,0,0,0,1,0,0]:=AP.Bg ((AP.int _).pair ((AP.int _).pair ((kP).pair AP.unit))) (fun _=>rfl) (fun _=>rfl)
theorem Zt7:AP U OO [46,2,2,0,0,4,13]:=AP.Bg ((AP.list (U:=U) (t:=76) (n:=46) (e:=fun(a:Ae)=>.agg (Ht.Af a)) (fun _=>rfl) rfl (fun a=>YF.nr a) (fun a b h=>YF.inj _ _ (by injection h))).pair ((AP.list (U:=U) (t:=79) (n:=2) (e:=fun(a:BR)=>.agg (JI.Af a)) (fun _=>rfl) rfl (fun a=>SK.nr a) (fun a b h=>SK.inj _ _ (by injection h))).pair ((AP.list (U:=U) (t:=113) (n:=2) (e:=fun(a:DK)=>.agg (JG.Af a)) (fun _=>rfl) rfl (fun a=>Rw.nr a) (fun a b h=>Rw.inj _ _ (by injection h))).pair ((AP.int _).pair ((AP.int _).pair ((AP.list (U:=U) (t:=106) (n:=4) (e:=fun(a:CS)=>.agg (LZ.Af a)) (fun _=>rfl) rfl (fun a=>Xi.nr a) (fun a b h=>Xi.inj _ _ (by injection h))).pair ((AP.list (U:=U) (t:=55) (n:=13) (e:=fun(a:EE)=>.agg (Ll.Af a)) (fun _=>rfl) rfl (fun a=>YD.nr a) (fun a b h=>YD.inj _ _ (by injection h))).pair AP.unit))))))) (fun _=>rfl) (fun _=>rfl)
theorem Z0G:AP U OZ [0,0,0,0,0,0,1,0,0,0]:=AP.Bg ((AP.int _).pair ((AP.int _).pair ((AP.int _).pair ((AP.int _).pair ((AP.int _).pair ((AP.bool).pair ((AP.list (U:=U) (t:=5) (n:=1) (e:=fun(a:Int)=>BZ.Am a) (fun _=>rfl) rfl (fun a=>(AP.int _:AP U BZ _).Fq a) (fun a b h=>(AP.int _:AP U BZ _).Fg h)).pair ((AP.int _).pair ((AP.int _).pair ((AP.int _).pair AP.unit)))))))))) (fun _=>rfl) (fun _=>rfl)
theorem ZrR:AP U lV [0,0]:=AP.Bg ((AP.int _).pair ((AP.int _).pair AP.unit)) (fun _=>rfl) (fun _=>rfl)
theorem Z0n:AP U Jr [0,0,0,0,0,0,0,0,0,0,0,0,1]:=AP.Bg ((AP.int _).pair ((AP.int _).pair ((AP.int _).pair ((Xt).pair AP.unit)))) (fun _=>rfl) (fun _=>rfl)
theorem Z0r:AP U OH [0,0]:=AP.Bg ((AP.int _).pair ((AP.int _).pair AP.unit)) (fun _=>rfl) (fun _=>rfl)
theorem ZpF:AP U mW [0,0,0,0,0,0]:=AP.Bg ((AP.int _).pair ((AP.int _).pair ((AP.int _).pair ((AP.int _).pair ((AP.int _).pair ((AP.int _).pair AP.unit)))))) (fun _=>rfl) (fun _=>rfl)
theorem ZrS:AP U Vj [0,0,0]:=AP.Bg ((AP.bool).pair ((AP.bool).pair ((AP.int _).pair AP.unit))) (fun _=>rfl) (fun _=>rfl)
theorem Zpx:AP U lX [0,0,0,0,0,0,0,1,0,0,0,0,0,0]:=AP.Bg ((Z0m).pair ((VY).pair ((AP.bool).pair AP.unit))) (fun _=>rfl) (fun _=>rfl)
theorem Zrd:AP U mF [3,0]:=AP.Bg ((AP.list (U:=U) (t:=49) (n:=3) (e:=fun(a:Ar)=>.agg (FI.Af a)) (fun _=>rfl) rfl (fun a=>J5.nr a) (fun a b h=>J5.inj _ _ (by injection h))).pair ((AP.int _).pair AP.unit)) (fun _=>rfl) (fun _=>rfl)
theorem Zri:AP U mZ [3,0]:=AP.Bg ((AP.list (U:=U) (t:=138) (n:=3) (e:=fun(a:Ar)=>.agg (FI.Af a)) (fun _=>rfl) rfl (fun a=>J5.nr a) (fun a b h=>J5.inj _ _ (by injection h))).pair ((AP.int _).pair AP.unit)) (fun _=>rfl) (fun _=>rfl)
theorem rows4:rowsOf Tryz.prog 4=[0]:=by kernel_rfl
abbrev RE (E:Env):Prop:=E.rows=rowsOf Tryz.prog
theorem YT {E} (z:RE E):BP U E 4:=.Eh (c:=D8) (AP.bool) ((congrFun z 4).trans rows4) (fun h=>Zqm h) (fun _=>rfl) (fun _=>rfl) (fun _=>rfl) (fun _=>rfl) (fun _=>rfl)
theorem ZtZ:rowsOf Tryz.prog 79=[0,0]:=by kernel_rfl
theorem ZsM {E} (z:RE E):BP U E 79:=.Es SK ((congrFun z 79).trans ZtZ) (fun _=>rfl) (fun _=>rfl) (fun _=>rfl)
theorem ZqR:rowsOf Tryz.prog 113=[0,0]:=by kernel_rfl
theorem ZqM {E} (z:RE E):BP U E 113:=.Es Rw ((congrFun z 113).trans ZqR) (fun _=>rfl) (fun _=>rfl) (fun _=>rfl)
theorem ZrZ:rowsOf Tryz.prog 26=[1,1,2,2]:=by kernel_rfl
theorem ZtE {E} (z:RE E):BP U E 26:=.Es ZtP ((congrFun z 26).trans ZrZ) (fun _=>rfl) (fun _=>rfl) (fun _=>rfl)
theorem rows3:rowsOf Tryz.prog 3=[0]:=by kernel_rfl
theorem mD {E} (z:RE E):BP U E 3:=.Eh (c:=BM) (AP.int _) ((congrFun z 3).trans rows3) (fun h=>Q5 h) (fun _=>rfl) (fun _=>rfl) (fun _=>rfl) (fun _=>rfl) (fun _=>rfl)
theorem rows5:rowsOf Tryz.prog 5=[0]:=by kernel_rfl
theorem tyok5 {E} (z:RE E):BP U E 5:=.Eh (c:=BZ) (AP.int _) ((congrFun z 5).trans rows5) (fun h=>Q5 h) (fun _=>rfl) (fun _=>rfl) (fun _=>rfl) (fun _=>rfl) (fun _=>rfl)
theorem Ztr:rowsOf Tryz.prog 27=[1]:=by kernel_rfl
theorem lN {E} (z:RE E):BP U E 27:=.Eh (c:=(AA.list 5 1 (fun(a:Int)=>BZ.Am a):AA Ty (List (Ty 5)))) (AP.list (U:=U) (t:=5) (n:=1) (e:=fun(a:Int)=>BZ.Am a) (fun _=>rfl) rfl (fun a=>(AP.int _:AP U BZ _).Fq a) (fun a b h=>(AP.int _:AP U BZ _).Fg h)) ((congrFun z 27).trans Ztr) (fun h=>G6 (U:=U) (t:=5) (n:=1) (e:=fun(a:Int)=>BZ.Am a) h) (fun _=>rfl) (fun _=>rfl) (fun _=>rfl) (fun _=>rfl) (fun _=>rfl)
theorem ZsZ:rowsOf Tryz.prog 39=[0]:=by kernel_rfl
theorem ZtA {E} (z:RE E):BP U E 39:=.Eh (c:=D6) (AP.int _) ((congrFun z 39).trans ZsZ) (fun h=>Q5 h) (fun _=>rfl) (fun _=>rfl) (fun _=>rfl) (fun _=>rfl) (fun _=>rfl)
theorem ZsK:rowsOf Tryz.prog 49=[0,0,0]:=by kernel_rfl
theorem Zth {E} (z:RE E):BP U E 49:=.Es J5 ((congrFun z 49).trans ZsK) (fun _=>rfl) (fun _=>rfl) (fun _=>rfl)
theorem Zrf:rowsOf Tryz.prog 138=[0,0,0]:=by kernel_rfl
theorem Zr4 {E} (z:RE E):BP U E 138:=.Es J5 ((congrFun z 138).trans Zrf) (fun _=>rfl) (fun _=>rfl) (fun _=>rfl)
theorem ZpS:rowsOf Tryz.prog 149=[0,0,0,0,0,1,0,0,0,0]:=by kernel_rfl
theorem ZrO {E} (z:RE E):BP U E 149:=.Es Xj ((congrFun z 149).trans ZpS) (fun _=>rfl) (fun _=>rfl) (fun _=>rfl)
theorem ZqI:rowsOf Tryz.prog 135=[0,0,0,0,0,0,1,0,0,0,0]:=by kernel_rfl
theorem ZqC {E} (z:RE E):BP U E 135:=.Es Xl ((congrFun z 135).trans ZqI) (fun _=>rfl) (fun _=>rfl) (fun _=>rfl)
theorem ZpY:rowsOf Tryz.prog 158=[0,0,0,0,0,0,0,1,0,0,0,0,0,0,0,0,0,1]:=by kernel_rfl
theorem Zq5 {E} (z:RE E):BP U E 158:=.Es Xo ((congrFun z 158).trans ZpY) (fun _=>rfl) (fun _=>rfl) (fun _=>rfl)
theorem ZrP:rowsOf Tryz.prog 120=[0,1,0]:=by kernel_rfl
theorem ZpG {E} (z:RE E):BP U E 120:=.Es Xq ((congrFun z 120).trans ZrP) (fun _=>rfl) (fun _=>rfl) (fun _=>rfl)
theorem Zsf:rowsOf Tryz.prog 76=[0,0,0,0,0,0,0,0,0,0,0,0,0,0,0,0,0,0,0,0,1,3,3,10,11,0,18,1,0,0,0,0,0,0,0,0,0,0,0,1,0,0,0,3,0,0]:=by kernel_rfl
theorem YA {E} (z:RE E):BP U E 76:=.Es YF ((congrFun z 76).trans Zsf) (fun _=>rfl) (fun _=>rfl) (fun _=>rfl)
theorem ZrK:rowsOf Tryz.prog 106=[0,0,0,1]:=by kernel_rfl
theorem ZpD {E} (z:RE E):BP U E 106:=.Es Xi ((congrFun z 106).trans ZrK) (fun _=>rfl) (fun _=>rfl) (fun _=>rfl)
theorem ZtK:rowsOf Tryz.prog 55=[0,0,0,0,0,0,0,0,0,0,1,0,0]:=by kernel_rfl
theorem Zsw {E} (z:RE E):BP U E 55:=.Es YD ((congrFun z 55).trans ZtK) (fun _=>rfl) (fun _=>rfl) (fun _=>rfl)
theorem Zs2:rowsOf Tryz.prog 33=[46,2,2,0,0,4,13]:=by kernel_rfl
theorem kH {E} (z:RE E):BP U E 33:=.Es Zt7 ((congrFun z 33).trans Zs2) (fun _=>rfl) (fun _=>rfl) (fun _=>rfl)
theorem Zst:rowsOf Tryz.prog 34=[0]:=by kernel_rfl
theorem J4 {E} (z:RE E):BP U E 34:=.Eh (c:=BM) (AP.int _) ((congrFun z 34).trans Zst) (fun h=>Q5 h) (fun _=>rfl) (fun _=>rfl) (fun _=>rfl) (fun _=>rfl) (fun _=>rfl)
theorem Zsv {E} (z:RE E):BP U E 35:=.Ap [⟨33,fun a=>a.1⟩,⟨33,fun a=>a.2.1⟩,⟨34,fun a=>a.2.2.1⟩,⟨4,fun a=>a.2.2.2⟩] ⟨kH z,kH z,J4 z,YT z,trivial⟩ (fun _=>rfl) (fun _=>rfl) (fun _=>rfl) fun _ _ h=>Prod.ext h.1 (Prod.ext h.2.1 (Prod.ext h.2.2.1 h.2.2.2.1))
theorem ZsW:rowsOf Tryz.prog 43=[0,0,0,0,0,0,1,0,0,0]:=by kernel_rfl
theorem ZsQ {E} (z:RE E):BP U E 43:=.Es Z0G ((congrFun z 43).trans ZsW) (fun _=>rfl) (fun _=>rfl) (fun _=>rfl)
theorem Zt0 {E} (z:RE E):BP U E 37:=.Ap [⟨33,fun a=>a.1⟩,⟨34,fun a=>a.2⟩] ⟨kH z,J4 z,trivial⟩ (fun _=>rfl) (fun _=>rfl) (fun _=>rfl) fun _ _ h=>Prod.ext h.1 h.2.1
theorem Ztq:rowsOf Tryz.prog 45=[1]:=by kernel_rfl
theorem ZtG {E} (z:RE E):BP U E 45:=.Eh (c:=(AA.list 3 1 (fun(a:Int)=>BM.Am a):AA Ty (List (Ty 3)))) (AP.list (U:=U) (t:=3) (n:=1) (e:=fun(a:Int)=>BM.Am a) (fun _=>rfl) rfl (fun a=>(AP.int _:AP U BM _).Fq a) (fun a b h=>(AP.int _:AP U BM _).Fg h)) ((congrFun z 45).trans Ztq) (fun h=>G6 (U:=U) (t:=3) (n:=1) (e:=fun(a:Int)=>BM.Am a) h) (fun _=>rfl) (fun _=>rfl) (fun _=>rfl) (fun _=>rfl) (fun _=>rfl)
theorem Ztv:rowsOf Tryz.prog 40=[0]:=by kernel_rfl
theorem ZaN {E} (z:RE E):BP U E 40:=.Eh (c:=E8) (AP.int _) ((congrFun z 40).trans Ztv) (fun h=>Q5 h) (fun _=>rfl) (fun _=>rfl) (fun _=>rfl) (fun _=>rfl) (fun _=>rfl)
theorem ZsT:rowsOf Tryz.prog 41=[0]:=by kernel_rfl
theorem ZsH {E} (z:RE E):BP U E 41:=.Eh (c:=E8) (AP.int _) ((congrFun z 41).trans ZsT) (fun h=>Q5 h) (fun _=>rfl) (fun _=>rfl) (fun _=>rfl) (fun _=>rfl) (fun _=>rfl)
theorem Zru:rowsOf Tryz.prog 366=[0,0]:=by kernel_rfl
theorem ZpV {E} (z:RE E):BP U E 366:=.Es ZrR ((congrFun z 366).trans Zru) (fun _=>rfl) (fun _=>rfl) (fun _=>rfl)
theorem Ztg:rowsOf Tryz.prog 47=[0]:=by kernel_rfl
theorem ZaG {E} (z:RE E):BP U E 47:=.Eh (c:=GG) (AP.int _) ((congrFun z 47).trans Ztg) (fun h=>Q5 h) (fun _=>rfl) (fun _=>rfl) (fun _=>rfl) (fun _=>rfl) (fun _=>rfl)
theorem ZtB:rowsOf Tryz.prog 29=[46]:=by kernel_rfl
theorem Zsz {E} (z:RE E):BP U E 29:=.Eh (c:=(AA.list 76 46 (fun(a:Ae)=>.agg (Ht.Af a)):AA Ty (List (Ty 76)))) (AP.list (U:=U) (t:=76) (n:=46) (e:=fun(a:Ae)=>.agg (Ht.Af a)) (fun _=>rfl) rfl (fun a=>YF.nr a) (fun a b h=>YF.inj _ _ (by injection h))) ((congrFun z 29).trans ZtB) (fun h=>G6 (U:=U) (t:=76) (n:=46) (e:=fun(a:Ae)=>.agg (Ht.Af a)) h) (fun _=>rfl) (fun _=>rfl) (fun _=>rfl) (fun _=>rfl) (fun _=>rfl)
theorem Zs4:rowsOf Tryz.prog 23=[2]:=by kernel_rfl
theorem Zs7 {E} (z:RE E):BP U E 23:=.Eh (c:=(AA.list 79 2 (fun(a:BR)=>.agg (JI.Af a)):AA Ty (List (Ty 79)))) (AP.list (U:=U) (t:=79) (n:=2) (e:=fun(a:BR)=>.agg (JI.Af a)) (fun _=>rfl) rfl (fun a=>SK.nr a) (fun a b h=>SK.inj _ _ (by injection h))) ((congrFun z 23).trans Zs4) (fun h=>G6 (U:=U) (t:=79) (n:=2) (e:=fun(a:BR)=>.agg (JI.Af a)) h) (fun _=>rfl) (fun _=>rfl) (fun _=>rfl) (fun _=>rfl) (fun _=>rfl)
theorem Zsa:rowsOf Tryz.prog 24=[2]:=by kernel_rfl
theorem Zsh {E} (z:RE E):BP U E 24:=.Eh (c:=(AA.list 113 2 (fun(a:DK)=>.agg (JG.Af a)):AA Ty (List (Ty 113)))) (AP.list (U:=U) (t:=113) (n:=2) (e:=fun(a:DK)=>.agg (JG.Af a)) (fun _=>rfl) rfl (fun a=>Rw.nr a) (fun a b h=>Rw.inj _ _ (by injection h))) ((congrFun z 24).trans Zsa) (fun h=>G6 (U:=U) (t:=113) (n:=2) (e:=fun(a:DK)=>.agg (JG.Af a)) h) (fun _=>rfl) (fun _=>rfl) (fun _=>rfl) (fun _=>rfl) (fun _=>rfl)
theorem Zt9:rowsOf Tryz.prog 30=[4]:=by kernel_rfl
theorem ZsG {E} (z:RE E):BP U E 30:=.Eh (c:=(AA.list 106 4 (fun(a:CS)=>.agg (LZ.Af a)):AA Ty (List (Ty 106)))) (AP.list (U:=U) (t:=106) (n:=4) (e:=fun(a:CS)=>.agg (LZ.Af a)) (fun _=>rfl) rfl (fun a=>Xi.nr a) (fun a b h=>Xi.inj _ _ (by injection h))) ((congrFun z 30).trans Zt9) (fun h=>G6 (U:=U) (t:=106) (n:=4) (e:=fun(a:CS)=>.agg (LZ.Af a)) h) (fun _=>rfl) (fun _=>rfl) (fun _=>rfl) (fun _=>rfl) (fun _=>rfl)
theorem ZtC:rowsOf Tryz.prog 31=[13]:=by kernel_rfl
theorem ZtR {E} (z:RE E):BP U E 31:=.Eh (c:=(AA.list 55 13 (fun(a:EE)=>.agg (Ll.Af a)):AA Ty (List (Ty 55)))) (AP.list (U:=U) (t:=55) (n:=13) (e:=fun(a:EE)=>.agg (Ll.Af a)) (fun _=>rfl) rfl (fun a=>YD.nr a) (fun a b h=>YD.inj _ _ (by injection h))) ((congrFun z 31).trans ZtC) (fun h=>G6 (U:=U) (t:=55) (n:=13) (e:=fun(a:EE)=>.agg (Ll.Af a)) h) (fun _=>rfl) (fun _=>rfl) (fun _=>rfl) (fun _=>rfl) (fun _=>rfl)
theorem Zt5:rowsOf Tryz.prog 62=[1]:=by kernel_rfl
theorem ZaK {E} (z:RE E):BP U E 62:=.Eh (c:=(AA.list 39 1 (fun(a:Int)=>D6.Am a):AA Ty (List (Ty 39)))) (AP.list (U:=U) (t:=39) (n:=1) (e:=fun(a:Int)=>D6.Am a) (fun _=>rfl) rfl (fun a=>(AP.int _:AP U D6 _).Fq a) (fun a b h=>(AP.int _:AP U D6 _).Fg h)) ((congrFun z 62).trans Zt5) (fun h=>G6 (U:=U) (t:=39) (n:=1) (e:=fun(a:Int)=>D6.Am a) h) (fun _=>rfl) (fun _=>rfl) (fun _=>rfl) (fun _=>rfl) (fun _=>rfl)
theorem Zsj:rowsOf Tryz.prog 63=[3]:=by kernel_rfl
theorem ZtX {E} (z:RE E):BP U E 63:=.Eh (c:=(AA.list 49 3 (fun(a:Ar)=>.agg (FI.Af a)):AA Ty (List (Ty 49)))) (AP.list (U:=U) (t:=49) (n:=3) (e:=fun(a:Ar)=>.agg (FI.Af a)) (fun _=>rfl) rfl (fun a=>J5.nr a) (fun a b h=>J5.inj _ _ (by injection h))) ((congrFun z 63).trans Zsj) (fun h=>G6 (U:=U) (t:=49) (n:=3) (e:=fun(a:Ar)=>.agg (FI.Af a)) h) (fun _=>rfl) (fun _=>rfl) (fun _=>rfl) (fun _=>rfl) (fun _=>rfl)
theorem Zu1:rowsOf Tryz.prog 64=[3]:=by kernel_rfl
theorem ZaL {E} (z:RE E):BP U E 64:=.Eh (c:=(AA.list 138 3 (fun(a:Ar)=>.agg (FI.Af a)):AA Ty (List (Ty 138)))) (AP.list (U:=U) (t:=138) (n:=3) (e:=fun(a:Ar)=>.agg (FI.Af a)) (fun _=>rfl) rfl (fun a=>J5.nr a) (fun a b h=>J5.inj _ _ (by injection h))) ((congrFun z 64).trans Zu1) (fun h=>G6 (U:=U) (t:=138) (n:=3) (e:=fun(a:Ar)=>.agg (FI.Af a)) h) (fun _=>rfl) (fun _=>rfl) (fun _=>rfl) (fun _=>rfl) (fun _=>rfl)
theorem ZtW:rowsOf Tryz.prog 65=[10]:=by kernel_rfl
theorem ZtS {E} (z:RE E):BP U E 65:=.Eh (c:=(AA.list 149 10 (fun(a:DJ)=>.agg (L6.Af a)):AA Ty (List (Ty 149)))) (AP.list (U:=U) (t:=149) (n:=10) (e:=fun(a:DJ)=>.agg (L6.Af a)) (fun _=>rfl) rfl (fun a=>Xj.nr a) (fun a b h=>Xj.inj _ _ (by injection h))) ((congrFun z 65).trans ZtW) (fun h=>G6 (U:=U) (t:=149) (n:=10) (e:=fun(a:DJ)=>.agg (L6.Af a)) h) (fun _=>rfl) (fun _=>rfl) (fun _=>rfl) (fun _=>rfl) (fun _=>rfl)
theorem Zs6:rowsOf Tryz.prog 66=[11]:=by kernel_rfl
theorem ZrY {E} (z:RE E):BP U E 66:=.Eh (c:=(AA.list 135 11 (fun(a:D9)=>.agg (LY.Af a)):AA Ty (List (Ty 135)))) (AP.list (U:=U) (t:=135) (n:=11) (e:=fun(a:D9)=>.agg (LY.Af a)) (fun _=>rfl) rfl (fun a=>Xl.nr a) (fun a b h=>Xl.inj _ _ (by injection h))) ((congrFun z 66).trans Zs6) (fun h=>G6 (U:=U) (t:=135) (n:=11) (e:=fun(a:D9)=>.agg (LY.Af a)) h) (fun _=>rfl) (fun _=>rfl) (fun _=>rfl) (fun _=>rfl) (fun _=>rfl)
theorem Zty:rowsOf Tryz.prog 69=[18]:=by kernel_rfl
theorem Ztt {E} (z:RE E):BP U E 69:=.Eh (c:=(AA.list 158 18 (fun(a:Gh)=>.agg (LV.Af a)):AA Ty (List (Ty 158)))) (AP.list (U:=U) (t:=158) (n:=18) (e:=fun(a:Gh)=>.agg (LV.Af a)) (fun _=>rfl) rfl (fun a=>Xo.nr a) (fun a b h=>Xo.inj _ _ (by injection h))) ((congrFun z 69).trans Zty) (fun h=>G6 (U:=U) (t:=158) (n:=18) (e:=fun(a:Gh)=>.agg (LV.Af a)) h) (fun _=>rfl) (fun _=>rfl) (fun _=>rfl) (fun _=>rfl) (fun _=>rfl)
theorem Zsy:rowsOf Tryz.prog 74=[3]:=by kernel_rfl
theorem Zaw {E} (z:RE E):BP U E 74:=.Eh (c:=(AA.list 120 3 (fun(a:BL)=>.agg (Jo.Af a)):AA Ty (List (Ty 120)))) (AP.list (U:=U) (t:=120) (n:=3) (e:=fun(a:BL)=>.agg (Jo.Af a)) (fun _=>rfl) rfl (fun a=>Xq.nr a) (fun a b h=>Xq.inj _ _ (by injection h))) ((congrFun z 74).trans Zsy) (fun h=>G6 (U:=U) (t:=120) (n:=3) (e:=fun(a:BL)=>.agg (Jo.Af a)) h) (fun _=>rfl) (fun _=>rfl) (fun _=>rfl) (fun _=>rfl) (fun _=>rfl)
theorem ZqK:rowsOf Tryz.prog 133=[1]:=by kernel_rfl
theorem Zq4 {E} (z:RE E):BP U E 133:=.Eh (c:=(AA.list 27 1 (fun(a:List Int)=>((AA.list 5 1 (fun(a:Int)=>BZ.Am a):AA Ty (List (Ty 5)))).Am a):AA Ty (List (Ty 27)))) (AP.list (U:=U) (t:=27) (n:=1) (e:=fun(a:List Int)=>((AA.list 5 1 (fun(a:Int)=>BZ.Am a):AA Ty (List (Ty 5)))).Am a) (fun _=>rfl) rfl (fun a=>(AP.list (U:=U) (t:=5) (n:=1) (e:=fun(a:Int)=>BZ.Am a) (fun _=>rfl) rfl (fun a=>(AP.int _:AP U BZ _).Fq a) (fun a b h=>(AP.int _:AP U BZ _).Fg h):AP U (AA.list 5 1 (fun(a:Int)=>BZ.Am a):AA Ty (List (Ty 5))) _).Fq a) (fun a b h=>(AP.list (U:=U) (t:=5) (n:=1) (e:=fun(a:Int)=>BZ.Am a) (fun _=>rfl) rfl (fun a=>(AP.int _:AP U BZ _).Fq a) (fun a b h=>(AP.int _:AP U BZ _).Fg h):AP U (AA.list 5 1 (fun(a:Int)=>BZ.Am a):AA Ty (List (Ty 5))) _).Fg h)) ((congrFun z 133).trans ZqK) (fun h=>G6 (U:=U) (t:=27) (n:=1) (e:=fun(a:List Int)=>((AA.list 5 1 (fun(a:Int)=>BZ.Am a):AA Ty (List (Ty 5)))).Am a) h) (fun _=>rfl) (fun _=>rfl) (fun _=>rfl) (fun _=>rfl) (fun _=>rfl)
theorem Zsi:rowsOf Tryz.prog 59=[0,0,0,0,0,0,0,0,0,0,0]:=by kernel_rfl
theorem kX {E} (z:RE E):BP U E 59:=.Es Z0R ((congrFun z 59).trans Zsi) (fun _=>rfl) (fun _=>rfl) (fun _=>rfl)
theorem Zsp:rowsOf Tryz.prog 61=[0,0,0]:=by kernel_rfl
theorem Z0N {E} (z:RE E):BP U E 61:=.Es Z0C ((congrFun z 61).trans Zsp) (fun _=>rfl) (fun _=>rfl) (fun _=>rfl)
theorem Zsm:rowsOf Tryz.prog 71=[0,18,1,0,0,0,0,0]:=by kernel_rfl
theorem ZrX {E} (z:RE E):BP U E 71:=.Es Zb5 ((congrFun z 71).trans Zsm) (fun _=>rfl) (fun _=>rfl) (fun _=>rfl)
theorem Zu0:rowsOf Tryz.prog 73=[0,0,0,0,0,0,1,0,0,0]:=by kernel_rfl
theorem ZaS {E} (z:RE E):BP U E 73:=.Es ZaF ((congrFun z 73).trans Zu0) (fun _=>rfl) (fun _=>rfl) (fun _=>rfl)
theorem ZsB {E} (z:RE E):BP U E 96:=.Ap [⟨76,fun a=>a.1⟩,⟨34,fun a=>a.2⟩] ⟨YA z,J4 z,trivial⟩ (fun _=>rfl) (fun _=>rfl) (fun _=>rfl) fun _ _ h=>Prod.ext h.1 h.2.1
theorem ZsA:rowsOf Tryz.prog 57=[0,0,0,0,0]:=by kernel_rfl
theorem Zs1 {E} (z:RE E):BP U E 57:=.Es VY ((congrFun z 57).trans ZsA) (fun _=>rfl) (fun _=>rfl) (fun _=>rfl)
theorem rows9:rowsOf Tryz.prog 9=[0]:=by kernel_rfl
theorem tyok9 {E} (z:RE E):BP U E 9:=.Eh (c:=cst) (AP.str) ((congrFun z 9).trans rows9) (fun h=>ZtJ h) (fun _=>rfl) (fun _=>rfl) (fun _=>rfl) (fun _=>rfl) (fun _=>rfl)
theorem Zrq:rowsOf Tryz.prog 207=[1]:=by kernel_rfl
theorem Z9I {E} (z:RE E):BP U E 207:=.Eh (c:=(AA.list 40 1 (fun(a:Int)=>E8.Am a):AA Ty (List (Ty 40)))) (AP.list (U:=U) (t:=40) (n:=1) (e:=fun(a:Int)=>E8.Am a) (fun _=>rfl) rfl (fun a=>(AP.int _:AP U E8 _).Fq a) (fun a b h=>(AP.int _:AP U E8 _).Fg h)) ((congrFun z 207).trans Zrq) (fun h=>G6 (U:=U) (t:=40) (n:=1) (e:=fun(a:Int)=>E8.Am a) h) (fun _=>rfl) (fun _=>rfl) (fun _=>rfl) (fun _=>rfl) (fun _=>rfl)
theorem ZsV:rowsOf Tryz.prog 68=[10,11]:=by kernel_rfl
theorem YB {E} (z:RE E):BP U E 68:=.Es ZaV ((congrFun z 68).trans ZsV) (fun _=>rfl) (fun _=>rfl) (fun _=>rfl)
theorem ZsP:rowsOf Tryz.prog 44=[10]:=by kernel_rfl
theorem Ztn {E} (z:RE E):BP U E 44:=.Eh (c:=(AA.list 43 10 (fun(a:DV)=>.agg (OZ.Af a)):AA Ty (List (Ty 43)))) (AP.list (U:=U) (t:=43) (n:=10) (e:=fun(a:DV)=>.agg (OZ.Af a)) (fun _=>rfl) rfl (fun a=>Z0G.nr a) (fun a b h=>Z0G.inj _ _ (by injection h))) ((congrFun z 44).trans ZsP) (fun h=>G6 (U:=U) (t:=43) (n:=10) (e:=fun(a:DV)=>.agg (OZ.Af a)) h) (fun _=>rfl) (fun _=>rfl) (fun _=>rfl) (fun _=>rfl) (fun _=>rfl)
theorem Zse:rowsOf Tryz.prog 53=[0,0,0,0,0,0,0,0,1,0,0]:=by kernel_rfl
theorem Zsd {E} (z:RE E):BP U E 53:=.Es kP ((congrFun z 53).trans Zse) (fun _=>rfl) (fun _=>rfl) (fun _=>rfl)
theorem ZpQ:rowsOf Tryz.prog 100=[11]:=by kernel_rfl
theorem jV {E} (z:RE E):BP U E 100:=.Eh (c:=(AA.list 53 11 (fun(a:BH)=>.agg (Iq.Af a)):AA Ty (List (Ty 53)))) (AP.list (U:=U) (t:=53) (n:=11) (e:=fun(a:BH)=>.agg (Iq.Af a)) (fun _=>rfl) rfl (fun a=>kP.nr a) (fun a b h=>kP.inj _ _ (by injection h))) ((congrFun z 100).trans ZpQ) (fun h=>G6 (U:=U) (t:=53) (n:=11) (e:=fun(a:BH)=>.agg (Iq.Af a)) h) (fun _=>rfl) (fun _=>rfl) (fun _=>rfl) (fun _=>rfl) (fun _=>rfl)
theorem ZrN {E} (z:RE E):BP U E 128:=.Ap [⟨76,fun a=>a.1⟩,⟨100,fun a=>a.2⟩] ⟨YA z,jV z,trivial⟩ (fun _=>rfl) (fun _=>rfl) (fun _=>rfl) fun _ _ h=>Prod.ext h.1 h.2.1
theorem Zq0 {E} (z:RE E):BP U E 117:=.Ap [⟨76,fun a=>a.1⟩,⟨74,fun a=>a.2.1⟩,⟨100,fun a=>a.2.2⟩] ⟨YA z,Zaw z,jV z,trivial⟩ (fun _=>rfl) (fun _=>rfl) (fun _=>rfl) fun _ _ h=>Prod.ext h.1 (Prod.ext h.2.1 h.2.2.1)
theorem Zqu {E} (z:RE E):BP U E 101:=.Ap [⟨76,fun a=>a.1⟩,⟨100,fun a=>a.2.1⟩,⟨34,fun a=>a.2.2⟩] ⟨YA z,jV z,J4 z,trivial⟩ (fun _=>rfl) (fun _=>rfl) (fun _=>rfl) fun _ _ h=>Prod.ext h.1 (Prod.ext h.2.1 h.2.2.1)
theorem ZrF:rowsOf Tryz.prog 156=[0,0,0,0,0,0,0,0,0,1]:=by kernel_rfl
theorem Za0 {E} (z:RE E):BP U E 156:=.Es Xt ((congrFun z 156).trans ZrF) (fun _=>rfl) (fun _=>rfl) (fun _=>rfl)
theorem Zq8:rowsOf Tryz.prog 213=[10]:=by kernel_rfl
theorem Z0l {E} (z:RE E):BP U E 213:=.Eh (c:=(AA.list 156 10 (fun(a:Bc)=>.agg (IU.Af a)):AA Ty (List (Ty 156)))) (AP.list (U:=U) (t:=156) (n:=10) (e:=fun(a:Bc)=>.agg (IU.Af a)) (fun _=>rfl) rfl (fun a=>Xt.nr a) (fun a b h=>Xt.inj _ _ (by injection h))) ((congrFun z 213).trans Zq8) (fun h=>G6 (U:=U) (t:=156) (n:=10) (e:=fun(a:Bc)=>.agg (IU.Af a)) h) (fun _=>rfl) (fun _=>rfl) (fun _=>rfl) (fun _=>rfl) (fun _=>rfl)
theorem ZpO {E} (z:RE E):BP U E 214:=.Ap [⟨68,fun a=>a.1⟩,⟨213,fun a=>a.2.1⟩,⟨34,fun a=>a.2.2⟩] ⟨YB z,Z0l z,J4 z,trivial⟩ (fun _=>rfl) (fun _=>rfl) (fun _=>rfl) fun _ _ h=>Prod.ext h.1 (Prod.ext h.2.1 h.2.2.1)
theorem ZqE:rowsOf Tryz.prog 219=[0,0,0,0,0,0,0,0,0,0,0,0,1]:=by kernel_rfl
theorem ZpK {E} (z:RE E):BP U E 219:=.Es Z0n ((congrFun z 219).trans ZqE) (fun _=>rfl) (fun _=>rfl) (fun _=>rfl)
theorem Zq9 {E} (z:RE E):BP U E 270:=.Ap [⟨27,fun a=>a.1⟩,⟨34,fun a=>a.2⟩] ⟨lN z,J4 z,trivial⟩ (fun _=>rfl) (fun _=>rfl) (fun _=>rfl) fun _ _ h=>Prod.ext h.1 h.2.1
theorem Zqb:rowsOf Tryz.prog 154=[0,0,0,0,0,0,0,1]:=by kernel_rfl
theorem Z9K {E} (z:RE E):BP U E 154:=.Es Z0m ((congrFun z 154).trans Zqb) (fun _=>rfl) (fun _=>rfl) (fun _=>rfl)
theorem Zqi {E} (z:RE E):BP U E 179:=.Ap [⟨59,fun a=>a.1⟩,⟨34,fun a=>a.2⟩] ⟨kX z,J4 z,trivial⟩ (fun _=>rfl) (fun _=>rfl) (fun _=>rfl) fun _ _ h=>Prod.ext h.1 h.2.1
theorem ZqP {E} (z:RE E):BP U E 182:=.Ap [⟨59,fun a=>a.1⟩,⟨4,fun a=>a.2⟩] ⟨kX z,YT z,trivial⟩ (fun _=>rfl) (fun _=>rfl) (fun _=>rfl) fun _ _ h=>Prod.ext h.1 h.2.1
theorem ZpW {E} (z:RE E):BP U E 184:=.Ap [⟨61,fun a=>a.1⟩,⟨34,fun a=>a.2⟩] ⟨Z0N z,J4 z,trivial⟩ (fun _=>rfl) (fun _=>rfl) (fun _=>rfl) fun _ _ h=>Prod.ext h.1 h.2.1
theorem Zrk {E} (z:RE E):BP U E 262:=.Ap [⟨40,fun a=>a.1⟩,⟨27,fun a=>a.2⟩] ⟨ZaN z,lN z,trivial⟩ (fun _=>rfl) (fun _=>rfl) (fun _=>rfl) fun _ _ h=>Prod.ext h.1 h.2.1
theorem ZqB:rowsOf Tryz.prog 276=[0,0]:=by kernel_rfl
theorem Zqc {E} (z:RE E):BP U E 276:=.Es Z0r ((congrFun z 276).trans ZqB) (fun _=>rfl) (fun _=>rfl) (fun _=>rfl)
theorem ZqY:rowsOf Tryz.prog 328=[2]:=by kernel_rfl
theorem Zqd {E} (z:RE E):BP U E 328:=.Eh (c:=(AA.list 276 2 (fun(a:DF)=>.agg (OH.Af a)):AA Ty (List (Ty 276)))) (AP.list (U:=U) (t:=276) (n:=2) (e:=fun(a:DF)=>.agg (OH.Af a)) (fun _=>rfl) rfl (fun a=>Z0r.nr a) (fun a b h=>Z0r.inj _ _ (by injection h))) ((congrFun z 328).trans ZqY) (fun h=>G6 (U:=U) (t:=276) (n:=2) (e:=fun(a:DF)=>.agg (OH.Af a)) h) (fun _=>rfl) (fun _=>rfl) (fun _=>rfl) (fun _=>rfl) (fun _=>rfl)
theorem ZsF:rowsOf Tryz.prog 51=[0,0,0,0,0,0,0,1]:=by kernel_rfl
theorem ZsC {E} (z:RE E):BP U E 51:=.Es kC ((congrFun z 51).trans ZsF) (fun _=>rfl) (fun _=>rfl) (fun _=>rfl)
theorem Zrh:rowsOf Tryz.prog 228=[5]:=by kernel_rfl
theorem ZqZ {E} (z:RE E):BP U E 228:=.Eh (c:=(AA.list 57 5 (fun(a:Bh)=>.agg (KT.Af a)):AA Ty (List (Ty 57)))) (AP.list (U:=U) (t:=57) (n:=5) (e:=fun(a:Bh)=>.agg (KT.Af a)) (fun _=>rfl) rfl (fun a=>VY.nr a) (fun a b h=>VY.inj _ _ (by injection h))) ((congrFun z 228).trans Zrh) (fun h=>G6 (U:=U) (t:=57) (n:=5) (e:=fun(a:Bh)=>.agg (KT.Af a)) h) (fun _=>rfl) (fun _=>rfl) (fun _=>rfl) (fun _=>rfl) (fun _=>rfl)
theorem Zqs:rowsOf Tryz.prog 335=[0,0,0,0,0,0]:=by kernel_rfl
theorem ZqG {E} (z:RE E):BP U E 335:=.Es ZpF ((congrFun z 335).trans Zqs) (fun _=>rfl) (fun _=>rfl) (fun _=>rfl)
theorem Zq7 {E} (z:RE E):BP U E 279:=.Ap [⟨207,fun a=>a.1⟩,⟨27,fun a=>a.2.1⟩,⟨34,fun a=>a.2.2⟩] ⟨Z9I z,lN z,J4 z,trivial⟩ (fun _=>rfl) (fun _=>rfl) (fun _=>rfl) fun _ _ h=>Prod.ext h.1 (Prod.ext h.2.1 h.2.2.1)
theorem Zrz {E} (z:RE E):BP U E 245:=.Ap [⟨73,fun a=>a.1⟩,⟨213,fun a=>a.2⟩] ⟨ZaS z,Z0l z,trivial⟩ (fun _=>rfl) (fun _=>rfl) (fun _=>rfl) fun _ _ h=>Prod.ext h.1 h.2.1
theorem Zr8:rowsOf Tryz.prog 247=[13]:=by kernel_rfl
theorem Z0v {E} (z:RE E):BP U E 247:=.Eh (c:=(AA.list 219 13 (fun(a:EF)=>.agg (Jr.Af a)):AA Ty (List (Ty 219)))) (AP.list (U:=U) (t:=219) (n:=13) (e:=fun(a:EF)=>.agg (Jr.Af a)) (fun _=>rfl) rfl (fun a=>Z0n.nr a) (fun a b h=>Z0n.inj _ _ (by injection h))) ((congrFun z 247).trans Zr8) (fun h=>G6 (U:=U) (t:=219) (n:=13) (e:=fun(a:EF)=>.agg (Jr.Af a)) h) (fun _=>rfl) (fun _=>rfl) (fun _=>rfl) (fun _=>rfl) (fun _=>rfl)
theorem ZrW {E} (z:RE E):BP U E 248:=.Ap [⟨68,fun a=>a.1⟩,⟨247,fun a=>a.2.1⟩,⟨62,fun a=>a.2.2⟩] ⟨YB z,Z0v z,ZaK z,trivial⟩ (fun _=>rfl) (fun _=>rfl) (fun _=>rfl) fun _ _ h=>Prod.ext h.1 (Prod.ext h.2.1 h.2.2.1)
theorem Zqr {E} (z:RE E):BP U E 250:=.Ap [⟨68,fun a=>a.1⟩,⟨247,fun a=>a.2⟩] ⟨YB z,Z0v z,trivial⟩ (fun _=>rfl) (fun _=>rfl) (fun _=>rfl) fun _ _ h=>Prod.ext h.1 h.2.1
theorem ZpE:rowsOf Tryz.prog 221=[0,0,0]:=by kernel_rfl
theorem Z9N {E} (z:RE E):BP U E 221:=.Es ZrS ((congrFun z 221).trans ZpE) (fun _=>rfl) (fun _=>rfl) (fun _=>rfl)
theorem Zqf {E} (z:RE E):BP U E 226:=.Ap [⟨221,fun a=>a.1⟩,⟨3,fun a=>a.2.1⟩,⟨34,fun a=>a.2.2⟩] ⟨Z9N z,mD z,J4 z,trivial⟩ (fun _=>rfl) (fun _=>rfl) (fun _=>rfl) fun _ _ h=>Prod.ext h.1 (Prod.ext h.2.1 h.2.2.1)
theorem Zrb {E} (z:RE E):BP U E 230:=.Ap [⟨59,fun a=>a.1⟩,⟨61,fun a=>a.2⟩] ⟨kX z,Z0N z,trivial⟩ (fun _=>rfl) (fun _=>rfl) (fun _=>rfl) fun _ _ h=>Prod.ext h.1 h.2.1
theorem Zqy {E} (z:RE E):BP U E 282:=.Ap [⟨3,fun a=>a.1⟩,⟨3,fun a=>a.2.1⟩,⟨34,fun a=>a.2.2⟩] ⟨mD z,mD z,J4 z,trivial⟩ (fun _=>rfl) (fun _=>rfl) (fun _=>rfl) fun _ _ h=>Prod.ext h.1 (Prod.ext h.2.1 h.2.2.1)
theorem ZqL {E} (z:RE E):BP U E 284:=.Ap [⟨47,fun a=>a.1⟩,⟨4,fun a=>a.2⟩] ⟨ZaG z,YT z,trivial⟩ (fun _=>rfl) (fun _=>rfl) (fun _=>rfl) fun _ _ h=>Prod.ext h.1 h.2.1
theorem Zqj {E} (z:RE E):BP U E 286:=.Ap [⟨154,fun a=>a.1⟩,⟨34,fun a=>a.2⟩] ⟨Z9K z,J4 z,trivial⟩ (fun _=>rfl) (fun _=>rfl) (fun _=>rfl) fun _ _ h=>Prod.ext h.1 h.2.1
theorem Zr5:rowsOf Tryz.prog 233=[0,0,0,0,0,0,0,1,0,0,0,0,0,0]:=by kernel_rfl
theorem ZqU {E} (z:RE E):BP U E 233:=.Es Zpx ((congrFun z 233).trans Zr5) (fun _=>rfl) (fun _=>rfl) (fun _=>rfl)
theorem Zr6 {E} (z:RE E):BP U E 240:=.Ap [⟨156,fun a=>a.1⟩,⟨34,fun a=>a.2⟩] ⟨Za0 z,J4 z,trivial⟩ (fun _=>rfl) (fun _=>rfl) (fun _=>rfl) fun _ _ h=>Prod.ext h.1 h.2.1
theorem Zrt:rowsOf Tryz.prog 310=[8]:=by kernel_rfl
theorem Zao {E} (z:RE E):BP U E 310:=.Eh (c:=(AA.list 51 8 (fun(a:Dw)=>.agg (KR.Af a)):AA Ty (List (Ty 51)))) (AP.list (U:=U) (t:=51) (n:=8) (e:=fun(a:Dw)=>.agg (KR.Af a)) (fun _=>rfl) rfl (fun a=>kC.nr a) (fun a b h=>kC.inj _ _ (by injection h))) ((congrFun z 310).trans Zrt) (fun h=>G6 (U:=U) (t:=51) (n:=8) (e:=fun(a:Dw)=>.agg (KR.Af a)) h) (fun _=>rfl) (fun _=>rfl) (fun _=>rfl) (fun _=>rfl) (fun _=>rfl)
theorem Zrw {E} (z:RE E):BP U E 311:=.Ap [⟨68,fun a=>a.1⟩,⟨310,fun a=>a.2.1⟩,⟨4,fun a=>a.2.2⟩] ⟨YB z,Zao z,YT z,trivial⟩ (fun _=>rfl) (fun _=>rfl) (fun _=>rfl) fun _ _ h=>Prod.ext h.1 (Prod.ext h.2.1 h.2.2.1)
theorem Zro {E} (z:RE E):BP U E 315:=.Ap [⟨64,fun a=>a.1⟩,⟨34,fun a=>a.2⟩] ⟨ZaL z,J4 z,trivial⟩ (fun _=>rfl) (fun _=>rfl) (fun _=>rfl) fun _ _ h=>Prod.ext h.1 h.2.1
theorem Zpt:rowsOf Tryz.prog 292=[3,0]:=by kernel_rfl
theorem Zq6 {E} (z:RE E):BP U E 292:=.Es Zrd ((congrFun z 292).trans Zpt) (fun _=>rfl) (fun _=>rfl) (fun _=>rfl)
theorem Zq1:rowsOf Tryz.prog 360=[3,0]:=by kernel_rfl
theorem ZqQ {E} (z:RE E):BP U E 360:=.Es Zri ((congrFun z 360).trans Zq1) (fun _=>rfl) (fun _=>rfl) (fun _=>rfl)
theorem Zr3:rowsOf Tryz.prog 170=[0]:=by kernel_rfl
theorem Zrn {E} (z:RE E):BP U E 170:=.Eh (c:=E8) (AP.int _) ((congrFun z 170).trans Zr3) (fun h=>Q5 h) (fun _=>rfl) (fun _=>rfl) (fun _=>rfl) (fun _=>rfl) (fun _=>rfl)
theorem ZrE:AP U Zbr [0,0,0,0,0,0,0,0]:=AP.Bg ((AP.int _).pair ((AP.skip).pair ((AP.skip).pair ((AP.int _).pair ((AP.bool).pair ((AP.int _).pair ((AP.int _).pair ((AP.int _).pair AP.unit)))))))) (fun _=>rfl) (fun _=>rfl)
theorem Zre:AP U Zbp [0,0,0,0,0,0,0,0,0,0]:=AP.Bg ((AP.int _).pair ((AP.int _).pair ((AP.int _).pair ((AP.int _).pair ((AP.int _).pair ((AP.int _).pair ((AP.skip).pair ((AP.int _).pair ((AP.bool).pair ((AP.int _).pair AP.unit)))))))))) (fun _=>rfl) (fun _=>rfl)
theorem Zrx:AP U Zb9 [0,0,0,0,0,0,0,0,0,0,0,0,0,0,0,0,0,0,0,0,0,0,0,0,0,0,0,0,0,0,0,0,0,0,0,0,0,0,0,0,0,0,0,0,0,0]:=AP.Bg ((AP.int _).pair ((AP.int _).pair ((AP.int _).pair ((Z0R).pair ((Z0C).pair ((AP.int _).pair ((AP.bool).pair ((AP.bool).pair ((AP.skip).pair ((AP.skip).pair ((AP.skip).pair ((AP.skip).pair ((AP.skip).pair ((ZrE).pair ((Zre).pair ((AP.skip).pair ((AP.int _).pair ((AP.bool).pair AP.unit)))))))))))))))))) (fun _=>rfl) (fun _=>rfl)
theorem ZU:AP U lQ [0,0,0,0,0,0,0,0,0,0,0,0,0,0,0,0,0,0,0,0,0,0,0,0,0,0,0,0,0,0,0,0,0,0,0,0,0,0,0,0,0,0,0,0,0,0,0,0]:=AP.Bg ((Zrx).pair ((AP.int _).pair ((AP.skip).pair AP.unit))) (fun _=>rfl) (fun _=>rfl)
theorem ZqA {E} (z:RE E):BP U E 130:=⟨fun a=>rfl,fun v a h=>ZU.ZrM h _,fun a=>rfl,fun a=>ZU.Ztf 48 a,fun a b h=>ZU.ZpX h⟩
theorem BP.four {E:Env} {t:Nat} (h:BP U E t):(∀a,AU U (U.encS t a)=U.enc t a)/\(∀v a,U.Gq t v=some a->DX (E.rows t) (AU U v)=U.enc t a)/\(∀a,(U.enc t a).cells=Aj U (cellsS (U.encS t a)))/\(∀a,Bz (U.enc t a)=true):=⟨h.encS,h.dec,h.cells,h.nr⟩
def nU:List Nat:=[4,79,113,26,3,5,27,39,49,138,149,135,158,120,76,106,55,33,34,35,43,37,45,40,41,366,47,29,23,24,30,31,62,63,64,65,66,69,74,133,59,61,71,73,96,57,9,207,68,44,53,100,128,117,101,156,213,214,219,270,154,179,182,184,262,276,328,51,228,335,279,245,247,248,250,221,226,230,282,284,286,233,240,310,311,315,292,360,170,130]
def tysY:List Nat:=[1396,1397,1398,1399,1400,1401,1402,1403,1404,1405,1406,1407,1408,1409,1413,1410,1411,1412,1432,1434,1436,1437,1438,1447,1443,1445,1446,1444,1435,1418,1430,1448,1449,1450,1453,1451,1452,1429,1431,1454,1455,1456,1457,1458,1459,1460,1464,1465,1466,1467,1463,1427,1428,1424,1425,1426,1417,1414]
theorem Zpp (t:Nat) (h:t∉nU) (h' : t∉tysY) (a:Ty t):False:=by
 unfold Ty at a;split at a<;>first|exact h (by decide)|exact h' (by decide)|exact a.elim
theorem Zbc {E} (z:RE E):Y1 (BP U E) nU:=⟨YT z,ZsM z,ZqM z,ZtE z,mD z,tyok5 z,lN z,ZtA z,Zth z,Zr4 z,ZrO z,ZqC z,Zq5 z,ZpG z,YA z,ZpD z,Zsw z,kH z,J4 z,Zsv z,ZsQ z,Zt0 z,ZtG z,ZaN z,ZsH z,ZpV z,ZaG z,Zsz z,Zs7 z,Zsh z,ZsG z,ZtR z,ZaK z,ZtX z,ZaL z,ZtS z,ZrY z,Ztt z,Zaw z,Zq4 z,kX z,Z0N z,ZrX z,ZaS z,ZsB z,Zs1 z,tyok9 z,Z9I z,YB z,Ztn z,Zsd z,jV z,ZrN z,Zq0 z,Zqu z,Za0 z,Z0l z,ZpO z,ZpK z,Zq9 z,Z9K z,Zqi z,ZqP z,ZpW z,Zrk z,Zqc z,Zqd z,ZsC z,ZqZ z,ZqG z,Zq7 z,Zrz z,Z0v z,ZrW z,Zqr z,Z9N z,Zqf z,Zrb z,Zqy z,ZqL z,Zqj z,ZqU z,Zr6 z,Zao z,Zrw z,Zro z,Zq6 z,ZqQ z,Zrn z,ZqA z,trivial⟩
theorem all_Y (E:Env):Y1 (fun t=>(∀a,AU U (U.encS t a)=U.enc t a)/\(∀v a,U.Gq t v=some a->DX (E.rows t) (AU U v)=U.enc t a)/\(∀a,(U.enc t a).cells=Aj U (cellsS (U.encS t a)))/\(∀a,Bz (U.enc t a)=true)) tysY:=by
 repeat' first|exact trivial|refine⟨⟨fun a=>rfl,(fun v a h=>nomatch h),fun a=>rfl,fun a=>rfl⟩,?_⟩
theorem jT (E:Env) (z:E.rows=rowsOf Tryz.prog):Cm U E:=by
 have key:∀t,(∀a,AU U (U.encS t a)=U.enc t a)/\(∀v a,U.Gq t v=some a->DX (E.rows t) (AU U v)=U.enc t a)/\(∀a,(U.enc t a).cells=Aj U (cellsS (U.encS t a)))/\(∀a,Bz (U.enc t a)=true):=fun t=>by
  by_cases h:t∈nU
  ·exact BP.four ((Zbc z).at h)
  by_cases h' : t∈tysY
  ·exact(all_Y E).at h'
  have e:=fun a=>Zpp t h h' a;exact⟨fun a=>(e a).elim,fun v a h=>(e a).elim,fun a=>(e a).elim,fun a=>(e a).elim⟩
 have sub:∀t∈U.keys,t∈nU:=by decide
 exact⟨fun t=>(key t).1,fun t=>(key t).2.1,fun t=>(key t).2.2.1,fun t=>(key t).2.2.2,fun t C=>((Zbc z).at (sub t C)).inj⟩
def gl:Nat->Option (List V):=fun _=>none
theorem FO:Tryz.prog.follows .mixedOrders=true:=by kernel_rfl
def noH:FuncId->List FuncId->Option (HMod U):=fun _ _=>none
def Hu:MW Tryz.prog:=.no _
def B0:Env:=EV (U:=U) Tryz.prog gl 0 (fun _=>none) noH Hu
abbrev MS:={ms:FuncId->Option (BF U) // ∀g m,ms g=some m->BD Tryz.prog B0 g m}
abbrev HS:={z:FuncId->List FuncId->Option (HMod U) // ∀g k m,z g k=some m->Bi Tryz.prog B0 g m}
def Az:MS:=⟨fun _=>none,fun _ _ h=>nomatch h⟩
def Aw:HS:=⟨fun _ _=>none,fun _ _ _ h=>nomatch h⟩
def mc {f:FuncId} {m:BF U} (h:BD Tryz.prog B0 f m) (s:MS):MS:=⟨fun g=>bif Nat.beq g f then some m else s.1 g,fun g z e=>by
 cases hb:Nat.beq g f with
 | true=>dsimp only at e;rw[hb]at e;cases e;exact(Nat.eq_of_beq_eq_true hb)▸h
 | false=>dsimp only at e;rw[hb]at e;exact s.2 g z e⟩
def hc {f:FuncId} {m:HMod U} (k:List FuncId) (h:Bi Tryz.prog B0 f m) (s:HS):HS:=⟨fun g k' =>bif Nat.beq g f&&k' == k then some m else s.1 g k',fun g k' z e=>by
 cases hb:(Nat.beq g f&&k' == k) with
 | true=>dsimp only at e;rw[hb]at e;cases e;exact(Nat.eq_of_beq_eq_true ((Bool.and_eq_true _ _).mp hb).1)▸h
 | false=>dsimp only at e;rw[hb]at e;exact s.2 g k' z e⟩
def AN:Nat->Option Lay:=fun _=>none
noncomputable def CU (fn:Func) (ts:List Nat) (x:FZ U ts):BN U:=⟨Gm fn,[],YJ ts x fn.ntmps,false⟩
noncomputable def DZ (fn:Func) (sh:Shape) (x:sh.X U):BN U:=⟨Gm fn,[],VV (sh.enc x) fn.ntmps,false⟩
noncomputable def BB (fn:Func) (p:List Nat) (L:Lay) (x:L.sh.X U):BN U:=spot (Gm fn) p fn.ntmps L.keep (L.sh.enc x)
abbrev BlkP (f:FuncId) (fn:Func) (ms:MS) (D:HS) (A:Nat->Option Lay) (rt:Nat) {C:Type} (T:C->Tr U (U.Ty rt⊕C)) (z:C->BN U):Prop:=
 ∀p,Le.Dv (EV Tryz.prog gl f ms.1 D.1 Hu) (ND ms.1 D.1 Hu.tab) A f fn 0 (mQ (EV Tryz.prog gl f ms.1 D.1 Hu) fn) 1000 (.run (z p).c) (z p).K (z p).st (z p).sk=(T p).map (Nw (outP (U:=U) rt) z)
abbrev BlkH (f:FuncId) (fn:Func) (ms:MS) (D:HS) (A:Nat->Option Lay) (fa:List (List Fk)) (fb:List Bf) (k:Nat) (m:HMod U) {C:Type} (T:C->Tr U (U.Ty m.ky⊕C)) (z:C->BN U):Prop:=
 ∀p,Le.Dv (EV Tryz.prog gl f ms.1 D.1 Hu) (ND ms.1 D.1 Hu.tab) A f fn k (Qb (EV Tryz.prog gl f ms.1 D.1 Hu) fn fa fb k m.FM m.one) 1000 (.run (z p).c) (z p).K (z p).st (z p).sk=(T p).map (Nw m.out z)
theorem okP {f:FuncId} {fn:Func} {ms:MS} {D:HS} {A:Nat->Option Lay} {m:BF U} {z:Type} {T:z->Tr U (U.Ty m.rt⊕z)} {I:z->BN U} (h:BlkP f fn ms D A m.rt T I) (b0:FZ U m.ts->z)
  (hc:Dy (EV Tryz.prog gl f ms.1 D.1 Hu) f (Gm fn)=true) (C:Tryz.prog.funcs[f]? = some fn) (J:(fn.name == "runtime.NumGoroutine")=false) (hb:fn.body=some (Gm fn))
  (hm:∀x,m.fn x=AY T (b0 x)) (G:∀x,I (b0 x)=CU fn m.ts x):BD Tryz.prog B0 f m:=
 Zon rfl (jT _ rfl) FO ms.2 D.2 C J hb hc m T I h b0 hm G
theorem Cb {f rt:Nat} {ts:List Nat} {G:∀t∈ts,t∈U.keys} {fn:Func} {z:Type} {T:z->Tr U (U.Ty rt⊕z)} {b0:FZ U ts->z} (ms:MS) (I:HS) (A:Nat->Option Lay) (J:z->BN U) (C:Tryz.prog.funcs[f]? = some fn) (h:BlkP f fn ms I A rt T J)
  (hc:(Dy (EV Tryz.prog gl f ms.1 I.1 Hu) f (Gm fn),fn.name == "runtime.NumGoroutine",fn.body)=(true,false,some (Gm fn))) (D:∀x,J (b0 x)=CU fn ts x):BD Tryz.prog B0 f ⟨ts,rt,fun x=>AY T (b0 x),G⟩:=
 okP (m:=⟨ts,rt,fun x=>AY T (b0 x),G⟩) h b0 (congrArg (·.1) hc) C (congrArg (·.2.1) hc) (congrArg (·.2.2) hc) (fun _=>rfl) D
theorem okH {f:FuncId} {fn:Func} {ms:MS} {D:HS} {A:Nat->Option Lay} {fa:List (List Fk)} {fb:List Bf} {k:Nat} {m:HMod U} {z:Type} {T:z->Tr U (U.Ty m.ky⊕z)} {I:z->BN U} (h:BlkH f fn ms D A fa fb k m T I) (b0:m.Ba.X U->z)
  (J:∀x:m.Ba.X U,(m.Ba.enc x).2.length=k) (hc:Dy (EV Tryz.prog gl f ms.1 D.1 Hu) f (Gm fn)=true) (C:Tryz.prog.funcs[f]? = some fn) (M:(fn.name == "runtime.NumGoroutine")=false) (hb:fn.body=some (Gm fn))
  (hm:∀x:m.Ba.X U,m.fn x=AY T (b0 x)) (G:∀x:m.Ba.X U,I (b0 x)=DZ fn m.Ba x):Bi Tryz.prog B0 f m:=
 Znx rfl (jT _ rfl) FO ms.2 D.2 C M hb hc m J T I h b0 hm G
theorem okR {f ky:Nat} {fn:Func} {G:List (List Fk)} {D:List Bf} {Ba FM:Shape} {one:Bool} {GV:U.Ty ky->FM.X U} {J:Ba.OK U} {C:Type} {T:C->Tr U (U.Ty ky⊕C)} {b0:Ba.X U->C} (ms:MS) (M:HS) (A:Nat->Option Lay) (fa:List (List Fk)) (fb:List Bf) (k:Nat) (Q:C->BN U) (I:Tryz.prog.funcs[f]? = some fn)
  (h:BlkH f fn ms M A fa fb k ⟨G,D,Ba,FM,one,ky,GV,fun x=>AY T (b0 x),J⟩ T Q) (hc:(Dy (EV Tryz.prog gl f ms.1 M.1 Hu) f (Gm fn),fn.name == "runtime.NumGoroutine",fn.body)=(true,false,some (Gm fn))) (z:∀x,((Ba.enc x).2.length,Q (b0 x))=(k,DZ fn Ba x)) :
  Bi Tryz.prog B0 f ⟨G,D,Ba,FM,one,ky,GV,fun x=>AY T (b0 x),J⟩:=
 okH (m:=⟨G,D,Ba,FM,one,ky,GV,fun x=>AY T (b0 x),J⟩) h b0 (fun x=>congrArg (·.1) (z x)) (congrArg (·.1) hc) I (congrArg (·.2.1) hc) (congrArg (·.2.2) hc) (fun _=>rfl) (fun x=>congrArg (·.2) (z x))
def nI (one:Bool) (sh:Shape) (x:sh.X U):SV U.Ty×Au U:=((if one then (sh.enc x).1.headD .und else .Ap (sh.enc x).1),(sh.enc x).2)
theorem okK {f ky:Nat} {fn:Func} {M:List (List Fk)} {J:List Bf} {Ba FM:Shape} {one:Bool} {GV:U.Ty ky->FM.X U} {R:Ba.OK U} {I:Type} {T:I->Tr U (U.Ty ky⊕I)} {b0:Ba.X U->I} (ms:MS) (D:HS) (A:Nat->Option Lay) (fa:List (List Fk)) (fb:List Bf) (kv d:Nat) (sh:Shape) (x0:U.Ty ky->sh.X U) (z:I->BN U) (Q:Tryz.prog.funcs[f]? = some fn)
  (h:∀p,Le.Dv (EV Tryz.prog gl f ms.1 D.1 Hu) (ND ms.1 D.1 Hu.tab) A f fn kv (Qb (EV Tryz.prog gl f ms.1 D.1 Hu) fn fa fb kv sh one) 1000 (.run (z p).c) (z p).K (z p).st (z p).sk=(T p).map (Nw (fun y=>nI one sh (x0 y)) z)) (hc:(Dy (EV Tryz.prog gl f ms.1 D.1 Hu) f (Gm fn),fn.name == "runtime.NumGoroutine",fn.body)=(true,false,some (Gm fn))) (G:∀x,((Ba.enc x).2.length,z (b0 x))=(kv+d,DZ fn Ba x))
  (C:∀y,HMod.out ⟨M,J,Ba,FM,one,ky,GV,fun x=>AY T (b0 x),R⟩ y=V3 kv d (nI one sh (x0 y))):Bi Tryz.prog B0 f ⟨M,J,Ba,FM,one,ky,GV,fun x=>AY T (b0 x),R⟩:=
 Zmm rfl (jT _ rfl) FO ms.2 D.2 Q (congrArg (·.2.1) hc) (congrArg (·.2.2) hc) (congrArg (·.1) hc) ⟨M,J,Ba,FM,one,ky,GV,fun x=>AY T (b0 x),R⟩ (fun x=>congrArg (·.1) (G x)) sh _ C T z h b0 (fun _=>rfl) (fun x=>congrArg (·.2) (G x))
def LX:Lay:=⟨[0],[],[],⟨[],[]⟩⟩
def al:List (Nat×Lay)->Nat->Option Lay
 | [],_=>none
 | (k,L)::l,n=>bif Nat.beq n k then some L else al l n
abbrev S1 (P R:Type):=P->Tr U (R⊕P)
theorem ok1 {f rt:Nat} {ts:List Nat} {D:∀t∈ts,t∈U.keys} {fn:Func} {T:FZ U ts->Tr U (U.Ty rt⊕FZ U ts)} (ms:MS) (C:HS) (z:Tryz.prog.funcs[f]? = some fn) (h:BlkP f fn ms C AN rt T (CU fn ts))
  (hc:(Dy (EV Tryz.prog gl f ms.1 C.1 Hu) f (Gm fn),fn.name == "runtime.NumGoroutine",fn.body)=(true,false,some (Gm fn))):BD Tryz.prog B0 f ⟨ts,rt,fun x=>AY T x,D⟩:=
 Cb (b0:=fun x=>x) ms C AN (CU fn ts) z h hc fun _=>rfl
abbrev kL {α:Type} (l:List α):Bool:=l.length==l.length
abbrev kA (n k:Nat):Bool:=decide (n*k<=lim)&&decide (n<=maxLen)
abbrev KP:List Fk:=[.keep]
abbrev VC(t n:Nat):Pc:=.v t n false
abbrev OV(t:Nat):Sp:=.one (.v t 1 false)
abbrev PQ(j:Nat):Sp:=.one (.ptr j)
abbrev VA(e m:Nat):Pb:=.var e m (.agg [.v e m true])
abbrev k0:List Fk:=[.keep,.keep,.keep]
def kq(n:Nat)(l:List Fk):List Fk:=List.replicate n .keep++l
abbrev k1:List Fk:=(kq 20 (.s 39 1::.s 49 3::.s 138 3::.s 149 10::.s 135 11::.keep::.s 158 18::.s 39 1::kq 11 (.s 39 1::kq 3 (.s 120 3::.keep::.keep::[]))))
abbrev k2:List Fk:=(kq 20 (.own 39 1::.own 49 3::.own 138 3::.own 149 10::.own 135 11::.keep::.own 158 18::.own 39 1::kq 11 (.own 39 1::kq 3 (.own 120 3::kq 4 []))))
abbrev k3:List Fk:=(kq 20 (.own 39 1::.own 49 3::.own 138 3::.s 149 10::.s 135 11::.keep::.own 158 18::.own 39 1::kq 11 (.own 39 1::kq 3 (.own 120 3::kq 4 []))))
abbrev k4:List Fk:=(kq 9 (.s 5 1::[]))
abbrev k5:List Fk:=(kq 20 (.own 39 1::.own 49 3::.own 138 3::.s 149 10::.s 135 11::.keep::.own 158 18::.own 39 1::kq 11 (.s 39 1::kq 3 (.own 120 3::kq 4 []))))
abbrev k6:List Fk:=(kq 20 (.own 39 1::.s 49 3::.own 138 3::.own 149 10::.own 135 11::.keep::.own 158 18::.own 39 1::kq 11 (.own 39 1::kq 3 (.own 120 3::kq 4 []))))
abbrev k7:List Fk:=(kq 7 (.s 5 1::[]))
abbrev k8:List Fk:=(kq 6 (.s 5 1::kq 3 []))
abbrev k9:List Fk:=(kq 20 (.own 39 1::.own 49 3::.own 138 3::.own 149 10::.own 135 11::.keep::.own 158 18::.own 39 1::kq 11 (.own 39 1::kq 3 (.own 120 3::.keep::.keep::[]))))
abbrev k10:List Fk:=(kq 5 [])
abbrev k11:List Fk:=(kq 7 (.s 5 1::kq 6 []))
abbrev k12:List Fk:=(kq 6 [])
abbrev k13:List Fk:=(kq 11 [])
abbrev k14:List Fk:=(kq 20 (.own 39 1::.s 49 3::.s 138 3::.s 149 10::.s 135 11::.keep::.own 158 18::.own 39 1::kq 11 (.own 39 1::kq 3 (.own 120 3::kq 4 []))))
abbrev k15:List Fk:=(.keep::.s 158 18::.s 39 1::kq 5 [])
abbrev k16:List Fk:=(kq 6 (.s 39 1::kq 3 []))
abbrev k17:List Fk:=(kq 20 (.own 39 1::.own 49 3::.own 138 3::.own 149 10::.own 135 11::.keep::.own 158 18::.own 39 1::kq 11 (.s 39 1::kq 3 (.own 120 3::kq 4 []))))
abbrev k18:List Fk:=(kq 20 (.own 39 1::.own 49 3::.own 138 3::.own 149 10::.own 135 11::.keep::.s 158 18::.s 39 1::kq 11 (.s 39 1::kq 3 (.s 120 3::.keep::.keep::[]))))
abbrev k19:List Fk:=(kq 12 (.s 5 1::[]))
abbrev k20:List Fk:=(kq 6 (.own 39 1::kq 3 []))
abbrev IL (a:BJ):=(a.Node.Address,(a.Node.Device,(a.Node.App,(a.Node.Keys,(a.Node.IV,(a.Node.Seq,(a.Node.Fz,(a.Node.Hg,(a.Node.AB.Low,(a.Node.AB.Ed,(a.Node.AB.Sent,(a.Node.AB.Hz,(a.Node.AB.Counter,(a.Node.AB.Dropped,(a.Node.Low.EP,(a.Node.Low.AB,(a.Node.Low.Ed,(a.Node.Low.Counter,(a.Node.Low.Em,(a.Node.Low.IB,(a.Node.Low.Told,(a.Node.Low.More,(a.Node.Low.Last,(a.Node.G8,(a.Node.Up,(a.DL,()))))))))))))))))))))))))))
abbrev JO (a:Aq):=(a.Ak,(a.BA,(a.BG,(a.Flight,(a.Notes,())))))
abbrev NT (a:BJ):=(a.Node.Address,(a.Node.Device,(a.Node.App,(a.Node.Keys,(a.Node.IV,(a.Node.Seq,(a.Node.Fz,(a.Node.Hg,(a.Node.Cache,(a.Node.AB.Low,(a.Node.AB.Ed,(a.Node.AB.Sent,(a.Node.AB.Hz,(a.Node.AB.Counter,(a.Node.AB.Dropped,(a.Node.Low.EP,(a.Node.Low.AB,(a.Node.Low.Ed,(a.Node.Low.Counter,(a.Node.Low.Em,(a.Node.Low.IB,(a.Node.Low.Told,(a.Node.Low.More,(a.Node.Low.Last,(a.Node.G8,(a.Node.Up,(a.DL,())))))))))))))))))))))))))))
abbrev Jz (a:BJ):=(a.Node.Address,(a.Node.Device,(a.Node.App,(a.Node.Keys,(a.Node.IV,(a.Node.Seq,(a.Node.Fz,(a.Node.Hg,(a.Node.A7,(a.Node.AB.Low,(a.Node.AB.Ed,(a.Node.AB.Sent,(a.Node.AB.Hz,(a.Node.AB.Counter,(a.Node.AB.Dropped,(a.Node.Low.EP,(a.Node.Low.AB,(a.Node.Low.Ed,(a.Node.Low.Counter,(a.Node.Low.Em,(a.Node.Low.IB,(a.Node.Low.Told,(a.Node.Low.More,(a.Node.Low.Last,(a.Node.G8,(a.Node.Up,(a.DL,())))))))))))))))))))))))))))
abbrev NM (a:BJ):=(a.Node.Address,(a.Node.Device,(a.Node.App,(a.Node.Keys,(a.Node.IV,(a.Node.Seq,(a.Node.Fz,(a.Node.Hg,(a.Node.A7,(a.Node.AB.Low,(a.Node.AB.Ed,(a.Node.AB.Sent,(a.Node.AB.Hz,(a.Node.AB.Counter,(a.Node.AB.Dropped,(a.Node.Low,(a.Node.G8,(a.Node.Up,(a.DL,())))))))))))))))))))
abbrev NS (a:Aq):=((a.Count,(a.Now,())),(a.Ak,(a.BA,(a.BG,(a.Flight,(a.Notes,()))))))
abbrev TM (a:Ae):=(a.Address,(a.Device,(a.App,(a.Keys,(a.IV,(a.Seq,(a.Fz,(a.Hg,(a.AB.Low,(a.AB.Ed,(a.AB.Sent,(a.AB.Hz,(a.AB.Counter,(a.AB.Dropped,(a.Low.EP,(a.Low.AB,(a.Low.Ed,(a.Low.Counter,(a.Low.Em,(a.Low.IB,(a.Low.Told,(a.Low.More,(a.Low.Last,(a.G8,(a.Up,())))))))))))))))))))))))))
abbrev WH (a:Ae):=(a.Ah,(a.Cache,(a.Ai,(a.A7.Out,(a.A7.In,(a.AB.Aa,(a.AB.AO,(a.Low.AO,(a.Out,())))))))))
abbrev tu8 (a:Ae):=(a.Address,(a.Device,(a.App,(a.Keys,(a.IV,(a.Seq,(a.Fz,(a.Hg,(a.AB,(a.Low,(a.Out,(a.G8,(a.Up,())))))))))))))
abbrev oD (a:BJ):=(a.Node.Address,(a.Node.Device,(a.Node.App,(a.Node.Keys,(a.Node.IV,(a.Node.Seq,(a.Node.Fz,(a.Node.Hg,(a.Node.AB.Low,(a.Node.AB.Ed,(a.Node.AB.Sent,(a.Node.AB.Hz,(a.Node.AB.Counter,(a.Node.AB.Dropped,(a.Node.Low,(a.Node.G8,(a.Node.Up,(a.DL,()))))))))))))))))))
abbrev tu10 (a:Ae):=(a.Ah,(a.Cache,(a.Ai,(a.A7.Out,(a.A7.In,())))))
abbrev tu11 (a:Df):=(a.EP,(a.AB,(a.Ed,(a.Counter,(a.Em,(a.IB,(a.Told,(a.More,(a.Last,())))))))))
abbrev Y2 (a:BJ):=(a.Node.Address,(a.Node.Device,(a.Node.App,(a.Node.Keys,(a.Node.IV,(a.Node.Seq,(a.Node.Fz,(a.Node.Hg,(a.Node.Cache,(a.Node.Ai,(a.Node.A7,(a.Node.AB.Low,(a.Node.AB.Ed,(a.Node.AB.Sent,(a.Node.AB.Hz,(a.Node.AB.Counter,(a.Node.AB.Dropped,(a.Node.Low.EP,(a.Node.Low.AB,(a.Node.Low.Ed,(a.Node.Low.Counter,(a.Node.Low.Em,(a.Node.Low.IB,(a.Node.Low.Told,(a.Node.Low.More,(a.Node.Low.Last,(a.Node.G8,(a.Node.Up,(a.DL,())))))))))))))))))))))))))))))
abbrev tu13 (a:Aq):=(((),()),((a.Count,(a.Now,())),(a.Ak,(a.BA,(a.BG,(a.Flight,(a.Notes,())))))))
abbrev ET (i:Nat):Sp:=.agg [.own 76 i,.own 79 (i+1),.own 113 (i+2),.v 3 1 false,.v 3 1 false,.own 106 (i+3),.own 55 (i+4)]
abbrev Qs (i:Nat):Sp:=.agg [.own 149 i,.own 135 (i+1)]
abbrev WC (i:Nat):Sp:=.agg [.v 39 1 false,.v 41 1 false,.v 41 1 false,.v 59 11 true,.v 61 3 true,.v 47 1 false,.v 4 1 false,.v 4 1 false,.own 39 i,.own 49 (i+1),.own 138 (i+2),.own 149 (i+3),.own 135 (i+4),.v 39 1 false,.own 158 (i+5),.own 39 (i+6),.v 3 1 false,.v 4 1 false,.v 3 1 false,.v 3 1 false,.v 3 1 false,.v 3 1 false,.v 39 1 false,.v 3 1 false,.v 3 1 false,.v 3 1 false,.v 3 1 false,.own 39 (i+7),.v 3 1 false,.v 4 1 false,.v 3 1 false,.own 120 (i+8),.v 47 1 false,.v 4 1 false]
abbrev ag3 (i:Nat):Sp:=.agg [.v 39 1 false,.v 41 1 false,.v 41 1 false,.v 59 11 true,.v 61 3 true,.v 47 1 false,.v 4 1 false,.v 4 1 false,.own 39 i,.own 49 (i+1),.own 138 (i+2),.own 149 (i+3),.own 135 (i+4),.v 71 8 true,.v 73 10 true,.v 74 1 false,.v 47 1 false,.v 4 1 false]
abbrev ag4 (z C D G I:Nat):Sp:=.agg [.own 76 z,.own 79 C,.own 113 D,.v 3 1 false,.v 3 1 false,.own 106 G,.own 55 I]
abbrev ag5 (i:Nat):Sp:=.agg [.v 3 1 false,.v 39 1 false,.v 3 1 false,.v 3 1 false,.v 3 1 false,.v 3 1 false,.own 39 i,.v 3 1 false,.v 4 1 false,.v 3 1 false]
abbrev kl {α L:Type} (l:List α) (t:Tr U L):Tr U L:=.chk (kL l) t
abbrev kI {α:Type} (i:Int) (l:List α):Bool:=decide (0<=i/\i<(l.length:Int))
abbrev AZ {L M:Type} (x:L):Tr U (L⊕M):=.leaf (.inl x)
abbrev Ac {L M:Type} (x:M):Tr U (L⊕M):=.leaf (.inr x)
theorem DN:(∀(L R:Type) (l:L) (J:L->Option R),(Tr.leaf l:Tr U L).den J=J l)/\(∀(L R:Type) (c:Bool) (a b:Tr U L) (J:L->Option R),(Tr.br c a b).den J=cond c (a.den J) (b.den J))/\(∀(L R:Type) (t:Nat) (o:Option (U.Ty t)) (k:U.Ty t->Tr U L) (J:L->Option R),(Tr.bind t o k).den J=o.bind fun x=>(k x).den J) /\
  (∀(L R:Type) (c:Bool) (a:Tr U L) (J:L->Option R),(Tr.chk c a).den J=cond c (a.den J) none)/\(∀(L R:Type) (J:L->Option R),(Tr.fail:Tr U L).den J=none)/\(∀(R P:Type) (g:P->Option R) (r:R),GN g (.inl r)=some r)/\(∀(R P:Type) (g:P->Option R) (q:P),GN g (.inr q)=g q) /\
  (∀(α:Type) (l:List α),kL l=true)/\(∀(L R α:Type) (l:List α) (a:Tr U L) (J:L->Option R),(kl l a).den J=a.den J)/\(∀(L R:Type) (a:Tr U L) (J:L->Option R),(Tr.chk true a).den J=a.den J)/\(∀(α:Type) (i:Int) (l:List α),kI i l=decide (0<=i/\i<(l.length:Int)))/\(∀n k:Nat,kA n k=(decide (n*k<=lim)&&decide (n<=maxLen))):=
 ⟨fun _ _ _ _=>rfl,fun _ _ _ _ _ _=>rfl,fun _ _ _ _ _ _=>rfl,fun _ _ _ _ _=>rfl,fun _ _ _=>rfl,fun _ _ _ _=>rfl,fun _ _ _ _=>rfl,fun _ _=>beq_self_eq_true _,fun _ _ _ l a J=>by show cond (l.length==l.length) (a.den J) none=_;rw[beq_self_eq_true];rfl,fun _ _ _ _=>rfl,fun _ _ _=>rfl,fun _ _=>rfl⟩
abbrev dS (x:BJ):Je:=⟨(⟨x.Node.Address,x.Node.Device,x.Node.App,x.Node.Keys,x.Node.IV,x.Node.Seq,x.Node.Fz,x.Node.Hg,(⟨x.Node.AB.Low,x.Node.AB.Ed,x.Node.AB.Sent,x.Node.AB.Hz,x.Node.AB.Counter,x.Node.AB.Dropped⟩:yM),(⟨x.Node.Low.EP,x.Node.Low.AB,x.Node.Low.Ed,x.Node.Low.Counter,x.Node.Low.Em,x.Node.Low.IB,x.Node.Low.Told,x.Node.Low.More,x.Node.Low.Last⟩:vO),x.Node.G8,x.Node.Up⟩:Z8),x.DL⟩
def Zbf:List Nat:=[130,4,3,5,27,39,34,35,37,45,40,41,47,29,23,24,30,31,62,63,64,65,66,69,74,133,96,9,207,44,100,128,117,101,213,214,270,179,182,184,262,328,228,279,245,247,248,250,226,230,282,284,286,240,310,311,315,170]
def Zbl:List (Nat×Nat):=[(79,2),(113,2),(26,4),(49,3),(138,3),(149,10),(135,11),(158,18),(120,3),(76,46),(106,4),(55,13),(33,7),(43,10),(366,2),(59,11),(61,3),(71,8),(73,10),(57,5),(68,2),(53,11),(156,10),(219,13),(154,8),(276,2),(51,8),(335,6),(221,3),(233,14),(292,2),(360,2)]
theorem Zor:∀t∈Zbf,t∈U.keys/\∀a,cellsS (U.encS t a)=[U.encS t a]:=by
 intro t ht
 repeat (rcases List.mem_cons.1 ht with rfl|ht;exact⟨by decide,fun _=>rfl⟩)
 cases ht
theorem Zp7:∀p∈Zbl,p.1∈U.keys/\∀a,∃cs,U.encS p.1 a = .agg cs/\cs.length=p.2:=by
 intro p ht
 repeat (rcases List.mem_cons.1 ht with rfl|ht;exact⟨by decide,fun _=>⟨_,rfl,rfl⟩⟩)
 cases ht
theorem okS {s:Shape} (h:shB U Zbf Zbl s=true):s.OK U:=Shape.ok_of Zor Zp7 h
def kt:Nat->List Fk
 | 23=>[.s 79 2]
 | 24=>[.s 113 2]
 | 26=>[.s 4 1,.s 4 1,.s 79 2,.s 113 2]
 | 27=>[.s 5 1]
 | 29=>[.s 76 46]
 | 30=>[.s 106 4]
 | 33=>[.s 76 46,.s 79 2,.s 113 2,.keep,.keep,.s 106 4,.s 55 13]
 | 43=>k8
 | 44=>[.s 43 10]
 | 45=>[.s 3 1]
 | 49=>k0
 | 51=>k7
 | 55=>(kq 10 (.s 5 1::.keep::.keep::[]))
 | 57=>k10
 | 59=>k13
 | 61=>k0
 | 62=>[.s 39 1]
 | 63=>[.s 49 3]
 | 64=>[.s 138 3]
 | 65=>[.s 149 10]
 | 68=>[.s 149 10,.s 135 11]
 | 71=>k15
 | 73=>k16
 | 74=>[.s 120 3]
 | 76=>k1
 | 79=>[.keep,.keep]
 | 100=>[.s 53 11]
 | 113=>[.keep,.keep]
 | 133=>[.s 27 1]
 | 154=>k7
 | 156=>k4
 | 207=>[.s 40 1]
 | 213=>[.s 156 10]
 | 219=>k19
 | 221=>k0
 | 228=>[.s 57 5]
 | 233=>k11
 | 247=>[.s 219 13]
 | 276=>[.keep,.keep]
 | 292=>[.s 49 3,.keep]
 | 310=>[.s 51 8]
 | 328=>[.s 276 2]
 | 335=>k12
 | 366=>[.keep,.keep]
 | _=>[.keep]
inductive Sl where
 | v (t:Nat)|a (t:Nat)|p (j:Nat)|o (e n j:Nat)
inductive Bo where
 | v (t:Nat)|s (t:Nat)|r (e:Nat)
def LT (s:List Nat) (l:List Sl) (b:List Bo):Lay:=
 ⟨s,l.map fun | .v t=>kt t | .a t=>kt t | .p _=>[.keep] | .o e n _=>[.own e n],b.map fun | .v t=>.var (kt t) | .s t=>.var (kt t) | .r _=>.row true,
  ⟨l.map fun | .v t=>.one (.v t 1 false) | .a t=>.agg [.v t (kt t).length true] | .p j=>.one (.ptr j) | .o e _ j=>.one (.own e j),
   b.map fun | .v t=>.var t 1 (.one (.v t 1 false)) | .s t=>.var t (kt t).length (.agg [.v t (kt t).length true]) | .r e=>.row e true⟩⟩
abbrev AA0 (f:Nat) (m:BF U):Prop:=BD Tryz.prog B0 f m
theorem AA2 {ts:List Nat} (h:ts.all U.keys.contains=true):∀t∈ts,t∈U.keys:=by simpa using h
abbrev AA1 (f:Nat) (ts:List Nat) (rt:Nat) (fn:FZ U ts->Option (U.Ty rt)) (h:ts.all U.keys.contains=true):Prop:=BD Tryz.prog B0 f ⟨ts,rt,fn,AA2 h⟩
@[reducible] def AA4 (R:Type):List Pc->Type
 | []=>R
 | .v t _ _::ps=>U.Ty t×AA4 R ps
 | _::ps=>AA4 R ps
@[reducible] def AA5 (R:Type):List Sp->Type
 | []=>R
 | p::ps=>AA4 (AA5 R ps) p.cells
@[reducible] def AA6:List Pb->Type
 | []=>Unit
 | .var _ _ p::bs=>AA4 (AA6 bs) p.cells
 | .row t _::bs=>List (U.Ty t)×AA6 bs
 | .gone::bs=>AA6 bs
def AA7 {R:Type}:(l:List Pc)->AA4 R l->PX U l×R
 | [],x=>((),x)
 | .v _ _ _::ps,x=>((x.1,(AA7 ps x.2).1),(AA7 ps x.2).2)
 | .own _ _::ps,x=>AA7 ps x
 | .ptr _::ps,x=>AA7 ps x
 | .fn _ _ _::ps,x=>AA7 ps x
 | .no::ps,x=>AA7 ps x
 | .und::ps,x=>AA7 ps x
 | .Yg _::ps,x=>AA7 ps x
def AA8 {R:Type}:(l:List Sp)->AA5 R l->AX U l×R
 | [],x=>((),x)
 | p::ps,x=>(((AA7 p.cells x).1,(AA8 ps (AA7 p.cells x).2).1),(AA8 ps (AA7 p.cells x).2).2)
def AA9:(l:List Pb)->AA6 l->BX U l
 | [],_=>()
 | .var _ _ p::bs,x=>((AA7 p.cells x).1,AA9 bs (AA7 p.cells x).2)
 | .row _ _::bs,x=>(x.1,AA9 bs x.2)
 | .gone::bs,x=>AA9 bs x
noncomputable def AA3 (fn:Func) (p:List Nat) (L:Lay) (x:AA5 (AA6 L.sh.boxes) L.sh.args):BN U:=BB fn p L ((AA8 _ x).1,AA9 _ (AA8 _ x).2)
end
end Go.Proofs.YteinepnbndegdaaGreat
