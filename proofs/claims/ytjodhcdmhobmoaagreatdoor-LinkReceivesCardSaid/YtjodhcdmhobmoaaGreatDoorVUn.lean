/- A part of it. -/
import Derived.Test.YtjodhcdmhobmoaaGreatDoorVHd
import Derived.Test.YtjodhcdmhobmoaaGreatDoorProg
import Derived.KernelRfl
set_option linter.unusedVariables false
set_option linter.unusedSimpArgs false
namespace Go.Proofs.YtjodhcdmhobmoaaGreatDoor
open Go Go.Proofs.YtjodhcdmhobmoaaGreatDoor.Le
set_option maxRecDepth 100000
noncomputable section
structure D5 where
 EK:Int
 Dx:Int
 D9:Int
 Dh:Int
 ER:Int
@[reducible] def Be:D5:=⟨(0:Int),(0:Int),(0:Int),(0:Int),(0:Int)⟩
structure FW where
 Il:Int
 LJ:Int
 BB:D5
 Map:Int
 Hop:Int
 mQ:Int
 MH:Int
@[reducible] def Z8L:FW:=⟨(0:Int),(0:Int),Be,(0:Int),(0:Int),(0:Int),(0:Int)⟩
structure Z5o where
 x0:Int
 x1:Int
structure Aq where
 BP:Int
 Payload:List Int
structure Hg where
 Side:Int
 Kind:Int
 Ap:Aq
 BB:D5
 Map:Int
 Number:Int
 Key:Int
structure FD where
 Tc:List Hg
 Y6:Int
 Yc:Int
structure Jc where
 DR:FW
 Keys:Z5o
 IC:Int
 Events:List FD
 BK:Int
 Ap:Int
structure BQ where
 SN:Int
 DX:Int
 Az:List Aq
 Open:Bool
 Empty:Bool
 Di:Int
 Taken:Int
@[reducible] def KZ:BQ:=⟨(0:Int),(0:Int),[],false,false,(0:Int),(0:Int)⟩
structure ET where
 Dh:Int
 VJ:Int
 Full:Bool
@[reducible] def ZoF:ET:=⟨(0:Int),(0:Int),false⟩
structure AO where
 Kind:Int
 BB:D5
 Map:Int
 Ci:Int
 Bl:Int
 DL:Int
 Bj:Int
 Mark:Int
 Bv:Int
 Version:Int
 Length:Int
@[reducible] def EO:AO:=⟨(0:Int),Be,(0:Int),(0:Int),(0:Int),(0:Int),(0:Int),(0:Int),(0:Int),(0:Int),(0:Int)⟩
structure BG where
 Kind:Int
 Ci:Int
 BB:D5
 Map:Int
@[reducible] def I7:BG:=⟨(0:Int),(0:Int),Be,(0:Int)⟩
structure A7 where
 BK:Int
 Own:Int
 Since:Int
 Ah:List AO
 Other:Int
 Ez:Int
 Ak:List BG
 Told:Bool
 Bv:Int
 Hl:Int
 FI:Bool
 FY:Bool
 Version:Int
 Length:Int
 Limit:Int
 Bj:Int
 F5:Int
 Mark:Int
 CP:Int
 Bz:Int
@[reducible] def EP:A7:=⟨(0:Int),(0:Int),(0:Int),[],(0:Int),(0:Int),[],false,(0:Int),(0:Int),false,false,(0:Int),(0:Int),(0:Int),(0:Int),(0:Int),(0:Int),(0:Int),(0:Int)⟩
structure Bc where
 BK:Int
 Key:Int
 Bj:Int
 Gf:Bool
 Eg:Bool
 Tx:Int
 Rx:Int
@[reducible] def NF:Bc:=⟨(0:Int),(0:Int),(0:Int),false,false,(0:Int),(0:Int)⟩
structure BJ where
 Good:Int
 IY:Int
structure Ac where
 BK:Int
 DR:FW
 Clock:Int
 Event:Int
 Last:Int
 Fp:Int
 Size:Int
 Sync:Int
 IB:Int
 Hq:Bool
 FO:Bool
 Good:Bool
 Di:Bool
 More:Bool
 Ar:BQ
 Gj:ET
 AA:A7
 Bq:Bc
 Key:Int
 CX:List BJ
 Ag:List AO
 Bl:Int
 IC:Int
@[reducible] def D8:Ac:=⟨(0:Int),Z8L,(0:Int),(0:Int),(0:Int),(0:Int),(0:Int),(0:Int),(0:Int),false,false,false,false,false,KZ,ZoF,EP,NF,(0:Int),[],[],(0:Int),(0:Int)⟩
structure Am where
 Kind:Int
 Event:Int
 Ap:Aq
 JW:BG
 Number:Int
 BB:D5
structure Cm where
 x0:Ac
 x1:Ac
structure QY where
 Start:Int
 End:Int
structure BI where
 SN:Int
 DX:Int
 MD:Int
 Ap:Aq
@[reducible] def Df:BI:=⟨(0:Int),(0:Int),(0:Int),(⟨(0:Int),[]⟩:Aq)⟩
structure CE where
 FI:Bool
 BB:Bool
 Map:Bool
 Ci:Bool
 Bl:Bool
 DL:Bool
 Bj:Bool
 Mark:Bool
 Bv:Bool
 Version:Bool
 Length:Bool
@[reducible] def OW:CE:=⟨false,false,false,false,false,false,false,false,false,false,false⟩
structure CO where
 Link:Ac
 Ba:List Am
structure Je where
 x0:Int
 x1:Int
structure Es where
 Size:Int
 Value:Int
structure GV where
 Vr:Int
 f_low:Int
 yJ:Int
structure BV where
 AA:A7
 PZ:Int
 LD:Int
 f_out:List AO
 Bg:List Am
structure Z49 where
 SN:Int
 DX:Int
 Open:Bool
 Empty:Bool
 Di:Int
 Taken:Int
structure dU where
 BK:Int
 Own:Int
 Since:Int
 Other:Int
 Ez:Int
 Told:Bool
 Bv:Int
 Hl:Int
 FI:Bool
 FY:Bool
 Version:Int
 Length:Int
 Limit:Int
 Bj:Int
 F5:Int
 Mark:Int
 CP:Int
 Bz:Int
structure Z3q where
 BK:Int
 DR:FW
 Clock:Int
 Event:Int
 Last:Int
 Fp:Int
 Size:Int
 Sync:Int
 IB:Int
 Hq:Bool
 FO:Bool
 Good:Bool
 Di:Bool
 More:Bool
 Ar:Z49
 Gj:ET
 AA:dU
 Bq:Bc
 Key:Int
 Bl:Int
 IC:Int
structure SK where
 Link:Z3q
structure SG where
 BK:Int
 Key:Int
 Bj:Int
 Gf:Bool
 Eg:Bool
 Tx:Int
 Rx:Int
structure Ub where
 AA:dU
 PZ:Int
 LD:Int
structure OX where
 q0:List Int
structure Rk where
 q0:List AO
structure Rl where
 q0:List BG
structure Yu where
 q0:List BJ
structure Jj where
 q0:List Int
structure MC where
 q0:List Int
structure Ul where
 q0:List Int
structure Q7 where
 q0:List Int
structure SQ where
 q0:List Int
structure Wp where
 q0:Bc
 q1:Int
structure Xc where
 q0:BQ
structure XW where
 q0:CO
structure Wl where
 q0:CO
structure W9 where
 q0:CO
 q1:List Am
structure Rt where
 q0:BI
 q1:Bool
 q2:CO
 q3:List BJ
structure Wh where
 q0:List Int
structure UZ where
 q0:CO
 q1:List BJ
structure Wv where
 q0:List BJ
structure OU where
 q0:CO
 q1:List AO
 q2:List BG
structure Ua where
 q0:List Int
structure U3 where
 q0:AO
structure U7 where
 q0:AO
structure U2 where
 q0:AO
structure UO where
 q0:AO
structure UM where
 q0:AO
structure UT where
 q0:AO
structure UL where
 q0:AO
structure UN where
 q0:AO
structure UQ where
 q0:AO
structure LU where
 q0:AO
structure QQ where
 q0:AO
structure QS where
 q0:AO
structure Ud where
 q0:BV
structure UH where
 q0:CO
structure Ox where
 q0:CO
structure WT where
 q0:CO
 q1:List Am
structure QR where
 q0:CO
structure LQ where
 q0:BV
structure Me where
 q0:BV
 q1:List BG
structure UD where
 q0:BV
structure Rj where
 q0:BV
structure NC where
 q0:BV
structure Ri where
 q0:BV
structure RZ where
 q0:BV
structure Rq where
 q0:BV
structure OT where
 q0:BV
structure QN where
 q0:BV
structure RV where
 q0:BV
structure Rh where
 q0:BV
structure WM where
 q0:BV
structure UE where
 q0:BV
structure QO where
 q0:BV
@[reducible] def Ty:Nat->Type
 | 1344=>OX
 | 1345=>Rk
 | 1346=>Rl
 | 1347=>Yu
 | 1349=>Jj
 | 1351=>MC
 | 1352=>Ul
 | 1350=>Q7
 | 1348=>SQ
 | 1363=>Wp
 | 1364=>Xc
 | 1353=>XW
 | 1356=>Wl
 | 1357=>W9
 | 1354=>Rt
 | 1365=>Wh
 | 1355=>UZ
 | 1366=>Wv
 | 1358=>OU
 | 1379=>Ua
 | 1370=>U3
 | 1371=>U7
 | 1372=>U2
 | 1373=>UO
 | 1374=>UM
 | 1375=>UT
 | 1376=>UL
 | 1377=>UN
 | 1378=>UQ
 | 1367=>LU
 | 1368=>QQ
 | 1369=>QS
 | 1380=>Ud
 | 1359=>UH
 | 1360=>Ox
 | 1361=>WT
 | 1362=>QR
 | 1387=>LQ
 | 1381=>Me
 | 1382=>UD
 | 1383=>Rj
 | 1384=>NC
 | 1385=>Ri
 | 1386=>RZ
 | 1388=>Rq
 | 1389=>OT
 | 1390=>QN
 | 1391=>RV
 | 1392=>Rh
 | 1393=>WM
 | 1394=>UE
 | 1395=>QO
 | 249=>Unit
 | 115=>SK
 | 206=>Ub
 | 338=>Int
 | 3369=>Int
 | 3385=>SG
 | 4=>Bool
 | 5=>Int
 | 83=>Hg
 | 113=>FD
 | 59=>Jc
 | 62=>List Int
 | 3=>Int
 | 68=>Aq
 | 156=>AO
 | 138=>BG
 | 99=>BJ
 | 44=>Ac
 | 60=>Ac×Int×Bool
 | 148=>Am
 | 77=>List Am
 | 86=>Ac×(List Am)×Bool
 | 31=>List Aq
 | 39=>A7
 | 36=>List AO
 | 37=>List BG
 | 42=>List BJ
 | 109=>Cm
 | 45=>Int
 | 46=>Ac×Int
 | 110=>Cm×Int
 | 28=>FW
 | 29=>Int
 | 25=>Int
 | 52=>QY
 | 33=>BQ
 | 35=>ET
 | 24=>D5
 | 26=>Int
 | 226=>List Int
 | 63=>Ac×(List Int)
 | 78=>Ac×(List Am)
 | 70=>BI
 | 75=>BQ×BI
 | 71=>BI×Int
 | 120=>(List Int)×Int
 | 104=>Int×Int
 | 30=>Int
 | 22=>Int
 | 189=>BQ×Int
 | 262=>CE
 | 41=>Bc
 | 129=>ET×Int
 | 135=>A7×(List BG)
 | 140=>A7×(List AO)
 | 208=>(List BG)×(List BG)
 | 216=>A7×AO
 | 269=>(List BG)×Int
 | 222=>A7×(List AO)×Int
 | 9=>ByteArray
 | 254=>List Int
 | 163=>BQ×Aq×Bool×Bool
 | 231=>AO×Int
 | 233=>A7×(List Am)
 | 237=>A7×(List AO)×(List Am)
 | 194=>Int×Int
 | 256=>List (List Int)
 | 312=>Je
 | 252=>Es
 | 253=>List Es
 | 279=>(List Int)×(List Int)×Int
 | 174=>GV
 | 240=>List GV
 | _=>Empty
abbrev EW:AL Ty Int:=AL.int .u8
abbrev QG:AL Ty Int:=AL.int .u16
abbrev QE:AL Ty Int:=AL.int .u32
abbrev C9:AL Ty Int:=AL.int .u64
abbrev BL:AL Ty Int:=AL.int .i64
abbrev EI:AL Ty Bool:=AL.bool
abbrev cst:AL Ty ByteArray:=AL.str
def Ir:AL Ty Aq:=AL.Cj (fun x=>(x.BP,x.Payload,())) (fun p=>⟨p.1,p.2.1⟩) (AL.pair BL (AL.pair (AL.list 5 1 (fun(a:Int)=>EW.BU a):AL Ty (List (Ty 5))) AL.unit))
def OQ:AL Ty D5:=AL.Cj (fun x=>(x.EK,x.Dx,x.D9,x.Dh,x.ER,())) (fun p=>⟨p.1,p.2.1,p.2.2.1,p.2.2.2.1,p.2.2.2.2.1⟩) (AL.pair BL (AL.pair BL (AL.pair BL (AL.pair BL (AL.pair BL AL.unit)))))
def Tf:AL Ty Hg:=AL.Cj (fun x=>(x.Side,x.Kind,x.Ap,x.BB,x.Map,x.Number,x.Key,())) (fun p=>⟨p.1,p.2.1,p.2.2.1,p.2.2.2.1,p.2.2.2.2.1,p.2.2.2.2.2.1,p.2.2.2.2.2.2.1⟩) (AL.pair BL (AL.pair BL (AL.pair Ir (AL.pair OQ (AL.pair C9 (AL.pair C9 (AL.pair C9 AL.unit)))))))
def TR:AL Ty FD:=AL.Cj (fun x=>(x.Tc,x.Y6,x.Yc,())) (fun p=>⟨p.1,p.2.1,p.2.2.1⟩) (AL.pair (AL.list 83 12 (fun(a:Hg)=>.agg (Tf.BD a)):AL Ty (List (Ty 83))) (AL.pair BL (AL.pair BL AL.unit)))
def RH:AL Ty FW:=AL.Cj (fun x=>(x.Il,x.LJ,x.BB,x.Map,x.Hop,x.mQ,x.MH,())) (fun p=>⟨p.1,p.2.1,p.2.2.1,p.2.2.2.1,p.2.2.2.2.1,p.2.2.2.2.2.1,p.2.2.2.2.2.2.1⟩) (AL.pair QE (AL.pair QE (AL.pair OQ (AL.pair C9 (AL.pair BL (AL.pair BL (AL.pair BL AL.unit)))))))
def Z9:AL Ty Z5o:=AL.Cj (fun x=>(x.x0,x.x1,())) (fun p=>⟨p.1,p.2.1⟩) (AL.pair C9 (AL.pair C9 AL.unit))
def Ya:AL Ty Jc:=AL.Cj (fun x=>(x.DR,x.Keys,x.IC,x.Events,x.BK,x.Ap,())) (fun p=>⟨p.1,p.2.1,p.2.2.1,p.2.2.2.1,p.2.2.2.2.1,p.2.2.2.2.2.1⟩) (AL.pair RH (AL.pair Z9 (AL.pair C9 (AL.pair (AL.list 113 3 (fun(a:FD)=>.agg (TR.BD a)):AL Ty (List (Ty 113))) (AL.pair BL (AL.pair BL AL.unit))))))
def Gx:AL Ty AO:=AL.Cj (fun x=>(x.Kind,x.BB,x.Map,x.Ci,x.Bl,x.DL,x.Bj,x.Mark,x.Bv,x.Version,x.Length,())) (fun p=>⟨p.1,p.2.1,p.2.2.1,p.2.2.2.1,p.2.2.2.2.1,p.2.2.2.2.2.1,p.2.2.2.2.2.2.1,p.2.2.2.2.2.2.2.1,p.2.2.2.2.2.2.2.2.1,p.2.2.2.2.2.2.2.2.2.1,p.2.2.2.2.2.2.2.2.2.2.1⟩) (AL.pair BL (AL.pair OQ (AL.pair C9 (AL.pair QG (AL.pair BL (AL.pair BL (AL.pair C9 (AL.pair C9 (AL.pair C9 (AL.pair BL (AL.pair BL AL.unit)))))))))))
def IU:AL Ty BG:=AL.Cj (fun x=>(x.Kind,x.Ci,x.BB,x.Map,())) (fun p=>⟨p.1,p.2.1,p.2.2.1,p.2.2.2.1⟩) (AL.pair BL (AL.pair QG (AL.pair OQ (AL.pair C9 AL.unit))))
def OM:AL Ty BJ:=AL.Cj (fun x=>(x.Good,x.IY,())) (fun p=>⟨p.1,p.2.1⟩) (AL.pair BL (AL.pair BL AL.unit))
def Oj:AL Ty BQ:=AL.Cj (fun x=>(x.SN,x.DX,x.Az,x.Open,x.Empty,x.Di,x.Taken,())) (fun p=>⟨p.1,p.2.1,p.2.2.1,p.2.2.2.1,p.2.2.2.2.1,p.2.2.2.2.2.1,p.2.2.2.2.2.2.1⟩) (AL.pair BL (AL.pair BL (AL.pair (AL.list 68 2 (fun(a:Aq)=>.agg (Ir.BD a)):AL Ty (List (Ty 68))) (AL.pair EI (AL.pair EI (AL.pair BL (AL.pair BL AL.unit)))))))
def Td:AL Ty ET:=AL.Cj (fun x=>(x.Dh,x.VJ,x.Full,())) (fun p=>⟨p.1,p.2.1,p.2.2.1⟩) (AL.pair BL (AL.pair BL (AL.pair EI AL.unit)))
def Ja:AL Ty A7:=AL.Cj (fun x=>(x.BK,x.Own,x.Since,x.Ah,x.Other,x.Ez,x.Ak,x.Told,x.Bv,x.Hl,x.FI,x.FY,x.Version,x.Length,x.Limit,x.Bj,x.F5,x.Mark,x.CP,x.Bz,())) (fun p=>⟨p.1,p.2.1,p.2.2.1,p.2.2.2.1,p.2.2.2.2.1,p.2.2.2.2.2.1,p.2.2.2.2.2.2.1,p.2.2.2.2.2.2.2.1,p.2.2.2.2.2.2.2.2.1,p.2.2.2.2.2.2.2.2.2.1,p.2.2.2.2.2.2.2.2.2.2.1,p.2.2.2.2.2.2.2.2.2.2.2.1,p.2.2.2.2.2.2.2.2.2.2.2.2.1,p.2.2.2.2.2.2.2.2.2.2.2.2.2.1,p.2.2.2.2.2.2.2.2.2.2.2.2.2.2.1,p.2.2.2.2.2.2.2.2.2.2.2.2.2.2.2.1,p.2.2.2.2.2.2.2.2.2.2.2.2.2.2.2.2.1,p.2.2.2.2.2.2.2.2.2.2.2.2.2.2.2.2.2.1,p.2.2.2.2.2.2.2.2.2.2.2.2.2.2.2.2.2.2.1,p.2.2.2.2.2.2.2.2.2.2.2.2.2.2.2.2.2.2.2.1⟩) (AL.pair BL (AL.pair BL (AL.pair BL (AL.pair (AL.list 156 15 (fun(a:AO)=>.agg (Gx.BD a)):AL Ty (List (Ty 156))) (AL.pair BL (AL.pair BL (AL.pair (AL.list 138 8 (fun(a:BG)=>.agg (IU.BD a)):AL Ty (List (Ty 138))) (AL.pair EI (AL.pair C9 (AL.pair C9 (AL.pair EI (AL.pair EI (AL.pair BL (AL.pair BL (AL.pair BL (AL.pair C9 (AL.pair C9 (AL.pair C9 (AL.pair BL (AL.pair BL AL.unit))))))))))))))))))))
def Y4:AL Ty Bc:=AL.Cj (fun x=>(x.BK,x.Key,x.Bj,x.Gf,x.Eg,x.Tx,x.Rx,())) (fun p=>⟨p.1,p.2.1,p.2.2.1,p.2.2.2.1,p.2.2.2.2.1,p.2.2.2.2.2.1,p.2.2.2.2.2.2.1⟩) (AL.pair BL (AL.pair C9 (AL.pair C9 (AL.pair EI (AL.pair EI (AL.pair C9 (AL.pair C9 AL.unit)))))))
def Jv:AL Ty Ac:=AL.Cj (fun x=>(x.BK,x.DR,x.Clock,x.Event,x.Last,x.Fp,x.Size,x.Sync,x.IB,x.Hq,x.FO,x.Good,x.Di,x.More,x.Ar,x.Gj,x.AA,x.Bq,x.Key,x.CX,x.Ag,x.Bl,x.IC,())) (fun p=>⟨p.1,p.2.1,p.2.2.1,p.2.2.2.1,p.2.2.2.2.1,p.2.2.2.2.2.1,p.2.2.2.2.2.2.1,p.2.2.2.2.2.2.2.1,p.2.2.2.2.2.2.2.2.1,p.2.2.2.2.2.2.2.2.2.1,p.2.2.2.2.2.2.2.2.2.2.1,p.2.2.2.2.2.2.2.2.2.2.2.1,p.2.2.2.2.2.2.2.2.2.2.2.2.1,p.2.2.2.2.2.2.2.2.2.2.2.2.2.1,p.2.2.2.2.2.2.2.2.2.2.2.2.2.2.1,p.2.2.2.2.2.2.2.2.2.2.2.2.2.2.2.1,p.2.2.2.2.2.2.2.2.2.2.2.2.2.2.2.2.1,p.2.2.2.2.2.2.2.2.2.2.2.2.2.2.2.2.2.1,p.2.2.2.2.2.2.2.2.2.2.2.2.2.2.2.2.2.2.1,p.2.2.2.2.2.2.2.2.2.2.2.2.2.2.2.2.2.2.2.1,p.2.2.2.2.2.2.2.2.2.2.2.2.2.2.2.2.2.2.2.2.1,p.2.2.2.2.2.2.2.2.2.2.2.2.2.2.2.2.2.2.2.2.2.1,p.2.2.2.2.2.2.2.2.2.2.2.2.2.2.2.2.2.2.2.2.2.2.1⟩) (AL.pair BL (AL.pair RH (AL.pair BL (AL.pair QG (AL.pair BL (AL.pair BL (AL.pair BL (AL.pair BL (AL.pair BL (AL.pair EI (AL.pair EI (AL.pair EI (AL.pair EI (AL.pair EI (AL.pair Oj (AL.pair Td (AL.pair Ja (AL.pair Y4 (AL.pair C9 (AL.pair (AL.list 99 2 (fun(a:BJ)=>.agg (OM.BD a)):AL Ty (List (Ty 99))) (AL.pair (AL.list 156 15 (fun(a:AO)=>.agg (Gx.BD a)):AL Ty (List (Ty 156))) (AL.pair BL (AL.pair C9 AL.unit)))))))))))))))))))))))
def JG:AL Ty Am:=AL.Cj (fun x=>(x.Kind,x.Event,x.Ap,x.JW,x.Number,x.BB,())) (fun p=>⟨p.1,p.2.1,p.2.2.1,p.2.2.2.1,p.2.2.2.2.1,p.2.2.2.2.2.1⟩) (AL.pair BL (AL.pair QG (AL.pair Ir (AL.pair IU (AL.pair C9 (AL.pair OQ AL.unit))))))
def YU:AL Ty Cm:=AL.Cj (fun x=>(x.x0,x.x1,())) (fun p=>⟨p.1,p.2.1⟩) (AL.pair Jv (AL.pair Jv AL.unit))
def Z7:AL Ty QY:=AL.Cj (fun x=>(x.Start,x.End,())) (fun p=>⟨p.1,p.2.1⟩) (AL.pair BL (AL.pair BL AL.unit))
def TZ:AL Ty BI:=AL.Cj (fun x=>(x.SN,x.DX,x.MD,x.Ap,())) (fun p=>⟨p.1,p.2.1,p.2.2.1,p.2.2.2.1⟩) (AL.pair BL (AL.pair BL (AL.pair BL (AL.pair Ir AL.unit))))
def zL:AL Ty CE:=AL.Cj (fun x=>(x.FI,x.BB,x.Map,x.Ci,x.Bl,x.DL,x.Bj,x.Mark,x.Bv,x.Version,x.Length,())) (fun p=>⟨p.1,p.2.1,p.2.2.1,p.2.2.2.1,p.2.2.2.2.1,p.2.2.2.2.2.1,p.2.2.2.2.2.2.1,p.2.2.2.2.2.2.2.1,p.2.2.2.2.2.2.2.2.1,p.2.2.2.2.2.2.2.2.2.1,p.2.2.2.2.2.2.2.2.2.2.1⟩) (AL.pair EI (AL.pair EI (AL.pair EI (AL.pair EI (AL.pair EI (AL.pair EI (AL.pair EI (AL.pair EI (AL.pair EI (AL.pair EI (AL.pair EI AL.unit)))))))))))
def zO:AL Ty Je:=AL.Cj (fun x=>(x.x0,x.x1,())) (fun p=>⟨p.1,p.2.1⟩) (AL.pair QE (AL.pair QE AL.unit))
def Pv:AL Ty Es:=AL.Cj (fun x=>(x.Size,x.Value,())) (fun p=>⟨p.1,p.2.1⟩) (AL.pair BL (AL.pair C9 AL.unit))
def Px:AL Ty GV:=AL.Cj (fun x=>(x.Vr,x.f_low,x.yJ,())) (fun p=>⟨p.1,p.2.1,p.2.2.1⟩) (AL.pair BL (AL.pair BL (AL.pair BL AL.unit)))
def ZhV:AL Ty Z49:=AL.Cj (fun x=>(x.SN,x.DX,(),x.Open,x.Empty,x.Di,x.Taken,())) (fun p=>⟨p.1,p.2.1,p.2.2.2.1,p.2.2.2.2.1,p.2.2.2.2.2.1,p.2.2.2.2.2.2.1⟩) (AL.pair BL (AL.pair BL (AL.pair AL.skip (AL.pair EI (AL.pair EI (AL.pair BL (AL.pair BL AL.unit)))))))
def Z5E:AL Ty dU:=AL.Cj (fun x=>(x.BK,x.Own,x.Since,(),x.Other,x.Ez,(),x.Told,x.Bv,x.Hl,x.FI,x.FY,x.Version,x.Length,x.Limit,x.Bj,x.F5,x.Mark,x.CP,x.Bz,())) (fun p=>⟨p.1,p.2.1,p.2.2.1,p.2.2.2.2.1,p.2.2.2.2.2.1,p.2.2.2.2.2.2.2.1,p.2.2.2.2.2.2.2.2.1,p.2.2.2.2.2.2.2.2.2.1,p.2.2.2.2.2.2.2.2.2.2.1,p.2.2.2.2.2.2.2.2.2.2.2.1,p.2.2.2.2.2.2.2.2.2.2.2.2.1,p.2.2.2.2.2.2.2.2.2.2.2.2.2.1,p.2.2.2.2.2.2.2.2.2.2.2.2.2.2.1,p.2.2.2.2.2.2.2.2.2.2.2.2.2.2.2.1,p.2.2.2.2.2.2.2.2.2.2.2.2.2.2.2.2.1,p.2.2.2.2.2.2.2.2.2.2.2.2.2.2.2.2.2.1,p.2.2.2.2.2.2.2.2.2.2.2.2.2.2.2.2.2.2.1,p.2.2.2.2.2.2.2.2.2.2.2.2.2.2.2.2.2.2.2.1⟩) (AL.pair BL (AL.pair BL (AL.pair BL (AL.pair AL.skip (AL.pair BL (AL.pair BL (AL.pair AL.skip (AL.pair EI (AL.pair C9 (AL.pair C9 (AL.pair EI (AL.pair EI (AL.pair BL (AL.pair BL (AL.pair BL (AL.pair C9 (AL.pair C9 (AL.pair C9 (AL.pair BL (AL.pair BL AL.unit))))))))))))))))))))
def ZhK:AL Ty Z3q:=AL.Cj (fun x=>(x.BK,x.DR,x.Clock,x.Event,x.Last,x.Fp,x.Size,x.Sync,x.IB,x.Hq,x.FO,x.Good,x.Di,x.More,x.Ar,x.Gj,x.AA,x.Bq,x.Key,(),(),x.Bl,x.IC,())) (fun p=>⟨p.1,p.2.1,p.2.2.1,p.2.2.2.1,p.2.2.2.2.1,p.2.2.2.2.2.1,p.2.2.2.2.2.2.1,p.2.2.2.2.2.2.2.1,p.2.2.2.2.2.2.2.2.1,p.2.2.2.2.2.2.2.2.2.1,p.2.2.2.2.2.2.2.2.2.2.1,p.2.2.2.2.2.2.2.2.2.2.2.1,p.2.2.2.2.2.2.2.2.2.2.2.2.1,p.2.2.2.2.2.2.2.2.2.2.2.2.2.1,p.2.2.2.2.2.2.2.2.2.2.2.2.2.2.1,p.2.2.2.2.2.2.2.2.2.2.2.2.2.2.2.1,p.2.2.2.2.2.2.2.2.2.2.2.2.2.2.2.2.1,p.2.2.2.2.2.2.2.2.2.2.2.2.2.2.2.2.2.1,p.2.2.2.2.2.2.2.2.2.2.2.2.2.2.2.2.2.2.1,p.2.2.2.2.2.2.2.2.2.2.2.2.2.2.2.2.2.2.2.2.2.1,p.2.2.2.2.2.2.2.2.2.2.2.2.2.2.2.2.2.2.2.2.2.2.1⟩) (AL.pair BL (AL.pair RH (AL.pair BL (AL.pair QG (AL.pair BL (AL.pair BL (AL.pair BL (AL.pair BL (AL.pair BL (AL.pair EI (AL.pair EI (AL.pair EI (AL.pair EI (AL.pair EI (AL.pair ZhV (AL.pair Td (AL.pair Z5E (AL.pair Y4 (AL.pair C9 (AL.pair AL.skip (AL.pair AL.skip (AL.pair BL (AL.pair C9 AL.unit)))))))))))))))))))))))
def yO:AL Ty SK:=AL.Cj (fun x=>(x.Link,(),())) (fun p=>⟨p.1⟩) (AL.pair ZhK (AL.pair AL.skip AL.unit))
def zH:AL Ty SG:=AL.Cj (fun x=>(x.BK,x.Key,x.Bj,x.Gf,x.Eg,x.Tx,x.Rx,())) (fun p=>⟨p.1,p.2.1,p.2.2.1,p.2.2.2.1,p.2.2.2.2.1,p.2.2.2.2.2.1,p.2.2.2.2.2.2.1⟩) (AL.pair BL (AL.pair C9 (AL.pair C9 (AL.pair EI (AL.pair EI (AL.pair C9 (AL.pair C9 AL.unit)))))))
def yG:AL Ty Ub:=AL.Cj (fun x=>(x.AA,x.PZ,x.LD,(),(),())) (fun p=>⟨p.1,p.2.1,p.2.2.1⟩) (AL.pair Z5E (AL.pair QG (AL.pair BL (AL.pair AL.skip (AL.pair AL.skip AL.unit)))))
def ZEw:List V:=[.lit (.int .i64 5),.agg [.sl false 1 [],.fn 348 [] [],.fn 349 [] [],.fn 309 [] []],
 .lit (.int .i64 6),.agg [.sl false 1 [],.fn 348 [] [],.fn 349 [] [],.fn 309 [] []],
 .lit (.int .i64 18),.agg [.sl false 1 [],.fn 348 [] [],.fn 349 [] [],.fn 309 [] []],
 .lit (.int .i64 19),.agg [.sl false 1 [],.fn 348 [] [],.fn 349 [] [],.fn 309 [] []],
 .lit (.int .i64 8),.agg [.sl false 1 [.lit (.int .i64 8)],.fn 350 [] [],.fn 351 [] [],.fn 309 [] []],
 .lit (.int .i64 9),.agg [.sl false 1 [.lit (.int .i64 8)],.fn 350 [] [],.fn 351 [] [],.fn 309 [] []],
 .lit (.int .i64 20),.agg [.sl false 1 [.lit (.int .i64 1)],.fn 352 [] [],.fn 353 [] [],.fn 354 [] []],
 .lit (.int .i64 21),.agg [.sl false 1 [.lit (.int .i64 1)],.fn 352 [] [],.fn 353 [] [],.fn 354 [] []],
 .lit (.int .i64 0),.agg [.sl false 1 [.lit (.int .i64 1),.lit (.int .i64 2),.lit (.int .i64 2),.lit (.int .i64 2),.lit (.int .i64 2),.lit (.int .i64 2)],.fn 292 [] [],.fn 294 [] [],.fn 296 [] []],
 .lit (.int .i64 1),.agg [.sl false 1 [.lit (.int .i64 5),.lit (.int .i64 2)],.fn 297 [] [],.fn 298 [] [],.fn 299 [] []],
 .lit (.int .i64 15),.agg [.sl false 1 [.lit (.int .i64 1),.lit (.int .i64 2),.lit (.int .i64 2),.lit (.int .i64 2),.lit (.int .i64 2)],.fn 300 [] [],.fn 301 [] [],.fn 302 [] []],
 .lit (.int .i64 2),.agg [.sl false 1 [.lit (.int .i64 1)],.fn 303 [] [],.fn 304 [] [],.fn 305 [] []],
 .lit (.int .i64 3),.agg [.sl false 1 [.lit (.int .i64 8),.lit (.int .i64 8)],.fn 307 [] [],.fn 308 [] [],.fn 309 [] []],
 .lit (.int .i64 4),.agg [.sl false 1 [.lit (.int .i64 8)],.fn 310 [] [],.fn 311 [] [],.fn 309 [] []],
 .lit (.int .i64 7),.agg [.sl false 1 [.lit (.int .i64 1)],.fn 312 [] [],.fn 313 [] [],.fn 314 [] []],
 .lit (.int .i64 12),.agg [.sl false 1 [.lit (.int .i64 1)],.fn 315 [] [],.fn 316 [] [],.fn 317 [] []],
 .lit (.int .i64 13),.agg [.sl false 1 [.lit (.int .i64 1),.lit (.int .i64 1)],.fn 318 [] [],.fn 319 [] [],.fn 320 [] []]]
def ZCT:List (SV Ty):=[.lit (.int .i64 5),.agg [.sl 3 ([]:List Int),.fn 348 [] [],.fn 349 [] [],.fn 309 [] []],
 .lit (.int .i64 6),.agg [.sl 3 ([]:List Int),.fn 348 [] [],.fn 349 [] [],.fn 309 [] []],
 .lit (.int .i64 18),.agg [.sl 3 ([]:List Int),.fn 348 [] [],.fn 349 [] [],.fn 309 [] []],
 .lit (.int .i64 19),.agg [.sl 3 ([]:List Int),.fn 348 [] [],.fn 349 [] [],.fn 309 [] []],
 .lit (.int .i64 8),.agg [.sl 3 ([8]:List Int),.fn 350 [] [],.fn 351 [] [],.fn 309 [] []],
 .lit (.int .i64 9),.agg [.sl 3 ([8]:List Int),.fn 350 [] [],.fn 351 [] [],.fn 309 [] []],
 .lit (.int .i64 20),.agg [.sl 3 ([1]:List Int),.fn 352 [] [],.fn 353 [] [],.fn 354 [] []],
 .lit (.int .i64 21),.agg [.sl 3 ([1]:List Int),.fn 352 [] [],.fn 353 [] [],.fn 354 [] []],
 .lit (.int .i64 0),.agg [.sl 3 ([1,2,2,2,2,2]:List Int),.fn 292 [] [],.fn 294 [] [],.fn 296 [] []],
 .lit (.int .i64 1),.agg [.sl 3 ([5,2]:List Int),.fn 297 [] [],.fn 298 [] [],.fn 299 [] []],
 .lit (.int .i64 15),.agg [.sl 3 ([1,2,2,2,2]:List Int),.fn 300 [] [],.fn 301 [] [],.fn 302 [] []],
 .lit (.int .i64 2),.agg [.sl 3 ([1]:List Int),.fn 303 [] [],.fn 304 [] [],.fn 305 [] []],
 .lit (.int .i64 3),.agg [.sl 3 ([8,8]:List Int),.fn 307 [] [],.fn 308 [] [],.fn 309 [] []],
 .lit (.int .i64 4),.agg [.sl 3 ([8]:List Int),.fn 310 [] [],.fn 311 [] [],.fn 309 [] []],
 .lit (.int .i64 7),.agg [.sl 3 ([1]:List Int),.fn 312 [] [],.fn 313 [] [],.fn 314 [] []],
 .lit (.int .i64 12),.agg [.sl 3 ([1]:List Int),.fn 315 [] [],.fn 316 [] [],.fn 317 [] []],
 .lit (.int .i64 13),.agg [.sl 3 ([1,1]:List Int),.fn 318 [] [],.fn 319 [] [],.fn 320 [] []]]
@[reducible] def U:DD where
 Ty:=Ty
 Au:=fun t=>match t with
  | 4=>1
  | 5=>1
  | 83=>12
  | 113=>3
  | 59=>17
  | 62=>1
  | 3=>1
  | 68=>2
  | 156=>15
  | 138=>8
  | 99=>2
  | 44=>66
  | 60=>1
  | 148=>18
  | 77=>1
  | 86=>1
  | 31=>1
  | 39=>20
  | 36=>1
  | 37=>1
  | 42=>1
  | 109=>132
  | 45=>1
  | 46=>1
  | 110=>1
  | 28=>11
  | 29=>1
  | 25=>1
  | 52=>2
  | 33=>7
  | 35=>3
  | 24=>5
  | 26=>1
  | 226=>1
  | 63=>1
  | 78=>1
  | 70=>5
  | 75=>1
  | 71=>1
  | 120=>1
  | 104=>1
  | 30=>1
  | 22=>1
  | 189=>1
  | 262=>11
  | 41=>7
  | 129=>1
  | 135=>1
  | 140=>1
  | 208=>1
  | 216=>1
  | 269=>1
  | 222=>1
  | 9=>1
  | 254=>1
  | 163=>1
  | 231=>1
  | 233=>1
  | 237=>1
  | 194=>1
  | 256=>1
  | 312=>2
  | 252=>2
  | 253=>1
  | 279=>1
  | 174=>3
  | 240=>1
  | _=>0
 enc:=fun t=>match t with
  | 249=>fun(_:Unit)=>.GU ZEw
  | 115=>fun(a:SK)=>yO.MV 67 a
  | 206=>fun(a:Ub)=>yG.MV 24 a
  | 338=>fun(a:Int)=>(EW:AL Ty Int).Oc 1 a
  | 3369=>fun(a:Int)=>(C9:AL Ty Int).Oc 1 a
  | 3385=>fun(a:SG)=>zH.MV 7 a
  | 4=>fun(a:Bool)=>EI.BU a
  | 5=>fun(a:Int)=>EW.BU a
  | 83=>fun(a:Hg)=>.agg (Tf.BD a)
  | 113=>fun(a:FD)=>.agg (TR.BD a)
  | 59=>fun(a:Jc)=>.agg (Ya.BD a)
  | 62=>fun(a:List Int)=>((AL.list 5 1 (fun(a:Int)=>EW.BU a):AL Ty (List (Ty 5)))).BU a
  | 3=>fun(a:Int)=>BL.BU a
  | 68=>fun(a:Aq)=>.agg (Ir.BD a)
  | 156=>fun(a:AO)=>.agg (Gx.BD a)
  | 138=>fun(a:BG)=>.agg (IU.BD a)
  | 99=>fun(a:BJ)=>.agg (OM.BD a)
  | 44=>fun(a:Ac)=>.agg (Jv.BD a)
  | 60=>fun(a:Ac×Int×Bool)=>.BH [(.agg (Jv.BD a.1)),(BL.BU a.2.1),(EI.BU a.2.2)]
  | 148=>fun(a:Am)=>.agg (JG.BD a)
  | 77=>fun(a:List Am)=>((AL.list 148 18 (fun(a:Am)=>.agg (JG.BD a)):AL Ty (List (Ty 148)))).BU a
  | 86=>fun(a:Ac×(List Am)×Bool)=>.BH [(.agg (Jv.BD a.1)),(((AL.list 148 18 (fun(a:Am)=>.agg (JG.BD a)):AL Ty (List (Ty 148)))).BU a.2.1),(EI.BU a.2.2)]
  | 31=>fun(a:List Aq)=>((AL.list 68 2 (fun(a:Aq)=>.agg (Ir.BD a)):AL Ty (List (Ty 68)))).BU a
  | 39=>fun(a:A7)=>.agg (Ja.BD a)
  | 36=>fun(a:List AO)=>((AL.list 156 15 (fun(a:AO)=>.agg (Gx.BD a)):AL Ty (List (Ty 156)))).BU a
  | 37=>fun(a:List BG)=>((AL.list 138 8 (fun(a:BG)=>.agg (IU.BD a)):AL Ty (List (Ty 138)))).BU a
  | 42=>fun(a:List BJ)=>((AL.list 99 2 (fun(a:BJ)=>.agg (OM.BD a)):AL Ty (List (Ty 99)))).BU a
  | 109=>fun(a:Cm)=>.agg (YU.BD a)
  | 45=>fun(a:Int)=>BL.BU a
  | 46=>fun(a:Ac×Int)=>.BH [(.agg (Jv.BD a.1)),(BL.BU a.2)]
  | 110=>fun(a:Cm×Int)=>.BH [(.agg (YU.BD a.1)),(BL.BU a.2)]
  | 28=>fun(a:FW)=>.agg (RH.BD a)
  | 29=>fun(a:Int)=>C9.BU a
  | 25=>fun(a:Int)=>C9.BU a
  | 52=>fun(a:QY)=>.agg (Z7.BD a)
  | 33=>fun(a:BQ)=>.agg (Oj.BD a)
  | 35=>fun(a:ET)=>.agg (Td.BD a)
  | 24=>fun(a:D5)=>.agg (OQ.BD a)
  | 26=>fun(a:Int)=>C9.BU a
  | 226=>fun(a:List Int)=>((AL.list 3 1 (fun(a:Int)=>BL.BU a):AL Ty (List (Ty 3)))).BU a
  | 63=>fun(a:Ac×(List Int))=>.BH [(.agg (Jv.BD a.1)),(((AL.list 5 1 (fun(a:Int)=>EW.BU a):AL Ty (List (Ty 5)))).BU a.2)]
  | 78=>fun(a:Ac×(List Am))=>.BH [(.agg (Jv.BD a.1)),(((AL.list 148 18 (fun(a:Am)=>.agg (JG.BD a)):AL Ty (List (Ty 148)))).BU a.2)]
  | 70=>fun(a:BI)=>.agg (TZ.BD a)
  | 75=>fun(a:BQ×BI)=>.BH [(.agg (Oj.BD a.1)),(.agg (TZ.BD a.2))]
  | 71=>fun(a:BI×Int)=>.BH [(.agg (TZ.BD a.1)),(BL.BU a.2)]
  | 120=>fun(a:(List Int)×Int)=>.BH [(((AL.list 5 1 (fun(a:Int)=>EW.BU a):AL Ty (List (Ty 5)))).BU a.1),(BL.BU a.2)]
  | 104=>fun(a:Int×Int)=>.BH [(BL.BU a.1),(BL.BU a.2)]
  | 30=>fun(a:Int)=>QG.BU a
  | 22=>fun(a:Int)=>QE.BU a
  | 189=>fun(a:BQ×Int)=>.BH [(.agg (Oj.BD a.1)),(BL.BU a.2)]
  | 262=>fun(a:CE)=>.agg (zL.BD a)
  | 41=>fun(a:Bc)=>.agg (Y4.BD a)
  | 129=>fun(a:ET×Int)=>.BH [(.agg (Td.BD a.1)),(BL.BU a.2)]
  | 135=>fun(a:A7×(List BG))=>.BH [(.agg (Ja.BD a.1)),(((AL.list 138 8 (fun(a:BG)=>.agg (IU.BD a)):AL Ty (List (Ty 138)))).BU a.2)]
  | 140=>fun(a:A7×(List AO))=>.BH [(.agg (Ja.BD a.1)),(((AL.list 156 15 (fun(a:AO)=>.agg (Gx.BD a)):AL Ty (List (Ty 156)))).BU a.2)]
  | 208=>fun(a:(List BG)×(List BG))=>.BH [(((AL.list 138 8 (fun(a:BG)=>.agg (IU.BD a)):AL Ty (List (Ty 138)))).BU a.1),(((AL.list 138 8 (fun(a:BG)=>.agg (IU.BD a)):AL Ty (List (Ty 138)))).BU a.2)]
  | 216=>fun(a:A7×AO)=>.BH [(.agg (Ja.BD a.1)),(.agg (Gx.BD a.2))]
  | 269=>fun(a:(List BG)×Int)=>.BH [(((AL.list 138 8 (fun(a:BG)=>.agg (IU.BD a)):AL Ty (List (Ty 138)))).BU a.1),(BL.BU a.2)]
  | 222=>fun(a:A7×(List AO)×Int)=>.BH [(.agg (Ja.BD a.1)),(((AL.list 156 15 (fun(a:AO)=>.agg (Gx.BD a)):AL Ty (List (Ty 156)))).BU a.2.1),(BL.BU a.2.2)]
  | 9=>fun(a:ByteArray)=>cst.BU a
  | 254=>fun(a:List Int)=>((AL.list 25 1 (fun(a:Int)=>C9.BU a):AL Ty (List (Ty 25)))).BU a
  | 163=>fun(a:BQ×Aq×Bool×Bool)=>.BH [(.agg (Oj.BD a.1)),(.agg (Ir.BD a.2.1)),(EI.BU a.2.2.1),(EI.BU a.2.2.2)]
  | 231=>fun(a:AO×Int)=>.BH [(.agg (Gx.BD a.1)),(BL.BU a.2)]
  | 233=>fun(a:A7×(List Am))=>.BH [(.agg (Ja.BD a.1)),(((AL.list 148 18 (fun(a:Am)=>.agg (JG.BD a)):AL Ty (List (Ty 148)))).BU a.2)]
  | 237=>fun(a:A7×(List AO)×(List Am))=>.BH [(.agg (Ja.BD a.1)),(((AL.list 156 15 (fun(a:AO)=>.agg (Gx.BD a)):AL Ty (List (Ty 156)))).BU a.2.1),(((AL.list 148 18 (fun(a:Am)=>.agg (JG.BD a)):AL Ty (List (Ty 148)))).BU a.2.2)]
  | 194=>fun(a:Int×Int)=>.BH [(C9.BU a.1),(C9.BU a.2)]
  | 256=>fun(a:List (List Int))=>((AL.list 62 1 (fun(a:List Int)=>((AL.list 5 1 (fun(a:Int)=>EW.BU a):AL Ty (List (Ty 5)))).BU a):AL Ty (List (Ty 62)))).BU a
  | 312=>fun(a:Je)=>.agg (zO.BD a)
  | 252=>fun(a:Es)=>.agg (Pv.BD a)
  | 253=>fun(a:List Es)=>((AL.list 252 2 (fun(a:Es)=>.agg (Pv.BD a)):AL Ty (List (Ty 252)))).BU a
  | 279=>fun(a:(List Int)×(List Int)×Int)=>.BH [(((AL.list 25 1 (fun(a:Int)=>C9.BU a):AL Ty (List (Ty 25)))).BU a.1),(((AL.list 5 1 (fun(a:Int)=>EW.BU a):AL Ty (List (Ty 5)))).BU a.2.1),(BL.BU a.2.2)]
  | 174=>fun(a:GV)=>.agg (Px.BD a)
  | 240=>fun(a:List GV)=>((AL.list 174 3 (fun(a:GV)=>.agg (Px.BD a)):AL Ty (List (Ty 174)))).BU a
  | _=>fun _=>.no
 encS:=fun t=>match t with
  | 249=>fun(_:Unit)=>.Om ZCT
  | 115=>fun(a:SK)=>.raw (yO.MV 67 a)
  | 206=>fun(a:Ub)=>.raw (yG.MV 24 a)
  | 338=>fun(a:Int)=>.raw ((EW:AL Ty Int).Oc 1 a)
  | 3369=>fun(a:Int)=>.raw ((C9:AL Ty Int).Oc 1 a)
  | 3385=>fun(a:SG)=>.raw (zH.MV 7 a)
  | 4=>fun(a:Bool)=>EI.D7 a
  | 5=>fun(a:Int)=>EW.D7 a
  | 83=>fun(a:Hg)=>.agg (Tf.encS a)
  | 113=>fun(a:FD)=>.agg (TR.encS a)
  | 59=>fun(a:Jc)=>.agg (Ya.encS a)
  | 62=>fun(a:List Int)=>((AL.list 5 1 (fun(a:Int)=>EW.BU a):AL Ty (List (Ty 5)))).D7 a
  | 3=>fun(a:Int)=>BL.D7 a
  | 68=>fun(a:Aq)=>.agg (Ir.encS a)
  | 156=>fun(a:AO)=>.agg (Gx.encS a)
  | 138=>fun(a:BG)=>.agg (IU.encS a)
  | 99=>fun(a:BJ)=>.agg (OM.encS a)
  | 44=>fun(a:Ac)=>.agg (Jv.encS a)
  | 60=>fun(a:Ac×Int×Bool)=>.BH [(.agg (Jv.encS a.1)),(BL.D7 a.2.1),(EI.D7 a.2.2)]
  | 148=>fun(a:Am)=>.agg (JG.encS a)
  | 77=>fun(a:List Am)=>((AL.list 148 18 (fun(a:Am)=>.agg (JG.BD a)):AL Ty (List (Ty 148)))).D7 a
  | 86=>fun(a:Ac×(List Am)×Bool)=>.BH [(.agg (Jv.encS a.1)),(((AL.list 148 18 (fun(a:Am)=>.agg (JG.BD a)):AL Ty (List (Ty 148)))).D7 a.2.1),(EI.D7 a.2.2)]
  | 31=>fun(a:List Aq)=>((AL.list 68 2 (fun(a:Aq)=>.agg (Ir.BD a)):AL Ty (List (Ty 68)))).D7 a
  | 39=>fun(a:A7)=>.agg (Ja.encS a)
  | 36=>fun(a:List AO)=>((AL.list 156 15 (fun(a:AO)=>.agg (Gx.BD a)):AL Ty (List (Ty 156)))).D7 a
  | 37=>fun(a:List BG)=>((AL.list 138 8 (fun(a:BG)=>.agg (IU.BD a)):AL Ty (List (Ty 138)))).D7 a
  | 42=>fun(a:List BJ)=>((AL.list 99 2 (fun(a:BJ)=>.agg (OM.BD a)):AL Ty (List (Ty 99)))).D7 a
  | 109=>fun(a:Cm)=>.agg (YU.encS a)
  | 45=>fun(a:Int)=>BL.D7 a
  | 46=>fun(a:Ac×Int)=>.BH [(.agg (Jv.encS a.1)),(BL.D7 a.2)]
  | 110=>fun(a:Cm×Int)=>.BH [(.agg (YU.encS a.1)),(BL.D7 a.2)]
  | 28=>fun(a:FW)=>.agg (RH.encS a)
  | 29=>fun(a:Int)=>C9.D7 a
  | 25=>fun(a:Int)=>C9.D7 a
  | 52=>fun(a:QY)=>.agg (Z7.encS a)
  | 33=>fun(a:BQ)=>.agg (Oj.encS a)
  | 35=>fun(a:ET)=>.agg (Td.encS a)
  | 24=>fun(a:D5)=>.agg (OQ.encS a)
  | 26=>fun(a:Int)=>C9.D7 a
  | 226=>fun(a:List Int)=>((AL.list 3 1 (fun(a:Int)=>BL.BU a):AL Ty (List (Ty 3)))).D7 a
  | 63=>fun(a:Ac×(List Int))=>.BH [(.agg (Jv.encS a.1)),(((AL.list 5 1 (fun(a:Int)=>EW.BU a):AL Ty (List (Ty 5)))).D7 a.2)]
  | 78=>fun(a:Ac×(List Am))=>.BH [(.agg (Jv.encS a.1)),(((AL.list 148 18 (fun(a:Am)=>.agg (JG.BD a)):AL Ty (List (Ty 148)))).D7 a.2)]
  | 70=>fun(a:BI)=>.agg (TZ.encS a)
  | 75=>fun(a:BQ×BI)=>.BH [(.agg (Oj.encS a.1)),(.agg (TZ.encS a.2))]
  | 71=>fun(a:BI×Int)=>.BH [(.agg (TZ.encS a.1)),(BL.D7 a.2)]
  | 120=>fun(a:(List Int)×Int)=>.BH [(((AL.list 5 1 (fun(a:Int)=>EW.BU a):AL Ty (List (Ty 5)))).D7 a.1),(BL.D7 a.2)]
  | 104=>fun(a:Int×Int)=>.BH [(BL.D7 a.1),(BL.D7 a.2)]
  | 30=>fun(a:Int)=>QG.D7 a
  | 22=>fun(a:Int)=>QE.D7 a
  | 189=>fun(a:BQ×Int)=>.BH [(.agg (Oj.encS a.1)),(BL.D7 a.2)]
  | 262=>fun(a:CE)=>.agg (zL.encS a)
  | 41=>fun(a:Bc)=>.agg (Y4.encS a)
  | 129=>fun(a:ET×Int)=>.BH [(.agg (Td.encS a.1)),(BL.D7 a.2)]
  | 135=>fun(a:A7×(List BG))=>.BH [(.agg (Ja.encS a.1)),(((AL.list 138 8 (fun(a:BG)=>.agg (IU.BD a)):AL Ty (List (Ty 138)))).D7 a.2)]
  | 140=>fun(a:A7×(List AO))=>.BH [(.agg (Ja.encS a.1)),(((AL.list 156 15 (fun(a:AO)=>.agg (Gx.BD a)):AL Ty (List (Ty 156)))).D7 a.2)]
  | 208=>fun(a:(List BG)×(List BG))=>.BH [(((AL.list 138 8 (fun(a:BG)=>.agg (IU.BD a)):AL Ty (List (Ty 138)))).D7 a.1),(((AL.list 138 8 (fun(a:BG)=>.agg (IU.BD a)):AL Ty (List (Ty 138)))).D7 a.2)]
  | 216=>fun(a:A7×AO)=>.BH [(.agg (Ja.encS a.1)),(.agg (Gx.encS a.2))]
  | 269=>fun(a:(List BG)×Int)=>.BH [(((AL.list 138 8 (fun(a:BG)=>.agg (IU.BD a)):AL Ty (List (Ty 138)))).D7 a.1),(BL.D7 a.2)]
  | 222=>fun(a:A7×(List AO)×Int)=>.BH [(.agg (Ja.encS a.1)),(((AL.list 156 15 (fun(a:AO)=>.agg (Gx.BD a)):AL Ty (List (Ty 156)))).D7 a.2.1),(BL.D7 a.2.2)]
  | 9=>fun(a:ByteArray)=>cst.D7 a
  | 254=>fun(a:List Int)=>((AL.list 25 1 (fun(a:Int)=>C9.BU a):AL Ty (List (Ty 25)))).D7 a
  | 163=>fun(a:BQ×Aq×Bool×Bool)=>.BH [(.agg (Oj.encS a.1)),(.agg (Ir.encS a.2.1)),(EI.D7 a.2.2.1),(EI.D7 a.2.2.2)]
  | 231=>fun(a:AO×Int)=>.BH [(.agg (Gx.encS a.1)),(BL.D7 a.2)]
  | 233=>fun(a:A7×(List Am))=>.BH [(.agg (Ja.encS a.1)),(((AL.list 148 18 (fun(a:Am)=>.agg (JG.BD a)):AL Ty (List (Ty 148)))).D7 a.2)]
  | 237=>fun(a:A7×(List AO)×(List Am))=>.BH [(.agg (Ja.encS a.1)),(((AL.list 156 15 (fun(a:AO)=>.agg (Gx.BD a)):AL Ty (List (Ty 156)))).D7 a.2.1),(((AL.list 148 18 (fun(a:Am)=>.agg (JG.BD a)):AL Ty (List (Ty 148)))).D7 a.2.2)]
  | 194=>fun(a:Int×Int)=>.BH [(C9.D7 a.1),(C9.D7 a.2)]
  | 256=>fun(a:List (List Int))=>((AL.list 62 1 (fun(a:List Int)=>((AL.list 5 1 (fun(a:Int)=>EW.BU a):AL Ty (List (Ty 5)))).BU a):AL Ty (List (Ty 62)))).D7 a
  | 312=>fun(a:Je)=>.agg (zO.encS a)
  | 252=>fun(a:Es)=>.agg (Pv.encS a)
  | 253=>fun(a:List Es)=>((AL.list 252 2 (fun(a:Es)=>.agg (Pv.BD a)):AL Ty (List (Ty 252)))).D7 a
  | 279=>fun(a:(List Int)×(List Int)×Int)=>.BH [(((AL.list 25 1 (fun(a:Int)=>C9.BU a):AL Ty (List (Ty 25)))).D7 a.1),(((AL.list 5 1 (fun(a:Int)=>EW.BU a):AL Ty (List (Ty 5)))).D7 a.2.1),(BL.D7 a.2.2)]
  | 174=>fun(a:GV)=>.agg (Px.encS a)
  | 240=>fun(a:List GV)=>((AL.list 174 3 (fun(a:GV)=>.agg (Px.BD a)):AL Ty (List (Ty 174)))).D7 a
  | _=>fun _=>.no
 IE:=fun t=>match t with
  | 115=>fun v=>yO.mM 67 v
  | 206=>fun v=>yG.mM 24 v
  | 338=>fun v=>(EW:AL Ty Int).zG 1 v
  | 3369=>fun v=>(C9:AL Ty Int).zG 1 v
  | 3385=>fun v=>zH.mM 7 v
  | 4=>fun v=>EI.one v
  | 5=>fun v=>EW.one v
  | 83=>fun v=>Tf.agg v
  | 113=>fun v=>TR.agg v
  | 59=>fun v=>Ya.agg v
  | 62=>fun v=>((AL.list 5 1 (fun(a:Int)=>EW.BU a):AL Ty (List (Ty 5)))).one v
  | 3=>fun v=>BL.one v
  | 68=>fun v=>Ir.agg v
  | 156=>fun v=>Gx.agg v
  | 138=>fun v=>IU.agg v
  | 99=>fun v=>OM.agg v
  | 44=>fun v=>Jv.agg v
  | 60=>fun _=>none
  | 148=>fun v=>JG.agg v
  | 77=>fun v=>((AL.list 148 18 (fun(a:Am)=>.agg (JG.BD a)):AL Ty (List (Ty 148)))).one v
  | 86=>fun _=>none
  | 31=>fun v=>((AL.list 68 2 (fun(a:Aq)=>.agg (Ir.BD a)):AL Ty (List (Ty 68)))).one v
  | 39=>fun v=>Ja.agg v
  | 36=>fun v=>((AL.list 156 15 (fun(a:AO)=>.agg (Gx.BD a)):AL Ty (List (Ty 156)))).one v
  | 37=>fun v=>((AL.list 138 8 (fun(a:BG)=>.agg (IU.BD a)):AL Ty (List (Ty 138)))).one v
  | 42=>fun v=>((AL.list 99 2 (fun(a:BJ)=>.agg (OM.BD a)):AL Ty (List (Ty 99)))).one v
  | 109=>fun v=>YU.agg v
  | 45=>fun v=>BL.one v
  | 46=>fun _=>none
  | 110=>fun _=>none
  | 28=>fun v=>RH.agg v
  | 29=>fun v=>C9.one v
  | 25=>fun v=>C9.one v
  | 52=>fun v=>Z7.agg v
  | 33=>fun v=>Oj.agg v
  | 35=>fun v=>Td.agg v
  | 24=>fun v=>OQ.agg v
  | 26=>fun v=>C9.one v
  | 226=>fun v=>((AL.list 3 1 (fun(a:Int)=>BL.BU a):AL Ty (List (Ty 3)))).one v
  | 63=>fun _=>none
  | 78=>fun _=>none
  | 70=>fun v=>TZ.agg v
  | 75=>fun _=>none
  | 71=>fun _=>none
  | 120=>fun _=>none
  | 104=>fun _=>none
  | 30=>fun v=>QG.one v
  | 22=>fun v=>QE.one v
  | 189=>fun _=>none
  | 262=>fun v=>zL.agg v
  | 41=>fun v=>Y4.agg v
  | 129=>fun _=>none
  | 135=>fun _=>none
  | 140=>fun _=>none
  | 208=>fun _=>none
  | 216=>fun _=>none
  | 269=>fun _=>none
  | 222=>fun _=>none
  | 9=>fun v=>cst.one v
  | 254=>fun v=>((AL.list 25 1 (fun(a:Int)=>C9.BU a):AL Ty (List (Ty 25)))).one v
  | 163=>fun _=>none
  | 231=>fun _=>none
  | 233=>fun _=>none
  | 237=>fun _=>none
  | 194=>fun _=>none
  | 256=>fun v=>((AL.list 62 1 (fun(a:List Int)=>((AL.list 5 1 (fun(a:Int)=>EW.BU a):AL Ty (List (Ty 5)))).BU a):AL Ty (List (Ty 62)))).one v
  | 312=>fun v=>zO.agg v
  | 252=>fun v=>Pv.agg v
  | 253=>fun v=>((AL.list 252 2 (fun(a:Es)=>.agg (Pv.BD a)):AL Ty (List (Ty 252)))).one v
  | 279=>fun _=>none
  | 174=>fun v=>Px.agg v
  | 240=>fun v=>((AL.list 174 3 (fun(a:GV)=>.agg (Px.BD a)):AL Ty (List (Ty 174)))).one v
  | _=>fun _=>none
 keys:=[115,206,338,3369,3385,4,5,83,113,59,62,3,68,156,138,99,44,60,148,77,86,31,39,36,37,42,109,45,46,110,28,29,25,52,33,35,24,26,226,63,78,70,75,71,120,104,30,22,189,262,41,129,135,140,208,216,269,222,9,254,163,231,233,237,194,256,312,252,253,279,174,240]
theorem TE:A8 U Ir [0,1]:=A8.Cj ((A8.int _).pair ((A8.list (U:=U) (t:=5) (n:=1) (e:=fun(a:Int)=>EW.BU a) (fun _=>rfl) rfl (fun a=>(A8.int _:A8 U EW _).TM a) (fun a b h=>(A8.int _:A8 U EW _).TD h)).pair A8.unit)) (fun _=>rfl) (fun _=>rfl)
theorem Xz:A8 U OQ [0,0,0,0,0]:=A8.Cj ((A8.int _).pair ((A8.int _).pair ((A8.int _).pair ((A8.int _).pair ((A8.int _).pair A8.unit))))) (fun _=>rfl) (fun _=>rfl)
theorem Z58:A8 U Tf [0,0,0,1,0,0,0,0,0,0,0,0]:=A8.Cj ((A8.int _).pair ((A8.int _).pair ((TE).pair ((Xz).pair ((A8.int _).pair ((A8.int _).pair ((A8.int _).pair A8.unit))))))) (fun _=>rfl) (fun _=>rfl)
theorem Z4G:A8 U TR [12,0,0]:=A8.Cj ((A8.list (U:=U) (t:=83) (n:=12) (e:=fun(a:Hg)=>.agg (Tf.BD a)) (fun _=>rfl) rfl (fun a=>Z58.nr a) (fun a b h=>Z58.inj _ _ (by injection h))).pair ((A8.int _).pair ((A8.int _).pair A8.unit))) (fun _=>rfl) (fun _=>rfl)
theorem xZ:A8 U RH [0,0,0,0,0,0,0,0,0,0,0]:=A8.Cj ((A8.int _).pair ((A8.int _).pair ((Xz).pair ((A8.int _).pair ((A8.int _).pair ((A8.int _).pair ((A8.int _).pair A8.unit))))))) (fun _=>rfl) (fun _=>rfl)
theorem ZFE:A8 U Z9 [0,0]:=A8.Cj ((A8.int _).pair ((A8.int _).pair A8.unit)) (fun _=>rfl) (fun _=>rfl)
theorem ZFe:A8 U Ya [0,0,0,0,0,0,0,0,0,0,0,0,0,0,3,0,0]:=A8.Cj ((xZ).pair ((ZFE).pair ((A8.int _).pair ((A8.list (U:=U) (t:=113) (n:=3) (e:=fun(a:FD)=>.agg (TR.BD a)) (fun _=>rfl) rfl (fun a=>Z4G.nr a) (fun a b h=>Z4G.inj _ _ (by injection h))).pair ((A8.int _).pair ((A8.int _).pair A8.unit)))))) (fun _=>rfl) (fun _=>rfl)
theorem VG:A8 U Gx [0,0,0,0,0,0,0,0,0,0,0,0,0,0,0]:=A8.Cj ((A8.int _).pair ((Xz).pair ((A8.int _).pair ((A8.int _).pair ((A8.int _).pair ((A8.int _).pair ((A8.int _).pair ((A8.int _).pair ((A8.int _).pair ((A8.int _).pair ((A8.int _).pair A8.unit))))))))))) (fun _=>rfl) (fun _=>rfl)
theorem Xw:A8 U IU [0,0,0,0,0,0,0,0]:=A8.Cj ((A8.int _).pair ((A8.int _).pair ((Xz).pair ((A8.int _).pair A8.unit)))) (fun _=>rfl) (fun _=>rfl)
theorem kG:A8 U OM [0,0]:=A8.Cj ((A8.int _).pair ((A8.int _).pair A8.unit)) (fun _=>rfl) (fun _=>rfl)
theorem ZhJ:A8 U Oj [0,0,2,0,0,0,0]:=A8.Cj ((A8.int _).pair ((A8.int _).pair ((A8.list (U:=U) (t:=68) (n:=2) (e:=fun(a:Aq)=>.agg (Ir.BD a)) (fun _=>rfl) rfl (fun a=>TE.nr a) (fun a b h=>TE.inj _ _ (by injection h))).pair ((A8.bool).pair ((A8.bool).pair ((A8.int _).pair ((A8.int _).pair A8.unit))))))) (fun _=>rfl) (fun _=>rfl)
theorem Z57:A8 U Td [0,0,0]:=A8.Cj ((A8.int _).pair ((A8.int _).pair ((A8.bool).pair A8.unit))) (fun _=>rfl) (fun _=>rfl)
theorem Zhg:A8 U Ja [0,0,0,15,0,0,8,0,0,0,0,0,0,0,0,0,0,0,0,0]:=A8.Cj ((A8.int _).pair ((A8.int _).pair ((A8.int _).pair ((A8.list (U:=U) (t:=156) (n:=15) (e:=fun(a:AO)=>.agg (Gx.BD a)) (fun _=>rfl) rfl (fun a=>VG.nr a) (fun a b h=>VG.inj _ _ (by injection h))).pair ((A8.int _).pair ((A8.int _).pair ((A8.list (U:=U) (t:=138) (n:=8) (e:=fun(a:BG)=>.agg (IU.BD a)) (fun _=>rfl) rfl (fun a=>Xw.nr a) (fun a b h=>Xw.inj _ _ (by injection h))).pair ((A8.bool).pair ((A8.int _).pair ((A8.int _).pair ((A8.bool).pair ((A8.bool).pair ((A8.int _).pair ((A8.int _).pair ((A8.int _).pair ((A8.int _).pair ((A8.int _).pair ((A8.int _).pair ((A8.int _).pair ((A8.int _).pair A8.unit)))))))))))))))))))) (fun _=>rfl) (fun _=>rfl)
theorem Z5k:A8 U Y4 [0,0,0,0,0,0,0]:=A8.Cj ((A8.int _).pair ((A8.int _).pair ((A8.int _).pair ((A8.bool).pair ((A8.bool).pair ((A8.int _).pair ((A8.int _).pair A8.unit))))))) (fun _=>rfl) (fun _=>rfl)
theorem Z5i:A8 U Jv [0,0,0,0,0,0,0,0,0,0,0,0,0,0,0,0,0,0,0,0,0,0,0,0,0,0,2,0,0,0,0,0,0,0,0,0,0,15,0,0,8,0,0,0,0,0,0,0,0,0,0,0,0,0,0,0,0,0,0,0,0,0,2,15,0,0]:=A8.Cj ((A8.int _).pair ((xZ).pair ((A8.int _).pair ((A8.int _).pair ((A8.int _).pair ((A8.int _).pair ((A8.int _).pair ((A8.int _).pair ((A8.int _).pair ((A8.bool).pair ((A8.bool).pair ((A8.bool).pair ((A8.bool).pair ((A8.bool).pair ((ZhJ).pair ((Z57).pair ((Zhg).pair ((Z5k).pair ((A8.int _).pair ((A8.list (U:=U) (t:=99) (n:=2) (e:=fun(a:BJ)=>.agg (OM.BD a)) (fun _=>rfl) rfl (fun a=>kG.nr a) (fun a b h=>kG.inj _ _ (by injection h))).pair ((A8.list (U:=U) (t:=156) (n:=15) (e:=fun(a:AO)=>.agg (Gx.BD a)) (fun _=>rfl) rfl (fun a=>VG.nr a) (fun a b h=>VG.inj _ _ (by injection h))).pair ((A8.int _).pair ((A8.int _).pair A8.unit))))))))))))))))))))))) (fun _=>rfl) (fun _=>rfl)
theorem Z4D:A8 U JG [0,0,0,1,0,0,0,0,0,0,0,0,0,0,0,0,0,0]:=A8.Cj ((A8.int _).pair ((A8.int _).pair ((TE).pair ((Xw).pair ((A8.int _).pair ((Xz).pair A8.unit)))))) (fun _=>rfl) (fun _=>rfl)
theorem ZEx:A8 U YU [0,0,0,0,0,0,0,0,0,0,0,0,0,0,0,0,0,0,0,0,0,0,0,0,0,0,2,0,0,0,0,0,0,0,0,0,0,15,0,0,8,0,0,0,0,0,0,0,0,0,0,0,0,0,0,0,0,0,0,0,0,0,2,15,0,0,0,0,0,0,0,0,0,0,0,0,0,0,0,0,0,0,0,0,0,0,0,0,0,0,0,0,2,0,0,0,0,0,0,0,0,0,0,15,0,0,8,0,0,0,0,0,0,0,0,0,0,0,0,0,0,0,0,0,0,0,0,0,2,15,0,0]:=A8.Cj ((Z5i).pair ((Z5i).pair A8.unit)) (fun _=>rfl) (fun _=>rfl)
theorem ZFT:A8 U Z7 [0,0]:=A8.Cj ((A8.int _).pair ((A8.int _).pair A8.unit)) (fun _=>rfl) (fun _=>rfl)
theorem ZEU:A8 U TZ [0,0,0,0,1]:=A8.Cj ((A8.int _).pair ((A8.int _).pair ((A8.int _).pair ((TE).pair A8.unit)))) (fun _=>rfl) (fun _=>rfl)
theorem ZDZ:A8 U zL [0,0,0,0,0,0,0,0,0,0,0]:=A8.Cj ((A8.bool).pair ((A8.bool).pair ((A8.bool).pair ((A8.bool).pair ((A8.bool).pair ((A8.bool).pair ((A8.bool).pair ((A8.bool).pair ((A8.bool).pair ((A8.bool).pair ((A8.bool).pair A8.unit))))))))))) (fun _=>rfl) (fun _=>rfl)
theorem ZD7:A8 U zO [0,0]:=A8.Cj ((A8.int _).pair ((A8.int _).pair A8.unit)) (fun _=>rfl) (fun _=>rfl)
theorem Z4H:A8 U Pv [0,0]:=A8.Cj ((A8.int _).pair ((A8.int _).pair A8.unit)) (fun _=>rfl) (fun _=>rfl)
theorem Z4X:A8 U Px [0,0,0]:=A8.Cj ((A8.int _).pair ((A8.int _).pair ((A8.int _).pair A8.unit))) (fun _=>rfl) (fun _=>rfl)
theorem rows4:rowsOf Tryz.prog 4=[0]:=by kernel_rfl
abbrev RE (E:Env):Prop:=E.rows=rowsOf Tryz.prog
theorem lM {E} (q:RE E):CJ U E 4:=.IQ (c:=EI) (A8.bool) ((congrFun q 4).trans rows4) (fun h=>ZDb h) (fun _=>rfl) (fun _=>rfl) (fun _=>rfl) (fun _=>rfl) (fun _=>rfl)
theorem rows5:rowsOf Tryz.prog 5=[0]:=by kernel_rfl
theorem tyok5 {E} (q:RE E):CJ U E 5:=.IQ (c:=EW) (A8.int _) ((congrFun q 5).trans rows5) (fun h=>TG h) (fun _=>rfl) (fun _=>rfl) (fun _=>rfl) (fun _=>rfl) (fun _=>rfl)
theorem ZG9:rowsOf Tryz.prog 83=[0,0,0,1,0,0,0,0,0,0,0,0]:=by kernel_rfl
theorem ZF3 {E} (q:RE E):CJ U E 83:=.IA Z58 ((congrFun q 83).trans ZG9) (fun _=>rfl) (fun _=>rfl) (fun _=>rfl)
theorem ZEu:rowsOf Tryz.prog 113=[12,0,0]:=by kernel_rfl
theorem ZCZ {E} (q:RE E):CJ U E 113:=.IA Z4G ((congrFun q 113).trans ZEu) (fun _=>rfl) (fun _=>rfl) (fun _=>rfl)
theorem ZEZ:rowsOf Tryz.prog 59=[0,0,0,0,0,0,0,0,0,0,0,0,0,0,3,0,0]:=by kernel_rfl
theorem ZF5 {E} (q:RE E):CJ U E 59:=.IA ZFe ((congrFun q 59).trans ZEZ) (fun _=>rfl) (fun _=>rfl) (fun _=>rfl)
theorem ZFG:rowsOf Tryz.prog 62=[1]:=by kernel_rfl
theorem yS {E} (q:RE E):CJ U E 62:=.IQ (c:=(AL.list 5 1 (fun(a:Int)=>EW.BU a):AL Ty (List (Ty 5)))) (A8.list (U:=U) (t:=5) (n:=1) (e:=fun(a:Int)=>EW.BU a) (fun _=>rfl) rfl (fun a=>(A8.int _:A8 U EW _).TM a) (fun a b h=>(A8.int _:A8 U EW _).TD h)) ((congrFun q 62).trans ZFG) (fun h=>O8 (U:=U) (t:=5) (n:=1) (e:=fun(a:Int)=>EW.BU a) h) (fun _=>rfl) (fun _=>rfl) (fun _=>rfl) (fun _=>rfl) (fun _=>rfl)
theorem rows3:rowsOf Tryz.prog 3=[0]:=by kernel_rfl
theorem lQ {E} (q:RE E):CJ U E 3:=.IQ (c:=BL) (A8.int _) ((congrFun q 3).trans rows3) (fun h=>TG h) (fun _=>rfl) (fun _=>rfl) (fun _=>rfl) (fun _=>rfl) (fun _=>rfl)
theorem ZF1:rowsOf Tryz.prog 68=[0,1]:=by kernel_rfl
theorem Zhx {E} (q:RE E):CJ U E 68:=.IA TE ((congrFun q 68).trans ZF1) (fun _=>rfl) (fun _=>rfl) (fun _=>rfl)
theorem ZEA:rowsOf Tryz.prog 156=[0,0,0,0,0,0,0,0,0,0,0,0,0,0,0]:=by kernel_rfl
theorem Z4Y {E} (q:RE E):CJ U E 156:=.IA VG ((congrFun q 156).trans ZEA) (fun _=>rfl) (fun _=>rfl) (fun _=>rfl)
theorem ZCU:rowsOf Tryz.prog 138=[0,0,0,0,0,0,0,0]:=by kernel_rfl
theorem ZCL {E} (q:RE E):CJ U E 138:=.IA Xw ((congrFun q 138).trans ZCU) (fun _=>rfl) (fun _=>rfl) (fun _=>rfl)
theorem ZGx:rowsOf Tryz.prog 99=[0,0]:=by kernel_rfl
theorem ZF7 {E} (q:RE E):CJ U E 99:=.IA kG ((congrFun q 99).trans ZGx) (fun _=>rfl) (fun _=>rfl) (fun _=>rfl)
theorem ZEW:rowsOf Tryz.prog 44=[0,0,0,0,0,0,0,0,0,0,0,0,0,0,0,0,0,0,0,0,0,0,0,0,0,0,2,0,0,0,0,0,0,0,0,0,0,15,0,0,8,0,0,0,0,0,0,0,0,0,0,0,0,0,0,0,0,0,0,0,0,0,2,15,0,0]:=by kernel_rfl
theorem YF {E} (q:RE E):CJ U E 44:=.IA Z5i ((congrFun q 44).trans ZEW) (fun _=>rfl) (fun _=>rfl) (fun _=>rfl)
theorem ZFy {E} (q:RE E):CJ U E 60:=.BH [⟨44,fun a=>a.1⟩,⟨3,fun a=>a.2.1⟩,⟨4,fun a=>a.2.2⟩] ⟨YF q,lQ q,lM q,trivial⟩ (fun _=>rfl) (fun _=>rfl) (fun _=>rfl) fun _ _ h=>Prod.ext h.1 (Prod.ext h.2.1 h.2.2.1)
theorem ZDC:rowsOf Tryz.prog 148=[0,0,0,1,0,0,0,0,0,0,0,0,0,0,0,0,0,0]:=by kernel_rfl
theorem ZEy {E} (q:RE E):CJ U E 148:=.IA Z4D ((congrFun q 148).trans ZDC) (fun _=>rfl) (fun _=>rfl) (fun _=>rfl)
theorem ZFk:rowsOf Tryz.prog 77=[18]:=by kernel_rfl
theorem kM {E} (q:RE E):CJ U E 77:=.IQ (c:=(AL.list 148 18 (fun(a:Am)=>.agg (JG.BD a)):AL Ty (List (Ty 148)))) (A8.list (U:=U) (t:=148) (n:=18) (e:=fun(a:Am)=>.agg (JG.BD a)) (fun _=>rfl) rfl (fun a=>Z4D.nr a) (fun a b h=>Z4D.inj _ _ (by injection h))) ((congrFun q 77).trans ZFk) (fun h=>O8 (U:=U) (t:=148) (n:=18) (e:=fun(a:Am)=>.agg (JG.BD a)) h) (fun _=>rfl) (fun _=>rfl) (fun _=>rfl) (fun _=>rfl) (fun _=>rfl)
theorem ZFM {E} (q:RE E):CJ U E 86:=.BH [⟨44,fun a=>a.1⟩,⟨77,fun a=>a.2.1⟩,⟨4,fun a=>a.2.2⟩] ⟨YF q,kM q,lM q,trivial⟩ (fun _=>rfl) (fun _=>rfl) (fun _=>rfl) fun _ _ h=>Prod.ext h.1 (Prod.ext h.2.1 h.2.2.1)
theorem ZGv:rowsOf Tryz.prog 31=[2]:=by kernel_rfl
theorem ZFF {E} (q:RE E):CJ U E 31:=.IQ (c:=(AL.list 68 2 (fun(a:Aq)=>.agg (Ir.BD a)):AL Ty (List (Ty 68)))) (A8.list (U:=U) (t:=68) (n:=2) (e:=fun(a:Aq)=>.agg (Ir.BD a)) (fun _=>rfl) rfl (fun a=>TE.nr a) (fun a b h=>TE.inj _ _ (by injection h))) ((congrFun q 31).trans ZGv) (fun h=>O8 (U:=U) (t:=68) (n:=2) (e:=fun(a:Aq)=>.agg (Ir.BD a)) h) (fun _=>rfl) (fun _=>rfl) (fun _=>rfl) (fun _=>rfl) (fun _=>rfl)
theorem ZGc:rowsOf Tryz.prog 39=[0,0,0,15,0,0,8,0,0,0,0,0,0,0,0,0,0,0,0,0]:=by kernel_rfl
theorem VT {E} (q:RE E):CJ U E 39:=.IA Zhg ((congrFun q 39).trans ZGc) (fun _=>rfl) (fun _=>rfl) (fun _=>rfl)
theorem ZG5:rowsOf Tryz.prog 36=[15]:=by kernel_rfl
theorem yT {E} (q:RE E):CJ U E 36:=.IQ (c:=(AL.list 156 15 (fun(a:AO)=>.agg (Gx.BD a)):AL Ty (List (Ty 156)))) (A8.list (U:=U) (t:=156) (n:=15) (e:=fun(a:AO)=>.agg (Gx.BD a)) (fun _=>rfl) rfl (fun a=>VG.nr a) (fun a b h=>VG.inj _ _ (by injection h))) ((congrFun q 36).trans ZG5) (fun h=>O8 (U:=U) (t:=156) (n:=15) (e:=fun(a:AO)=>.agg (Gx.BD a)) h) (fun _=>rfl) (fun _=>rfl) (fun _=>rfl) (fun _=>rfl) (fun _=>rfl)
theorem ZGb:rowsOf Tryz.prog 37=[8]:=by kernel_rfl
theorem kJ {E} (q:RE E):CJ U E 37:=.IQ (c:=(AL.list 138 8 (fun(a:BG)=>.agg (IU.BD a)):AL Ty (List (Ty 138)))) (A8.list (U:=U) (t:=138) (n:=8) (e:=fun(a:BG)=>.agg (IU.BD a)) (fun _=>rfl) rfl (fun a=>Xw.nr a) (fun a b h=>Xw.inj _ _ (by injection h))) ((congrFun q 37).trans ZGb) (fun h=>O8 (U:=U) (t:=138) (n:=8) (e:=fun(a:BG)=>.agg (IU.BD a)) h) (fun _=>rfl) (fun _=>rfl) (fun _=>rfl) (fun _=>rfl) (fun _=>rfl)
theorem ZFf:rowsOf Tryz.prog 42=[2]:=by kernel_rfl
theorem ZFW {E} (q:RE E):CJ U E 42:=.IQ (c:=(AL.list 99 2 (fun(a:BJ)=>.agg (OM.BD a)):AL Ty (List (Ty 99)))) (A8.list (U:=U) (t:=99) (n:=2) (e:=fun(a:BJ)=>.agg (OM.BD a)) (fun _=>rfl) rfl (fun a=>kG.nr a) (fun a b h=>kG.inj _ _ (by injection h))) ((congrFun q 42).trans ZFf) (fun h=>O8 (U:=U) (t:=99) (n:=2) (e:=fun(a:BJ)=>.agg (OM.BD a)) h) (fun _=>rfl) (fun _=>rfl) (fun _=>rfl) (fun _=>rfl) (fun _=>rfl)
theorem ZEn:rowsOf Tryz.prog 109=[0,0,0,0,0,0,0,0,0,0,0,0,0,0,0,0,0,0,0,0,0,0,0,0,0,0,2,0,0,0,0,0,0,0,0,0,0,15,0,0,8,0,0,0,0,0,0,0,0,0,0,0,0,0,0,0,0,0,0,0,0,0,2,15,0,0,0,0,0,0,0,0,0,0,0,0,0,0,0,0,0,0,0,0,0,0,0,0,0,0,0,0,2,0,0,0,0,0,0,0,0,0,0,15,0,0,8,0,0,0,0,0,0,0,0,0,0,0,0,0,0,0,0,0,0,0,0,0,2,15,0,0]:=by kernel_rfl
theorem ZgN {E} (q:RE E):CJ U E 109:=.IA ZEx ((congrFun q 109).trans ZEn) (fun _=>rfl) (fun _=>rfl) (fun _=>rfl)
theorem ZGH:rowsOf Tryz.prog 45=[0]:=by kernel_rfl
theorem P6 {E} (q:RE E):CJ U E 45:=.IQ (c:=BL) (A8.int _) ((congrFun q 45).trans ZGH) (fun h=>TG h) (fun _=>rfl) (fun _=>rfl) (fun _=>rfl) (fun _=>rfl) (fun _=>rfl)
theorem ZFv {E} (q:RE E):CJ U E 46:=.BH [⟨44,fun a=>a.1⟩,⟨45,fun a=>a.2⟩] ⟨YF q,P6 q,trivial⟩ (fun _=>rfl) (fun _=>rfl) (fun _=>rfl) fun _ _ h=>Prod.ext h.1 h.2.1
theorem ZCX {E} (q:RE E):CJ U E 110:=.BH [⟨109,fun a=>a.1⟩,⟨3,fun a=>a.2⟩] ⟨ZgN q,lQ q,trivial⟩ (fun _=>rfl) (fun _=>rfl) (fun _=>rfl) fun _ _ h=>Prod.ext h.1 h.2.1
theorem ZFo:rowsOf Tryz.prog 28=[0,0,0,0,0,0,0,0,0,0,0]:=by kernel_rfl
theorem ZGo {E} (q:RE E):CJ U E 28:=.IA xZ ((congrFun q 28).trans ZFo) (fun _=>rfl) (fun _=>rfl) (fun _=>rfl)
theorem ZFY:rowsOf Tryz.prog 29=[0]:=by kernel_rfl
theorem ZEO {E} (q:RE E):CJ U E 29:=.IQ (c:=C9) (A8.int _) ((congrFun q 29).trans ZFY) (fun h=>TG h) (fun _=>rfl) (fun _=>rfl) (fun _=>rfl) (fun _=>rfl) (fun _=>rfl)
theorem ZGl:rowsOf Tryz.prog 25=[0]:=by kernel_rfl
theorem Z5b {E} (q:RE E):CJ U E 25:=.IQ (c:=C9) (A8.int _) ((congrFun q 25).trans ZGl) (fun h=>TG h) (fun _=>rfl) (fun _=>rfl) (fun _=>rfl) (fun _=>rfl) (fun _=>rfl)
theorem ZEN:rowsOf Tryz.prog 52=[0,0]:=by kernel_rfl
theorem ZFQ {E} (q:RE E):CJ U E 52:=.IA ZFT ((congrFun q 52).trans ZEN) (fun _=>rfl) (fun _=>rfl) (fun _=>rfl)
theorem ZGz:rowsOf Tryz.prog 33=[0,0,2,0,0,0,0]:=by kernel_rfl
theorem yN {E} (q:RE E):CJ U E 33:=.IA ZhJ ((congrFun q 33).trans ZGz) (fun _=>rfl) (fun _=>rfl) (fun _=>rfl)
theorem ZEY:rowsOf Tryz.prog 35=[0,0,0]:=by kernel_rfl
theorem Zhj {E} (q:RE E):CJ U E 35:=.IA Z57 ((congrFun q 35).trans ZEY) (fun _=>rfl) (fun _=>rfl) (fun _=>rfl)
theorem ZGI:rowsOf Tryz.prog 24=[0,0,0,0,0]:=by kernel_rfl
theorem ZGT {E} (q:RE E):CJ U E 24:=.IA Xz ((congrFun q 24).trans ZGI) (fun _=>rfl) (fun _=>rfl) (fun _=>rfl)
theorem ZGm:rowsOf Tryz.prog 26=[0]:=by kernel_rfl
theorem ZGC {E} (q:RE E):CJ U E 26:=.IQ (c:=C9) (A8.int _) ((congrFun q 26).trans ZGm) (fun h=>TG h) (fun _=>rfl) (fun _=>rfl) (fun _=>rfl) (fun _=>rfl) (fun _=>rfl)
theorem ZEt:rowsOf Tryz.prog 226=[1]:=by kernel_rfl
theorem ZCW {E} (q:RE E):CJ U E 226:=.IQ (c:=(AL.list 3 1 (fun(a:Int)=>BL.BU a):AL Ty (List (Ty 3)))) (A8.list (U:=U) (t:=3) (n:=1) (e:=fun(a:Int)=>BL.BU a) (fun _=>rfl) rfl (fun a=>(A8.int _:A8 U BL _).TM a) (fun a b h=>(A8.int _:A8 U BL _).TD h)) ((congrFun q 226).trans ZEt) (fun h=>O8 (U:=U) (t:=3) (n:=1) (e:=fun(a:Int)=>BL.BU a) h) (fun _=>rfl) (fun _=>rfl) (fun _=>rfl) (fun _=>rfl) (fun _=>rfl)
theorem ZGP {E} (q:RE E):CJ U E 63:=.BH [⟨44,fun a=>a.1⟩,⟨62,fun a=>a.2⟩] ⟨YF q,yS q,trivial⟩ (fun _=>rfl) (fun _=>rfl) (fun _=>rfl) fun _ _ h=>Prod.ext h.1 h.2.1
theorem ZGM {E} (q:RE E):CJ U E 78:=.BH [⟨44,fun a=>a.1⟩,⟨77,fun a=>a.2⟩] ⟨YF q,kM q,trivial⟩ (fun _=>rfl) (fun _=>rfl) (fun _=>rfl) fun _ _ h=>Prod.ext h.1 h.2.1
theorem ZFD:rowsOf Tryz.prog 70=[0,0,0,0,1]:=by kernel_rfl
theorem Z5r {E} (q:RE E):CJ U E 70:=.IA ZEU ((congrFun q 70).trans ZFD) (fun _=>rfl) (fun _=>rfl) (fun _=>rfl)
theorem ZEV {E} (q:RE E):CJ U E 75:=.BH [⟨33,fun a=>a.1⟩,⟨70,fun a=>a.2⟩] ⟨yN q,Z5r q,trivial⟩ (fun _=>rfl) (fun _=>rfl) (fun _=>rfl) fun _ _ h=>Prod.ext h.1 h.2.1
theorem ZFh {E} (q:RE E):CJ U E 71:=.BH [⟨70,fun a=>a.1⟩,⟨45,fun a=>a.2⟩] ⟨Z5r q,P6 q,trivial⟩ (fun _=>rfl) (fun _=>rfl) (fun _=>rfl) fun _ _ h=>Prod.ext h.1 h.2.1
theorem ZDG {E} (q:RE E):CJ U E 120:=.BH [⟨62,fun a=>a.1⟩,⟨45,fun a=>a.2⟩] ⟨yS q,P6 q,trivial⟩ (fun _=>rfl) (fun _=>rfl) (fun _=>rfl) fun _ _ h=>Prod.ext h.1 h.2.1
theorem ZD8 {E} (q:RE E):CJ U E 104:=.BH [⟨3,fun a=>a.1⟩,⟨3,fun a=>a.2⟩] ⟨lQ q,lQ q,trivial⟩ (fun _=>rfl) (fun _=>rfl) (fun _=>rfl) fun _ _ h=>Prod.ext h.1 h.2.1
theorem ZFp:rowsOf Tryz.prog 30=[0]:=by kernel_rfl
theorem ZFX {E} (q:RE E):CJ U E 30:=.IQ (c:=QG) (A8.int _) ((congrFun q 30).trans ZFp) (fun h=>TG h) (fun _=>rfl) (fun _=>rfl) (fun _=>rfl) (fun _=>rfl) (fun _=>rfl)
theorem ZGf:rowsOf Tryz.prog 22=[0]:=by kernel_rfl
theorem ZFa {E} (q:RE E):CJ U E 22:=.IQ (c:=QE) (A8.int _) ((congrFun q 22).trans ZGf) (fun h=>TG h) (fun _=>rfl) (fun _=>rfl) (fun _=>rfl) (fun _=>rfl) (fun _=>rfl)
theorem ZE2 {E} (q:RE E):CJ U E 189:=.BH [⟨33,fun a=>a.1⟩,⟨45,fun a=>a.2⟩] ⟨yN q,P6 q,trivial⟩ (fun _=>rfl) (fun _=>rfl) (fun _=>rfl) fun _ _ h=>Prod.ext h.1 h.2.1
theorem ZDm:rowsOf Tryz.prog 262=[0,0,0,0,0,0,0,0,0,0,0]:=by kernel_rfl
theorem ZD4 {E} (q:RE E):CJ U E 262:=.IA ZDZ ((congrFun q 262).trans ZDm) (fun _=>rfl) (fun _=>rfl) (fun _=>rfl)
theorem ZFO:rowsOf Tryz.prog 41=[0,0,0,0,0,0,0]:=by kernel_rfl
theorem ZFi {E} (q:RE E):CJ U E 41:=.IA Z5k ((congrFun q 41).trans ZFO) (fun _=>rfl) (fun _=>rfl) (fun _=>rfl)
theorem ZDs {E} (q:RE E):CJ U E 129:=.BH [⟨35,fun a=>a.1⟩,⟨45,fun a=>a.2⟩] ⟨Zhj q,P6 q,trivial⟩ (fun _=>rfl) (fun _=>rfl) (fun _=>rfl) fun _ _ h=>Prod.ext h.1 h.2.1
theorem ZDw {E} (q:RE E):CJ U E 135:=.BH [⟨39,fun a=>a.1⟩,⟨37,fun a=>a.2⟩] ⟨VT q,kJ q,trivial⟩ (fun _=>rfl) (fun _=>rfl) (fun _=>rfl) fun _ _ h=>Prod.ext h.1 h.2.1
theorem ZDq {E} (q:RE E):CJ U E 140:=.BH [⟨39,fun a=>a.1⟩,⟨36,fun a=>a.2⟩] ⟨VT q,yT q,trivial⟩ (fun _=>rfl) (fun _=>rfl) (fun _=>rfl) fun _ _ h=>Prod.ext h.1 h.2.1
theorem ZEk {E} (q:RE E):CJ U E 208:=.BH [⟨37,fun a=>a.1⟩,⟨37,fun a=>a.2⟩] ⟨kJ q,kJ q,trivial⟩ (fun _=>rfl) (fun _=>rfl) (fun _=>rfl) fun _ _ h=>Prod.ext h.1 h.2.1
theorem ZCO {E} (q:RE E):CJ U E 216:=.BH [⟨39,fun a=>a.1⟩,⟨156,fun a=>a.2⟩] ⟨VT q,Z4Y q,trivial⟩ (fun _=>rfl) (fun _=>rfl) (fun _=>rfl) fun _ _ h=>Prod.ext h.1 h.2.1
theorem ZCF {E} (q:RE E):CJ U E 269:=.BH [⟨37,fun a=>a.1⟩,⟨45,fun a=>a.2⟩] ⟨kJ q,P6 q,trivial⟩ (fun _=>rfl) (fun _=>rfl) (fun _=>rfl) fun _ _ h=>Prod.ext h.1 h.2.1
theorem ZDK {E} (q:RE E):CJ U E 222:=.BH [⟨39,fun a=>a.1⟩,⟨36,fun a=>a.2.1⟩,⟨45,fun a=>a.2.2⟩] ⟨VT q,yT q,P6 q,trivial⟩ (fun _=>rfl) (fun _=>rfl) (fun _=>rfl) fun _ _ h=>Prod.ext h.1 (Prod.ext h.2.1 h.2.2.1)
theorem rows9:rowsOf Tryz.prog 9=[0]:=by kernel_rfl
theorem tyok9 {E} (q:RE E):CJ U E 9:=.IQ (c:=cst) (A8.str) ((congrFun q 9).trans rows9) (fun h=>ZFA h) (fun _=>rfl) (fun _=>rfl) (fun _=>rfl) (fun _=>rfl) (fun _=>rfl)
theorem ZEG:rowsOf Tryz.prog 254=[1]:=by kernel_rfl
theorem Zgm {E} (q:RE E):CJ U E 254:=.IQ (c:=(AL.list 25 1 (fun(a:Int)=>C9.BU a):AL Ty (List (Ty 25)))) (A8.list (U:=U) (t:=25) (n:=1) (e:=fun(a:Int)=>C9.BU a) (fun _=>rfl) rfl (fun a=>(A8.int _:A8 U C9 _).TM a) (fun a b h=>(A8.int _:A8 U C9 _).TD h)) ((congrFun q 254).trans ZEG) (fun h=>O8 (U:=U) (t:=25) (n:=1) (e:=fun(a:Int)=>C9.BU a) h) (fun _=>rfl) (fun _=>rfl) (fun _=>rfl) (fun _=>rfl) (fun _=>rfl)
theorem ZEd {E} (q:RE E):CJ U E 163:=.BH [⟨33,fun a=>a.1⟩,⟨68,fun a=>a.2.1⟩,⟨4,fun a=>a.2.2.1⟩,⟨4,fun a=>a.2.2.2⟩] ⟨yN q,Zhx q,lM q,lM q,trivial⟩ (fun _=>rfl) (fun _=>rfl) (fun _=>rfl) fun _ _ h=>Prod.ext h.1 (Prod.ext h.2.1 (Prod.ext h.2.2.1 h.2.2.2.1))
theorem ZDD {E} (q:RE E):CJ U E 231:=.BH [⟨156,fun a=>a.1⟩,⟨45,fun a=>a.2⟩] ⟨Z4Y q,P6 q,trivial⟩ (fun _=>rfl) (fun _=>rfl) (fun _=>rfl) fun _ _ h=>Prod.ext h.1 h.2.1
theorem ZCY {E} (q:RE E):CJ U E 233:=.BH [⟨39,fun a=>a.1⟩,⟨77,fun a=>a.2⟩] ⟨VT q,kM q,trivial⟩ (fun _=>rfl) (fun _=>rfl) (fun _=>rfl) fun _ _ h=>Prod.ext h.1 h.2.1
theorem ZCE {E} (q:RE E):CJ U E 237:=.BH [⟨39,fun a=>a.1⟩,⟨36,fun a=>a.2.1⟩,⟨77,fun a=>a.2.2⟩] ⟨VT q,yT q,kM q,trivial⟩ (fun _=>rfl) (fun _=>rfl) (fun _=>rfl) fun _ _ h=>Prod.ext h.1 (Prod.ext h.2.1 h.2.2.1)
theorem ZD0 {E} (q:RE E):CJ U E 194:=.BH [⟨25,fun a=>a.1⟩,⟨25,fun a=>a.2⟩] ⟨Z5b q,Z5b q,trivial⟩ (fun _=>rfl) (fun _=>rfl) (fun _=>rfl) fun _ _ h=>Prod.ext h.1 h.2.1
theorem ZEl:rowsOf Tryz.prog 256=[1]:=by kernel_rfl
theorem ZEJ {E} (q:RE E):CJ U E 256:=.IQ (c:=(AL.list 62 1 (fun(a:List Int)=>((AL.list 5 1 (fun(a:Int)=>EW.BU a):AL Ty (List (Ty 5)))).BU a):AL Ty (List (Ty 62)))) (A8.list (U:=U) (t:=62) (n:=1) (e:=fun(a:List Int)=>((AL.list 5 1 (fun(a:Int)=>EW.BU a):AL Ty (List (Ty 5)))).BU a) (fun _=>rfl) rfl (fun a=>(A8.list (U:=U) (t:=5) (n:=1) (e:=fun(a:Int)=>EW.BU a) (fun _=>rfl) rfl (fun a=>(A8.int _:A8 U EW _).TM a) (fun a b h=>(A8.int _:A8 U EW _).TD h):A8 U (AL.list 5 1 (fun(a:Int)=>EW.BU a):AL Ty (List (Ty 5))) _).TM a) (fun a b h=>(A8.list (U:=U) (t:=5) (n:=1) (e:=fun(a:Int)=>EW.BU a) (fun _=>rfl) rfl (fun a=>(A8.int _:A8 U EW _).TM a) (fun a b h=>(A8.int _:A8 U EW _).TD h):A8 U (AL.list 5 1 (fun(a:Int)=>EW.BU a):AL Ty (List (Ty 5))) _).TD h)) ((congrFun q 256).trans ZEl) (fun h=>O8 (U:=U) (t:=62) (n:=1) (e:=fun(a:List Int)=>((AL.list 5 1 (fun(a:Int)=>EW.BU a):AL Ty (List (Ty 5)))).BU a) h) (fun _=>rfl) (fun _=>rfl) (fun _=>rfl) (fun _=>rfl) (fun _=>rfl)
theorem ZD2:rowsOf Tryz.prog 312=[0,0]:=by kernel_rfl
theorem ZEL {E} (q:RE E):CJ U E 312:=.IA ZD7 ((congrFun q 312).trans ZD2) (fun _=>rfl) (fun _=>rfl) (fun _=>rfl)
theorem ZDV:rowsOf Tryz.prog 252=[0,0]:=by kernel_rfl
theorem ZDh {E} (q:RE E):CJ U E 252:=.IA Z4H ((congrFun q 252).trans ZDV) (fun _=>rfl) (fun _=>rfl) (fun _=>rfl)
theorem ZDd:rowsOf Tryz.prog 253=[2]:=by kernel_rfl
theorem ZE1 {E} (q:RE E):CJ U E 253:=.IQ (c:=(AL.list 252 2 (fun(a:Es)=>.agg (Pv.BD a)):AL Ty (List (Ty 252)))) (A8.list (U:=U) (t:=252) (n:=2) (e:=fun(a:Es)=>.agg (Pv.BD a)) (fun _=>rfl) rfl (fun a=>Z4H.nr a) (fun a b h=>Z4H.inj _ _ (by injection h))) ((congrFun q 253).trans ZDd) (fun h=>O8 (U:=U) (t:=252) (n:=2) (e:=fun(a:Es)=>.agg (Pv.BD a)) h) (fun _=>rfl) (fun _=>rfl) (fun _=>rfl) (fun _=>rfl) (fun _=>rfl)
theorem ZD3 {E} (q:RE E):CJ U E 279:=.BH [⟨254,fun a=>a.1⟩,⟨62,fun a=>a.2.1⟩,⟨45,fun a=>a.2.2⟩] ⟨Zgm q,yS q,P6 q,trivial⟩ (fun _=>rfl) (fun _=>rfl) (fun _=>rfl) fun _ _ h=>Prod.ext h.1 (Prod.ext h.2.1 h.2.2.1)
theorem ZDr:rowsOf Tryz.prog 174=[0,0,0]:=by kernel_rfl
theorem ZDE {E} (q:RE E):CJ U E 174:=.IA Z4X ((congrFun q 174).trans ZDr) (fun _=>rfl) (fun _=>rfl) (fun _=>rfl)
theorem ZDt:rowsOf Tryz.prog 240=[3]:=by kernel_rfl
theorem ZD9 {E} (q:RE E):CJ U E 240:=.IQ (c:=(AL.list 174 3 (fun(a:GV)=>.agg (Px.BD a)):AL Ty (List (Ty 174)))) (A8.list (U:=U) (t:=174) (n:=3) (e:=fun(a:GV)=>.agg (Px.BD a)) (fun _=>rfl) rfl (fun a=>Z4X.nr a) (fun a b h=>Z4X.inj _ _ (by injection h))) ((congrFun q 240).trans ZDt) (fun h=>O8 (U:=U) (t:=174) (n:=3) (e:=fun(a:GV)=>.agg (Px.BD a)) h) (fun _=>rfl) (fun _=>rfl) (fun _=>rfl) (fun _=>rfl) (fun _=>rfl)
theorem ZCD:A8 U ZhV [0,0,0,0,0,0,0]:=A8.Cj ((A8.int _).pair ((A8.int _).pair ((A8.skip).pair ((A8.bool).pair ((A8.bool).pair ((A8.int _).pair ((A8.int _).pair A8.unit))))))) (fun _=>rfl) (fun _=>rfl)
theorem ZgS:A8 U Z5E [0,0,0,0,0,0,0,0,0,0,0,0,0,0,0,0,0,0,0,0]:=A8.Cj ((A8.int _).pair ((A8.int _).pair ((A8.int _).pair ((A8.skip).pair ((A8.int _).pair ((A8.int _).pair ((A8.skip).pair ((A8.bool).pair ((A8.int _).pair ((A8.int _).pair ((A8.bool).pair ((A8.bool).pair ((A8.int _).pair ((A8.int _).pair ((A8.int _).pair ((A8.int _).pair ((A8.int _).pair ((A8.int _).pair ((A8.int _).pair ((A8.int _).pair A8.unit)))))))))))))))))))) (fun _=>rfl) (fun _=>rfl)
theorem ZEz:A8 U ZhK [0,0,0,0,0,0,0,0,0,0,0,0,0,0,0,0,0,0,0,0,0,0,0,0,0,0,0,0,0,0,0,0,0,0,0,0,0,0,0,0,0,0,0,0,0,0,0,0,0,0,0,0,0,0,0,0,0,0,0,0,0,0,0,0,0,0]:=A8.Cj ((A8.int _).pair ((xZ).pair ((A8.int _).pair ((A8.int _).pair ((A8.int _).pair ((A8.int _).pair ((A8.int _).pair ((A8.int _).pair ((A8.int _).pair ((A8.bool).pair ((A8.bool).pair ((A8.bool).pair ((A8.bool).pair ((A8.bool).pair ((ZCD).pair ((Z57).pair ((ZgS).pair ((Z5k).pair ((A8.int _).pair ((A8.skip).pair ((A8.skip).pair ((A8.int _).pair ((A8.int _).pair A8.unit))))))))))))))))))))))) (fun _=>rfl) (fun _=>rfl)
theorem Z4c:A8 U yO [0,0,0,0,0,0,0,0,0,0,0,0,0,0,0,0,0,0,0,0,0,0,0,0,0,0,0,0,0,0,0,0,0,0,0,0,0,0,0,0,0,0,0,0,0,0,0,0,0,0,0,0,0,0,0,0,0,0,0,0,0,0,0,0,0,0,0]:=A8.Cj ((ZEz).pair ((A8.skip).pair A8.unit)) (fun _=>rfl) (fun _=>rfl)
theorem Z4R:A8 U zH [0,0,0,0,0,0,0]:=A8.Cj ((A8.int _).pair ((A8.int _).pair ((A8.int _).pair ((A8.bool).pair ((A8.bool).pair ((A8.int _).pair ((A8.int _).pair A8.unit))))))) (fun _=>rfl) (fun _=>rfl)
theorem Z4t:A8 U yG [0,0,0,0,0,0,0,0,0,0,0,0,0,0,0,0,0,0,0,0,0,0,0,0]:=A8.Cj ((ZgS).pair ((A8.int _).pair ((A8.int _).pair ((A8.skip).pair ((A8.skip).pair A8.unit))))) (fun _=>rfl) (fun _=>rfl)
theorem ZEa {E} (q:RE E):CJ U E 115:=⟨fun a=>rfl,fun v a h=>Z4c.Z4I h _,fun a=>rfl,fun a=>Z4c.Z5q 67 a,fun a b h=>Z4c.Z4C h⟩
theorem ZCJ {E} (q:RE E):CJ U E 206:=⟨fun a=>rfl,fun v a h=>Z4t.Z4I h _,fun a=>rfl,fun a=>Z4t.Z5q 24 a,fun a b h=>Z4t.Z4C h⟩
theorem ZCK {E} (q:RE E):CJ U E 338:=⟨fun a=>rfl,fun v a h=>(A8.int _:A8 U ((EW:AL Ty Int)) _).ZfI h _,fun a=>rfl,fun a=>(A8.int _:A8 U ((EW:AL Ty Int)) _).Zgu 1 a,fun a b h=>(A8.int _:A8 U ((EW:AL Ty Int)) _).ZfR h⟩
theorem ZCu {E} (q:RE E):CJ U E 3369:=⟨fun a=>rfl,fun v a h=>(A8.int _:A8 U ((C9:AL Ty Int)) _).ZfI h _,fun a=>rfl,fun a=>(A8.int _:A8 U ((C9:AL Ty Int)) _).Zgu 1 a,fun a b h=>(A8.int _:A8 U ((C9:AL Ty Int)) _).ZfR h⟩
theorem ZCm {E} (q:RE E):CJ U E 3385:=⟨fun a=>rfl,fun v a h=>Z4R.Z4I h _,fun a=>rfl,fun a=>Z4R.Z5q 7 a,fun a b h=>Z4R.Z4C h⟩
theorem ZEp {E} (q:RE E):CJ U E 249:=⟨fun a=>rfl,fun v a h=>(nomatch h),fun a=>rfl,fun a=>rfl,fun a b h=>rfl⟩
theorem CJ.four {E:Env} {t:Nat} (h:CJ U E t):(∀a,AY U (U.encS t a)=U.enc t a)/\(∀v a,U.IE t v=some a->ES (E.rows t) (AY U v)=U.enc t a)/\(∀a,(U.enc t a).cells=Aw U (cellsS (U.encS t a)))/\(∀a,DC (U.enc t a)=true):=⟨h.encS,h.dec,h.cells,h.nr⟩
def zU:List Nat:=[4,5,83,113,59,62,3,68,156,138,99,44,60,148,77,86,31,39,36,37,42,109,45,46,110,28,29,25,52,33,35,24,26,226,63,78,70,75,71,120,104,30,22,189,262,41,129,135,140,208,216,269,222,9,254,163,231,233,237,194,256,312,252,253,279,174,240,115,206,338,3369,3385,249]
def tysY:List Nat:=[1344,1345,1346,1347,1349,1351,1352,1350,1348,1363,1364,1353,1356,1357,1354,1365,1355,1366,1358,1379,1370,1371,1372,1373,1374,1375,1376,1377,1378,1367,1368,1369,1380,1359,1360,1361,1362,1387,1381,1382,1383,1384,1385,1386,1388,1389,1390,1391,1392,1393,1394,1395]
theorem ZB4 (t:Nat) (h:t∉zU) (q : t∉tysY) (a:Ty t):False:=by
 unfold Ty at a;split at a<;>first|exact h (by decide)|exact q (by decide)|exact a.elim
theorem ZhY {E} (q:RE E):lT (CJ U E) zU:=⟨lM q,tyok5 q,ZF3 q,ZCZ q,ZF5 q,yS q,lQ q,Zhx q,Z4Y q,ZCL q,ZF7 q,YF q,ZFy q,ZEy q,kM q,ZFM q,ZFF q,VT q,yT q,kJ q,ZFW q,ZgN q,P6 q,ZFv q,ZCX q,ZGo q,ZEO q,Z5b q,ZFQ q,yN q,Zhj q,ZGT q,ZGC q,ZCW q,ZGP q,ZGM q,Z5r q,ZEV q,ZFh q,ZDG q,ZD8 q,ZFX q,ZFa q,ZE2 q,ZD4 q,ZFi q,ZDs q,ZDw q,ZDq q,ZEk q,ZCO q,ZCF q,ZDK q,tyok9 q,Zgm q,ZEd q,ZDD q,ZCY q,ZCE q,ZD0 q,ZEJ q,ZEL q,ZDh q,ZE1 q,ZD3 q,ZDE q,ZD9 q,ZEa q,ZCJ q,ZCK q,ZCu q,ZCm q,ZEp q,trivial⟩
theorem all_Y (E:Env):lT (fun t=>(∀a,AY U (U.encS t a)=U.enc t a)/\(∀v a,U.IE t v=some a->ES (E.rows t) (AY U v)=U.enc t a)/\(∀a,(U.enc t a).cells=Aw U (cellsS (U.encS t a)))/\(∀a,DC (U.enc t a)=true)) tysY:=by
 repeat' first|exact trivial|refine⟨⟨fun a=>rfl,(fun v a h=>nomatch h),fun a=>rfl,fun a=>rfl⟩,?_⟩
theorem Z4Q (E:Env) (z:E.rows=rowsOf Tryz.prog):Du U E:=by
 have key:∀t,(∀a,AY U (U.encS t a)=U.enc t a)/\(∀v a,U.IE t v=some a->ES (E.rows t) (AY U v)=U.enc t a)/\(∀a,(U.enc t a).cells=Aw U (cellsS (U.encS t a)))/\(∀a,DC (U.enc t a)=true):=fun t=>by
  by_cases h:t∈zU
  ·exact CJ.four ((ZhY z).at h)
  by_cases q : t∈tysY
  ·exact(all_Y E).at q
  have e:=fun a=>ZB4 t h q a;exact⟨fun a=>(e a).elim,fun v a h=>(e a).elim,fun a=>(e a).elim,fun a=>(e a).elim⟩
 have sub:∀t∈U.keys,t∈zU:=by decide
 exact⟨fun t=>(key t).1,fun t=>(key t).2.1,fun t=>(key t).2.2.1,fun t=>(key t).2.2.2,fun t A=>((ZhY z).at (sub t A)).inj⟩
def sumsV:List V:=[0,1788928,3577856,3003392,7155712,7764992,6006784,4252672,14311424,12659712,15529984,16233472,12013568,11279360,8505344,10126336].map fun n=>V.lit (.int .u32 n)
def gl:Nat->Option (List V):=fun g=>if g=0 then some sumsV else none
theorem TL:Tryz.prog.follows .mixedOrders=true:=by kernel_rfl
def noH:FuncId->List FuncId->Option (HMod U):=fun _ _=>none
def B0:Env:=EV (U:=U) Tryz.prog gl 0 (fun _=>none) noH Iz
abbrev MS:={ms:FuncId->Option (Aj U) // ∀g m,ms g=some m->Ai Tryz.prog B0 g m}
abbrev HS:={hs:FuncId->List FuncId->Option (HMod U) // ∀g k m,hs g k=some m->DK Tryz.prog B0 g m}
def Ae:MS:=⟨fun _=>none,fun _ _ h=>nomatch h⟩
def Af:HS:=⟨fun _ _=>none,fun _ _ _ h=>nomatch h⟩
def mc {f:FuncId} {m:Aj U} (h:Ai Tryz.prog B0 f m) (s:MS):MS:=⟨fun g=>bif Nat.beq g f then some m else s.1 g,fun g q e=>by
 cases hb:Nat.beq g f with
 | true=>dsimp only at e;rw[hb]at e;cases e;exact(Nat.eq_of_beq_eq_true hb)▸h
 | false=>dsimp only at e;rw[hb]at e;exact s.2 g q e⟩
def hc {f:FuncId} {m:HMod U} (k:List FuncId) (h:DK Tryz.prog B0 f m) (s:HS):HS:=⟨fun g k' =>bif Nat.beq g f&&k' == k then some m else s.1 g k',fun g k' q e=>by
 cases hb:(Nat.beq g f&&k' == k) with
 | true=>dsimp only at e;rw[hb]at e;cases e;exact(Nat.eq_of_beq_eq_true ((Bool.and_eq_true _ _).mp hb).1)▸h
 | false=>dsimp only at e;rw[hb]at e;exact s.2 g k' q e⟩
def AN:Nat->Option Lay:=fun _=>none
noncomputable def Bd (fn:Func) (ts:List Nat) (x:F8 U ts):BC U:=⟨Ik fn,[],kP ts x fn.ntmps,false⟩
noncomputable def Dz (fn:Func) (sh:Shape) (x:sh.X U):BC U:=⟨Ik fn,[],kR (sh.enc x) fn.ntmps,false⟩
noncomputable def Ad (fn:Func) (p:List Nat) (L:Lay) (x:L.sh.X U):BC U:=spot (Ik fn) p fn.ntmps L.keep (L.sh.enc x)
abbrev BlkP (f:FuncId) (fn:Func) (ms:MS) (hs:HS) (A:Nat->Option Lay) (rt:Nat) {z:Type} (T:z->Tr U (U.Ty rt⊕z)) (q:z->BC U):Prop:=
 ∀p,Le.Eh (EV Tryz.prog gl f ms.1 hs.1 Iz) (TU ms.1 hs.1 Iz.tab) A f fn 0 (lL (EV Tryz.prog gl f ms.1 hs.1 Iz) fn) 1000 (.run (q p).c) (q p).K (q p).st (q p).sk=(T p).map (VU (zZ (U:=U) rt) q)
abbrev BlkH (f:FuncId) (fn:Func) (ms:MS) (hs:HS) (A:Nat->Option Lay) (fa:List (List Fk)) (fb:List Bf) (k:Nat) (m:HMod U) {z:Type} (T:z->Tr U (U.Ty m.ky⊕z)) (q:z->BC U):Prop:=
 ∀p,Le.Eh (EV Tryz.prog gl f ms.1 hs.1 Iz) (TU ms.1 hs.1 Iz.tab) A f fn k (y9 (EV Tryz.prog gl f ms.1 hs.1 Iz) fn fa fb k m.KF m.one) 1000 (.run (q p).c) (q p).K (q p).st (q p).sk=(T p).map (VU m.out q)
theorem okP {f:FuncId} {fn:Func} {ms:MS} {hs:HS} {A:Nat->Option Lay} {m:Aj U} {q:Type} {T:q->Tr U (U.Ty m.rt⊕q)} {D:q->BC U} (h:BlkP f fn ms hs A m.rt T D) (b0:F8 U m.ts->q)
  (hc:Ef (EV Tryz.prog gl f ms.1 hs.1 Iz) f (Ik fn)=true) (z:Tryz.prog.funcs[f]? = some fn) (F:(fn.name == "runtime.NumGoroutine")=false) (hb:fn.body=some (Ik fn))
  (hm:∀x,m.fn x=AU T (b0 x)) (C:∀x,D (b0 x)=Bd fn m.ts x):Ai Tryz.prog B0 f m:=
 ZfC rfl (Z4Q _ rfl) TL ms.2 hs.2 z F hb hc m T D h b0 hm C
theorem Bh {f rt:Nat} {ts:List Nat} {hk:∀t∈ts,t∈U.keys} {fn:Func} {q:Type} {T:q->Tr U (U.Ty rt⊕q)} {b0:F8 U ts->q} (ms:MS) (hs:HS) (A:Nat->Option Lay) (D:q->BC U) (z:Tryz.prog.funcs[f]? = some fn) (h:BlkP f fn ms hs A rt T D)
  (hc:(Ef (EV Tryz.prog gl f ms.1 hs.1 Iz) f (Ik fn),fn.name == "runtime.NumGoroutine",fn.body)=(true,false,some (Ik fn))) (C:∀x,D (b0 x)=Bd fn ts x):Ai Tryz.prog B0 f ⟨ts,rt,fun x=>AU T (b0 x),hk⟩:=
 okP (m:=⟨ts,rt,fun x=>AU T (b0 x),hk⟩) h b0 (congrArg (·.1) hc) z (congrArg (·.2.1) hc) (congrArg (·.2.2) hc) (fun _=>rfl) C
theorem okH {f:FuncId} {fn:Func} {ms:MS} {hs:HS} {A:Nat->Option Lay} {fa:List (List Fk)} {fb:List Bf} {k:Nat} {m:HMod U} {q:Type} {T:q->Tr U (U.Ty m.ky⊕q)} {D:q->BC U} (h:BlkH f fn ms hs A fa fb k m T D) (b0:m.Dt.X U->q)
  (hk:∀x:m.Dt.X U,(m.Dt.enc x).2.length=k) (hc:Ef (EV Tryz.prog gl f ms.1 hs.1 Iz) f (Ik fn)=true) (z:Tryz.prog.funcs[f]? = some fn) (F:(fn.name == "runtime.NumGoroutine")=false) (hb:fn.body=some (Ik fn))
  (hm:∀x:m.Dt.X U,m.fn x=AU T (b0 x)) (C:∀x:m.Dt.X U,D (b0 x)=Dz fn m.Dt x):DK Tryz.prog B0 f m:=
 ZyT rfl (Z4Q _ rfl) TL ms.2 hs.2 z F hb hc m hk T D h b0 hm C
theorem okR {f ky:Nat} {fn:Func} {D:List (List Fk)} {C:List Bf} {Dt KF:Shape} {one:Bool} {Oq:U.Ty ky->KF.X U} {G:Dt.OK U} {z:Type} {T:z->Tr U (U.Ty ky⊕z)} {b0:Dt.X U->z} (ms:MS) (hs:HS) (A:Nat->Option Lay) (fa:List (List Fk)) (fb:List Bf) (k:Nat) (I:z->BC U) (F:Tryz.prog.funcs[f]? = some fn)
  (h:BlkH f fn ms hs A fa fb k ⟨D,C,Dt,KF,one,ky,Oq,fun x=>AU T (b0 x),G⟩ T I) (hc:(Ef (EV Tryz.prog gl f ms.1 hs.1 Iz) f (Ik fn),fn.name == "runtime.NumGoroutine",fn.body)=(true,false,some (Ik fn))) (q:∀x,((Dt.enc x).2.length,I (b0 x))=(k,Dz fn Dt x)) :
  DK Tryz.prog B0 f ⟨D,C,Dt,KF,one,ky,Oq,fun x=>AU T (b0 x),G⟩:=
 okH (m:=⟨D,C,Dt,KF,one,ky,Oq,fun x=>AU T (b0 x),G⟩) h b0 (fun x=>congrArg (·.1) (q x)) (congrArg (·.1) hc) F (congrArg (·.2.1) hc) (congrArg (·.2.2) hc) (fun _=>rfl) (fun x=>congrArg (·.2) (q x))
def al:List (Nat×Lay)->Nat->Option Lay
 | [],_=>none
 | (k,L)::l,n=>bif Nat.beq n k then some L else al l n
abbrev S1 (P R:Type):=P->Tr U (R⊕P)
theorem ok1 {f rt:Nat} {ts:List Nat} {hk:∀t∈ts,t∈U.keys} {fn:Func} {T:F8 U ts->Tr U (U.Ty rt⊕F8 U ts)} (ms:MS) (hs:HS) (q:Tryz.prog.funcs[f]? = some fn) (h:BlkP f fn ms hs AN rt T (Bd fn ts))
  (hc:(Ef (EV Tryz.prog gl f ms.1 hs.1 Iz) f (Ik fn),fn.name == "runtime.NumGoroutine",fn.body)=(true,false,some (Ik fn))):Ai Tryz.prog B0 f ⟨ts,rt,fun x=>AU T x,hk⟩:=
 Bh (b0:=fun x=>x) ms hs AN (Bd fn ts) q h hc fun _=>rfl
abbrev kL {α:Type} (l:List α):Bool:=l.length==l.length
abbrev kA (n k:Nat):Bool:=decide (n*k<=lim)&&decide (n<=maxLen)
abbrev Vm (u c:AO):Bool:=(u.Kind==c.Kind)&&((u.BB.EK==c.BB.EK)&&((u.BB.Dx==c.BB.Dx)&&((u.BB.D9==c.BB.D9)&&((u.BB.Dh==c.BB.Dh)&&((u.BB.ER==c.BB.ER)&&((u.Map==c.Map)&&((u.Ci==c.Ci)&&((u.Bl==c.Bl)&&((u.DL==c.DL)&&((u.Bj==c.Bj)&&((u.Mark==c.Mark)&&((u.Bv==c.Bv)&&((u.Version==c.Version)&&((u.Length==c.Length)&&true))))))))))))))
abbrev KP:List Fk:=[.keep]
abbrev VC(t n:Nat):Pc:=.v t n false
abbrev OV(t:Nat):Sp:=.one (.v t 1 false)
abbrev PQ(j:Nat):Sp:=.one (.ptr j)
abbrev VA(e m:Nat):Pb:=.var e m (.agg [.v e m true])
def kq(n:Nat)(l:List Fk):List Fk:=List.replicate n .keep++l
abbrev k0:List Fk:=(kq 15 [])
abbrev k1:List Fk:=(kq 3 (.s 156 15::.keep::.keep::.s 138 8::kq 13 []))
abbrev k2:List Fk:=(kq 26 (.s 68 2::kq 10 (.s 156 15::.keep::.keep::.s 138 8::kq 21 (.s 99 2::.s 156 15::.keep::.keep::[]))))
abbrev k3:List Fk:=(kq 4 (.s 5 1::[]))
abbrev k4:List Fk:=(kq 11 [])
abbrev k5:List Fk:=(kq 3 (.own 156 15::.keep::.keep::.own 138 8::kq 15 (.own 156 15::.own 148 18::[])))
abbrev k6:List Fk:=(kq 26 (.s 68 2::kq 10 (.s 156 15::.keep::.keep::.s 138 8::kq 21 (.s 99 2::.s 156 15::kq 28 (.s 68 2::kq 10 (.s 156 15::.keep::.keep::.s 138 8::kq 21 (.s 99 2::.s 156 15::.keep::.keep::[])))))))
abbrev k7:List Fk:=(.keep::.keep::.s 68 2::kq 4 [])
abbrev k8:List Fk:=(kq 7 [])
abbrev k9:List Fk:=(kq 26 (.s 68 2::kq 10 (.s 156 15::.keep::.keep::.s 138 8::kq 21 (.s 99 2::.own 156 15::.keep::.keep::.own 148 18::[]))))
abbrev k10:List Fk:=(kq 26 (.own 68 2::kq 10 (.own 156 15::.keep::.keep::.own 138 8::kq 21 (.s 99 2::.own 156 15::.keep::.keep::.own 148 18::[]))))
abbrev k11:List Fk:=(kq 26 (.s 68 2::kq 10 (.s 156 15::.keep::.keep::.s 138 8::kq 21 (.s 99 2::.own 156 15::.keep::.keep::[]))))
abbrev k12:List Fk:=(kq 26 (.own 68 2::kq 10 (.own 156 15::.keep::.keep::.own 138 8::kq 21 (.own 99 2::.own 156 15::.keep::.keep::.own 148 18::[]))))
abbrev k13:List Fk:=(.keep::.keep::.own 68 2::kq 4 [])
abbrev k14:List Fk:=(kq 8 [])
abbrev k15:List Fk:=(kq 14 (.s 113 3::.keep::.keep::[]))
abbrev k16:List Fk:=(kq 3 (.own 156 15::.keep::.keep::.s 138 8::kq 15 (.own 156 15::.own 148 18::[])))
abbrev k17:List Fk:=(kq 5 [])
abbrev k18:List Fk:=(kq 26 (.s 68 2::kq 10 (.own 156 15::.keep::.keep::.own 138 8::kq 21 (.s 99 2::.own 156 15::.keep::.keep::.own 148 18::[]))))
abbrev FN (a:BV):=((a.AA.BK,(a.AA.Own,(a.AA.Since,(a.AA.Other,(a.AA.Ez,(a.AA.Told,(a.AA.Bv,(a.AA.Hl,(a.AA.FI,(a.AA.FY,(a.AA.Version,(a.AA.Length,(a.AA.Limit,(a.AA.Bj,(a.AA.F5,(a.AA.Mark,(a.AA.CP,(a.AA.Bz,(a.PZ,(a.LD,())))))))))))))))))))),(a.AA.Ah,(a.AA.Ak,(a.f_out,(a.Bg,())))))
abbrev RP (a:CO):=(a.Link.BK,(a.Link.DR,(a.Link.Clock,(a.Link.Event,(a.Link.Last,(a.Link.Fp,(a.Link.Size,(a.Link.Sync,(a.Link.IB,(a.Link.Hq,(a.Link.FO,(a.Link.Good,(a.Link.Di,(a.Link.More,(a.Link.Ar,(a.Link.Gj,(a.Link.AA,(a.Link.Bq,(a.Link.Key,(a.Link.CX,(a.Link.Bl,(a.Link.IC,()))))))))))))))))))))))
abbrev Yo (a:Ac):=(a.BK,(a.DR,(a.Clock,(a.Event,(a.Last,(a.Fp,(a.Size,(a.Sync,(a.IB,(a.Hq,(a.FO,(a.Good,(a.Di,(a.More,(a.Ar,(a.Gj,(a.AA,(a.Bq,(a.Key,(a.CX,(a.Bl,(a.IC,()))))))))))))))))))))))
abbrev QJ (a:CO):=(a.Link.BK,(a.Link.DR,(a.Link.Clock,(a.Link.Event,(a.Link.Last,(a.Link.Fp,(a.Link.Size,(a.Link.Sync,(a.Link.IB,(a.Link.Hq,(a.Link.FO,(a.Link.Good,(a.Link.Di,(a.Link.More,(a.Link.Ar.SN,(a.Link.Ar.DX,(a.Link.Ar.Open,(a.Link.Ar.Empty,(a.Link.Ar.Di,(a.Link.Ar.Taken,(a.Link.Gj,(a.Link.AA.BK,(a.Link.AA.Own,(a.Link.AA.Since,(a.Link.AA.Other,(a.Link.AA.Ez,(a.Link.AA.Told,(a.Link.AA.Bv,(a.Link.AA.Hl,(a.Link.AA.FI,(a.Link.AA.FY,(a.Link.AA.Version,(a.Link.AA.Length,(a.Link.AA.Limit,(a.Link.AA.Bj,(a.Link.AA.F5,(a.Link.AA.Mark,(a.Link.AA.CP,(a.Link.AA.Bz,(a.Link.Bq,(a.Link.Key,(a.Link.CX,(a.Link.Bl,(a.Link.IC,()))))))))))))))))))))))))))))))))))))))))))))
abbrev Tv (a:CO):=(a.Link.Ar.Az,(a.Link.AA.Ah,(a.Link.AA.Ak,(a.Link.Ag,(a.Ba,())))))
abbrev Yi (a:BV):=(a.AA.BK,(a.AA.Own,(a.AA.Since,(a.AA.Other,(a.AA.Ez,(a.AA.Told,(a.AA.Bv,(a.AA.Hl,(a.AA.FI,(a.AA.FY,(a.AA.Version,(a.AA.Length,(a.AA.Limit,(a.AA.Bj,(a.AA.F5,(a.AA.Mark,(a.AA.CP,(a.AA.Bz,(a.PZ,(a.LD,()))))))))))))))))))))
abbrev nD (a:CO):=((a.Link.BK,(a.Link.DR,(a.Link.Clock,(a.Link.Event,(a.Link.Last,(a.Link.Fp,(a.Link.Size,(a.Link.Sync,(a.Link.IB,(a.Link.Hq,(a.Link.FO,(a.Link.Good,(a.Link.Di,(a.Link.More,(a.Link.Ar.SN,(a.Link.Ar.DX,(a.Link.Ar.Open,(a.Link.Ar.Empty,(a.Link.Ar.Di,(a.Link.Ar.Taken,(a.Link.Gj,(a.Link.AA.BK,(a.Link.AA.Own,(a.Link.AA.Since,(a.Link.AA.Other,(a.Link.AA.Ez,(a.Link.AA.Told,(a.Link.AA.Bv,(a.Link.AA.Hl,(a.Link.AA.FI,(a.Link.AA.FY,(a.Link.AA.Version,(a.Link.AA.Length,(a.Link.AA.Limit,(a.Link.AA.Bj,(a.Link.AA.F5,(a.Link.AA.Mark,(a.Link.AA.CP,(a.Link.AA.Bz,(a.Link.Bq,(a.Link.Key,(a.Link.Bl,(a.Link.IC,()))))))))))))))))))))))))))))))))))))))))))),(a.Link.Ar.Az,(a.Link.AA.Ah,(a.Link.AA.Ak,(a.Link.CX,(a.Link.Ag,(a.Ba,())))))))
abbrev WA (a:CO):=((a.Link.BK,(a.Link.DR,(a.Link.Clock,(a.Link.Event,(a.Link.Last,(a.Link.Fp,(a.Link.Size,(a.Link.Sync,(a.Link.IB,(a.Link.Hq,(a.Link.FO,(a.Link.Good,(a.Link.Di,(a.Link.More,(a.Link.Ar,(a.Link.Gj,(a.Link.AA,(a.Link.Bq,(a.Link.Key,(a.Link.CX,(a.Link.Bl,(a.Link.IC,())))))))))))))))))))))),(a.Link.Ag,(a.Ba,())))
abbrev Zj (a:BQ):=(a.SN,(a.DX,(a.Open,(a.Empty,(a.Di,(a.Taken,()))))))
abbrev Ej (i:Nat):Sp:=.agg [.v 3 1 false,.v 3 1 false,.v 3 1 false,.own 156 i,.v 3 1 false,.v 3 1 false,.own 138 (i+1),.v 4 1 false,.v 25 1 false,.v 25 1 false,.v 4 1 false,.v 4 1 false,.v 3 1 false,.v 3 1 false,.v 3 1 false,.v 25 1 false,.v 25 1 false,.v 25 1 false,.v 3 1 false,.v 3 1 false,.v 30 1 false,.v 3 1 false,.own 156 (i+2),.own 148 (i+3)]
abbrev Jy (i:Nat):Sp:=.agg [.v 3 1 false,.v 28 11 true,.v 3 1 false,.v 30 1 false,.v 3 1 false,.v 3 1 false,.v 3 1 false,.v 3 1 false,.v 3 1 false,.v 4 1 false,.v 4 1 false,.v 4 1 false,.v 4 1 false,.v 4 1 false,.v 33 7 true,.v 35 3 true,.v 39 20 true,.v 41 7 true,.v 29 1 false,.v 42 1 false,.own 156 i,.v 3 1 false,.v 25 1 false,.own 148 (i+1)]
abbrev Vw (i:Nat):Sp:=.agg [.v 3 1 false,.v 28 11 true,.v 3 1 false,.v 30 1 false,.v 3 1 false,.v 3 1 false,.v 3 1 false,.v 3 1 false,.v 3 1 false,.v 4 1 false,.v 4 1 false,.v 4 1 false,.v 4 1 false,.v 4 1 false,.v 3 1 false,.v 3 1 false,.own 68 i,.v 4 1 false,.v 4 1 false,.v 3 1 false,.v 3 1 false,.v 35 3 true,.v 3 1 false,.v 3 1 false,.v 3 1 false,.own 156 (i+1),.v 3 1 false,.v 3 1 false,.own 138 (i+2),.v 4 1 false,.v 25 1 false,.v 25 1 false,.v 4 1 false,.v 4 1 false,.v 3 1 false,.v 3 1 false,.v 3 1 false,.v 25 1 false,.v 25 1 false,.v 25 1 false,.v 3 1 false,.v 3 1 false,.v 41 7 true,.v 29 1 false,.v 42 1 false,.own 156 (i+3),.v 3 1 false,.v 25 1 false,.own 148 (i+4)]
abbrev mO (i:Nat):Sp:=.agg [.v 3 1 false,.v 28 11 true,.v 3 1 false,.v 30 1 false,.v 3 1 false,.v 3 1 false,.v 3 1 false,.v 3 1 false,.v 3 1 false,.v 4 1 false,.v 4 1 false,.v 4 1 false,.v 4 1 false,.v 4 1 false,.v 33 7 true,.v 35 3 true,.v 39 20 true,.v 41 7 true,.v 29 1 false,.v 42 1 false,.own 156 i,.v 3 1 false,.v 25 1 false]
abbrev Zo (i:Nat):Sp:=.agg [.v 3 1 false,.v 3 1 false,.own 68 i,.v 4 1 false,.v 4 1 false,.v 3 1 false,.v 3 1 false]
abbrev Zm (i:Nat):Sp:=.agg [.v 3 1 false,.v 28 11 true,.v 3 1 false,.v 30 1 false,.v 3 1 false,.v 3 1 false,.v 3 1 false,.v 3 1 false,.v 3 1 false,.v 4 1 false,.v 4 1 false,.v 4 1 false,.v 4 1 false,.v 4 1 false,.v 3 1 false,.v 3 1 false,.own 68 i,.v 4 1 false,.v 4 1 false,.v 3 1 false,.v 3 1 false,.v 35 3 true,.v 3 1 false,.v 3 1 false,.v 3 1 false,.own 156 (i+1),.v 3 1 false,.v 3 1 false,.own 138 (i+2),.v 4 1 false,.v 25 1 false,.v 25 1 false,.v 4 1 false,.v 4 1 false,.v 3 1 false,.v 3 1 false,.v 3 1 false,.v 25 1 false,.v 25 1 false,.v 25 1 false,.v 3 1 false,.v 3 1 false,.v 41 7 true,.v 29 1 false,.own 99 (i+3),.own 156 (i+4),.v 3 1 false,.v 25 1 false,.own 148 (i+5)]
abbrev ag6 (q z A C D:Nat):Sp:=.agg [.v 3 1 false,.v 28 11 true,.v 3 1 false,.v 30 1 false,.v 3 1 false,.v 3 1 false,.v 3 1 false,.v 3 1 false,.v 3 1 false,.v 4 1 false,.v 4 1 false,.v 4 1 false,.v 4 1 false,.v 4 1 false,.v 3 1 false,.v 3 1 false,.own 68 q,.v 4 1 false,.v 4 1 false,.v 3 1 false,.v 3 1 false,.v 35 3 true,.v 3 1 false,.v 3 1 false,.v 3 1 false,.own 156 z,.v 3 1 false,.v 3 1 false,.own 138 A,.v 4 1 false,.v 25 1 false,.v 25 1 false,.v 4 1 false,.v 4 1 false,.v 3 1 false,.v 3 1 false,.v 3 1 false,.v 25 1 false,.v 25 1 false,.v 25 1 false,.v 3 1 false,.v 3 1 false,.v 41 7 true,.v 29 1 false,.v 42 1 false,.own 156 C,.v 3 1 false,.v 25 1 false,.own 148 D]
abbrev ag7 (i:Nat):Sp:=.agg [.v 3 1 false,.v 28 11 true,.v 3 1 false,.v 30 1 false,.v 3 1 false,.v 3 1 false,.v 3 1 false,.v 3 1 false,.v 3 1 false,.v 4 1 false,.v 4 1 false,.v 4 1 false,.v 4 1 false,.v 4 1 false,.v 33 7 true,.v 35 3 true,.v 3 1 false,.v 3 1 false,.v 3 1 false,.own 156 i,.v 3 1 false,.v 3 1 false,.own 138 (i+1),.v 4 1 false,.v 25 1 false,.v 25 1 false,.v 4 1 false,.v 4 1 false,.v 3 1 false,.v 3 1 false,.v 3 1 false,.v 25 1 false,.v 25 1 false,.v 25 1 false,.v 3 1 false,.v 3 1 false,.v 41 7 true,.v 29 1 false,.v 42 1 false,.own 156 (i+2),.v 3 1 false,.v 25 1 false,.own 148 (i+3)]
abbrev ag8 (q z A:Nat):Sp:=.agg [.v 3 1 false,.v 3 1 false,.v 3 1 false,.own 156 q,.v 3 1 false,.v 3 1 false,.v 37 1 false,.v 4 1 false,.v 25 1 false,.v 25 1 false,.v 4 1 false,.v 4 1 false,.v 3 1 false,.v 3 1 false,.v 3 1 false,.v 25 1 false,.v 25 1 false,.v 25 1 false,.v 3 1 false,.v 3 1 false,.v 30 1 false,.v 3 1 false,.own 156 z,.own 148 A]
abbrev kl {α L:Type} (l:List α) (t:Tr U L):Tr U L:=.chk (kL l) t
abbrev kI {α:Type} (i:Int) (l:List α):Bool:=decide (0<=i/\i<(l.length:Int))
abbrev AB {L M:Type} (x:L):Tr U (L⊕M):=.leaf (.inl x)
abbrev AP {L M:Type} (x:M):Tr U (L⊕M):=.leaf (.inr x)
theorem DN:(∀(L R:Type) (l:L) (J:L->Option R),(Tr.leaf l:Tr U L).den J=J l)/\(∀(L R:Type) (c:Bool) (a b:Tr U L) (J:L->Option R),(Tr.br c a b).den J=cond c (a.den J) (b.den J))/\(∀(L R:Type) (t:Nat) (o:Option (U.Ty t)) (k:U.Ty t->Tr U L) (J:L->Option R),(Tr.bind t o k).den J=o.bind fun x=>(k x).den J) /\
  (∀(L R:Type) (c:Bool) (a:Tr U L) (J:L->Option R),(Tr.chk c a).den J=cond c (a.den J) none)/\(∀(L R:Type) (J:L->Option R),(Tr.fail:Tr U L).den J=none)/\(∀(R P:Type) (g:P->Option R) (r:R),Hz g (.inl r)=some r)/\(∀(R P:Type) (g:P->Option R) (q:P),Hz g (.inr q)=g q) /\
  (∀(α:Type) (l:List α),kL l=true)/\(∀(L R α:Type) (l:List α) (a:Tr U L) (J:L->Option R),(kl l a).den J=a.den J)/\(∀(L R:Type) (a:Tr U L) (J:L->Option R),(Tr.chk true a).den J=a.den J)/\(∀(α:Type) (i:Int) (l:List α),kI i l=decide (0<=i/\i<(l.length:Int)))/\(∀n k:Nat,kA n k=(decide (n*k<=lim)&&decide (n<=maxLen))):=
 ⟨fun _ _ _ _=>rfl,fun _ _ _ _ _ _=>rfl,fun _ _ _ _ _ _=>rfl,fun _ _ _ _ _=>rfl,fun _ _ _=>rfl,fun _ _ _ _=>rfl,fun _ _ _ _=>rfl,fun _ _=>beq_self_eq_true _,fun _ _ _ l a J=>by show cond (l.length==l.length) (a.den J) none=_;rw[beq_self_eq_true];rfl,fun _ _ _ _=>rfl,fun _ _ _=>rfl,fun _ _=>rfl⟩
abbrev Zc7 (x:CO):SK:=⟨(⟨x.Link.BK,x.Link.DR,x.Link.Clock,x.Link.Event,x.Link.Last,x.Link.Fp,x.Link.Size,x.Link.Sync,x.Link.IB,x.Link.Hq,x.Link.FO,x.Link.Good,x.Link.Di,x.Link.More,(⟨x.Link.Ar.SN,x.Link.Ar.DX,x.Link.Ar.Open,x.Link.Ar.Empty,x.Link.Ar.Di,x.Link.Ar.Taken⟩:Z49),x.Link.Gj,(⟨x.Link.AA.BK,x.Link.AA.Own,x.Link.AA.Since,x.Link.AA.Other,x.Link.AA.Ez,x.Link.AA.Told,x.Link.AA.Bv,x.Link.AA.Hl,x.Link.AA.FI,x.Link.AA.FY,x.Link.AA.Version,x.Link.AA.Length,x.Link.AA.Limit,x.Link.AA.Bj,x.Link.AA.F5,x.Link.AA.Mark,x.Link.AA.CP,x.Link.AA.Bz⟩:dU),x.Link.Bq,x.Link.Key,x.Link.Bl,x.Link.IC⟩:Z3q)⟩
abbrev ZqR (x:Bc):SG:=⟨x.BK,x.Key,x.Bj,x.Gf,x.Eg,x.Tx,x.Rx⟩
abbrev U9 (x:BV):Ub:=⟨(⟨x.AA.BK,x.AA.Own,x.AA.Since,x.AA.Other,x.AA.Ez,x.AA.Told,x.AA.Bv,x.AA.Hl,x.AA.FI,x.AA.FY,x.AA.Version,x.AA.Length,x.AA.Limit,x.AA.Bj,x.AA.F5,x.AA.Mark,x.AA.CP,x.AA.Bz⟩:dU),x.PZ,x.LD⟩
def ZhU:List Nat:=[115,206,338,3369,3385,4,5,62,3,60,77,86,31,36,37,42,45,46,110,29,25,26,226,63,78,75,71,120,104,30,22,189,129,135,140,208,216,269,222,9,254,163,231,233,237,194,256,253,279,240]
def ZhO:List (Nat×Nat):=[(83,12),(113,3),(59,17),(68,2),(156,15),(138,8),(99,2),(44,66),(148,18),(39,20),(109,132),(28,11),(52,2),(33,7),(35,3),(24,5),(70,5),(262,11),(41,7),(312,2),(252,2),(174,3)]
theorem ZBG:∀t∈ZhU,t∈U.keys/\∀a,cellsS (U.encS t a)=[U.encS t a]:=by
 intro t ht
 repeat (rcases List.mem_cons.1 ht with rfl|ht;exact⟨by decide,fun _=>rfl⟩)
 cases ht
theorem ZB3:∀p∈ZhO,p.1∈U.keys/\∀a,∃cs,U.encS p.1 a = .agg cs/\cs.length=p.2:=by
 intro p ht
 repeat (rcases List.mem_cons.1 ht with rfl|ht;exact⟨by decide,fun _=>⟨_,rfl,rfl⟩⟩)
 cases ht
theorem okS {s:Shape} (h:shB U ZhU ZhO s=true):s.OK U:=Shape.ok_of ZBG ZB3 h
def kt:Nat->List Fk
 | 24=>k17
 | 28=>k4
 | 31=>[.s 68 2]
 | 33=>k7
 | 36=>[.s 156 15]
 | 37=>[.s 138 8]
 | 39=>k1
 | 41=>k8
 | 42=>[.s 99 2]
 | 44=>k2
 | 59=>k15
 | 62=>[.s 5 1]
 | 68=>[.keep,.s 5 1]
 | 70=>k3
 | 77=>[.s 148 18]
 | 83=>(kq 3 (.s 5 1::kq 8 []))
 | 99=>[.keep,.keep]
 | 109=>k6
 | 113=>[.s 83 12,.keep,.keep]
 | 138=>k14
 | 156=>k0
 | 226=>[.s 3 1]
 | 240=>[.s 174 3]
 | 252=>[.keep,.keep]
 | 253=>[.s 252 2]
 | 254=>[.s 25 1]
 | 256=>[.s 62 1]
 | 262=>k4
 | 312=>[.keep,.keep]
 | _=>[.keep]
inductive Sl where
 | v (t:Nat)|a (t:Nat)|p (j:Nat)|o (e n j:Nat)
inductive Bo where
 | v (t:Nat)|s (t:Nat)|r (e:Nat)
def LT (s:List Nat) (l:List Sl) (b:List Bo):Lay:=
 ⟨s,l.map fun | .v t=>kt t | .a t=>kt t | .p _=>[.keep] | .o e n _=>[.own e n],b.map fun | .v t=>.var (kt t) | .s t=>.var (kt t) | .r _=>.row true,
  ⟨l.map fun | .v t=>.one (.v t 1 false) | .a t=>.agg [.v t (kt t).length true] | .p j=>.one (.ptr j) | .o e _ j=>.one (.own e j),
   b.map fun | .v t=>.var t 1 (.one (.v t 1 false)) | .s t=>.var t (kt t).length (.agg [.v t (kt t).length true]) | .r e=>.row e true⟩⟩
abbrev AA0 (f:Nat) (m:Aj U):Prop:=Ai Tryz.prog B0 f m
theorem AA2 {ts:List Nat} (h:ts.all U.keys.contains=true):∀t∈ts,t∈U.keys:=by simpa using h
abbrev AA1 (f:Nat) (ts:List Nat) (rt:Nat) (fn:F8 U ts->Option (U.Ty rt)) (h:ts.all U.keys.contains=true):Prop:=Ai Tryz.prog B0 f ⟨ts,rt,fn,AA2 h⟩
@[reducible] def AA4 (R:Type):List Pc->Type
 | []=>R
 | .v t _ _::ps=>U.Ty t×AA4 R ps
 | _::ps=>AA4 R ps
@[reducible] def AA5 (R:Type):List Sp->Type
 | []=>R
 | p::ps=>AA4 (AA5 R ps) p.cells
@[reducible] def AA6:List Pb->Type
 | []=>Unit
 | .var _ _ p::q=>AA4 (AA6 q) p.cells
 | .row t _::q=>List (U.Ty t)×AA6 q
def AA7 {R:Type}:(l:List Pc)->AA4 R l->PX U l×R
 | [],x=>((),x)
 | .v _ _ _::ps,x=>((x.1,(AA7 ps x.2).1),(AA7 ps x.2).2)
 | .own _ _::ps,x=>AA7 ps x
 | .ptr _::ps,x=>AA7 ps x
 | .fn _ _ _::ps,x=>AA7 ps x
 | .no::ps,x=>AA7 ps x
 | .und::ps,x=>AA7 ps x
 | .nC _::ps,x=>AA7 ps x
def AA8 {R:Type}:(l:List Sp)->AA5 R l->AX U l×R
 | [],x=>((),x)
 | p::ps,x=>(((AA7 p.cells x).1,(AA8 ps (AA7 p.cells x).2).1),(AA8 ps (AA7 p.cells x).2).2)
def AA9:(l:List Pb)->AA6 l->BX U l
 | [],_=>()
 | .var _ _ p::q,x=>((AA7 p.cells x).1,AA9 q (AA7 p.cells x).2)
 | .row _ _::q,x=>(x.1,AA9 q x.2)
noncomputable def AA3 (fn:Func) (p:List Nat) (L:Lay) (x:AA5 (AA6 L.sh.boxes) L.sh.args):BC U:=Ad fn p L ((AA8 _ x).1,AA9 _ (AA8 _ x).2)
end
end Go.Proofs.YtjodhcdmhobmoaaGreatDoor
