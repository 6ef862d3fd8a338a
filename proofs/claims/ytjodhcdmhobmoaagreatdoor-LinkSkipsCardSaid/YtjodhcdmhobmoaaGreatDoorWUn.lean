/- A part of it. -/
import Derived.Test.YtjodhcdmhobmoaaGreatDoorWHd
import Derived.Test.YtjodhcdmhobmoaaGreatDoorProg
import Derived.KernelRfl
set_option linter.unusedVariables false
set_option linter.unusedSimpArgs false
namespace Go.Proofs.YtjodhcdmhobmoaaGreatDoor
open Go Go.Proofs.YtjodhcdmhobmoaaGreatDoor.Le
set_option maxRecDepth 100000
noncomputable section
structure DR where
 FP:Int
 FC:Int
 E5:Int
 C9:Int
 FY:Int
@[reducible] def CE:DR:=⟨(0:Int),(0:Int),(0:Int),(0:Int),(0:Int)⟩
structure FO where
 Jq:Int
 VE:Int
 BL:DR
 Map:Int
 Hop:Int
 PPM:Int
 QL:Int
@[reducible] def Z9a:FO:=⟨(0:Int),(0:Int),CE,(0:Int),(0:Int),(0:Int),(0:Int)⟩
structure Z4z where
 x0:Int
 x1:Int
structure Az where
 Bz:Int
 Payload:List Int
structure Hw where
 Side:Int
 Kind:Int
 Aw:Az
 BL:DR
 Map:Int
 Number:Int
 Key:Int
structure FT where
 TB:List Hw
 Xb:Int
 Xf:Int
structure JV where
 Df:FO
 Keys:Z4z
 Hq:Int
 Events:List FT
 CB:Int
 Aw:Int
structure BR where
 SN:Int
 EI:Int
 Ap:List Az
 Open:Bool
 Empty:Bool
 EX:Int
 Taken:Int
@[reducible] def KJ:BR:=⟨(0:Int),(0:Int),[],false,false,(0:Int),(0:Int)⟩
structure CW where
 C9:Int
 EJ:Int
 Full:Bool
@[reducible] def Zpo:CW:=⟨(0:Int),(0:Int),false⟩
structure AO where
 Kind:Int
 BL:DR
 Map:Int
 DZ:Int
 CQ:Int
 ER:Int
 CZ:Int
 Mark:Int
 D7:Int
 Version:Int
 Length:Int
@[reducible] def EZ:AO:=⟨(0:Int),CE,(0:Int),(0:Int),(0:Int),(0:Int),(0:Int),(0:Int),(0:Int),(0:Int),(0:Int)⟩
structure BC where
 Kind:Int
 DZ:Int
 BL:DR
 Map:Int
@[reducible] def Jl:BC:=⟨(0:Int),(0:Int),CE,(0:Int)⟩
structure AZ where
 CB:Int
 Own:Int
 Since:Int
 A8:List AO
 Other:Int
 Fv:Int
 Aq:List BC
 Told:Bool
 D7:Int
 I7:Int
 Fq:Bool
 Gi:Bool
 Version:Int
 Length:Int
 Limit:Int
 CZ:Int
 Gw:Int
 Mark:Int
 Dy:Int
 Eb:Int
@[reducible] def ED:AZ:=⟨(0:Int),(0:Int),(0:Int),[],(0:Int),(0:Int),[],false,(0:Int),(0:Int),false,false,(0:Int),(0:Int),(0:Int),(0:Int),(0:Int),(0:Int),(0:Int),(0:Int)⟩
structure Bq where
 CB:Int
 Key:Int
 CZ:Int
 Nh:Bool
 IY:Bool
 Tx:Int
 Rx:Int
@[reducible] def MG:Bq:=⟨(0:Int),(0:Int),(0:Int),false,false,(0:Int),(0:Int)⟩
structure BO where
 Good:Int
 Kq:Int
structure Ad where
 CB:Int
 Df:FO
 Clock:Int
 Event:Int
 Last:Int
 F9:Int
 Size:Int
 Sync:Int
 Hm:Int
 GU:Bool
 Ez:Bool
 Good:Bool
 EX:Bool
 More:Bool
 Ar:BR
 DY:CW
 AA:AZ
 EL:Bq
 Key:Int
 DJ:List BO
 Ac:List AO
 CQ:Int
 Hq:Int
@[reducible] def EM:Ad:=⟨(0:Int),Z9a,(0:Int),(0:Int),(0:Int),(0:Int),(0:Int),(0:Int),(0:Int),false,false,false,false,false,KJ,Zpo,ED,MG,(0:Int),[],[],(0:Int),(0:Int)⟩
structure Au where
 Kind:Int
 Event:Int
 Aw:Az
 ZHr:BC
 Number:Int
 BL:DR
structure DD where
 x0:Ad
 x1:Ad
structure QJ where
 Start:Int
 End:Int
structure BM where
 SN:Int
 EI:Int
 MD:Int
 Aw:Az
@[reducible] def Dk:BM:=⟨(0:Int),(0:Int),(0:Int),(⟨(0:Int),[]⟩:Az)⟩
structure CP where
 Fq:Bool
 BL:Bool
 Map:Bool
 DZ:Bool
 CQ:Bool
 ER:Bool
 CZ:Bool
 Mark:Bool
 D7:Bool
 Version:Bool
 Length:Bool
@[reducible] def Nv:CP:=⟨false,false,false,false,false,false,false,false,false,false,false⟩
structure BQ where
 Link:Ad
 Ak:List Au
structure BD where
 AA:AZ
 FX:Int
 Hg:Int
 f_out:List AO
 BG:List Au
structure JX where
 x0:Int
 x1:Int
structure FB where
 Size:Int
 Value:Int
structure Gg where
 VP:Int
 f_low:Int
 wW:Int
structure uV where
 SN:Int
 EI:Int
 Open:Bool
 Empty:Bool
 EX:Int
 Taken:Int
structure WN where
 CB:Int
 Own:Int
 Since:Int
 Other:Int
 Fv:Int
 Told:Bool
 D7:Int
 I7:Int
 Fq:Bool
 Gi:Bool
 Version:Int
 Length:Int
 Limit:Int
 CZ:Int
 Gw:Int
 Mark:Int
 Dy:Int
 Eb:Int
structure sV where
 CB:Int
 Df:FO
 Clock:Int
 Event:Int
 Last:Int
 F9:Int
 Size:Int
 Sync:Int
 Hm:Int
 GU:Bool
 Ez:Bool
 Good:Bool
 EX:Bool
 More:Bool
 Ar:uV
 DY:CW
 AA:WN
 EL:Bq
 Key:Int
 CQ:Int
 Hq:Int
structure Jm where
 Link:sV
structure RP where
 AA:WN
 FX:Int
 Hg:Int
structure RY where
 CB:Int
 Key:Int
 CZ:Int
 Nh:Bool
 IY:Bool
 Tx:Int
 Rx:Int
structure Kv where
 q0:List Int
structure RF where
 q0:List AO
structure Pn where
 q0:List BC
structure Y1 where
 q0:List BO
structure JH where
 q0:List Int
structure La where
 q0:List Int
structure UW where
 q0:List Int
structure QO where
 q0:List Int
structure Ri where
 q0:List Int
structure OB where
 q0:BD
structure TR where
 q0:BD
structure TS where
 q0:BD
structure QD where
 q0:BQ
structure Oa where
 q0:BQ
 q1:List BO
structure UM where
 q0:List BO
structure TZ where
 q0:BQ
structure Pv where
 q0:BQ
 q1:List Au
structure MB where
 q0:Int
 q1:BQ
structure UF where
 q0:BQ
structure Vd where
 q0:Bq
 q1:Int
structure Wh where
 q0:BR
structure UE where
 q0:BQ
structure TW where
 q0:BQ
 q1:List Au
structure Pz where
 q0:BM
 q1:Bool
 q2:BQ
 q3:List BO
structure V7 where
 q0:List Int
structure Nu where
 q0:BQ
 q1:List AO
 q2:List BC
structure UK where
 q0:List Int
structure UI where
 q0:AO
structure UC where
 q0:AO
structure UG where
 q0:AO
structure Tt where
 q0:AO
structure Tq where
 q0:AO
structure Ti where
 q0:AO
structure Tj where
 q0:AO
structure Tf where
 q0:AO
structure Td where
 q0:AO
structure Kw where
 q0:AO
structure Pq where
 q0:AO
structure QA where
 q0:AO
structure Px where
 q0:BQ
structure Nw where
 q0:BQ
structure TY where
 q0:BQ
 q1:List Au
structure O9 where
 q0:BQ
structure Jj where
 q0:BD
structure Kt where
 q0:BD
 q1:List BC
structure Qx where
 q0:BD
structure Pm where
 q0:BD
structure Ku where
 q0:BD
structure Ph where
 q0:BD
structure Pe where
 q0:BD
structure Py where
 q0:BD
structure Lu where
 q0:BD
structure O4 where
 q0:BD
structure P9 where
 q0:BD
structure Pj where
 q0:BD
structure TV where
 q0:BD
structure RD where
 q0:BD
structure O6 where
 q0:BD
@[reducible] def Ty:Nat->Type
 | 1344=>Kv
 | 1345=>RF
 | 1346=>Pn
 | 1347=>Y1
 | 1349=>JH
 | 1351=>La
 | 1352=>UW
 | 1350=>QO
 | 1348=>Ri
 | 1363=>OB
 | 1366=>TR
 | 1365=>TS
 | 1353=>QD
 | 1354=>Oa
 | 1367=>UM
 | 1359=>TZ
 | 1360=>Pv
 | 1361=>MB
 | 1362=>UF
 | 1376=>Vd
 | 1377=>Wh
 | 1369=>UE
 | 1370=>TW
 | 1368=>Pz
 | 1378=>V7
 | 1371=>Nu
 | 1391=>UK
 | 1382=>UI
 | 1383=>UC
 | 1384=>UG
 | 1385=>Tt
 | 1386=>Tq
 | 1387=>Ti
 | 1388=>Tj
 | 1389=>Tf
 | 1390=>Td
 | 1379=>Kw
 | 1380=>Pq
 | 1381=>QA
 | 1372=>Px
 | 1373=>Nw
 | 1374=>TY
 | 1375=>O9
 | 1398=>Jj
 | 1392=>Kt
 | 1393=>Qx
 | 1394=>Pm
 | 1395=>Ku
 | 1396=>Ph
 | 1397=>Pe
 | 1399=>Py
 | 1400=>Lu
 | 1401=>O4
 | 1402=>P9
 | 1403=>Pj
 | 1404=>TV
 | 1405=>RD
 | 1406=>O6
 | 249=>Unit
 | 115=>Jm
 | 206=>RP
 | 338=>Int
 | 3369=>Int
 | 3385=>RY
 | 4=>Bool
 | 5=>Int
 | 83=>Hw
 | 113=>FT
 | 59=>JV
 | 89=>List Bool
 | 68=>Az
 | 156=>AO
 | 138=>BC
 | 99=>BO
 | 44=>Ad
 | 3=>Int
 | 60=>Ad×Int×Bool
 | 148=>Au
 | 77=>List Au
 | 86=>Ad×(List Au)×Bool
 | 78=>Ad×(List Au)
 | 62=>List Int
 | 36=>List AO
 | 37=>List BC
 | 42=>List BO
 | 35=>CW
 | 33=>BR
 | 109=>DD
 | 45=>Int
 | 46=>Ad×Int
 | 110=>DD×Int
 | 28=>FO
 | 29=>Int
 | 25=>Int
 | 52=>QJ
 | 39=>AZ
 | 24=>DR
 | 26=>Int
 | 226=>List Int
 | 63=>Ad×(List Int)
 | 70=>BM
 | 75=>BR×BM
 | 71=>BM×Int
 | 120=>(List Int)×Int
 | 104=>Int×Int
 | 30=>Int
 | 22=>Int
 | 189=>BR×Int
 | 262=>CP
 | 41=>Bq
 | 129=>CW×Int
 | 135=>AZ×(List BC)
 | 140=>AZ×(List AO)
 | 208=>(List BC)×(List BC)
 | 216=>AZ×AO
 | 269=>(List BC)×Int
 | 222=>AZ×(List AO)×Int
 | 9=>ByteArray
 | 254=>List Int
 | 163=>BR×Az×Bool×Bool
 | 231=>AO×Int
 | 233=>AZ×(List Au)
 | 237=>AZ×(List AO)×(List Au)
 | 31=>List Az
 | 194=>Int×Int
 | 256=>List (List Int)
 | 312=>JX
 | 252=>FB
 | 253=>List FB
 | 279=>(List Int)×(List Int)×Int
 | 174=>Gg
 | 240=>List Gg
 | _=>Empty
abbrev Ee:AL Ty Int:=AL.int .u8
abbrev P8:AL Ty Int:=AL.int .u16
abbrev P6:AL Ty Int:=AL.int .u32
abbrev Cc:AL Ty Int:=AL.int .u64
abbrev BN:AL Ty Int:=AL.int .i64
abbrev Dh:AL Ty Bool:=AL.bool
abbrev cst:AL Ty ByteArray:=AL.str
def Il:AL Ty Az:=AL.DC (fun x=>(x.Bz,x.Payload,())) (fun p=>⟨p.1,p.2.1⟩) (AL.pair BN (AL.pair (AL.list 5 1 (fun(a:Int)=>Ee.Bc a):AL Ty (List (Ty 5))) AL.unit))
def Nj:AL Ty DR:=AL.DC (fun x=>(x.FP,x.FC,x.E5,x.C9,x.FY,())) (fun p=>⟨p.1,p.2.1,p.2.2.1,p.2.2.2.1,p.2.2.2.2.1⟩) (AL.pair BN (AL.pair BN (AL.pair BN (AL.pair BN (AL.pair BN AL.unit)))))
def Sr:AL Ty Hw:=AL.DC (fun x=>(x.Side,x.Kind,x.Aw,x.BL,x.Map,x.Number,x.Key,())) (fun p=>⟨p.1,p.2.1,p.2.2.1,p.2.2.2.1,p.2.2.2.2.1,p.2.2.2.2.2.1,p.2.2.2.2.2.2.1⟩) (AL.pair BN (AL.pair BN (AL.pair Il (AL.pair Nj (AL.pair Cc (AL.pair Cc (AL.pair Cc AL.unit)))))))
def SQ:AL Ty FT:=AL.DC (fun x=>(x.TB,x.Xb,x.Xf,())) (fun p=>⟨p.1,p.2.1,p.2.2.1⟩) (AL.pair (AL.list 83 12 (fun(a:Hw)=>.agg (Sr.BJ a)):AL Ty (List (Ty 83))) (AL.pair BN (AL.pair BN AL.unit)))
def Qo:AL Ty FO:=AL.DC (fun x=>(x.Jq,x.VE,x.BL,x.Map,x.Hop,x.PPM,x.QL,())) (fun p=>⟨p.1,p.2.1,p.2.2.1,p.2.2.2.1,p.2.2.2.2.1,p.2.2.2.2.2.1,p.2.2.2.2.2.2.1⟩) (AL.pair P6 (AL.pair P6 (AL.pair Nj (AL.pair Cc (AL.pair BN (AL.pair BN (AL.pair BN AL.unit)))))))
def yT:AL Ty Z4z:=AL.DC (fun x=>(x.x0,x.x1,())) (fun p=>⟨p.1,p.2.1⟩) (AL.pair Cc (AL.pair Cc AL.unit))
def Xl:AL Ty JV:=AL.DC (fun x=>(x.Df,x.Keys,x.Hq,x.Events,x.CB,x.Aw,())) (fun p=>⟨p.1,p.2.1,p.2.2.1,p.2.2.2.1,p.2.2.2.2.1,p.2.2.2.2.2.1⟩) (AL.pair Qo (AL.pair yT (AL.pair Cc (AL.pair (AL.list 113 3 (fun(a:FT)=>.agg (SQ.BJ a)):AL Ty (List (Ty 113))) (AL.pair BN (AL.pair BN AL.unit))))))
def Hl:AL Ty AO:=AL.DC (fun x=>(x.Kind,x.BL,x.Map,x.DZ,x.CQ,x.ER,x.CZ,x.Mark,x.D7,x.Version,x.Length,())) (fun p=>⟨p.1,p.2.1,p.2.2.1,p.2.2.2.1,p.2.2.2.2.1,p.2.2.2.2.2.1,p.2.2.2.2.2.2.1,p.2.2.2.2.2.2.2.1,p.2.2.2.2.2.2.2.2.1,p.2.2.2.2.2.2.2.2.2.1,p.2.2.2.2.2.2.2.2.2.2.1⟩) (AL.pair BN (AL.pair Nj (AL.pair Cc (AL.pair P8 (AL.pair BN (AL.pair BN (AL.pair Cc (AL.pair Cc (AL.pair Cc (AL.pair BN (AL.pair BN AL.unit)))))))))))
def IX:AL Ty BC:=AL.DC (fun x=>(x.Kind,x.DZ,x.BL,x.Map,())) (fun p=>⟨p.1,p.2.1,p.2.2.1,p.2.2.2.1⟩) (AL.pair BN (AL.pair P8 (AL.pair Nj (AL.pair Cc AL.unit))))
def Np:AL Ty BO:=AL.DC (fun x=>(x.Good,x.Kq,())) (fun p=>⟨p.1,p.2.1⟩) (AL.pair BN (AL.pair BN AL.unit))
def OY:AL Ty BR:=AL.DC (fun x=>(x.SN,x.EI,x.Ap,x.Open,x.Empty,x.EX,x.Taken,())) (fun p=>⟨p.1,p.2.1,p.2.2.1,p.2.2.2.1,p.2.2.2.2.1,p.2.2.2.2.2.1,p.2.2.2.2.2.2.1⟩) (AL.pair BN (AL.pair BN (AL.pair (AL.list 68 2 (fun(a:Az)=>.agg (Il.BJ a)):AL Ty (List (Ty 68))) (AL.pair Dh (AL.pair Dh (AL.pair BN (AL.pair BN AL.unit)))))))
def Sv:AL Ty CW:=AL.DC (fun x=>(x.C9,x.EJ,x.Full,())) (fun p=>⟨p.1,p.2.1,p.2.2.1⟩) (AL.pair BN (AL.pair BN (AL.pair Dh AL.unit)))
def JQ:AL Ty AZ:=AL.DC (fun x=>(x.CB,x.Own,x.Since,x.A8,x.Other,x.Fv,x.Aq,x.Told,x.D7,x.I7,x.Fq,x.Gi,x.Version,x.Length,x.Limit,x.CZ,x.Gw,x.Mark,x.Dy,x.Eb,())) (fun p=>⟨p.1,p.2.1,p.2.2.1,p.2.2.2.1,p.2.2.2.2.1,p.2.2.2.2.2.1,p.2.2.2.2.2.2.1,p.2.2.2.2.2.2.2.1,p.2.2.2.2.2.2.2.2.1,p.2.2.2.2.2.2.2.2.2.1,p.2.2.2.2.2.2.2.2.2.2.1,p.2.2.2.2.2.2.2.2.2.2.2.1,p.2.2.2.2.2.2.2.2.2.2.2.2.1,p.2.2.2.2.2.2.2.2.2.2.2.2.2.1,p.2.2.2.2.2.2.2.2.2.2.2.2.2.2.1,p.2.2.2.2.2.2.2.2.2.2.2.2.2.2.2.1,p.2.2.2.2.2.2.2.2.2.2.2.2.2.2.2.2.1,p.2.2.2.2.2.2.2.2.2.2.2.2.2.2.2.2.2.1,p.2.2.2.2.2.2.2.2.2.2.2.2.2.2.2.2.2.2.1,p.2.2.2.2.2.2.2.2.2.2.2.2.2.2.2.2.2.2.2.1⟩) (AL.pair BN (AL.pair BN (AL.pair BN (AL.pair (AL.list 156 15 (fun(a:AO)=>.agg (Hl.BJ a)):AL Ty (List (Ty 156))) (AL.pair BN (AL.pair BN (AL.pair (AL.list 138 8 (fun(a:BC)=>.agg (IX.BJ a)):AL Ty (List (Ty 138))) (AL.pair Dh (AL.pair Cc (AL.pair Cc (AL.pair Dh (AL.pair Dh (AL.pair BN (AL.pair BN (AL.pair BN (AL.pair Cc (AL.pair Cc (AL.pair Cc (AL.pair BN (AL.pair BN AL.unit))))))))))))))))))))
def Xh:AL Ty Bq:=AL.DC (fun x=>(x.CB,x.Key,x.CZ,x.Nh,x.IY,x.Tx,x.Rx,())) (fun p=>⟨p.1,p.2.1,p.2.2.1,p.2.2.2.1,p.2.2.2.2.1,p.2.2.2.2.2.1,p.2.2.2.2.2.2.1⟩) (AL.pair BN (AL.pair Cc (AL.pair Cc (AL.pair Dh (AL.pair Dh (AL.pair Cc (AL.pair Cc AL.unit)))))))
def Jg:AL Ty Ad:=AL.DC (fun x=>(x.CB,x.Df,x.Clock,x.Event,x.Last,x.F9,x.Size,x.Sync,x.Hm,x.GU,x.Ez,x.Good,x.EX,x.More,x.Ar,x.DY,x.AA,x.EL,x.Key,x.DJ,x.Ac,x.CQ,x.Hq,())) (fun p=>⟨p.1,p.2.1,p.2.2.1,p.2.2.2.1,p.2.2.2.2.1,p.2.2.2.2.2.1,p.2.2.2.2.2.2.1,p.2.2.2.2.2.2.2.1,p.2.2.2.2.2.2.2.2.1,p.2.2.2.2.2.2.2.2.2.1,p.2.2.2.2.2.2.2.2.2.2.1,p.2.2.2.2.2.2.2.2.2.2.2.1,p.2.2.2.2.2.2.2.2.2.2.2.2.1,p.2.2.2.2.2.2.2.2.2.2.2.2.2.1,p.2.2.2.2.2.2.2.2.2.2.2.2.2.2.1,p.2.2.2.2.2.2.2.2.2.2.2.2.2.2.2.1,p.2.2.2.2.2.2.2.2.2.2.2.2.2.2.2.2.1,p.2.2.2.2.2.2.2.2.2.2.2.2.2.2.2.2.2.1,p.2.2.2.2.2.2.2.2.2.2.2.2.2.2.2.2.2.2.1,p.2.2.2.2.2.2.2.2.2.2.2.2.2.2.2.2.2.2.2.1,p.2.2.2.2.2.2.2.2.2.2.2.2.2.2.2.2.2.2.2.2.1,p.2.2.2.2.2.2.2.2.2.2.2.2.2.2.2.2.2.2.2.2.2.1,p.2.2.2.2.2.2.2.2.2.2.2.2.2.2.2.2.2.2.2.2.2.2.1⟩) (AL.pair BN (AL.pair Qo (AL.pair BN (AL.pair P8 (AL.pair BN (AL.pair BN (AL.pair BN (AL.pair BN (AL.pair BN (AL.pair Dh (AL.pair Dh (AL.pair Dh (AL.pair Dh (AL.pair Dh (AL.pair OY (AL.pair Sv (AL.pair JQ (AL.pair Xh (AL.pair Cc (AL.pair (AL.list 99 2 (fun(a:BO)=>.agg (Np.BJ a)):AL Ty (List (Ty 99))) (AL.pair (AL.list 156 15 (fun(a:AO)=>.agg (Hl.BJ a)):AL Ty (List (Ty 156))) (AL.pair BN (AL.pair Cc AL.unit)))))))))))))))))))))))
def JB:AL Ty Au:=AL.DC (fun x=>(x.Kind,x.Event,x.Aw,x.ZHr,x.Number,x.BL,())) (fun p=>⟨p.1,p.2.1,p.2.2.1,p.2.2.2.1,p.2.2.2.2.1,p.2.2.2.2.2.1⟩) (AL.pair BN (AL.pair P8 (AL.pair Il (AL.pair IX (AL.pair Cc (AL.pair Nj AL.unit))))))
def X5:AL Ty DD:=AL.DC (fun x=>(x.x0,x.x1,())) (fun p=>⟨p.1,p.2.1⟩) (AL.pair Jg (AL.pair Jg AL.unit))
def yU:AL Ty QJ:=AL.DC (fun x=>(x.Start,x.End,())) (fun p=>⟨p.1,p.2.1⟩) (AL.pair BN (AL.pair BN AL.unit))
def TD:AL Ty BM:=AL.DC (fun x=>(x.SN,x.EI,x.MD,x.Aw,())) (fun p=>⟨p.1,p.2.1,p.2.2.1,p.2.2.2.1⟩) (AL.pair BN (AL.pair BN (AL.pair BN (AL.pair Il AL.unit))))
def yH:AL Ty CP:=AL.DC (fun x=>(x.Fq,x.BL,x.Map,x.DZ,x.CQ,x.ER,x.CZ,x.Mark,x.D7,x.Version,x.Length,())) (fun p=>⟨p.1,p.2.1,p.2.2.1,p.2.2.2.1,p.2.2.2.2.1,p.2.2.2.2.2.1,p.2.2.2.2.2.2.1,p.2.2.2.2.2.2.2.1,p.2.2.2.2.2.2.2.2.1,p.2.2.2.2.2.2.2.2.2.1,p.2.2.2.2.2.2.2.2.2.2.1⟩) (AL.pair Dh (AL.pair Dh (AL.pair Dh (AL.pair Dh (AL.pair Dh (AL.pair Dh (AL.pair Dh (AL.pair Dh (AL.pair Dh (AL.pair Dh (AL.pair Dh AL.unit)))))))))))
def yB:AL Ty JX:=AL.DC (fun x=>(x.x0,x.x1,())) (fun p=>⟨p.1,p.2.1⟩) (AL.pair P6 (AL.pair P6 AL.unit))
def PM:AL Ty FB:=AL.DC (fun x=>(x.Size,x.Value,())) (fun p=>⟨p.1,p.2.1⟩) (AL.pair BN (AL.pair Cc AL.unit))
def PV:AL Ty Gg:=AL.DC (fun x=>(x.VP,x.f_low,x.wW,())) (fun p=>⟨p.1,p.2.1,p.2.2.1⟩) (AL.pair BN (AL.pair BN (AL.pair BN AL.unit)))
def Zif:AL Ty uV:=AL.DC (fun x=>(x.SN,x.EI,(),x.Open,x.Empty,x.EX,x.Taken,())) (fun p=>⟨p.1,p.2.1,p.2.2.2.1,p.2.2.2.2.1,p.2.2.2.2.2.1,p.2.2.2.2.2.2.1⟩) (AL.pair BN (AL.pair BN (AL.pair AL.skip (AL.pair Dh (AL.pair Dh (AL.pair BN (AL.pair BN AL.unit)))))))
def Z4S:AL Ty WN:=AL.DC (fun x=>(x.CB,x.Own,x.Since,(),x.Other,x.Fv,(),x.Told,x.D7,x.I7,x.Fq,x.Gi,x.Version,x.Length,x.Limit,x.CZ,x.Gw,x.Mark,x.Dy,x.Eb,())) (fun p=>⟨p.1,p.2.1,p.2.2.1,p.2.2.2.2.1,p.2.2.2.2.2.1,p.2.2.2.2.2.2.2.1,p.2.2.2.2.2.2.2.2.1,p.2.2.2.2.2.2.2.2.2.1,p.2.2.2.2.2.2.2.2.2.2.1,p.2.2.2.2.2.2.2.2.2.2.2.1,p.2.2.2.2.2.2.2.2.2.2.2.2.1,p.2.2.2.2.2.2.2.2.2.2.2.2.2.1,p.2.2.2.2.2.2.2.2.2.2.2.2.2.2.1,p.2.2.2.2.2.2.2.2.2.2.2.2.2.2.2.1,p.2.2.2.2.2.2.2.2.2.2.2.2.2.2.2.2.1,p.2.2.2.2.2.2.2.2.2.2.2.2.2.2.2.2.2.1,p.2.2.2.2.2.2.2.2.2.2.2.2.2.2.2.2.2.2.1,p.2.2.2.2.2.2.2.2.2.2.2.2.2.2.2.2.2.2.2.1⟩) (AL.pair BN (AL.pair BN (AL.pair BN (AL.pair AL.skip (AL.pair BN (AL.pair BN (AL.pair AL.skip (AL.pair Dh (AL.pair Cc (AL.pair Cc (AL.pair Dh (AL.pair Dh (AL.pair BN (AL.pair BN (AL.pair BN (AL.pair Cc (AL.pair Cc (AL.pair Cc (AL.pair BN (AL.pair BN AL.unit))))))))))))))))))))
def Zii:AL Ty sV:=AL.DC (fun x=>(x.CB,x.Df,x.Clock,x.Event,x.Last,x.F9,x.Size,x.Sync,x.Hm,x.GU,x.Ez,x.Good,x.EX,x.More,x.Ar,x.DY,x.AA,x.EL,x.Key,(),(),x.CQ,x.Hq,())) (fun p=>⟨p.1,p.2.1,p.2.2.1,p.2.2.2.1,p.2.2.2.2.1,p.2.2.2.2.2.1,p.2.2.2.2.2.2.1,p.2.2.2.2.2.2.2.1,p.2.2.2.2.2.2.2.2.1,p.2.2.2.2.2.2.2.2.2.1,p.2.2.2.2.2.2.2.2.2.2.1,p.2.2.2.2.2.2.2.2.2.2.2.1,p.2.2.2.2.2.2.2.2.2.2.2.2.1,p.2.2.2.2.2.2.2.2.2.2.2.2.2.1,p.2.2.2.2.2.2.2.2.2.2.2.2.2.2.1,p.2.2.2.2.2.2.2.2.2.2.2.2.2.2.2.1,p.2.2.2.2.2.2.2.2.2.2.2.2.2.2.2.2.1,p.2.2.2.2.2.2.2.2.2.2.2.2.2.2.2.2.2.1,p.2.2.2.2.2.2.2.2.2.2.2.2.2.2.2.2.2.2.1,p.2.2.2.2.2.2.2.2.2.2.2.2.2.2.2.2.2.2.2.2.2.1,p.2.2.2.2.2.2.2.2.2.2.2.2.2.2.2.2.2.2.2.2.2.2.1⟩) (AL.pair BN (AL.pair Qo (AL.pair BN (AL.pair P8 (AL.pair BN (AL.pair BN (AL.pair BN (AL.pair BN (AL.pair BN (AL.pair Dh (AL.pair Dh (AL.pair Dh (AL.pair Dh (AL.pair Dh (AL.pair Zif (AL.pair Sv (AL.pair Z4S (AL.pair Xh (AL.pair Cc (AL.pair AL.skip (AL.pair AL.skip (AL.pair BN (AL.pair Cc AL.unit)))))))))))))))))))))))
def xM:AL Ty Jm:=AL.DC (fun x=>(x.Link,(),())) (fun p=>⟨p.1⟩) (AL.pair Zii (AL.pair AL.skip AL.unit))
def xY:AL Ty RP:=AL.DC (fun x=>(x.AA,x.FX,x.Hg,(),(),())) (fun p=>⟨p.1,p.2.1,p.2.2.1⟩) (AL.pair Z4S (AL.pair P8 (AL.pair BN (AL.pair AL.skip (AL.pair AL.skip AL.unit)))))
def yP:AL Ty RY:=AL.DC (fun x=>(x.CB,x.Key,x.CZ,x.Nh,x.IY,x.Tx,x.Rx,())) (fun p=>⟨p.1,p.2.1,p.2.2.1,p.2.2.2.1,p.2.2.2.2.1,p.2.2.2.2.2.1,p.2.2.2.2.2.2.1⟩) (AL.pair BN (AL.pair Cc (AL.pair Cc (AL.pair Dh (AL.pair Dh (AL.pair Cc (AL.pair Cc AL.unit)))))))
def ZFh:List V:=[.lit (.int .i64 5),.agg [.sl false 1 [],.fn 348 [] [],.fn 349 [] [],.fn 309 [] []],
 .lit (.int .i64 6),.agg [.sl false 1 [],.fn 348 [] [],.fn 349 [] [],.fn 309 [] []],
 .lit (.int .i64 18),.agg [.sl false 1 [],.fn 348 [] [],.fn 349 [] [],.fn 309 [] []],
 .lit (.int .i64 19),.agg [.sl false 1 [],.fn 348 [] [],.fn 349 [] [],.fn 309 [] []],
 .lit (.int .i64 8),.agg [.sl false 1 [.lit (.int .i64 8)],.fn 350 [] [],.fn 351 [] [],.fn 309 [] []],
 .lit (.int .i64 9),.agg [.sl false 1 [.lit (.int .i64 8)],.fn 350 [] [],.fn 351 [] [],.fn 309 [] []],
 .lit (.int .i64 20),.agg [.sl false 1 [.lit (.int .i64 1)],.fn 352 [] [],.fn 353 [] [],.fn 354 [] []],
 .lit (.int .i64 21),.agg [.sl false 1 [.lit (.int .i64 1)],.fn 352 [] [],.fn 353 [] [],.fn 354 [] []],
 .lit (.int .i64 0),.agg [.sl false 1 [.lit (.int .i64 1),.lit (.int .i64 2),.lit (.int .i64 2),.lit (.int .i64 2),.lit (.int .i64 2),.lit (.int .i64 2)],.fn 292 [] [],.fn 294 [] [],.fn 296 [] []],
 .lit (.int .i64 1),.agg [.sl false 1 [.lit (.int .i64 5),.lit (.int .i64 2)],.fn 297 [] [],.fn 298 [] [],.fn 299 [] []],
 .lit (.int .i64 15),.agg [.sl false 1 [.lit (.int .i64 1),.lit (.int .i64 2),.lit (.int .i64 2),.lit (.int .i64 2),.lit (.int .i64 2)],.fn 300 [] [],.fn 301 [] [],.fn 302 [] []],
 .lit (.int .i64 2),.agg [.sl false 1 [.lit (.int .i64 1)],.fn 303 [] [],.fn 304 [] [],.fn 305 [] []],
 .lit (.int .i64 3),.agg [.sl false 1 [.lit (.int .i64 8),.lit (.int .i64 8)],.fn 307 [] [],.fn 308 [] [],.fn 309 [] []],
 .lit (.int .i64 4),.agg [.sl false 1 [.lit (.int .i64 8)],.fn 310 [] [],.fn 311 [] [],.fn 309 [] []],
 .lit (.int .i64 7),.agg [.sl false 1 [.lit (.int .i64 1)],.fn 312 [] [],.fn 313 [] [],.fn 314 [] []],
 .lit (.int .i64 12),.agg [.sl false 1 [.lit (.int .i64 1)],.fn 315 [] [],.fn 316 [] [],.fn 317 [] []],
 .lit (.int .i64 13),.agg [.sl false 1 [.lit (.int .i64 1),.lit (.int .i64 1)],.fn 318 [] [],.fn 319 [] [],.fn 320 [] []]]
def ZG6:List (SV Ty):=[.lit (.int .i64 5),.agg [.sl 3 ([]:List Int),.fn 348 [] [],.fn 349 [] [],.fn 309 [] []],
 .lit (.int .i64 6),.agg [.sl 3 ([]:List Int),.fn 348 [] [],.fn 349 [] [],.fn 309 [] []],
 .lit (.int .i64 18),.agg [.sl 3 ([]:List Int),.fn 348 [] [],.fn 349 [] [],.fn 309 [] []],
 .lit (.int .i64 19),.agg [.sl 3 ([]:List Int),.fn 348 [] [],.fn 349 [] [],.fn 309 [] []],
 .lit (.int .i64 8),.agg [.sl 3 ([8]:List Int),.fn 350 [] [],.fn 351 [] [],.fn 309 [] []],
 .lit (.int .i64 9),.agg [.sl 3 ([8]:List Int),.fn 350 [] [],.fn 351 [] [],.fn 309 [] []],
 .lit (.int .i64 20),.agg [.sl 3 ([1]:List Int),.fn 352 [] [],.fn 353 [] [],.fn 354 [] []],
 .lit (.int .i64 21),.agg [.sl 3 ([1]:List Int),.fn 352 [] [],.fn 353 [] [],.fn 354 [] []],
 .lit (.int .i64 0),.agg [.sl 3 ([1,2,2,2,2,2]:List Int),.fn 292 [] [],.fn 294 [] [],.fn 296 [] []],
 .lit (.int .i64 1),.agg [.sl 3 ([5,2]:List Int),.fn 297 [] [],.fn 298 [] [],.fn 299 [] []],
 .lit (.int .i64 15),.agg [.sl 3 ([1,2,2,2,2]:List Int),.fn 300 [] [],.fn 301 [] [],.fn 302 [] []],
 .lit (.int .i64 2),.agg [.sl 3 ([1]:List Int),.fn 303 [] [],.fn 304 [] [],.fn 305 [] []],
 .lit (.int .i64 3),.agg [.sl 3 ([8,8]:List Int),.fn 307 [] [],.fn 308 [] [],.fn 309 [] []],
 .lit (.int .i64 4),.agg [.sl 3 ([8]:List Int),.fn 310 [] [],.fn 311 [] [],.fn 309 [] []],
 .lit (.int .i64 7),.agg [.sl 3 ([1]:List Int),.fn 312 [] [],.fn 313 [] [],.fn 314 [] []],
 .lit (.int .i64 12),.agg [.sl 3 ([1]:List Int),.fn 315 [] [],.fn 316 [] [],.fn 317 [] []],
 .lit (.int .i64 13),.agg [.sl 3 ([1,1]:List Int),.fn 318 [] [],.fn 319 [] [],.fn 320 [] []]]
@[reducible] def U:DI where
 Ty:=Ty
 BA:=fun t=>match t with
  | 4=>1
  | 5=>1
  | 83=>12
  | 113=>3
  | 59=>17
  | 89=>1
  | 68=>2
  | 156=>15
  | 138=>8
  | 99=>2
  | 44=>66
  | 3=>1
  | 60=>1
  | 148=>18
  | 77=>1
  | 86=>1
  | 78=>1
  | 62=>1
  | 36=>1
  | 37=>1
  | 42=>1
  | 35=>3
  | 33=>7
  | 109=>132
  | 45=>1
  | 46=>1
  | 110=>1
  | 28=>11
  | 29=>1
  | 25=>1
  | 52=>2
  | 39=>20
  | 24=>5
  | 26=>1
  | 226=>1
  | 63=>1
  | 70=>5
  | 75=>1
  | 71=>1
  | 120=>1
  | 104=>1
  | 30=>1
  | 22=>1
  | 189=>1
  | 262=>11
  | 41=>7
  | 129=>1
  | 135=>1
  | 140=>1
  | 208=>1
  | 216=>1
  | 269=>1
  | 222=>1
  | 9=>1
  | 254=>1
  | 163=>1
  | 231=>1
  | 233=>1
  | 237=>1
  | 31=>1
  | 194=>1
  | 256=>1
  | 312=>2
  | 252=>2
  | 253=>1
  | 279=>1
  | 174=>3
  | 240=>1
  | _=>0
 enc:=fun t=>match t with
  | 249=>fun(_:Unit)=>.Gf ZFh
  | 115=>fun(a:Jm)=>xM.Lp 67 a
  | 206=>fun(a:RP)=>xY.Lp 24 a
  | 338=>fun(a:Int)=>(Ee:AL Ty Int).OX 1 a
  | 3369=>fun(a:Int)=>(Cc:AL Ty Int).OX 1 a
  | 3385=>fun(a:RY)=>yP.Lp 7 a
  | 4=>fun(a:Bool)=>Dh.Bc a
  | 5=>fun(a:Int)=>Ee.Bc a
  | 83=>fun(a:Hw)=>.agg (Sr.BJ a)
  | 113=>fun(a:FT)=>.agg (SQ.BJ a)
  | 59=>fun(a:JV)=>.agg (Xl.BJ a)
  | 89=>fun(a:List Bool)=>((AL.list 4 1 (fun(a:Bool)=>Dh.Bc a):AL Ty (List (Ty 4)))).Bc a
  | 68=>fun(a:Az)=>.agg (Il.BJ a)
  | 156=>fun(a:AO)=>.agg (Hl.BJ a)
  | 138=>fun(a:BC)=>.agg (IX.BJ a)
  | 99=>fun(a:BO)=>.agg (Np.BJ a)
  | 44=>fun(a:Ad)=>.agg (Jg.BJ a)
  | 3=>fun(a:Int)=>BN.Bc a
  | 60=>fun(a:Ad×Int×Bool)=>.BK [(.agg (Jg.BJ a.1)),(BN.Bc a.2.1),(Dh.Bc a.2.2)]
  | 148=>fun(a:Au)=>.agg (JB.BJ a)
  | 77=>fun(a:List Au)=>((AL.list 148 18 (fun(a:Au)=>.agg (JB.BJ a)):AL Ty (List (Ty 148)))).Bc a
  | 86=>fun(a:Ad×(List Au)×Bool)=>.BK [(.agg (Jg.BJ a.1)),(((AL.list 148 18 (fun(a:Au)=>.agg (JB.BJ a)):AL Ty (List (Ty 148)))).Bc a.2.1),(Dh.Bc a.2.2)]
  | 78=>fun(a:Ad×(List Au))=>.BK [(.agg (Jg.BJ a.1)),(((AL.list 148 18 (fun(a:Au)=>.agg (JB.BJ a)):AL Ty (List (Ty 148)))).Bc a.2)]
  | 62=>fun(a:List Int)=>((AL.list 5 1 (fun(a:Int)=>Ee.Bc a):AL Ty (List (Ty 5)))).Bc a
  | 36=>fun(a:List AO)=>((AL.list 156 15 (fun(a:AO)=>.agg (Hl.BJ a)):AL Ty (List (Ty 156)))).Bc a
  | 37=>fun(a:List BC)=>((AL.list 138 8 (fun(a:BC)=>.agg (IX.BJ a)):AL Ty (List (Ty 138)))).Bc a
  | 42=>fun(a:List BO)=>((AL.list 99 2 (fun(a:BO)=>.agg (Np.BJ a)):AL Ty (List (Ty 99)))).Bc a
  | 35=>fun(a:CW)=>.agg (Sv.BJ a)
  | 33=>fun(a:BR)=>.agg (OY.BJ a)
  | 109=>fun(a:DD)=>.agg (X5.BJ a)
  | 45=>fun(a:Int)=>BN.Bc a
  | 46=>fun(a:Ad×Int)=>.BK [(.agg (Jg.BJ a.1)),(BN.Bc a.2)]
  | 110=>fun(a:DD×Int)=>.BK [(.agg (X5.BJ a.1)),(BN.Bc a.2)]
  | 28=>fun(a:FO)=>.agg (Qo.BJ a)
  | 29=>fun(a:Int)=>Cc.Bc a
  | 25=>fun(a:Int)=>Cc.Bc a
  | 52=>fun(a:QJ)=>.agg (yU.BJ a)
  | 39=>fun(a:AZ)=>.agg (JQ.BJ a)
  | 24=>fun(a:DR)=>.agg (Nj.BJ a)
  | 26=>fun(a:Int)=>Cc.Bc a
  | 226=>fun(a:List Int)=>((AL.list 3 1 (fun(a:Int)=>BN.Bc a):AL Ty (List (Ty 3)))).Bc a
  | 63=>fun(a:Ad×(List Int))=>.BK [(.agg (Jg.BJ a.1)),(((AL.list 5 1 (fun(a:Int)=>Ee.Bc a):AL Ty (List (Ty 5)))).Bc a.2)]
  | 70=>fun(a:BM)=>.agg (TD.BJ a)
  | 75=>fun(a:BR×BM)=>.BK [(.agg (OY.BJ a.1)),(.agg (TD.BJ a.2))]
  | 71=>fun(a:BM×Int)=>.BK [(.agg (TD.BJ a.1)),(BN.Bc a.2)]
  | 120=>fun(a:(List Int)×Int)=>.BK [(((AL.list 5 1 (fun(a:Int)=>Ee.Bc a):AL Ty (List (Ty 5)))).Bc a.1),(BN.Bc a.2)]
  | 104=>fun(a:Int×Int)=>.BK [(BN.Bc a.1),(BN.Bc a.2)]
  | 30=>fun(a:Int)=>P8.Bc a
  | 22=>fun(a:Int)=>P6.Bc a
  | 189=>fun(a:BR×Int)=>.BK [(.agg (OY.BJ a.1)),(BN.Bc a.2)]
  | 262=>fun(a:CP)=>.agg (yH.BJ a)
  | 41=>fun(a:Bq)=>.agg (Xh.BJ a)
  | 129=>fun(a:CW×Int)=>.BK [(.agg (Sv.BJ a.1)),(BN.Bc a.2)]
  | 135=>fun(a:AZ×(List BC))=>.BK [(.agg (JQ.BJ a.1)),(((AL.list 138 8 (fun(a:BC)=>.agg (IX.BJ a)):AL Ty (List (Ty 138)))).Bc a.2)]
  | 140=>fun(a:AZ×(List AO))=>.BK [(.agg (JQ.BJ a.1)),(((AL.list 156 15 (fun(a:AO)=>.agg (Hl.BJ a)):AL Ty (List (Ty 156)))).Bc a.2)]
  | 208=>fun(a:(List BC)×(List BC))=>.BK [(((AL.list 138 8 (fun(a:BC)=>.agg (IX.BJ a)):AL Ty (List (Ty 138)))).Bc a.1),(((AL.list 138 8 (fun(a:BC)=>.agg (IX.BJ a)):AL Ty (List (Ty 138)))).Bc a.2)]
  | 216=>fun(a:AZ×AO)=>.BK [(.agg (JQ.BJ a.1)),(.agg (Hl.BJ a.2))]
  | 269=>fun(a:(List BC)×Int)=>.BK [(((AL.list 138 8 (fun(a:BC)=>.agg (IX.BJ a)):AL Ty (List (Ty 138)))).Bc a.1),(BN.Bc a.2)]
  | 222=>fun(a:AZ×(List AO)×Int)=>.BK [(.agg (JQ.BJ a.1)),(((AL.list 156 15 (fun(a:AO)=>.agg (Hl.BJ a)):AL Ty (List (Ty 156)))).Bc a.2.1),(BN.Bc a.2.2)]
  | 9=>fun(a:ByteArray)=>cst.Bc a
  | 254=>fun(a:List Int)=>((AL.list 25 1 (fun(a:Int)=>Cc.Bc a):AL Ty (List (Ty 25)))).Bc a
  | 163=>fun(a:BR×Az×Bool×Bool)=>.BK [(.agg (OY.BJ a.1)),(.agg (Il.BJ a.2.1)),(Dh.Bc a.2.2.1),(Dh.Bc a.2.2.2)]
  | 231=>fun(a:AO×Int)=>.BK [(.agg (Hl.BJ a.1)),(BN.Bc a.2)]
  | 233=>fun(a:AZ×(List Au))=>.BK [(.agg (JQ.BJ a.1)),(((AL.list 148 18 (fun(a:Au)=>.agg (JB.BJ a)):AL Ty (List (Ty 148)))).Bc a.2)]
  | 237=>fun(a:AZ×(List AO)×(List Au))=>.BK [(.agg (JQ.BJ a.1)),(((AL.list 156 15 (fun(a:AO)=>.agg (Hl.BJ a)):AL Ty (List (Ty 156)))).Bc a.2.1),(((AL.list 148 18 (fun(a:Au)=>.agg (JB.BJ a)):AL Ty (List (Ty 148)))).Bc a.2.2)]
  | 31=>fun(a:List Az)=>((AL.list 68 2 (fun(a:Az)=>.agg (Il.BJ a)):AL Ty (List (Ty 68)))).Bc a
  | 194=>fun(a:Int×Int)=>.BK [(Cc.Bc a.1),(Cc.Bc a.2)]
  | 256=>fun(a:List (List Int))=>((AL.list 62 1 (fun(a:List Int)=>((AL.list 5 1 (fun(a:Int)=>Ee.Bc a):AL Ty (List (Ty 5)))).Bc a):AL Ty (List (Ty 62)))).Bc a
  | 312=>fun(a:JX)=>.agg (yB.BJ a)
  | 252=>fun(a:FB)=>.agg (PM.BJ a)
  | 253=>fun(a:List FB)=>((AL.list 252 2 (fun(a:FB)=>.agg (PM.BJ a)):AL Ty (List (Ty 252)))).Bc a
  | 279=>fun(a:(List Int)×(List Int)×Int)=>.BK [(((AL.list 25 1 (fun(a:Int)=>Cc.Bc a):AL Ty (List (Ty 25)))).Bc a.1),(((AL.list 5 1 (fun(a:Int)=>Ee.Bc a):AL Ty (List (Ty 5)))).Bc a.2.1),(BN.Bc a.2.2)]
  | 174=>fun(a:Gg)=>.agg (PV.BJ a)
  | 240=>fun(a:List Gg)=>((AL.list 174 3 (fun(a:Gg)=>.agg (PV.BJ a)):AL Ty (List (Ty 174)))).Bc a
  | _=>fun _=>.no
 encS:=fun t=>match t with
  | 249=>fun(_:Unit)=>.O3 ZG6
  | 115=>fun(a:Jm)=>.raw (xM.Lp 67 a)
  | 206=>fun(a:RP)=>.raw (xY.Lp 24 a)
  | 338=>fun(a:Int)=>.raw ((Ee:AL Ty Int).OX 1 a)
  | 3369=>fun(a:Int)=>.raw ((Cc:AL Ty Int).OX 1 a)
  | 3385=>fun(a:RY)=>.raw (yP.Lp 7 a)
  | 4=>fun(a:Bool)=>Dh.D8 a
  | 5=>fun(a:Int)=>Ee.D8 a
  | 83=>fun(a:Hw)=>.agg (Sr.encS a)
  | 113=>fun(a:FT)=>.agg (SQ.encS a)
  | 59=>fun(a:JV)=>.agg (Xl.encS a)
  | 89=>fun(a:List Bool)=>((AL.list 4 1 (fun(a:Bool)=>Dh.Bc a):AL Ty (List (Ty 4)))).D8 a
  | 68=>fun(a:Az)=>.agg (Il.encS a)
  | 156=>fun(a:AO)=>.agg (Hl.encS a)
  | 138=>fun(a:BC)=>.agg (IX.encS a)
  | 99=>fun(a:BO)=>.agg (Np.encS a)
  | 44=>fun(a:Ad)=>.agg (Jg.encS a)
  | 3=>fun(a:Int)=>BN.D8 a
  | 60=>fun(a:Ad×Int×Bool)=>.BK [(.agg (Jg.encS a.1)),(BN.D8 a.2.1),(Dh.D8 a.2.2)]
  | 148=>fun(a:Au)=>.agg (JB.encS a)
  | 77=>fun(a:List Au)=>((AL.list 148 18 (fun(a:Au)=>.agg (JB.BJ a)):AL Ty (List (Ty 148)))).D8 a
  | 86=>fun(a:Ad×(List Au)×Bool)=>.BK [(.agg (Jg.encS a.1)),(((AL.list 148 18 (fun(a:Au)=>.agg (JB.BJ a)):AL Ty (List (Ty 148)))).D8 a.2.1),(Dh.D8 a.2.2)]
  | 78=>fun(a:Ad×(List Au))=>.BK [(.agg (Jg.encS a.1)),(((AL.list 148 18 (fun(a:Au)=>.agg (JB.BJ a)):AL Ty (List (Ty 148)))).D8 a.2)]
  | 62=>fun(a:List Int)=>((AL.list 5 1 (fun(a:Int)=>Ee.Bc a):AL Ty (List (Ty 5)))).D8 a
  | 36=>fun(a:List AO)=>((AL.list 156 15 (fun(a:AO)=>.agg (Hl.BJ a)):AL Ty (List (Ty 156)))).D8 a
  | 37=>fun(a:List BC)=>((AL.list 138 8 (fun(a:BC)=>.agg (IX.BJ a)):AL Ty (List (Ty 138)))).D8 a
  | 42=>fun(a:List BO)=>((AL.list 99 2 (fun(a:BO)=>.agg (Np.BJ a)):AL Ty (List (Ty 99)))).D8 a
  | 35=>fun(a:CW)=>.agg (Sv.encS a)
  | 33=>fun(a:BR)=>.agg (OY.encS a)
  | 109=>fun(a:DD)=>.agg (X5.encS a)
  | 45=>fun(a:Int)=>BN.D8 a
  | 46=>fun(a:Ad×Int)=>.BK [(.agg (Jg.encS a.1)),(BN.D8 a.2)]
  | 110=>fun(a:DD×Int)=>.BK [(.agg (X5.encS a.1)),(BN.D8 a.2)]
  | 28=>fun(a:FO)=>.agg (Qo.encS a)
  | 29=>fun(a:Int)=>Cc.D8 a
  | 25=>fun(a:Int)=>Cc.D8 a
  | 52=>fun(a:QJ)=>.agg (yU.encS a)
  | 39=>fun(a:AZ)=>.agg (JQ.encS a)
  | 24=>fun(a:DR)=>.agg (Nj.encS a)
  | 26=>fun(a:Int)=>Cc.D8 a
  | 226=>fun(a:List Int)=>((AL.list 3 1 (fun(a:Int)=>BN.Bc a):AL Ty (List (Ty 3)))).D8 a
  | 63=>fun(a:Ad×(List Int))=>.BK [(.agg (Jg.encS a.1)),(((AL.list 5 1 (fun(a:Int)=>Ee.Bc a):AL Ty (List (Ty 5)))).D8 a.2)]
  | 70=>fun(a:BM)=>.agg (TD.encS a)
  | 75=>fun(a:BR×BM)=>.BK [(.agg (OY.encS a.1)),(.agg (TD.encS a.2))]
  | 71=>fun(a:BM×Int)=>.BK [(.agg (TD.encS a.1)),(BN.D8 a.2)]
  | 120=>fun(a:(List Int)×Int)=>.BK [(((AL.list 5 1 (fun(a:Int)=>Ee.Bc a):AL Ty (List (Ty 5)))).D8 a.1),(BN.D8 a.2)]
  | 104=>fun(a:Int×Int)=>.BK [(BN.D8 a.1),(BN.D8 a.2)]
  | 30=>fun(a:Int)=>P8.D8 a
  | 22=>fun(a:Int)=>P6.D8 a
  | 189=>fun(a:BR×Int)=>.BK [(.agg (OY.encS a.1)),(BN.D8 a.2)]
  | 262=>fun(a:CP)=>.agg (yH.encS a)
  | 41=>fun(a:Bq)=>.agg (Xh.encS a)
  | 129=>fun(a:CW×Int)=>.BK [(.agg (Sv.encS a.1)),(BN.D8 a.2)]
  | 135=>fun(a:AZ×(List BC))=>.BK [(.agg (JQ.encS a.1)),(((AL.list 138 8 (fun(a:BC)=>.agg (IX.BJ a)):AL Ty (List (Ty 138)))).D8 a.2)]
  | 140=>fun(a:AZ×(List AO))=>.BK [(.agg (JQ.encS a.1)),(((AL.list 156 15 (fun(a:AO)=>.agg (Hl.BJ a)):AL Ty (List (Ty 156)))).D8 a.2)]
  | 208=>fun(a:(List BC)×(List BC))=>.BK [(((AL.list 138 8 (fun(a:BC)=>.agg (IX.BJ a)):AL Ty (List (Ty 138)))).D8 a.1),(((AL.list 138 8 (fun(a:BC)=>.agg (IX.BJ a)):AL Ty (List (Ty 138)))).D8 a.2)]
  | 216=>fun(a:AZ×AO)=>.BK [(.agg (JQ.encS a.1)),(.agg (Hl.encS a.2))]
  | 269=>fun(a:(List BC)×Int)=>.BK [(((AL.list 138 8 (fun(a:BC)=>.agg (IX.BJ a)):AL Ty (List (Ty 138)))).D8 a.1),(BN.D8 a.2)]
  | 222=>fun(a:AZ×(List AO)×Int)=>.BK [(.agg (JQ.encS a.1)),(((AL.list 156 15 (fun(a:AO)=>.agg (Hl.BJ a)):AL Ty (List (Ty 156)))).D8 a.2.1),(BN.D8 a.2.2)]
  | 9=>fun(a:ByteArray)=>cst.D8 a
  | 254=>fun(a:List Int)=>((AL.list 25 1 (fun(a:Int)=>Cc.Bc a):AL Ty (List (Ty 25)))).D8 a
  | 163=>fun(a:BR×Az×Bool×Bool)=>.BK [(.agg (OY.encS a.1)),(.agg (Il.encS a.2.1)),(Dh.D8 a.2.2.1),(Dh.D8 a.2.2.2)]
  | 231=>fun(a:AO×Int)=>.BK [(.agg (Hl.encS a.1)),(BN.D8 a.2)]
  | 233=>fun(a:AZ×(List Au))=>.BK [(.agg (JQ.encS a.1)),(((AL.list 148 18 (fun(a:Au)=>.agg (JB.BJ a)):AL Ty (List (Ty 148)))).D8 a.2)]
  | 237=>fun(a:AZ×(List AO)×(List Au))=>.BK [(.agg (JQ.encS a.1)),(((AL.list 156 15 (fun(a:AO)=>.agg (Hl.BJ a)):AL Ty (List (Ty 156)))).D8 a.2.1),(((AL.list 148 18 (fun(a:Au)=>.agg (JB.BJ a)):AL Ty (List (Ty 148)))).D8 a.2.2)]
  | 31=>fun(a:List Az)=>((AL.list 68 2 (fun(a:Az)=>.agg (Il.BJ a)):AL Ty (List (Ty 68)))).D8 a
  | 194=>fun(a:Int×Int)=>.BK [(Cc.D8 a.1),(Cc.D8 a.2)]
  | 256=>fun(a:List (List Int))=>((AL.list 62 1 (fun(a:List Int)=>((AL.list 5 1 (fun(a:Int)=>Ee.Bc a):AL Ty (List (Ty 5)))).Bc a):AL Ty (List (Ty 62)))).D8 a
  | 312=>fun(a:JX)=>.agg (yB.encS a)
  | 252=>fun(a:FB)=>.agg (PM.encS a)
  | 253=>fun(a:List FB)=>((AL.list 252 2 (fun(a:FB)=>.agg (PM.BJ a)):AL Ty (List (Ty 252)))).D8 a
  | 279=>fun(a:(List Int)×(List Int)×Int)=>.BK [(((AL.list 25 1 (fun(a:Int)=>Cc.Bc a):AL Ty (List (Ty 25)))).D8 a.1),(((AL.list 5 1 (fun(a:Int)=>Ee.Bc a):AL Ty (List (Ty 5)))).D8 a.2.1),(BN.D8 a.2.2)]
  | 174=>fun(a:Gg)=>.agg (PV.encS a)
  | 240=>fun(a:List Gg)=>((AL.list 174 3 (fun(a:Gg)=>.agg (PV.BJ a)):AL Ty (List (Ty 174)))).D8 a
  | _=>fun _=>.no
 IP:=fun t=>match t with
  | 115=>fun v=>xM.kT 67 v
  | 206=>fun v=>xY.kT 24 v
  | 338=>fun v=>(Ee:AL Ty Int).yI 1 v
  | 3369=>fun v=>(Cc:AL Ty Int).yI 1 v
  | 3385=>fun v=>yP.kT 7 v
  | 4=>fun v=>Dh.one v
  | 5=>fun v=>Ee.one v
  | 83=>fun v=>Sr.agg v
  | 113=>fun v=>SQ.agg v
  | 59=>fun v=>Xl.agg v
  | 89=>fun v=>((AL.list 4 1 (fun(a:Bool)=>Dh.Bc a):AL Ty (List (Ty 4)))).one v
  | 68=>fun v=>Il.agg v
  | 156=>fun v=>Hl.agg v
  | 138=>fun v=>IX.agg v
  | 99=>fun v=>Np.agg v
  | 44=>fun v=>Jg.agg v
  | 3=>fun v=>BN.one v
  | 60=>fun _=>none
  | 148=>fun v=>JB.agg v
  | 77=>fun v=>((AL.list 148 18 (fun(a:Au)=>.agg (JB.BJ a)):AL Ty (List (Ty 148)))).one v
  | 86=>fun _=>none
  | 78=>fun _=>none
  | 62=>fun v=>((AL.list 5 1 (fun(a:Int)=>Ee.Bc a):AL Ty (List (Ty 5)))).one v
  | 36=>fun v=>((AL.list 156 15 (fun(a:AO)=>.agg (Hl.BJ a)):AL Ty (List (Ty 156)))).one v
  | 37=>fun v=>((AL.list 138 8 (fun(a:BC)=>.agg (IX.BJ a)):AL Ty (List (Ty 138)))).one v
  | 42=>fun v=>((AL.list 99 2 (fun(a:BO)=>.agg (Np.BJ a)):AL Ty (List (Ty 99)))).one v
  | 35=>fun v=>Sv.agg v
  | 33=>fun v=>OY.agg v
  | 109=>fun v=>X5.agg v
  | 45=>fun v=>BN.one v
  | 46=>fun _=>none
  | 110=>fun _=>none
  | 28=>fun v=>Qo.agg v
  | 29=>fun v=>Cc.one v
  | 25=>fun v=>Cc.one v
  | 52=>fun v=>yU.agg v
  | 39=>fun v=>JQ.agg v
  | 24=>fun v=>Nj.agg v
  | 26=>fun v=>Cc.one v
  | 226=>fun v=>((AL.list 3 1 (fun(a:Int)=>BN.Bc a):AL Ty (List (Ty 3)))).one v
  | 63=>fun _=>none
  | 70=>fun v=>TD.agg v
  | 75=>fun _=>none
  | 71=>fun _=>none
  | 120=>fun _=>none
  | 104=>fun _=>none
  | 30=>fun v=>P8.one v
  | 22=>fun v=>P6.one v
  | 189=>fun _=>none
  | 262=>fun v=>yH.agg v
  | 41=>fun v=>Xh.agg v
  | 129=>fun _=>none
  | 135=>fun _=>none
  | 140=>fun _=>none
  | 208=>fun _=>none
  | 216=>fun _=>none
  | 269=>fun _=>none
  | 222=>fun _=>none
  | 9=>fun v=>cst.one v
  | 254=>fun v=>((AL.list 25 1 (fun(a:Int)=>Cc.Bc a):AL Ty (List (Ty 25)))).one v
  | 163=>fun _=>none
  | 231=>fun _=>none
  | 233=>fun _=>none
  | 237=>fun _=>none
  | 31=>fun v=>((AL.list 68 2 (fun(a:Az)=>.agg (Il.BJ a)):AL Ty (List (Ty 68)))).one v
  | 194=>fun _=>none
  | 256=>fun v=>((AL.list 62 1 (fun(a:List Int)=>((AL.list 5 1 (fun(a:Int)=>Ee.Bc a):AL Ty (List (Ty 5)))).Bc a):AL Ty (List (Ty 62)))).one v
  | 312=>fun v=>yB.agg v
  | 252=>fun v=>PM.agg v
  | 253=>fun v=>((AL.list 252 2 (fun(a:FB)=>.agg (PM.BJ a)):AL Ty (List (Ty 252)))).one v
  | 279=>fun _=>none
  | 174=>fun v=>PV.agg v
  | 240=>fun v=>((AL.list 174 3 (fun(a:Gg)=>.agg (PV.BJ a)):AL Ty (List (Ty 174)))).one v
  | _=>fun _=>none
 keys:=[115,206,338,3369,3385,4,5,83,113,59,89,68,156,138,99,44,3,60,148,77,86,78,62,36,37,42,35,33,109,45,46,110,28,29,25,52,39,24,26,226,63,70,75,71,120,104,30,22,189,262,41,129,135,140,208,216,269,222,9,254,163,231,233,237,31,194,256,312,252,253,279,174,240]
theorem SE:Aa U Il [0,1]:=Aa.DC ((Aa.int _).pair ((Aa.list (U:=U) (t:=5) (n:=1) (e:=fun(a:Int)=>Ee.Bc a) (fun _=>rfl) rfl (fun a=>(Aa.int _:Aa U Ee _).Qg a) (fun a b h=>(Aa.int _:Aa U Ee _).Q7 h)).pair Aa.unit)) (fun _=>rfl) (fun _=>rfl)
theorem XO:Aa U Nj [0,0,0,0,0]:=Aa.DC ((Aa.int _).pair ((Aa.int _).pair ((Aa.int _).pair ((Aa.int _).pair ((Aa.int _).pair Aa.unit))))) (fun _=>rfl) (fun _=>rfl)
theorem Z4k:Aa U Sr [0,0,0,1,0,0,0,0,0,0,0,0]:=Aa.DC ((Aa.int _).pair ((Aa.int _).pair ((SE).pair ((XO).pair ((Aa.int _).pair ((Aa.int _).pair ((Aa.int _).pair Aa.unit))))))) (fun _=>rfl) (fun _=>rfl)
theorem Z4e:Aa U SQ [12,0,0]:=Aa.DC ((Aa.list (U:=U) (t:=83) (n:=12) (e:=fun(a:Hw)=>.agg (Sr.BJ a)) (fun _=>rfl) rfl (fun a=>Z4k.nr a) (fun a b h=>Z4k.inj _ _ (by injection h))).pair ((Aa.int _).pair ((Aa.int _).pair Aa.unit))) (fun _=>rfl) (fun _=>rfl)
theorem xR:Aa U Qo [0,0,0,0,0,0,0,0,0,0,0]:=Aa.DC ((Aa.int _).pair ((Aa.int _).pair ((XO).pair ((Aa.int _).pair ((Aa.int _).pair ((Aa.int _).pair ((Aa.int _).pair Aa.unit))))))) (fun _=>rfl) (fun _=>rfl)
theorem ZGV:Aa U yT [0,0]:=Aa.DC ((Aa.int _).pair ((Aa.int _).pair Aa.unit)) (fun _=>rfl) (fun _=>rfl)
theorem ZGz:Aa U Xl [0,0,0,0,0,0,0,0,0,0,0,0,0,0,3,0,0]:=Aa.DC ((xR).pair ((ZGV).pair ((Aa.int _).pair ((Aa.list (U:=U) (t:=113) (n:=3) (e:=fun(a:FT)=>.agg (SQ.BJ a)) (fun _=>rfl) rfl (fun a=>Z4e.nr a) (fun a b h=>Z4e.inj _ _ (by injection h))).pair ((Aa.int _).pair ((Aa.int _).pair Aa.unit)))))) (fun _=>rfl) (fun _=>rfl)
theorem Ud:Aa U Hl [0,0,0,0,0,0,0,0,0,0,0,0,0,0,0]:=Aa.DC ((Aa.int _).pair ((XO).pair ((Aa.int _).pair ((Aa.int _).pair ((Aa.int _).pair ((Aa.int _).pair ((Aa.int _).pair ((Aa.int _).pair ((Aa.int _).pair ((Aa.int _).pair ((Aa.int _).pair Aa.unit))))))))))) (fun _=>rfl) (fun _=>rfl)
theorem XB:Aa U IX [0,0,0,0,0,0,0,0]:=Aa.DC ((Aa.int _).pair ((Aa.int _).pair ((XO).pair ((Aa.int _).pair Aa.unit)))) (fun _=>rfl) (fun _=>rfl)
theorem jE:Aa U Np [0,0]:=Aa.DC ((Aa.int _).pair ((Aa.int _).pair Aa.unit)) (fun _=>rfl) (fun _=>rfl)
theorem ZhX:Aa U OY [0,0,2,0,0,0,0]:=Aa.DC ((Aa.int _).pair ((Aa.int _).pair ((Aa.list (U:=U) (t:=68) (n:=2) (e:=fun(a:Az)=>.agg (Il.BJ a)) (fun _=>rfl) rfl (fun a=>SE.nr a) (fun a b h=>SE.inj _ _ (by injection h))).pair ((Aa.bool).pair ((Aa.bool).pair ((Aa.int _).pair ((Aa.int _).pair Aa.unit))))))) (fun _=>rfl) (fun _=>rfl)
theorem Z4r:Aa U Sv [0,0,0]:=Aa.DC ((Aa.int _).pair ((Aa.int _).pair ((Aa.bool).pair Aa.unit))) (fun _=>rfl) (fun _=>rfl)
theorem ZhH:Aa U JQ [0,0,0,15,0,0,8,0,0,0,0,0,0,0,0,0,0,0,0,0]:=Aa.DC ((Aa.int _).pair ((Aa.int _).pair ((Aa.int _).pair ((Aa.list (U:=U) (t:=156) (n:=15) (e:=fun(a:AO)=>.agg (Hl.BJ a)) (fun _=>rfl) rfl (fun a=>Ud.nr a) (fun a b h=>Ud.inj _ _ (by injection h))).pair ((Aa.int _).pair ((Aa.int _).pair ((Aa.list (U:=U) (t:=138) (n:=8) (e:=fun(a:BC)=>.agg (IX.BJ a)) (fun _=>rfl) rfl (fun a=>XB.nr a) (fun a b h=>XB.inj _ _ (by injection h))).pair ((Aa.bool).pair ((Aa.int _).pair ((Aa.int _).pair ((Aa.bool).pair ((Aa.bool).pair ((Aa.int _).pair ((Aa.int _).pair ((Aa.int _).pair ((Aa.int _).pair ((Aa.int _).pair ((Aa.int _).pair ((Aa.int _).pair ((Aa.int _).pair Aa.unit)))))))))))))))))))) (fun _=>rfl) (fun _=>rfl)
theorem Z4i:Aa U Xh [0,0,0,0,0,0,0]:=Aa.DC ((Aa.int _).pair ((Aa.int _).pair ((Aa.int _).pair ((Aa.bool).pair ((Aa.bool).pair ((Aa.int _).pair ((Aa.int _).pair Aa.unit))))))) (fun _=>rfl) (fun _=>rfl)
theorem Z4D:Aa U Jg [0,0,0,0,0,0,0,0,0,0,0,0,0,0,0,0,0,0,0,0,0,0,0,0,0,0,2,0,0,0,0,0,0,0,0,0,0,15,0,0,8,0,0,0,0,0,0,0,0,0,0,0,0,0,0,0,0,0,0,0,0,0,2,15,0,0]:=Aa.DC ((Aa.int _).pair ((xR).pair ((Aa.int _).pair ((Aa.int _).pair ((Aa.int _).pair ((Aa.int _).pair ((Aa.int _).pair ((Aa.int _).pair ((Aa.int _).pair ((Aa.bool).pair ((Aa.bool).pair ((Aa.bool).pair ((Aa.bool).pair ((Aa.bool).pair ((ZhX).pair ((Z4r).pair ((ZhH).pair ((Z4i).pair ((Aa.int _).pair ((Aa.list (U:=U) (t:=99) (n:=2) (e:=fun(a:BO)=>.agg (Np.BJ a)) (fun _=>rfl) rfl (fun a=>jE.nr a) (fun a b h=>jE.inj _ _ (by injection h))).pair ((Aa.list (U:=U) (t:=156) (n:=15) (e:=fun(a:AO)=>.agg (Hl.BJ a)) (fun _=>rfl) rfl (fun a=>Ud.nr a) (fun a b h=>Ud.inj _ _ (by injection h))).pair ((Aa.int _).pair ((Aa.int _).pair Aa.unit))))))))))))))))))))))) (fun _=>rfl) (fun _=>rfl)
theorem Z3Z:Aa U JB [0,0,0,1,0,0,0,0,0,0,0,0,0,0,0,0,0,0]:=Aa.DC ((Aa.int _).pair ((Aa.int _).pair ((SE).pair ((XB).pair ((Aa.int _).pair ((XO).pair Aa.unit)))))) (fun _=>rfl) (fun _=>rfl)
theorem ZEP:Aa U X5 [0,0,0,0,0,0,0,0,0,0,0,0,0,0,0,0,0,0,0,0,0,0,0,0,0,0,2,0,0,0,0,0,0,0,0,0,0,15,0,0,8,0,0,0,0,0,0,0,0,0,0,0,0,0,0,0,0,0,0,0,0,0,2,15,0,0,0,0,0,0,0,0,0,0,0,0,0,0,0,0,0,0,0,0,0,0,0,0,0,0,0,0,2,0,0,0,0,0,0,0,0,0,0,15,0,0,8,0,0,0,0,0,0,0,0,0,0,0,0,0,0,0,0,0,0,0,0,0,2,15,0,0]:=Aa.DC ((Z4D).pair ((Z4D).pair Aa.unit)) (fun _=>rfl) (fun _=>rfl)
theorem ZGj:Aa U yU [0,0]:=Aa.DC ((Aa.int _).pair ((Aa.int _).pair Aa.unit)) (fun _=>rfl) (fun _=>rfl)
theorem ZHt:Aa U TD [0,0,0,0,1]:=Aa.DC ((Aa.int _).pair ((Aa.int _).pair ((Aa.int _).pair ((SE).pair Aa.unit)))) (fun _=>rfl) (fun _=>rfl)
theorem ZEw:Aa U yH [0,0,0,0,0,0,0,0,0,0,0]:=Aa.DC ((Aa.bool).pair ((Aa.bool).pair ((Aa.bool).pair ((Aa.bool).pair ((Aa.bool).pair ((Aa.bool).pair ((Aa.bool).pair ((Aa.bool).pair ((Aa.bool).pair ((Aa.bool).pair ((Aa.bool).pair Aa.unit))))))))))) (fun _=>rfl) (fun _=>rfl)
theorem ZEu:Aa U yB [0,0]:=Aa.DC ((Aa.int _).pair ((Aa.int _).pair Aa.unit)) (fun _=>rfl) (fun _=>rfl)
theorem Z3V:Aa U PM [0,0]:=Aa.DC ((Aa.int _).pair ((Aa.int _).pair Aa.unit)) (fun _=>rfl) (fun _=>rfl)
theorem Z42:Aa U PV [0,0,0]:=Aa.DC ((Aa.int _).pair ((Aa.int _).pair ((Aa.int _).pair Aa.unit))) (fun _=>rfl) (fun _=>rfl)
theorem rows4:rowsOf Tryz.prog 4=[0]:=by kernel_rfl
abbrev RE (E:Env):Prop:=E.rows=rowsOf Tryz.prog
theorem kC {E} (q:RE E):CU U E 4:=.IM (c:=Dh) (Aa.bool) ((congrFun q 4).trans rows4) (fun h=>ZFW h) (fun _=>rfl) (fun _=>rfl) (fun _=>rfl) (fun _=>rfl) (fun _=>rfl)
theorem rows5:rowsOf Tryz.prog 5=[0]:=by kernel_rfl
theorem tyok5 {E} (q:RE E):CU U E 5:=.IM (c:=Ee) (Aa.int _) ((congrFun q 5).trans rows5) (fun h=>SH h) (fun _=>rfl) (fun _=>rfl) (fun _=>rfl) (fun _=>rfl) (fun _=>rfl)
theorem ZGo:rowsOf Tryz.prog 83=[0,0,0,1,0,0,0,0,0,0,0,0]:=by kernel_rfl
theorem ZHP {E} (q:RE E):CU U E 83:=.IK Z4k ((congrFun q 83).trans ZGo) (fun _=>rfl) (fun _=>rfl) (fun _=>rfl)
theorem ZF7:rowsOf Tryz.prog 113=[12,0,0]:=by kernel_rfl
theorem ZFV {E} (q:RE E):CU U E 113:=.IK Z4e ((congrFun q 113).trans ZF7) (fun _=>rfl) (fun _=>rfl) (fun _=>rfl)
theorem ZH5:rowsOf Tryz.prog 59=[0,0,0,0,0,0,0,0,0,0,0,0,0,0,3,0,0]:=by kernel_rfl
theorem ZGF {E} (q:RE E):CU U E 59:=.IK ZGz ((congrFun q 59).trans ZH5) (fun _=>rfl) (fun _=>rfl) (fun _=>rfl)
theorem ZHA:rowsOf Tryz.prog 89=[1]:=by kernel_rfl
theorem ZGU {E} (q:RE E):CU U E 89:=.IM (c:=(AL.list 4 1 (fun(a:Bool)=>Dh.Bc a):AL Ty (List (Ty 4)))) (Aa.list (U:=U) (t:=4) (n:=1) (e:=fun(a:Bool)=>Dh.Bc a) (fun _=>rfl) rfl (fun a=>(Aa.bool:Aa U Dh _).Qg a) (fun a b h=>(Aa.bool:Aa U Dh _).Q7 h)) ((congrFun q 89).trans ZHA) (fun h=>NM (U:=U) (t:=4) (n:=1) (e:=fun(a:Bool)=>Dh.Bc a) h) (fun _=>rfl) (fun _=>rfl) (fun _=>rfl) (fun _=>rfl) (fun _=>rfl)
theorem ZGS:rowsOf Tryz.prog 68=[0,1]:=by kernel_rfl
theorem Zhy {E} (q:RE E):CU U E 68:=.IK SE ((congrFun q 68).trans ZGS) (fun _=>rfl) (fun _=>rfl) (fun _=>rfl)
theorem ZG8:rowsOf Tryz.prog 156=[0,0,0,0,0,0,0,0,0,0,0,0,0,0,0]:=by kernel_rfl
theorem Z3S {E} (q:RE E):CU U E 156:=.IK Ud ((congrFun q 156).trans ZG8) (fun _=>rfl) (fun _=>rfl) (fun _=>rfl)
theorem ZE3:rowsOf Tryz.prog 138=[0,0,0,0,0,0,0,0]:=by kernel_rfl
theorem ZEC {E} (q:RE E):CU U E 138:=.IK XB ((congrFun q 138).trans ZE3) (fun _=>rfl) (fun _=>rfl) (fun _=>rfl)
theorem ZH6:rowsOf Tryz.prog 99=[0,0]:=by kernel_rfl
theorem ZHy {E} (q:RE E):CU U E 99:=.IK jE ((congrFun q 99).trans ZH6) (fun _=>rfl) (fun _=>rfl) (fun _=>rfl)
theorem ZHd:rowsOf Tryz.prog 44=[0,0,0,0,0,0,0,0,0,0,0,0,0,0,0,0,0,0,0,0,0,0,0,0,0,0,2,0,0,0,0,0,0,0,0,0,0,15,0,0,8,0,0,0,0,0,0,0,0,0,0,0,0,0,0,0,0,0,0,0,0,0,2,15,0,0]:=by kernel_rfl
theorem XI {E} (q:RE E):CU U E 44:=.IK Z4D ((congrFun q 44).trans ZHd) (fun _=>rfl) (fun _=>rfl) (fun _=>rfl)
theorem rows3:rowsOf Tryz.prog 3=[0]:=by kernel_rfl
theorem kE {E} (q:RE E):CU U E 3:=.IM (c:=BN) (Aa.int _) ((congrFun q 3).trans rows3) (fun h=>SH h) (fun _=>rfl) (fun _=>rfl) (fun _=>rfl) (fun _=>rfl) (fun _=>rfl)
theorem ZHJ {E} (q:RE E):CU U E 60:=.BK [⟨44,fun a=>a.1⟩,⟨3,fun a=>a.2.1⟩,⟨4,fun a=>a.2.2⟩] ⟨XI q,kE q,kC q,trivial⟩ (fun _=>rfl) (fun _=>rfl) (fun _=>rfl) fun _ _ h=>Prod.ext h.1 (Prod.ext h.2.1 h.2.2.1)
theorem ZEJ:rowsOf Tryz.prog 148=[0,0,0,1,0,0,0,0,0,0,0,0,0,0,0,0,0,0]:=by kernel_rfl
theorem ZE0 {E} (q:RE E):CU U E 148:=.IK Z3Z ((congrFun q 148).trans ZEJ) (fun _=>rfl) (fun _=>rfl) (fun _=>rfl)
theorem ZGO:rowsOf Tryz.prog 77=[18]:=by kernel_rfl
theorem jP {E} (q:RE E):CU U E 77:=.IM (c:=(AL.list 148 18 (fun(a:Au)=>.agg (JB.BJ a)):AL Ty (List (Ty 148)))) (Aa.list (U:=U) (t:=148) (n:=18) (e:=fun(a:Au)=>.agg (JB.BJ a)) (fun _=>rfl) rfl (fun a=>Z3Z.nr a) (fun a b h=>Z3Z.inj _ _ (by injection h))) ((congrFun q 77).trans ZGO) (fun h=>NM (U:=U) (t:=148) (n:=18) (e:=fun(a:Au)=>.agg (JB.BJ a)) h) (fun _=>rfl) (fun _=>rfl) (fun _=>rfl) (fun _=>rfl) (fun _=>rfl)
theorem ZHh {E} (q:RE E):CU U E 86:=.BK [⟨44,fun a=>a.1⟩,⟨77,fun a=>a.2.1⟩,⟨4,fun a=>a.2.2⟩] ⟨XI q,jP q,kC q,trivial⟩ (fun _=>rfl) (fun _=>rfl) (fun _=>rfl) fun _ _ h=>Prod.ext h.1 (Prod.ext h.2.1 h.2.2.1)
theorem ZI4 {E} (q:RE E):CU U E 78:=.BK [⟨44,fun a=>a.1⟩,⟨77,fun a=>a.2⟩] ⟨XI q,jP q,trivial⟩ (fun _=>rfl) (fun _=>rfl) (fun _=>rfl) fun _ _ h=>Prod.ext h.1 h.2.1
theorem ZHS:rowsOf Tryz.prog 62=[1]:=by kernel_rfl
theorem xB {E} (q:RE E):CU U E 62:=.IM (c:=(AL.list 5 1 (fun(a:Int)=>Ee.Bc a):AL Ty (List (Ty 5)))) (Aa.list (U:=U) (t:=5) (n:=1) (e:=fun(a:Int)=>Ee.Bc a) (fun _=>rfl) rfl (fun a=>(Aa.int _:Aa U Ee _).Qg a) (fun a b h=>(Aa.int _:Aa U Ee _).Q7 h)) ((congrFun q 62).trans ZHS) (fun h=>NM (U:=U) (t:=5) (n:=1) (e:=fun(a:Int)=>Ee.Bc a) h) (fun _=>rfl) (fun _=>rfl) (fun _=>rfl) (fun _=>rfl) (fun _=>rfl)
theorem ZI1:rowsOf Tryz.prog 36=[15]:=by kernel_rfl
theorem xX {E} (q:RE E):CU U E 36:=.IM (c:=(AL.list 156 15 (fun(a:AO)=>.agg (Hl.BJ a)):AL Ty (List (Ty 156)))) (Aa.list (U:=U) (t:=156) (n:=15) (e:=fun(a:AO)=>.agg (Hl.BJ a)) (fun _=>rfl) rfl (fun a=>Ud.nr a) (fun a b h=>Ud.inj _ _ (by injection h))) ((congrFun q 36).trans ZI1) (fun h=>NM (U:=U) (t:=156) (n:=15) (e:=fun(a:AO)=>.agg (Hl.BJ a)) h) (fun _=>rfl) (fun _=>rfl) (fun _=>rfl) (fun _=>rfl) (fun _=>rfl)
theorem ZIu:rowsOf Tryz.prog 37=[8]:=by kernel_rfl
theorem jS {E} (q:RE E):CU U E 37:=.IM (c:=(AL.list 138 8 (fun(a:BC)=>.agg (IX.BJ a)):AL Ty (List (Ty 138)))) (Aa.list (U:=U) (t:=138) (n:=8) (e:=fun(a:BC)=>.agg (IX.BJ a)) (fun _=>rfl) rfl (fun a=>XB.nr a) (fun a b h=>XB.inj _ _ (by injection h))) ((congrFun q 37).trans ZIu) (fun h=>NM (U:=U) (t:=138) (n:=8) (e:=fun(a:BC)=>.agg (IX.BJ a)) h) (fun _=>rfl) (fun _=>rfl) (fun _=>rfl) (fun _=>rfl) (fun _=>rfl)
theorem ZHC:rowsOf Tryz.prog 42=[2]:=by kernel_rfl
theorem ZI9 {E} (q:RE E):CU U E 42:=.IM (c:=(AL.list 99 2 (fun(a:BO)=>.agg (Np.BJ a)):AL Ty (List (Ty 99)))) (Aa.list (U:=U) (t:=99) (n:=2) (e:=fun(a:BO)=>.agg (Np.BJ a)) (fun _=>rfl) rfl (fun a=>jE.nr a) (fun a b h=>jE.inj _ _ (by injection h))) ((congrFun q 42).trans ZHC) (fun h=>NM (U:=U) (t:=99) (n:=2) (e:=fun(a:BO)=>.agg (Np.BJ a)) h) (fun _=>rfl) (fun _=>rfl) (fun _=>rfl) (fun _=>rfl) (fun _=>rfl)
theorem ZI5:rowsOf Tryz.prog 35=[0,0,0]:=by kernel_rfl
theorem ZhQ {E} (q:RE E):CU U E 35:=.IK Z4r ((congrFun q 35).trans ZI5) (fun _=>rfl) (fun _=>rfl) (fun _=>rfl)
theorem ZGf:rowsOf Tryz.prog 33=[0,0,2,0,0,0,0]:=by kernel_rfl
theorem xH {E} (q:RE E):CU U E 33:=.IK ZhX ((congrFun q 33).trans ZGf) (fun _=>rfl) (fun _=>rfl) (fun _=>rfl)
theorem ZFp:rowsOf Tryz.prog 109=[0,0,0,0,0,0,0,0,0,0,0,0,0,0,0,0,0,0,0,0,0,0,0,0,0,0,2,0,0,0,0,0,0,0,0,0,0,15,0,0,8,0,0,0,0,0,0,0,0,0,0,0,0,0,0,0,0,0,0,0,0,0,2,15,0,0,0,0,0,0,0,0,0,0,0,0,0,0,0,0,0,0,0,0,0,0,0,0,0,0,0,0,2,0,0,0,0,0,0,0,0,0,0,15,0,0,8,0,0,0,0,0,0,0,0,0,0,0,0,0,0,0,0,0,0,0,0,0,2,15,0,0]:=by kernel_rfl
theorem Zhd {E} (q:RE E):CU U E 109:=.IK ZEP ((congrFun q 109).trans ZFp) (fun _=>rfl) (fun _=>rfl) (fun _=>rfl)
theorem ZH7:rowsOf Tryz.prog 45=[0]:=by kernel_rfl
theorem Oz {E} (q:RE E):CU U E 45:=.IM (c:=BN) (Aa.int _) ((congrFun q 45).trans ZH7) (fun h=>SH h) (fun _=>rfl) (fun _=>rfl) (fun _=>rfl) (fun _=>rfl) (fun _=>rfl)
theorem ZHe {E} (q:RE E):CU U E 46:=.BK [⟨44,fun a=>a.1⟩,⟨45,fun a=>a.2⟩] ⟨XI q,Oz q,trivial⟩ (fun _=>rfl) (fun _=>rfl) (fun _=>rfl) fun _ _ h=>Prod.ext h.1 h.2.1
theorem ZG7 {E} (q:RE E):CU U E 110:=.BK [⟨109,fun a=>a.1⟩,⟨3,fun a=>a.2⟩] ⟨Zhd q,kE q,trivial⟩ (fun _=>rfl) (fun _=>rfl) (fun _=>rfl) fun _ _ h=>Prod.ext h.1 h.2.1
theorem ZGW:rowsOf Tryz.prog 28=[0,0,0,0,0,0,0,0,0,0,0]:=by kernel_rfl
theorem ZGv {E} (q:RE E):CU U E 28:=.IK xR ((congrFun q 28).trans ZGW) (fun _=>rfl) (fun _=>rfl) (fun _=>rfl)
theorem ZGp:rowsOf Tryz.prog 29=[0]:=by kernel_rfl
theorem ZGk {E} (q:RE E):CU U E 29:=.IM (c:=Cc) (Aa.int _) ((congrFun q 29).trans ZGp) (fun h=>SH h) (fun _=>rfl) (fun _=>rfl) (fun _=>rfl) (fun _=>rfl) (fun _=>rfl)
theorem ZGw:rowsOf Tryz.prog 25=[0]:=by kernel_rfl
theorem Z4E {E} (q:RE E):CU U E 25:=.IM (c:=Cc) (Aa.int _) ((congrFun q 25).trans ZGw) (fun h=>SH h) (fun _=>rfl) (fun _=>rfl) (fun _=>rfl) (fun _=>rfl) (fun _=>rfl)
theorem ZHE:rowsOf Tryz.prog 52=[0,0]:=by kernel_rfl
theorem ZI7 {E} (q:RE E):CU U E 52:=.IK ZGj ((congrFun q 52).trans ZHE) (fun _=>rfl) (fun _=>rfl) (fun _=>rfl)
theorem ZHM:rowsOf Tryz.prog 39=[0,0,0,15,0,0,8,0,0,0,0,0,0,0,0,0,0,0,0,0]:=by kernel_rfl
theorem Um {E} (q:RE E):CU U E 39:=.IK ZhH ((congrFun q 39).trans ZHM) (fun _=>rfl) (fun _=>rfl) (fun _=>rfl)
theorem ZGE:rowsOf Tryz.prog 24=[0,0,0,0,0]:=by kernel_rfl
theorem ZIh {E} (q:RE E):CU U E 24:=.IK XO ((congrFun q 24).trans ZGE) (fun _=>rfl) (fun _=>rfl) (fun _=>rfl)
theorem ZGx:rowsOf Tryz.prog 26=[0]:=by kernel_rfl
theorem ZGT {E} (q:RE E):CU U E 26:=.IM (c:=Cc) (Aa.int _) ((congrFun q 26).trans ZGx) (fun h=>SH h) (fun _=>rfl) (fun _=>rfl) (fun _=>rfl) (fun _=>rfl) (fun _=>rfl)
theorem ZEM:rowsOf Tryz.prog 226=[1]:=by kernel_rfl
theorem ZFn {E} (q:RE E):CU U E 226:=.IM (c:=(AL.list 3 1 (fun(a:Int)=>BN.Bc a):AL Ty (List (Ty 3)))) (Aa.list (U:=U) (t:=3) (n:=1) (e:=fun(a:Int)=>BN.Bc a) (fun _=>rfl) rfl (fun a=>(Aa.int _:Aa U BN _).Qg a) (fun a b h=>(Aa.int _:Aa U BN _).Q7 h)) ((congrFun q 226).trans ZEM) (fun h=>NM (U:=U) (t:=3) (n:=1) (e:=fun(a:Int)=>BN.Bc a) h) (fun _=>rfl) (fun _=>rfl) (fun _=>rfl) (fun _=>rfl) (fun _=>rfl)
theorem ZGL {E} (q:RE E):CU U E 63:=.BK [⟨44,fun a=>a.1⟩,⟨62,fun a=>a.2⟩] ⟨XI q,xB q,trivial⟩ (fun _=>rfl) (fun _=>rfl) (fun _=>rfl) fun _ _ h=>Prod.ext h.1 h.2.1
theorem ZHH:rowsOf Tryz.prog 70=[0,0,0,0,1]:=by kernel_rfl
theorem Z4n {E} (q:RE E):CU U E 70:=.IK ZHt ((congrFun q 70).trans ZHH) (fun _=>rfl) (fun _=>rfl) (fun _=>rfl)
theorem ZIp {E} (q:RE E):CU U E 75:=.BK [⟨33,fun a=>a.1⟩,⟨70,fun a=>a.2⟩] ⟨xH q,Z4n q,trivial⟩ (fun _=>rfl) (fun _=>rfl) (fun _=>rfl) fun _ _ h=>Prod.ext h.1 h.2.1
theorem ZHf {E} (q:RE E):CU U E 71:=.BK [⟨70,fun a=>a.1⟩,⟨45,fun a=>a.2⟩] ⟨Z4n q,Oz q,trivial⟩ (fun _=>rfl) (fun _=>rfl) (fun _=>rfl) fun _ _ h=>Prod.ext h.1 h.2.1
theorem ZER {E} (q:RE E):CU U E 120:=.BK [⟨62,fun a=>a.1⟩,⟨45,fun a=>a.2⟩] ⟨xB q,Oz q,trivial⟩ (fun _=>rfl) (fun _=>rfl) (fun _=>rfl) fun _ _ h=>Prod.ext h.1 h.2.1
theorem ZEz {E} (q:RE E):CU U E 104:=.BK [⟨3,fun a=>a.1⟩,⟨3,fun a=>a.2⟩] ⟨kE q,kE q,trivial⟩ (fun _=>rfl) (fun _=>rfl) (fun _=>rfl) fun _ _ h=>Prod.ext h.1 h.2.1
theorem ZHu:rowsOf Tryz.prog 30=[0]:=by kernel_rfl
theorem ZHv {E} (q:RE E):CU U E 30:=.IM (c:=P8) (Aa.int _) ((congrFun q 30).trans ZHu) (fun h=>SH h) (fun _=>rfl) (fun _=>rfl) (fun _=>rfl) (fun _=>rfl) (fun _=>rfl)
theorem ZIg:rowsOf Tryz.prog 22=[0]:=by kernel_rfl
theorem ZHU {E} (q:RE E):CU U E 22:=.IM (c:=P6) (Aa.int _) ((congrFun q 22).trans ZIg) (fun h=>SH h) (fun _=>rfl) (fun _=>rfl) (fun _=>rfl) (fun _=>rfl) (fun _=>rfl)
theorem ZEd {E} (q:RE E):CU U E 189:=.BK [⟨33,fun a=>a.1⟩,⟨45,fun a=>a.2⟩] ⟨xH q,Oz q,trivial⟩ (fun _=>rfl) (fun _=>rfl) (fun _=>rfl) fun _ _ h=>Prod.ext h.1 h.2.1
theorem ZF3:rowsOf Tryz.prog 262=[0,0,0,0,0,0,0,0,0,0,0]:=by kernel_rfl
theorem ZFu {E} (q:RE E):CU U E 262:=.IK ZEw ((congrFun q 262).trans ZF3) (fun _=>rfl) (fun _=>rfl) (fun _=>rfl)
theorem ZIt:rowsOf Tryz.prog 41=[0,0,0,0,0,0,0]:=by kernel_rfl
theorem ZHa {E} (q:RE E):CU U E 41:=.IK Z4i ((congrFun q 41).trans ZIt) (fun _=>rfl) (fun _=>rfl) (fun _=>rfl)
theorem ZEB {E} (q:RE E):CU U E 129:=.BK [⟨35,fun a=>a.1⟩,⟨45,fun a=>a.2⟩] ⟨ZhQ q,Oz q,trivial⟩ (fun _=>rfl) (fun _=>rfl) (fun _=>rfl) fun _ _ h=>Prod.ext h.1 h.2.1
theorem ZE6 {E} (q:RE E):CU U E 135:=.BK [⟨39,fun a=>a.1⟩,⟨37,fun a=>a.2⟩] ⟨Um q,jS q,trivial⟩ (fun _=>rfl) (fun _=>rfl) (fun _=>rfl) fun _ _ h=>Prod.ext h.1 h.2.1
theorem ZEc {E} (q:RE E):CU U E 140:=.BK [⟨39,fun a=>a.1⟩,⟨36,fun a=>a.2⟩] ⟨Um q,xX q,trivial⟩ (fun _=>rfl) (fun _=>rfl) (fun _=>rfl) fun _ _ h=>Prod.ext h.1 h.2.1
theorem ZFy {E} (q:RE E):CU U E 208:=.BK [⟨37,fun a=>a.1⟩,⟨37,fun a=>a.2⟩] ⟨jS q,jS q,trivial⟩ (fun _=>rfl) (fun _=>rfl) (fun _=>rfl) fun _ _ h=>Prod.ext h.1 h.2.1
theorem ZG1 {E} (q:RE E):CU U E 216:=.BK [⟨39,fun a=>a.1⟩,⟨156,fun a=>a.2⟩] ⟨Um q,Z3S q,trivial⟩ (fun _=>rfl) (fun _=>rfl) (fun _=>rfl) fun _ _ h=>Prod.ext h.1 h.2.1
theorem ZEA {E} (q:RE E):CU U E 269:=.BK [⟨37,fun a=>a.1⟩,⟨45,fun a=>a.2⟩] ⟨jS q,Oz q,trivial⟩ (fun _=>rfl) (fun _=>rfl) (fun _=>rfl) fun _ _ h=>Prod.ext h.1 h.2.1
theorem ZFb {E} (q:RE E):CU U E 222:=.BK [⟨39,fun a=>a.1⟩,⟨36,fun a=>a.2.1⟩,⟨45,fun a=>a.2.2⟩] ⟨Um q,xX q,Oz q,trivial⟩ (fun _=>rfl) (fun _=>rfl) (fun _=>rfl) fun _ _ h=>Prod.ext h.1 (Prod.ext h.2.1 h.2.2.1)
theorem rows9:rowsOf Tryz.prog 9=[0]:=by kernel_rfl
theorem tyok9 {E} (q:RE E):CU U E 9:=.IM (c:=cst) (Aa.str) ((congrFun q 9).trans rows9) (fun h=>ZIk h) (fun _=>rfl) (fun _=>rfl) (fun _=>rfl) (fun _=>rfl) (fun _=>rfl)
theorem ZFL:rowsOf Tryz.prog 254=[1]:=by kernel_rfl
theorem Zhb {E} (q:RE E):CU U E 254:=.IM (c:=(AL.list 25 1 (fun(a:Int)=>Cc.Bc a):AL Ty (List (Ty 25)))) (Aa.list (U:=U) (t:=25) (n:=1) (e:=fun(a:Int)=>Cc.Bc a) (fun _=>rfl) rfl (fun a=>(Aa.int _:Aa U Cc _).Qg a) (fun a b h=>(Aa.int _:Aa U Cc _).Q7 h)) ((congrFun q 254).trans ZFL) (fun h=>NM (U:=U) (t:=25) (n:=1) (e:=fun(a:Int)=>Cc.Bc a) h) (fun _=>rfl) (fun _=>rfl) (fun _=>rfl) (fun _=>rfl) (fun _=>rfl)
theorem ZFa {E} (q:RE E):CU U E 163:=.BK [⟨33,fun a=>a.1⟩,⟨68,fun a=>a.2.1⟩,⟨4,fun a=>a.2.2.1⟩,⟨4,fun a=>a.2.2.2⟩] ⟨xH q,Zhy q,kC q,kC q,trivial⟩ (fun _=>rfl) (fun _=>rfl) (fun _=>rfl) fun _ _ h=>Prod.ext h.1 (Prod.ext h.2.1 (Prod.ext h.2.2.1 h.2.2.2.1))
theorem ZFR {E} (q:RE E):CU U E 231:=.BK [⟨156,fun a=>a.1⟩,⟨45,fun a=>a.2⟩] ⟨Z3S q,Oz q,trivial⟩ (fun _=>rfl) (fun _=>rfl) (fun _=>rfl) fun _ _ h=>Prod.ext h.1 h.2.1
theorem ZG9 {E} (q:RE E):CU U E 233:=.BK [⟨39,fun a=>a.1⟩,⟨77,fun a=>a.2⟩] ⟨Um q,jP q,trivial⟩ (fun _=>rfl) (fun _=>rfl) (fun _=>rfl) fun _ _ h=>Prod.ext h.1 h.2.1
theorem ZFH {E} (q:RE E):CU U E 237:=.BK [⟨39,fun a=>a.1⟩,⟨36,fun a=>a.2.1⟩,⟨77,fun a=>a.2.2⟩] ⟨Um q,xX q,jP q,trivial⟩ (fun _=>rfl) (fun _=>rfl) (fun _=>rfl) fun _ _ h=>Prod.ext h.1 (Prod.ext h.2.1 h.2.2.1)
theorem ZGX:rowsOf Tryz.prog 31=[2]:=by kernel_rfl
theorem ZIm {E} (q:RE E):CU U E 31:=.IM (c:=(AL.list 68 2 (fun(a:Az)=>.agg (Il.BJ a)):AL Ty (List (Ty 68)))) (Aa.list (U:=U) (t:=68) (n:=2) (e:=fun(a:Az)=>.agg (Il.BJ a)) (fun _=>rfl) rfl (fun a=>SE.nr a) (fun a b h=>SE.inj _ _ (by injection h))) ((congrFun q 31).trans ZGX) (fun h=>NM (U:=U) (t:=68) (n:=2) (e:=fun(a:Az)=>.agg (Il.BJ a)) h) (fun _=>rfl) (fun _=>rfl) (fun _=>rfl) (fun _=>rfl) (fun _=>rfl)
theorem ZEb {E} (q:RE E):CU U E 194:=.BK [⟨25,fun a=>a.1⟩,⟨25,fun a=>a.2⟩] ⟨Z4E q,Z4E q,trivial⟩ (fun _=>rfl) (fun _=>rfl) (fun _=>rfl) fun _ _ h=>Prod.ext h.1 h.2.1
theorem ZG4:rowsOf Tryz.prog 256=[1]:=by kernel_rfl
theorem ZF6 {E} (q:RE E):CU U E 256:=.IM (c:=(AL.list 62 1 (fun(a:List Int)=>((AL.list 5 1 (fun(a:Int)=>Ee.Bc a):AL Ty (List (Ty 5)))).Bc a):AL Ty (List (Ty 62)))) (Aa.list (U:=U) (t:=62) (n:=1) (e:=fun(a:List Int)=>((AL.list 5 1 (fun(a:Int)=>Ee.Bc a):AL Ty (List (Ty 5)))).Bc a) (fun _=>rfl) rfl (fun a=>(Aa.list (U:=U) (t:=5) (n:=1) (e:=fun(a:Int)=>Ee.Bc a) (fun _=>rfl) rfl (fun a=>(Aa.int _:Aa U Ee _).Qg a) (fun a b h=>(Aa.int _:Aa U Ee _).Q7 h):Aa U (AL.list 5 1 (fun(a:Int)=>Ee.Bc a):AL Ty (List (Ty 5))) _).Qg a) (fun a b h=>(Aa.list (U:=U) (t:=5) (n:=1) (e:=fun(a:Int)=>Ee.Bc a) (fun _=>rfl) rfl (fun a=>(Aa.int _:Aa U Ee _).Qg a) (fun a b h=>(Aa.int _:Aa U Ee _).Q7 h):Aa U (AL.list 5 1 (fun(a:Int)=>Ee.Bc a):AL Ty (List (Ty 5))) _).Q7 h)) ((congrFun q 256).trans ZG4) (fun h=>NM (U:=U) (t:=62) (n:=1) (e:=fun(a:List Int)=>((AL.list 5 1 (fun(a:Int)=>Ee.Bc a):AL Ty (List (Ty 5)))).Bc a) h) (fun _=>rfl) (fun _=>rfl) (fun _=>rfl) (fun _=>rfl) (fun _=>rfl)
theorem ZFx:rowsOf Tryz.prog 312=[0,0]:=by kernel_rfl
theorem ZE2 {E} (q:RE E):CU U E 312:=.IK ZEu ((congrFun q 312).trans ZFx) (fun _=>rfl) (fun _=>rfl) (fun _=>rfl)
theorem ZFj:rowsOf Tryz.prog 252=[0,0]:=by kernel_rfl
theorem ZFv {E} (q:RE E):CU U E 252:=.IK Z3V ((congrFun q 252).trans ZFj) (fun _=>rfl) (fun _=>rfl) (fun _=>rfl)
theorem ZFz:rowsOf Tryz.prog 253=[2]:=by kernel_rfl
theorem ZG0 {E} (q:RE E):CU U E 253:=.IM (c:=(AL.list 252 2 (fun(a:FB)=>.agg (PM.BJ a)):AL Ty (List (Ty 252)))) (Aa.list (U:=U) (t:=252) (n:=2) (e:=fun(a:FB)=>.agg (PM.BJ a)) (fun _=>rfl) rfl (fun a=>Z3V.nr a) (fun a b h=>Z3V.inj _ _ (by injection h))) ((congrFun q 253).trans ZFz) (fun h=>NM (U:=U) (t:=252) (n:=2) (e:=fun(a:FB)=>.agg (PM.BJ a)) h) (fun _=>rfl) (fun _=>rfl) (fun _=>rfl) (fun _=>rfl) (fun _=>rfl)
theorem ZGc {E} (q:RE E):CU U E 279:=.BK [⟨254,fun a=>a.1⟩,⟨62,fun a=>a.2.1⟩,⟨45,fun a=>a.2.2⟩] ⟨Zhb q,xB q,Oz q,trivial⟩ (fun _=>rfl) (fun _=>rfl) (fun _=>rfl) fun _ _ h=>Prod.ext h.1 (Prod.ext h.2.1 h.2.2.1)
theorem ZFC:rowsOf Tryz.prog 174=[0,0,0]:=by kernel_rfl
theorem ZF0 {E} (q:RE E):CU U E 174:=.IK Z42 ((congrFun q 174).trans ZFC) (fun _=>rfl) (fun _=>rfl) (fun _=>rfl)
theorem ZFU:rowsOf Tryz.prog 240=[3]:=by kernel_rfl
theorem ZE5 {E} (q:RE E):CU U E 240:=.IM (c:=(AL.list 174 3 (fun(a:Gg)=>.agg (PV.BJ a)):AL Ty (List (Ty 174)))) (Aa.list (U:=U) (t:=174) (n:=3) (e:=fun(a:Gg)=>.agg (PV.BJ a)) (fun _=>rfl) rfl (fun a=>Z42.nr a) (fun a b h=>Z42.inj _ _ (by injection h))) ((congrFun q 240).trans ZFU) (fun h=>NM (U:=U) (t:=174) (n:=3) (e:=fun(a:Gg)=>.agg (PV.BJ a)) h) (fun _=>rfl) (fun _=>rfl) (fun _=>rfl) (fun _=>rfl) (fun _=>rfl)
theorem ZE7:Aa U Zif [0,0,0,0,0,0,0]:=Aa.DC ((Aa.int _).pair ((Aa.int _).pair ((Aa.skip).pair ((Aa.bool).pair ((Aa.bool).pair ((Aa.int _).pair ((Aa.int _).pair Aa.unit))))))) (fun _=>rfl) (fun _=>rfl)
theorem ZgK:Aa U Z4S [0,0,0,0,0,0,0,0,0,0,0,0,0,0,0,0,0,0,0,0]:=Aa.DC ((Aa.int _).pair ((Aa.int _).pair ((Aa.int _).pair ((Aa.skip).pair ((Aa.int _).pair ((Aa.int _).pair ((Aa.skip).pair ((Aa.bool).pair ((Aa.int _).pair ((Aa.int _).pair ((Aa.bool).pair ((Aa.bool).pair ((Aa.int _).pair ((Aa.int _).pair ((Aa.int _).pair ((Aa.int _).pair ((Aa.int _).pair ((Aa.int _).pair ((Aa.int _).pair ((Aa.int _).pair Aa.unit)))))))))))))))))))) (fun _=>rfl) (fun _=>rfl)
theorem ZFc:Aa U Zii [0,0,0,0,0,0,0,0,0,0,0,0,0,0,0,0,0,0,0,0,0,0,0,0,0,0,0,0,0,0,0,0,0,0,0,0,0,0,0,0,0,0,0,0,0,0,0,0,0,0,0,0,0,0,0,0,0,0,0,0,0,0,0,0,0,0]:=Aa.DC ((Aa.int _).pair ((xR).pair ((Aa.int _).pair ((Aa.int _).pair ((Aa.int _).pair ((Aa.int _).pair ((Aa.int _).pair ((Aa.int _).pair ((Aa.int _).pair ((Aa.bool).pair ((Aa.bool).pair ((Aa.bool).pair ((Aa.bool).pair ((Aa.bool).pair ((ZE7).pair ((Z4r).pair ((ZgK).pair ((Z4i).pair ((Aa.int _).pair ((Aa.skip).pair ((Aa.skip).pair ((Aa.int _).pair ((Aa.int _).pair Aa.unit))))))))))))))))))))))) (fun _=>rfl) (fun _=>rfl)
theorem Z3v:Aa U xM [0,0,0,0,0,0,0,0,0,0,0,0,0,0,0,0,0,0,0,0,0,0,0,0,0,0,0,0,0,0,0,0,0,0,0,0,0,0,0,0,0,0,0,0,0,0,0,0,0,0,0,0,0,0,0,0,0,0,0,0,0,0,0,0,0,0,0]:=Aa.DC ((ZFc).pair ((Aa.skip).pair Aa.unit)) (fun _=>rfl) (fun _=>rfl)
theorem Z3u:Aa U xY [0,0,0,0,0,0,0,0,0,0,0,0,0,0,0,0,0,0,0,0,0,0,0,0]:=Aa.DC ((ZgK).pair ((Aa.int _).pair ((Aa.int _).pair ((Aa.skip).pair ((Aa.skip).pair Aa.unit))))) (fun _=>rfl) (fun _=>rfl)
theorem Z3X:Aa U yP [0,0,0,0,0,0,0]:=Aa.DC ((Aa.int _).pair ((Aa.int _).pair ((Aa.int _).pair ((Aa.bool).pair ((Aa.bool).pair ((Aa.int _).pair ((Aa.int _).pair Aa.unit))))))) (fun _=>rfl) (fun _=>rfl)
theorem ZFm {E} (q:RE E):CU U E 115:=⟨fun a=>rfl,fun v a h=>Z3v.Z3T h _,fun a=>rfl,fun a=>Z3v.Z4v 67 a,fun a b h=>Z3v.Z40 h⟩
theorem ZE8 {E} (q:RE E):CU U E 206:=⟨fun a=>rfl,fun v a h=>Z3u.Z3T h _,fun a=>rfl,fun a=>Z3u.Z4v 24 a,fun a b h=>Z3u.Z40 h⟩
theorem ZFg {E} (q:RE E):CU U E 338:=⟨fun a=>rfl,fun v a h=>(Aa.int _:Aa U ((Ee:AL Ty Int)) _).Zgg h _,fun a=>rfl,fun a=>(Aa.int _:Aa U ((Ee:AL Ty Int)) _).ZgT 1 a,fun a b h=>(Aa.int _:Aa U ((Ee:AL Ty Int)) _).Zgw h⟩
theorem ZD8 {E} (q:RE E):CU U E 3369:=⟨fun a=>rfl,fun v a h=>(Aa.int _:Aa U ((Cc:AL Ty Int)) _).Zgg h _,fun a=>rfl,fun a=>(Aa.int _:Aa U ((Cc:AL Ty Int)) _).ZgT 1 a,fun a b h=>(Aa.int _:Aa U ((Cc:AL Ty Int)) _).Zgw h⟩
theorem ZDD {E} (q:RE E):CU U E 3385:=⟨fun a=>rfl,fun v a h=>Z3X.Z3T h _,fun a=>rfl,fun a=>Z3X.Z4v 7 a,fun a b h=>Z3X.Z40 h⟩
theorem ZFP {E} (q:RE E):CU U E 249:=⟨fun a=>rfl,fun v a h=>(nomatch h),fun a=>rfl,fun a=>rfl,fun a b h=>rfl⟩
theorem CU.four {E:Env} {t:Nat} (h:CU U E t):(∀a,AY U (U.encS t a)=U.enc t a)/\(∀v a,U.IP t v=some a->EU (E.rows t) (AY U v)=U.enc t a)/\(∀a,(U.enc t a).cells=BB U (cellsS (U.encS t a)))/\(∀a,DF (U.enc t a)=true):=⟨h.encS,h.dec,h.cells,h.nr⟩
def zA:List Nat:=[4,5,83,113,59,89,68,156,138,99,44,3,60,148,77,86,78,62,36,37,42,35,33,109,45,46,110,28,29,25,52,39,24,26,226,63,70,75,71,120,104,30,22,189,262,41,129,135,140,208,216,269,222,9,254,163,231,233,237,31,194,256,312,252,253,279,174,240,115,206,338,3369,3385,249]
def tysY:List Nat:=[1344,1345,1346,1347,1349,1351,1352,1350,1348,1363,1366,1365,1353,1354,1367,1359,1360,1361,1362,1376,1377,1369,1370,1368,1378,1371,1391,1382,1383,1384,1385,1386,1387,1388,1389,1390,1379,1380,1381,1372,1373,1374,1375,1398,1392,1393,1394,1395,1396,1397,1399,1400,1401,1402,1403,1404,1405,1406]
theorem ZDu (t:Nat) (h:t∉zA) (q : t∉tysY) (a:Ty t):False:=by
 unfold Ty at a;split at a<;>first|exact h (by decide)|exact q (by decide)|exact a.elim
theorem Zi7 {E} (q:RE E):kU (CU U E) zA:=⟨kC q,tyok5 q,ZHP q,ZFV q,ZGF q,ZGU q,Zhy q,Z3S q,ZEC q,ZHy q,XI q,kE q,ZHJ q,ZE0 q,jP q,ZHh q,ZI4 q,xB q,xX q,jS q,ZI9 q,ZhQ q,xH q,Zhd q,Oz q,ZHe q,ZG7 q,ZGv q,ZGk q,Z4E q,ZI7 q,Um q,ZIh q,ZGT q,ZFn q,ZGL q,Z4n q,ZIp q,ZHf q,ZER q,ZEz q,ZHv q,ZHU q,ZEd q,ZFu q,ZHa q,ZEB q,ZE6 q,ZEc q,ZFy q,ZG1 q,ZEA q,ZFb q,tyok9 q,Zhb q,ZFa q,ZFR q,ZG9 q,ZFH q,ZIm q,ZEb q,ZF6 q,ZE2 q,ZFv q,ZG0 q,ZGc q,ZF0 q,ZE5 q,ZFm q,ZE8 q,ZFg q,ZD8 q,ZDD q,ZFP q,trivial⟩
theorem all_Y (E:Env):kU (fun t=>(∀a,AY U (U.encS t a)=U.enc t a)/\(∀v a,U.IP t v=some a->EU (E.rows t) (AY U v)=U.enc t a)/\(∀a,(U.enc t a).cells=BB U (cellsS (U.encS t a)))/\(∀a,DF (U.enc t a)=true)) tysY:=by
 repeat' first|exact trivial|refine⟨⟨fun a=>rfl,(fun v a h=>nomatch h),fun a=>rfl,fun a=>rfl⟩,?_⟩
theorem wK (E:Env) (z:E.rows=rowsOf Tryz.prog):Dw U E:=by
 have key:∀t,(∀a,AY U (U.encS t a)=U.enc t a)/\(∀v a,U.IP t v=some a->EU (E.rows t) (AY U v)=U.enc t a)/\(∀a,(U.enc t a).cells=BB U (cellsS (U.encS t a)))/\(∀a,DF (U.enc t a)=true):=fun t=>by
  by_cases h:t∈zA
  ·exact CU.four ((Zi7 z).at h)
  by_cases q : t∈tysY
  ·exact(all_Y E).at q
  have e:=fun a=>ZDu t h q a;exact⟨fun a=>(e a).elim,fun v a h=>(e a).elim,fun a=>(e a).elim,fun a=>(e a).elim⟩
 have sub:∀t∈U.keys,t∈zA:=by decide
 exact⟨fun t=>(key t).1,fun t=>(key t).2.1,fun t=>(key t).2.2.1,fun t=>(key t).2.2.2,fun t A=>((Zi7 z).at (sub t A)).inj⟩
def sumsV:List V:=[0,1788928,3577856,3003392,7155712,7764992,6006784,4252672,14311424,12659712,15529984,16233472,12013568,11279360,8505344,10126336].map fun n=>V.lit (.int .u32 n)
def gl:Nat->Option (List V):=fun g=>if g=0 then some sumsV else none
theorem Qe:Tryz.prog.follows .mixedOrders=true:=by kernel_rfl
def noH:FuncId->List FuncId->Option (HMod U):=fun _ _=>none
def B0:Env:=EV (U:=U) Tryz.prog gl 0 (fun _=>none) noH IU
abbrev MS:={ms:FuncId->Option (Ai U) // ∀g m,ms g=some m->Ah Tryz.prog B0 g m}
abbrev HS:={hs:FuncId->List FuncId->Option (HMod U) // ∀g k m,hs g k=some m->Cf Tryz.prog B0 g m}
def Ag:MS:=⟨fun _=>none,fun _ _ h=>nomatch h⟩
def Af:HS:=⟨fun _ _=>none,fun _ _ _ h=>nomatch h⟩
def mc {f:FuncId} {m:Ai U} (h:Ah Tryz.prog B0 f m) (s:MS):MS:=⟨fun g=>bif Nat.beq g f then some m else s.1 g,fun g q e=>by
 cases hb:Nat.beq g f with
 | true=>dsimp only at e;rw[hb]at e;cases e;exact(Nat.eq_of_beq_eq_true hb)▸h
 | false=>dsimp only at e;rw[hb]at e;exact s.2 g q e⟩
def hc {f:FuncId} {m:HMod U} (k:List FuncId) (h:Cf Tryz.prog B0 f m) (s:HS):HS:=⟨fun g k' =>bif Nat.beq g f&&k' == k then some m else s.1 g k',fun g k' q e=>by
 cases hb:(Nat.beq g f&&k' == k) with
 | true=>dsimp only at e;rw[hb]at e;cases e;exact(Nat.eq_of_beq_eq_true ((Bool.and_eq_true _ _).mp hb).1)▸h
 | false=>dsimp only at e;rw[hb]at e;exact s.2 g k' q e⟩
def AN:Nat->Option Lay:=fun _=>none
noncomputable def Bg (fn:Func) (ts:List Nat) (x:Fa U ts):BH U:=⟨Ig fn,[],jK ts x fn.ntmps,false⟩
noncomputable def Dj (fn:Func) (sh:Shape) (x:sh.X U):BH U:=⟨Ig fn,[],jI (sh.enc x) fn.ntmps,false⟩
noncomputable def Ae (fn:Func) (p:List Nat) (L:Lay) (x:L.sh.X U):BH U:=spot (Ig fn) p fn.ntmps L.keep (L.sh.enc x)
abbrev BlkP (f:FuncId) (fn:Func) (ms:MS) (hs:HS) (A:Nat->Option Lay) (rt:Nat) {z:Type} (T:z->Tr U (U.Ty rt⊕z)) (q:z->BH U):Prop:=
 ∀p,Le.Em (EV Tryz.prog gl f ms.1 hs.1 IU) (Qj ms.1 hs.1 IU.tab) A f fn 0 (XQ (EV Tryz.prog gl f ms.1 hs.1 IU) fn) 1000 (.run (q p).c) (q p).K (q p).st (q p).sk=(T p).map (SI (kJ (U:=U) rt) q)
abbrev BlkH (f:FuncId) (fn:Func) (ms:MS) (hs:HS) (A:Nat->Option Lay) (fa:List (List Fk)) (fb:List Bf) (k:Nat) (m:HMod U) {z:Type} (T:z->Tr U (U.Ty m.ky⊕z)) (q:z->BH U):Prop:=
 ∀p,Le.Em (EV Tryz.prog gl f ms.1 hs.1 IU) (Qj ms.1 hs.1 IU.tab) A f fn k (yE (EV Tryz.prog gl f ms.1 hs.1 IU) fn fa fb k m.Jv m.one) 1000 (.run (q p).c) (q p).K (q p).st (q p).sk=(T p).map (SI m.out q)
theorem okP {f:FuncId} {fn:Func} {ms:MS} {hs:HS} {A:Nat->Option Lay} {m:Ai U} {q:Type} {T:q->Tr U (U.Ty m.rt⊕q)} {D:q->BH U} (h:BlkP f fn ms hs A m.rt T D) (b0:Fa U m.ts->q)
  (hc:Eo (EV Tryz.prog gl f ms.1 hs.1 IU) f (Ig fn)=true) (z:Tryz.prog.funcs[f]? = some fn) (F:(fn.name == "runtime.NumGoroutine")=false) (hb:fn.body=some (Ig fn))
  (hm:∀x,m.fn x=AU T (b0 x)) (C:∀x,D (b0 x)=Bg fn m.ts x):Ah Tryz.prog B0 f m:=
 Z3N rfl (wK _ rfl) Qe ms.2 hs.2 z F hb hc m T D h b0 hm C
theorem Bj {f rt:Nat} {ts:List Nat} {hk:∀t∈ts,t∈U.keys} {fn:Func} {q:Type} {T:q->Tr U (U.Ty rt⊕q)} {b0:Fa U ts->q} (ms:MS) (hs:HS) (A:Nat->Option Lay) (D:q->BH U) (z:Tryz.prog.funcs[f]? = some fn) (h:BlkP f fn ms hs A rt T D)
  (hc:(Eo (EV Tryz.prog gl f ms.1 hs.1 IU) f (Ig fn),fn.name == "runtime.NumGoroutine",fn.body)=(true,false,some (Ig fn))) (C:∀x,D (b0 x)=Bg fn ts x):Ah Tryz.prog B0 f ⟨ts,rt,fun x=>AU T (b0 x),hk⟩:=
 okP (m:=⟨ts,rt,fun x=>AU T (b0 x),hk⟩) h b0 (congrArg (·.1) hc) z (congrArg (·.2.1) hc) (congrArg (·.2.2) hc) (fun _=>rfl) C
theorem okH {f:FuncId} {fn:Func} {ms:MS} {hs:HS} {A:Nat->Option Lay} {fa:List (List Fk)} {fb:List Bf} {k:Nat} {m:HMod U} {q:Type} {T:q->Tr U (U.Ty m.ky⊕q)} {D:q->BH U} (h:BlkH f fn ms hs A fa fb k m T D) (b0:m.Dv.X U->q)
  (hk:∀x:m.Dv.X U,(m.Dv.enc x).2.length=k) (hc:Eo (EV Tryz.prog gl f ms.1 hs.1 IU) f (Ig fn)=true) (z:Tryz.prog.funcs[f]? = some fn) (F:(fn.name == "runtime.NumGoroutine")=false) (hb:fn.body=some (Ig fn))
  (hm:∀x:m.Dv.X U,m.fn x=AU T (b0 x)) (C:∀x:m.Dv.X U,D (b0 x)=Dj fn m.Dv x):Cf Tryz.prog B0 f m:=
 ZCn rfl (wK _ rfl) Qe ms.2 hs.2 z F hb hc m hk T D h b0 hm C
theorem okR {f ky:Nat} {fn:Func} {D:List (List Fk)} {C:List Bf} {Dv Jv:Shape} {one:Bool} {OZ:U.Ty ky->Jv.X U} {G:Dv.OK U} {z:Type} {T:z->Tr U (U.Ty ky⊕z)} {b0:Dv.X U->z} (ms:MS) (hs:HS) (A:Nat->Option Lay) (fa:List (List Fk)) (fb:List Bf) (k:Nat) (I:z->BH U) (F:Tryz.prog.funcs[f]? = some fn)
  (h:BlkH f fn ms hs A fa fb k ⟨D,C,Dv,Jv,one,ky,OZ,fun x=>AU T (b0 x),G⟩ T I) (hc:(Eo (EV Tryz.prog gl f ms.1 hs.1 IU) f (Ig fn),fn.name == "runtime.NumGoroutine",fn.body)=(true,false,some (Ig fn))) (q:∀x,((Dv.enc x).2.length,I (b0 x))=(k,Dj fn Dv x)) :
  Cf Tryz.prog B0 f ⟨D,C,Dv,Jv,one,ky,OZ,fun x=>AU T (b0 x),G⟩:=
 okH (m:=⟨D,C,Dv,Jv,one,ky,OZ,fun x=>AU T (b0 x),G⟩) h b0 (fun x=>congrArg (·.1) (q x)) (congrArg (·.1) hc) F (congrArg (·.2.1) hc) (congrArg (·.2.2) hc) (fun _=>rfl) (fun x=>congrArg (·.2) (q x))
def al:List (Nat×Lay)->Nat->Option Lay
 | [],_=>none
 | (k,L)::l,n=>bif Nat.beq n k then some L else al l n
abbrev S1 (P R:Type):=P->Tr U (R⊕P)
theorem ok1 {f rt:Nat} {ts:List Nat} {hk:∀t∈ts,t∈U.keys} {fn:Func} {T:Fa U ts->Tr U (U.Ty rt⊕Fa U ts)} (ms:MS) (hs:HS) (q:Tryz.prog.funcs[f]? = some fn) (h:BlkP f fn ms hs AN rt T (Bg fn ts))
  (hc:(Eo (EV Tryz.prog gl f ms.1 hs.1 IU) f (Ig fn),fn.name == "runtime.NumGoroutine",fn.body)=(true,false,some (Ig fn))):Ah Tryz.prog B0 f ⟨ts,rt,fun x=>AU T x,hk⟩:=
 Bj (b0:=fun x=>x) ms hs AN (Bg fn ts) q h hc fun _=>rfl
abbrev kL {α:Type} (l:List α):Bool:=l.length==l.length
abbrev kA (n k:Nat):Bool:=decide (n*k<=lim)&&decide (n<=maxLen)
abbrev eqC (u c:AO):Bool:=(u.Kind==c.Kind)&&((u.BL.FP==c.BL.FP)&&((u.BL.FC==c.BL.FC)&&((u.BL.E5==c.BL.E5)&&((u.BL.C9==c.BL.C9)&&((u.BL.FY==c.BL.FY)&&((u.Map==c.Map)&&((u.DZ==c.DZ)&&((u.CQ==c.CQ)&&((u.ER==c.ER)&&((u.CZ==c.CZ)&&((u.Mark==c.Mark)&&((u.D7==c.D7)&&((u.Version==c.Version)&&((u.Length==c.Length)&&true))))))))))))))
abbrev KP:List Fk:=[.keep]
abbrev VC(t n:Nat):Pc:=.v t n false
abbrev OV(t:Nat):Sp:=.one (.v t 1 false)
abbrev PQ(j:Nat):Sp:=.one (.ptr j)
abbrev VA(e m:Nat):Pb:=.var e m (.agg [.v e m true])
def kq(n:Nat)(l:List Fk):List Fk:=List.replicate n .keep++l
abbrev k0:List Fk:=(kq 15 [])
abbrev k1:List Fk:=(kq 3 (.s 156 15::.keep::.keep::.s 138 8::kq 13 []))
abbrev k2:List Fk:=(kq 26 (.s 68 2::kq 10 (.s 156 15::.keep::.keep::.s 138 8::kq 21 (.s 99 2::.s 156 15::.keep::.keep::[]))))
abbrev k3:List Fk:=(kq 4 (.s 5 1::[]))
abbrev k4:List Fk:=(kq 11 [])
abbrev k5:List Fk:=(kq 3 (.own 156 15::.keep::.keep::.own 138 8::kq 15 (.own 156 15::.own 148 18::[])))
abbrev k6:List Fk:=(kq 26 (.s 68 2::kq 10 (.s 156 15::.keep::.keep::.s 138 8::kq 21 (.s 99 2::.s 156 15::kq 28 (.s 68 2::kq 10 (.s 156 15::.keep::.keep::.s 138 8::kq 21 (.s 99 2::.s 156 15::.keep::.keep::[])))))))
abbrev k7:List Fk:=(.keep::.keep::.s 68 2::kq 4 [])
abbrev k8:List Fk:=(kq 7 [])
abbrev k9:List Fk:=(kq 26 (.s 68 2::kq 10 (.s 156 15::.keep::.keep::.s 138 8::kq 21 (.s 99 2::.own 156 15::.keep::.keep::.own 148 18::[]))))
abbrev k10:List Fk:=(kq 26 (.own 68 2::kq 10 (.s 156 15::.keep::.keep::.s 138 8::kq 21 (.s 99 2::.own 156 15::.keep::.keep::.own 148 18::[]))))
abbrev k11:List Fk:=(kq 3 (.s 156 15::.keep::.keep::.s 138 8::kq 15 (.own 156 15::.own 148 18::[])))
abbrev k12:List Fk:=(kq 26 (.own 68 2::kq 10 (.own 156 15::.keep::.keep::.own 138 8::kq 21 (.s 99 2::.own 156 15::.keep::.keep::.own 148 18::[]))))
abbrev k13:List Fk:=(kq 3 (.own 156 15::.keep::.keep::.s 138 8::kq 15 (.own 156 15::.own 148 18::[])))
abbrev k14:List Fk:=(kq 26 (.own 68 2::kq 10 (.own 156 15::.keep::.keep::.own 138 8::kq 21 (.own 99 2::.own 156 15::.keep::.keep::.own 148 18::[]))))
abbrev k15:List Fk:=(kq 8 [])
abbrev k16:List Fk:=(kq 26 (.s 68 2::kq 10 (.s 156 15::.keep::.keep::.s 138 8::kq 21 (.s 99 2::.own 156 15::.keep::.keep::[]))))
abbrev k17:List Fk:=(.keep::.keep::.own 68 2::kq 4 [])
abbrev k18:List Fk:=(kq 14 (.s 113 3::.keep::.keep::[]))
abbrev k19:List Fk:=(kq 5 [])
abbrev k20:List Fk:=(kq 26 (.s 68 2::kq 10 (.own 156 15::.keep::.keep::.own 138 8::kq 21 (.s 99 2::.own 156 15::.keep::.keep::.own 148 18::[]))))
abbrev FV (a:BD):=((a.AA.CB,(a.AA.Own,(a.AA.Since,(a.AA.Other,(a.AA.Fv,(a.AA.Told,(a.AA.D7,(a.AA.I7,(a.AA.Fq,(a.AA.Gi,(a.AA.Version,(a.AA.Length,(a.AA.Limit,(a.AA.CZ,(a.AA.Gw,(a.AA.Mark,(a.AA.Dy,(a.AA.Eb,(a.FX,(a.Hg,())))))))))))))))))))),(a.AA.A8,(a.AA.Aq,(a.f_out,(a.BG,())))))
abbrev TM (a:BQ):=((a.Link.CB,(a.Link.Df,(a.Link.Clock,(a.Link.Event,(a.Link.Last,(a.Link.F9,(a.Link.Size,(a.Link.Sync,(a.Link.Hm,(a.Link.GU,(a.Link.Ez,(a.Link.Good,(a.Link.EX,(a.Link.More,(a.Link.Ar.SN,(a.Link.Ar.EI,(a.Link.Ar.Open,(a.Link.Ar.Empty,(a.Link.Ar.EX,(a.Link.Ar.Taken,(a.Link.DY,(a.Link.AA.CB,(a.Link.AA.Own,(a.Link.AA.Since,(a.Link.AA.Other,(a.Link.AA.Fv,(a.Link.AA.Told,(a.Link.AA.D7,(a.Link.AA.I7,(a.Link.AA.Fq,(a.Link.AA.Gi,(a.Link.AA.Version,(a.Link.AA.Length,(a.Link.AA.Limit,(a.Link.AA.CZ,(a.Link.AA.Gw,(a.Link.AA.Mark,(a.Link.AA.Dy,(a.Link.AA.Eb,(a.Link.EL,(a.Link.Key,(a.Link.CQ,(a.Link.Hq,()))))))))))))))))))))))))))))))))))))))))))),(a.Link.Ar.Ap,(a.Link.AA.A8,(a.Link.AA.Aq,(a.Link.DJ,(a.Link.Ac,(a.Ak,())))))))
abbrev Qw (a:BQ):=(a.Link.CB,(a.Link.Df,(a.Link.Clock,(a.Link.Event,(a.Link.Last,(a.Link.F9,(a.Link.Size,(a.Link.Sync,(a.Link.Hm,(a.Link.GU,(a.Link.Ez,(a.Link.Good,(a.Link.EX,(a.Link.More,(a.Link.Ar,(a.Link.DY,(a.Link.AA,(a.Link.EL,(a.Link.Key,(a.Link.DJ,(a.Link.CQ,(a.Link.Hq,()))))))))))))))))))))))
abbrev Xt (a:Ad):=(a.CB,(a.Df,(a.Clock,(a.Event,(a.Last,(a.F9,(a.Size,(a.Sync,(a.Hm,(a.GU,(a.Ez,(a.Good,(a.EX,(a.More,(a.Ar,(a.DY,(a.AA,(a.EL,(a.Key,(a.DJ,(a.CQ,(a.Hq,()))))))))))))))))))))))
abbrev YC (a:BD):=((a.AA.CB,(a.AA.Own,(a.AA.Since,(a.AA.Other,(a.AA.Fv,(a.AA.Aq,(a.AA.Told,(a.AA.D7,(a.AA.I7,(a.AA.Fq,(a.AA.Gi,(a.AA.Version,(a.AA.Length,(a.AA.Limit,(a.AA.CZ,(a.AA.Gw,(a.AA.Mark,(a.AA.Dy,(a.AA.Eb,(a.FX,(a.Hg,()))))))))))))))))))))),(a.AA.A8,(a.f_out,(a.BG,()))))
abbrev Qs (a:BQ):=(a.Link.CB,(a.Link.Df,(a.Link.Clock,(a.Link.Event,(a.Link.Last,(a.Link.F9,(a.Link.Size,(a.Link.Sync,(a.Link.Hm,(a.Link.GU,(a.Link.Ez,(a.Link.Good,(a.Link.EX,(a.Link.More,(a.Link.Ar.SN,(a.Link.Ar.EI,(a.Link.Ar.Open,(a.Link.Ar.Empty,(a.Link.Ar.EX,(a.Link.Ar.Taken,(a.Link.DY,(a.Link.AA.CB,(a.Link.AA.Own,(a.Link.AA.Since,(a.Link.AA.Other,(a.Link.AA.Fv,(a.Link.AA.Told,(a.Link.AA.D7,(a.Link.AA.I7,(a.Link.AA.Fq,(a.Link.AA.Gi,(a.Link.AA.Version,(a.Link.AA.Length,(a.Link.AA.Limit,(a.Link.AA.CZ,(a.Link.AA.Gw,(a.Link.AA.Mark,(a.Link.AA.Dy,(a.Link.AA.Eb,(a.Link.EL,(a.Link.Key,(a.Link.DJ,(a.Link.CQ,(a.Link.Hq,()))))))))))))))))))))))))))))))))))))))))))))
abbrev VO (a:BQ):=(a.Link.Ar.Ap,(a.Link.AA.A8,(a.Link.AA.Aq,(a.Link.Ac,(a.Ak,())))))
abbrev Xq (a:BD):=(a.AA.CB,(a.AA.Own,(a.AA.Since,(a.AA.Other,(a.AA.Fv,(a.AA.Told,(a.AA.D7,(a.AA.I7,(a.AA.Fq,(a.AA.Gi,(a.AA.Version,(a.AA.Length,(a.AA.Limit,(a.AA.CZ,(a.AA.Gw,(a.AA.Mark,(a.AA.Dy,(a.AA.Eb,(a.FX,(a.Hg,()))))))))))))))))))))
abbrev VN (a:BD):=((a.AA,(a.FX,(a.Hg,()))),(a.f_out,(a.BG,())))
abbrev YD (a:BQ):=(a.Link.CB,(a.Link.Df,(a.Link.Clock,(a.Link.Event,(a.Link.Last,(a.Link.F9,(a.Link.Size,(a.Link.Sync,(a.Link.Hm,(a.Link.GU,(a.Link.Ez,(a.Link.Good,(a.Link.EX,(a.Link.More,(a.Link.Ar.SN,(a.Link.Ar.EI,(a.Link.Ar.Open,(a.Link.Ar.Empty,(a.Link.Ar.EX,(a.Link.Ar.Taken,(a.Link.DY,(a.Link.AA,(a.Link.EL,(a.Link.Key,(a.Link.DJ,(a.Link.CQ,(a.Link.Hq,())))))))))))))))))))))))))))
abbrev TK (a:BQ):=((a.Link.CB,(a.Link.Df,(a.Link.Clock,(a.Link.Event,(a.Link.Last,(a.Link.F9,(a.Link.Size,(a.Link.Sync,(a.Link.Hm,(a.Link.GU,(a.Link.Ez,(a.Link.Good,(a.Link.EX,(a.Link.More,(a.Link.Ar.SN,(a.Link.Ar.EI,(a.Link.Ar.Open,(a.Link.Ar.Empty,(a.Link.Ar.EX,(a.Link.Ar.Taken,(a.Link.DY,(a.Link.AA,(a.Link.EL,(a.Link.Key,(a.Link.DJ,(a.Link.CQ,(a.Link.Hq,()))))))))))))))))))))))))))),(a.Link.Ar.Ap,(a.Link.Ac,(a.Ak,()))))
abbrev VF (a:BQ):=((a.Link.CB,(a.Link.Df,(a.Link.Clock,(a.Link.Event,(a.Link.Last,(a.Link.F9,(a.Link.Size,(a.Link.Sync,(a.Link.Hm,(a.Link.GU,(a.Link.Ez,(a.Link.Good,(a.Link.EX,(a.Link.More,(a.Link.Ar,(a.Link.DY,(a.Link.AA,(a.Link.EL,(a.Link.Key,(a.Link.DJ,(a.Link.CQ,(a.Link.Hq,())))))))))))))))))))))),(a.Link.Ac,(a.Ak,())))
abbrev y8 (a:BR):=(a.SN,(a.EI,(a.Open,(a.Empty,(a.EX,(a.Taken,()))))))
abbrev tu13 (a:BD):=(a.AA.CB,(a.AA.Own,(a.AA.Since,(a.AA.Other,(a.AA.Fv,(a.AA.Aq,(a.AA.Told,(a.AA.D7,(a.AA.I7,(a.AA.Fq,(a.AA.Gi,(a.AA.Version,(a.AA.Length,(a.AA.Limit,(a.AA.CZ,(a.AA.Gw,(a.AA.Mark,(a.AA.Dy,(a.AA.Eb,(a.FX,(a.Hg,())))))))))))))))))))))
abbrev tu14 (a:BQ):=((a.Link.CB,(a.Link.Df,(a.Link.Clock,(a.Link.Event,(a.Link.Last,(a.Link.F9,(a.Link.Size,(a.Link.Sync,(a.Link.Hm,(a.Link.GU,(a.Link.Ez,(a.Link.Good,(a.Link.EX,(a.Link.More,(a.Link.Ar.SN,(a.Link.Ar.EI,(a.Link.Ar.Open,(a.Link.Ar.Empty,(a.Link.Ar.EX,(a.Link.Ar.Taken,(a.Link.DY,(a.Link.AA.CB,(a.Link.AA.Own,(a.Link.AA.Since,(a.Link.AA.Other,(a.Link.AA.Fv,(a.Link.AA.Told,(a.Link.AA.D7,(a.Link.AA.I7,(a.Link.AA.Fq,(a.Link.AA.Gi,(a.Link.AA.Version,(a.Link.AA.Length,(a.Link.AA.Limit,(a.Link.AA.CZ,(a.Link.AA.Gw,(a.Link.AA.Mark,(a.Link.AA.Dy,(a.Link.AA.Eb,(a.Link.EL,(a.Link.Key,(a.Link.DJ,(a.Link.CQ,(a.Link.Hq,())))))))))))))))))))))))))))))))))))))))))))),(a.Link.Ar.Ap,(a.Link.AA.A8,(a.Link.AA.Aq,(a.Link.Ac,(a.Ak,()))))))
abbrev Ep (i:Nat):Sp:=.agg [.v 3 1 false,.v 3 1 false,.v 3 1 false,.own 156 i,.v 3 1 false,.v 3 1 false,.own 138 (i+1),.v 4 1 false,.v 25 1 false,.v 25 1 false,.v 4 1 false,.v 4 1 false,.v 3 1 false,.v 3 1 false,.v 3 1 false,.v 25 1 false,.v 25 1 false,.v 25 1 false,.v 3 1 false,.v 3 1 false,.v 30 1 false,.v 3 1 false,.own 156 (i+2),.own 148 (i+3)]
abbrev Jh (i:Nat):Sp:=.agg [.v 3 1 false,.v 28 11 true,.v 3 1 false,.v 30 1 false,.v 3 1 false,.v 3 1 false,.v 3 1 false,.v 3 1 false,.v 3 1 false,.v 4 1 false,.v 4 1 false,.v 4 1 false,.v 4 1 false,.v 4 1 false,.v 33 7 true,.v 35 3 true,.v 39 20 true,.v 41 7 true,.v 29 1 false,.v 42 1 false,.own 156 i,.v 3 1 false,.v 25 1 false,.own 148 (i+1)]
abbrev Lt (i:Nat):Sp:=.agg [.v 3 1 false,.v 28 11 true,.v 3 1 false,.v 30 1 false,.v 3 1 false,.v 3 1 false,.v 3 1 false,.v 3 1 false,.v 3 1 false,.v 4 1 false,.v 4 1 false,.v 4 1 false,.v 4 1 false,.v 4 1 false,.v 3 1 false,.v 3 1 false,.own 68 i,.v 4 1 false,.v 4 1 false,.v 3 1 false,.v 3 1 false,.v 35 3 true,.v 39 20 true,.v 41 7 true,.v 29 1 false,.v 42 1 false,.own 156 (i+1),.v 3 1 false,.v 25 1 false,.own 148 (i+2)]
abbrev TP (i:Nat):Sp:=.agg [.v 39 20 true,.v 30 1 false,.v 3 1 false,.own 156 i,.own 148 (i+1)]
abbrev TL (i:Nat):Sp:=.agg [.v 3 1 false,.v 28 11 true,.v 3 1 false,.v 30 1 false,.v 3 1 false,.v 3 1 false,.v 3 1 false,.v 3 1 false,.v 3 1 false,.v 4 1 false,.v 4 1 false,.v 4 1 false,.v 4 1 false,.v 4 1 false,.v 3 1 false,.v 3 1 false,.own 68 i,.v 4 1 false,.v 4 1 false,.v 3 1 false,.v 3 1 false,.v 35 3 true,.v 3 1 false,.v 3 1 false,.v 3 1 false,.own 156 (i+1),.v 3 1 false,.v 3 1 false,.own 138 (i+2),.v 4 1 false,.v 25 1 false,.v 25 1 false,.v 4 1 false,.v 4 1 false,.v 3 1 false,.v 3 1 false,.v 3 1 false,.v 25 1 false,.v 25 1 false,.v 25 1 false,.v 3 1 false,.v 3 1 false,.v 41 7 true,.v 29 1 false,.v 42 1 false,.own 156 (i+3),.v 3 1 false,.v 25 1 false,.own 148 (i+4)]
abbrev Xp (i:Nat):Sp:=.agg [.v 3 1 false,.v 28 11 true,.v 3 1 false,.v 30 1 false,.v 3 1 false,.v 3 1 false,.v 3 1 false,.v 3 1 false,.v 3 1 false,.v 4 1 false,.v 4 1 false,.v 4 1 false,.v 4 1 false,.v 4 1 false,.v 3 1 false,.v 3 1 false,.own 68 i,.v 4 1 false,.v 4 1 false,.v 3 1 false,.v 3 1 false,.v 35 3 true,.v 3 1 false,.v 3 1 false,.v 3 1 false,.own 156 (i+1),.v 3 1 false,.v 3 1 false,.own 138 (i+2),.v 4 1 false,.v 25 1 false,.v 25 1 false,.v 4 1 false,.v 4 1 false,.v 3 1 false,.v 3 1 false,.v 3 1 false,.v 25 1 false,.v 25 1 false,.v 25 1 false,.v 3 1 false,.v 3 1 false,.v 41 7 true,.v 29 1 false,.own 99 (i+3),.own 156 (i+4),.v 3 1 false,.v 25 1 false,.own 148 (i+5)]
abbrev lD (i:Nat):Sp:=.agg [.v 3 1 false,.v 28 11 true,.v 3 1 false,.v 30 1 false,.v 3 1 false,.v 3 1 false,.v 3 1 false,.v 3 1 false,.v 3 1 false,.v 4 1 false,.v 4 1 false,.v 4 1 false,.v 4 1 false,.v 4 1 false,.v 33 7 true,.v 35 3 true,.v 39 20 true,.v 41 7 true,.v 29 1 false,.v 42 1 false,.own 156 i,.v 3 1 false,.v 25 1 false]
abbrev kW (i:Nat):Sp:=.agg [.v 3 1 false,.v 3 1 false,.v 3 1 false,.own 156 i,.v 3 1 false,.v 3 1 false,.v 37 1 false,.v 4 1 false,.v 25 1 false,.v 25 1 false,.v 4 1 false,.v 4 1 false,.v 3 1 false,.v 3 1 false,.v 3 1 false,.v 25 1 false,.v 25 1 false,.v 25 1 false,.v 3 1 false,.v 3 1 false,.v 30 1 false,.v 3 1 false,.own 156 (i+1),.own 148 (i+2)]
abbrev zJ (i:Nat):Sp:=.agg [.v 3 1 false,.v 3 1 false,.own 68 i,.v 4 1 false,.v 4 1 false,.v 3 1 false,.v 3 1 false]
abbrev ag9 (q z A C D:Nat):Sp:=.agg [.v 3 1 false,.v 28 11 true,.v 3 1 false,.v 30 1 false,.v 3 1 false,.v 3 1 false,.v 3 1 false,.v 3 1 false,.v 3 1 false,.v 4 1 false,.v 4 1 false,.v 4 1 false,.v 4 1 false,.v 4 1 false,.v 3 1 false,.v 3 1 false,.own 68 q,.v 4 1 false,.v 4 1 false,.v 3 1 false,.v 3 1 false,.v 35 3 true,.v 3 1 false,.v 3 1 false,.v 3 1 false,.own 156 z,.v 3 1 false,.v 3 1 false,.own 138 A,.v 4 1 false,.v 25 1 false,.v 25 1 false,.v 4 1 false,.v 4 1 false,.v 3 1 false,.v 3 1 false,.v 3 1 false,.v 25 1 false,.v 25 1 false,.v 25 1 false,.v 3 1 false,.v 3 1 false,.v 41 7 true,.v 29 1 false,.v 42 1 false,.own 156 C,.v 3 1 false,.v 25 1 false,.own 148 D]
abbrev ag10 (i:Nat):Sp:=.agg [.v 3 1 false,.v 28 11 true,.v 3 1 false,.v 30 1 false,.v 3 1 false,.v 3 1 false,.v 3 1 false,.v 3 1 false,.v 3 1 false,.v 4 1 false,.v 4 1 false,.v 4 1 false,.v 4 1 false,.v 4 1 false,.v 33 7 true,.v 35 3 true,.v 3 1 false,.v 3 1 false,.v 3 1 false,.own 156 i,.v 3 1 false,.v 3 1 false,.own 138 (i+1),.v 4 1 false,.v 25 1 false,.v 25 1 false,.v 4 1 false,.v 4 1 false,.v 3 1 false,.v 3 1 false,.v 3 1 false,.v 25 1 false,.v 25 1 false,.v 25 1 false,.v 3 1 false,.v 3 1 false,.v 41 7 true,.v 29 1 false,.v 42 1 false,.own 156 (i+2),.v 3 1 false,.v 25 1 false,.own 148 (i+3)]
abbrev ag11 (q z A:Nat):Sp:=.agg [.v 3 1 false,.v 3 1 false,.v 3 1 false,.own 156 q,.v 3 1 false,.v 3 1 false,.v 37 1 false,.v 4 1 false,.v 25 1 false,.v 25 1 false,.v 4 1 false,.v 4 1 false,.v 3 1 false,.v 3 1 false,.v 3 1 false,.v 25 1 false,.v 25 1 false,.v 25 1 false,.v 3 1 false,.v 3 1 false,.v 30 1 false,.v 3 1 false,.own 156 z,.own 148 A]
abbrev kl {α L:Type} (l:List α) (t:Tr U L):Tr U L:=.chk (kL l) t
abbrev kI {α:Type} (i:Int) (l:List α):Bool:=decide (0<=i/\i<(l.length:Int))
abbrev AB {L M:Type} (x:L):Tr U (L⊕M):=.leaf (.inl x)
abbrev AP {L M:Type} (x:M):Tr U (L⊕M):=.leaf (.inr x)
theorem DN:(∀(L R:Type) (l:L) (J:L->Option R),(Tr.leaf l:Tr U L).den J=J l)/\(∀(L R:Type) (c:Bool) (a b:Tr U L) (J:L->Option R),(Tr.br c a b).den J=cond c (a.den J) (b.den J))/\(∀(L R:Type) (t:Nat) (o:Option (U.Ty t)) (k:U.Ty t->Tr U L) (J:L->Option R),(Tr.bind t o k).den J=o.bind fun x=>(k x).den J) /\
  (∀(L R:Type) (c:Bool) (a:Tr U L) (J:L->Option R),(Tr.chk c a).den J=cond c (a.den J) none)/\(∀(L R:Type) (J:L->Option R),(Tr.fail:Tr U L).den J=none)/\(∀(R P:Type) (g:P->Option R) (r:R),IL g (.inl r)=some r)/\(∀(R P:Type) (g:P->Option R) (q:P),IL g (.inr q)=g q) /\
  (∀(α:Type) (l:List α),kL l=true)/\(∀(L R α:Type) (l:List α) (a:Tr U L) (J:L->Option R),(kl l a).den J=a.den J)/\(∀(L R:Type) (a:Tr U L) (J:L->Option R),(Tr.chk true a).den J=a.den J)/\(∀(α:Type) (i:Int) (l:List α),kI i l=decide (0<=i/\i<(l.length:Int)))/\(∀n k:Nat,kA n k=(decide (n*k<=lim)&&decide (n<=maxLen))):=
 ⟨fun _ _ _ _=>rfl,fun _ _ _ _ _ _=>rfl,fun _ _ _ _ _ _=>rfl,fun _ _ _ _ _=>rfl,fun _ _ _=>rfl,fun _ _ _ _=>rfl,fun _ _ _ _=>rfl,fun _ _=>beq_self_eq_true _,fun _ _ _ l a J=>by show cond (l.length==l.length) (a.den J) none=_;rw[beq_self_eq_true];rfl,fun _ _ _ _=>rfl,fun _ _ _=>rfl,fun _ _=>rfl⟩
abbrev ZAj (x:BR):uV:=⟨x.SN,x.EI,x.Open,x.Empty,x.EX,x.Taken⟩
abbrev Zvy (x:AZ):WN:=⟨x.CB,x.Own,x.Since,x.Other,x.Fv,x.Told,x.D7,x.I7,x.Fq,x.Gi,x.Version,x.Length,x.Limit,x.CZ,x.Gw,x.Mark,x.Dy,x.Eb⟩
abbrev WG (x:BQ):Jm:=⟨(⟨x.Link.CB,x.Link.Df,x.Link.Clock,x.Link.Event,x.Link.Last,x.Link.F9,x.Link.Size,x.Link.Sync,x.Link.Hm,x.Link.GU,x.Link.Ez,x.Link.Good,x.Link.EX,x.Link.More,(⟨x.Link.Ar.SN,x.Link.Ar.EI,x.Link.Ar.Open,x.Link.Ar.Empty,x.Link.Ar.EX,x.Link.Ar.Taken⟩:uV),x.Link.DY,(⟨x.Link.AA.CB,x.Link.AA.Own,x.Link.AA.Since,x.Link.AA.Other,x.Link.AA.Fv,x.Link.AA.Told,x.Link.AA.D7,x.Link.AA.I7,x.Link.AA.Fq,x.Link.AA.Gi,x.Link.AA.Version,x.Link.AA.Length,x.Link.AA.Limit,x.Link.AA.CZ,x.Link.AA.Gw,x.Link.AA.Mark,x.Link.AA.Dy,x.Link.AA.Eb⟩:WN),x.Link.EL,x.Link.Key,x.Link.CQ,x.Link.Hq⟩:sV)⟩
abbrev UL (x:BD):RP:=⟨(⟨x.AA.CB,x.AA.Own,x.AA.Since,x.AA.Other,x.AA.Fv,x.AA.Told,x.AA.D7,x.AA.I7,x.AA.Fq,x.AA.Gi,x.AA.Version,x.AA.Length,x.AA.Limit,x.AA.CZ,x.AA.Gw,x.AA.Mark,x.AA.Dy,x.AA.Eb⟩:WN),x.FX,x.Hg⟩
abbrev ZrW (x:Bq):RY:=⟨x.CB,x.Key,x.CZ,x.Nh,x.IY,x.Tx,x.Rx⟩
def Zir:List Nat:=[115,206,338,3369,3385,4,5,89,3,60,77,86,78,62,36,37,42,45,46,110,29,25,26,226,63,75,71,120,104,30,22,189,129,135,140,208,216,269,222,9,254,163,231,233,237,31,194,256,253,279,240]
def Zip:List (Nat×Nat):=[(83,12),(113,3),(59,17),(68,2),(156,15),(138,8),(99,2),(44,66),(148,18),(35,3),(33,7),(109,132),(28,11),(52,2),(39,20),(24,5),(70,5),(262,11),(41,7),(312,2),(252,2),(174,3)]
theorem ZCP:∀t∈Zir,t∈U.keys/\∀a,cellsS (U.encS t a)=[U.encS t a]:=by
 intro t ht
 repeat (rcases List.mem_cons.1 ht with rfl|ht;exact⟨by decide,fun _=>rfl⟩)
 cases ht
theorem ZDQ:∀p∈Zip,p.1∈U.keys/\∀a,∃cs,U.encS p.1 a = .agg cs/\cs.length=p.2:=by
 intro p ht
 repeat (rcases List.mem_cons.1 ht with rfl|ht;exact⟨by decide,fun _=>⟨_,rfl,rfl⟩⟩)
 cases ht
theorem okS {s:Shape} (h:shB U Zir Zip s=true):s.OK U:=Shape.ok_of ZCP ZDQ h
def kt:Nat->List Fk
 | 24=>k19
 | 28=>k4
 | 31=>[.s 68 2]
 | 33=>k7
 | 37=>[.s 138 8]
 | 39=>k1
 | 41=>k8
 | 42=>[.s 99 2]
 | 44=>k2
 | 59=>k18
 | 62=>[.s 5 1]
 | 68=>[.keep,.s 5 1]
 | 70=>k3
 | 77=>[.s 148 18]
 | 83=>(kq 3 (.s 5 1::kq 8 []))
 | 89=>[.s 4 1]
 | 99=>[.keep,.keep]
 | 109=>k6
 | 113=>[.s 83 12,.keep,.keep]
 | 138=>k15
 | 156=>k0
 | 226=>[.s 3 1]
 | 240=>[.s 174 3]
 | 252=>[.keep,.keep]
 | 253=>[.s 252 2]
 | 254=>[.s 25 1]
 | 256=>[.s 62 1]
 | 262=>k4
 | 312=>[.keep,.keep]
 | _=>[.keep]
inductive Sl where
 | v (t:Nat)|a (t:Nat)|p (j:Nat)|o (e n j:Nat)
inductive Bo where
 | v (t:Nat)|s (t:Nat)|r (e:Nat)
def LT (s:List Nat) (l:List Sl) (b:List Bo):Lay:=
 ⟨s,l.map fun | .v t=>kt t | .a t=>kt t | .p _=>[.keep] | .o e n _=>[.own e n],b.map fun | .v t=>.var (kt t) | .s t=>.var (kt t) | .r _=>.row true,
  ⟨l.map fun | .v t=>.one (.v t 1 false) | .a t=>.agg [.v t (kt t).length true] | .p j=>.one (.ptr j) | .o e _ j=>.one (.own e j),
   b.map fun | .v t=>.var t 1 (.one (.v t 1 false)) | .s t=>.var t (kt t).length (.agg [.v t (kt t).length true]) | .r e=>.row e true⟩⟩
abbrev AA0 (f:Nat) (m:Ai U):Prop:=Ah Tryz.prog B0 f m
theorem AA2 {ts:List Nat} (h:ts.all U.keys.contains=true):∀t∈ts,t∈U.keys:=by simpa using h
abbrev AA1 (f:Nat) (ts:List Nat) (rt:Nat) (fn:Fa U ts->Option (U.Ty rt)) (h:ts.all U.keys.contains=true):Prop:=Ah Tryz.prog B0 f ⟨ts,rt,fn,AA2 h⟩
@[reducible] def AA4 (R:Type):List Pc->Type
 | []=>R
 | .v t _ _::ps=>U.Ty t×AA4 R ps
 | _::ps=>AA4 R ps
@[reducible] def AA5 (R:Type):List Sp->Type
 | []=>R
 | p::ps=>AA4 (AA5 R ps) p.cells
@[reducible] def AA6:List Pb->Type
 | []=>Unit
 | .var _ _ p::q=>AA4 (AA6 q) p.cells
 | .row t _::q=>List (U.Ty t)×AA6 q
def AA7 {R:Type}:(l:List Pc)->AA4 R l->PX U l×R
 | [],x=>((),x)
 | .v _ _ _::ps,x=>((x.1,(AA7 ps x.2).1),(AA7 ps x.2).2)
 | .own _ _::ps,x=>AA7 ps x
 | .ptr _::ps,x=>AA7 ps x
 | .fn _ _ _::ps,x=>AA7 ps x
 | .no::ps,x=>AA7 ps x
 | .und::ps,x=>AA7 ps x
 | .kY _::ps,x=>AA7 ps x
def AA8 {R:Type}:(l:List Sp)->AA5 R l->AX U l×R
 | [],x=>((),x)
 | p::ps,x=>(((AA7 p.cells x).1,(AA8 ps (AA7 p.cells x).2).1),(AA8 ps (AA7 p.cells x).2).2)
def AA9:(l:List Pb)->AA6 l->BX U l
 | [],_=>()
 | .var _ _ p::q,x=>((AA7 p.cells x).1,AA9 q (AA7 p.cells x).2)
 | .row _ _::q,x=>(x.1,AA9 q x.2)
noncomputable def AA3 (fn:Func) (p:List Nat) (L:Lay) (x:AA5 (AA6 L.sh.boxes) L.sh.args):BH U:=Ae fn p L ((AA8 _ x).1,AA9 _ (AA8 _ x).2)
end
end Go.Proofs.YtjodhcdmhobmoaaGreatDoor
