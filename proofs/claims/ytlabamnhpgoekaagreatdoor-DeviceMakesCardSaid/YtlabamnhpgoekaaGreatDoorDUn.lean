/- A part of it. -/
import Derived.Test.YtlabamnhpgoekaaGreatDoorL6
import Derived.Test.YtlabamnhpgoekaaGreatDoorProg
import Derived.KernelRfl
set_option linter.unusedVariables false
set_option linter.unusedSimpArgs false
namespace Go.Proofs.YtlabamnhpgoekaaGreatDoor
open Go Go.Proofs.YtlabamnhpgoekaaGreatDoor.Le
set_option maxRecDepth 100000
noncomputable section
structure Gv where
 He:Int
 Start:Int
structure Aa where
 Kind:Int
 Bits:Int
structure Bv where
 Address:Aa
 Dq:Int
structure BB where
 High:Int
 Low:Int
structure Ac where
 G8:Int
 BL:BB
 EH:Int
 Value:List Int
@[reducible] def dV:Ac:=⟨(0:Int),(⟨(0:Int),(0:Int)⟩:BB),(0:Int),[]⟩
structure BG where
 BL:BB
 Props:Int
 EH:Int
 Value:List Int
 More:List Ac
@[reducible] def lK:BG:=⟨(⟨(0:Int),(0:Int)⟩:BB),(0:Int),(0:Int),[],[]⟩
structure Am where
 BL:BB
 KR:Bool
 BC:List BG
@[reducible] def gJ:Am:=⟨(⟨(0:Int),(0:Int)⟩:BB),false,[]⟩
structure GZ where
 IO:Int
 IE:Bool
 Rz:Bool
 Yf:Bool
 YR:Bool
 YM:Bool
@[reducible] def Nr:GZ:=⟨(0:Int),false,false,false,false,false⟩
structure C9 where
 Clock:Gv
 DT:Bv
 Fa:Bool
 Hq:Int
 CO:List Am
 Cc:GZ
 RP:Bool
 Hz:Int
 Ea:Int
@[reducible] def yC:C9:=⟨(⟨(0:Int),(0:Int)⟩:Gv),(⟨(⟨(0:Int),(0:Int)⟩:Aa),(0:Int)⟩:Bv),false,(0:Int),[],Nr,false,(0:Int),(0:Int)⟩
structure Dx where
 x0:List Int
 x1:List Int
structure BV where
 DV:Dx
structure CQ where
 Key:Int
 Value:List Int
structure Bj where
 Gh:BV
 Ew:Int
 Count:Int
 End:Int
 Items:List CQ
@[reducible] def W9:Bj:=⟨(⟨(⟨[],[]⟩:Dx)⟩:BV),(0:Int),(0:Int),(0:Int),[]⟩
structure FN where
 G8:Int
 Bits:Int
structure Di where
 GX:Bv
 V8:Int
 Mark:Int
 qK:Bool
 Hash:Int
 Ut:Bool
 ML:List FN
 tK:Int
@[reducible] def Z1u:Di:=⟨(⟨(⟨(0:Int),(0:Int)⟩:Aa),(0:Int)⟩:Bv),(0:Int),(0:Int),false,(0:Int),false,[],(0:Int)⟩
structure Ey where
 G8:Int
 Last:Int
 Value:Int
 Props:Int
 BL:BB
structure XM where
 Valid:Bool
 Hash:Int
 Found:List Ey
 Doubt:Bool
@[reducible] def jH:XM:=⟨false,(0:Int),[],false⟩
structure Dv where
 GX:Aa
 Cache:XM
structure KF where
 Kind:Int
 NH:Int
 Own:Aa
 Target:Aa
 Data:List Int
 VG:List Int
 PS:Int
 KZ:List Aa
 KJ:List Bv
 Hz:Int
@[reducible] def dQ:KF:=⟨(0:Int),(0:Int),(⟨(0:Int),(0:Int)⟩:Aa),(⟨(0:Int),(0:Int)⟩:Aa),[],[],(0:Int),[],[],(0:Int)⟩
structure Fq where
 CX:KF
 On:Bool
 Event:Int
 Next:Int
@[reducible] def II:Fq:=⟨dQ,false,(0:Int),(0:Int)⟩
structure KE where
 NH:Int
 rG:Int
 qV:Bool
 PS:Int
 KZ:List Aa
 KJ:List Bv
 Own:Aa
 rE:Bool
@[reducible] def dC:KE:=⟨(0:Int),(0:Int),false,(0:Int),[],[],(⟨(0:Int),(0:Int)⟩:Aa),false⟩
structure Fv where
 CX:KE
 On:Bool
 Start:Int
 Upper:Int
 Count:Int
 Fails:Int
 uM:Int
 Wait:Aa
 Seen:List Aa
 Hz:Int
@[reducible] def IJ:Fv:=⟨dC,false,(0:Int),(0:Int),(0:Int),(0:Int),(0:Int),(⟨(0:Int),(0:Int)⟩:Aa),[],(0:Int)⟩
structure Qd where
 ZiC:Int
 Zef:Int
 NH:Int
 o7:Int
 Zia:Int
@[reducible] def Zan:Qd:=⟨(0:Int),(0:Int),(0:Int),(0:Int),(0:Int)⟩
structure fF where
 ZlE:Int
 Init:Int
 PZ:Qd
 Map:Int
 Hop:Int
 He:Int
 Zeq:Int
@[reducible] def Z7r:fF:=⟨(0:Int),(0:Int),Zan,(0:Int),(0:Int),(0:Int),(0:Int)⟩
structure Oq where
 LLID:Int
 Payload:List Int
structure o9 where
 SN:Int
 NESN:Int
 sJ:List Oq
 Open:Bool
 Empty:Bool
 sZ:Int
 Taken:Int
@[reducible] def Ze4:o9:=⟨(0:Int),(0:Int),[],false,false,(0:Int),(0:Int)⟩
structure gY where
 o7:Int
 Zhh:Int
 Full:Bool
@[reducible] def Z7Q:gY:=⟨(0:Int),(0:Int),false⟩
structure F8 where
 Kind:Int
 PZ:Qd
 Map:Int
 o6:Int
 Ue:Int
 Zgz:Int
 VU:Int
 Mark:Int
 Cc:Int
 Version:Int
 Length:Int
structure Gt where
 Kind:Int
 o6:Int
 PZ:Qd
 Map:Int
structure mW where
 Nk:Int
 Own:Int
 Since:Int
 pO:List F8
 Other:Int
 ZeB:Int
 Zhw:List Gt
 Told:Bool
 Cc:Int
 ZlO:Int
 Known:Bool
 ZeV:Bool
 Version:Int
 Length:Int
 Limit:Int
 VU:Int
 GX:Int
 Mark:Int
 tC:Int
 Ended:Int
@[reducible] def ZbR:mW:=⟨(0:Int),(0:Int),(0:Int),[],(0:Int),(0:Int),[],false,(0:Int),(0:Int),false,false,(0:Int),(0:Int),(0:Int),(0:Int),(0:Int),(0:Int),(0:Int),(0:Int)⟩
structure jV where
 Nk:Int
 Key:Int
 VU:Int
 TxOn:Bool
 RxOn:Bool
 Tx:Int
 Rx:Int
@[reducible] def Z9L:jV:=⟨(0:Int),(0:Int),(0:Int),false,false,(0:Int),(0:Int)⟩
structure Gw where
 Good:Int
 Bad:Int
structure nZ where
 Nk:Int
 CX:fF
 Clock:Int
 Event:Int
 Last:Int
 ZjQ:Int
 Size:Int
 Sync:Int
 Heard:Int
 Begun:Bool
 Got:Bool
 Good:Bool
 sZ:Bool
 More:Bool
 Arq:o9
 Zla:gY
 Procs:mW
 ZhB:jV
 Key:Int
 ZhL:List Gw
 ZgN:List F8
 Ue:Int
 Hz:Int
@[reducible] def ZcZ:nZ:=⟨(0:Int),Z7r,(0:Int),(0:Int),(0:Int),(0:Int),(0:Int),(0:Int),(0:Int),false,false,false,false,false,Ze4,Z7Q,ZbR,Z9L,(0:Int),[],[],(0:Int),(0:Int)⟩
structure Gn where
 VY:Int
 LK:Int
 V4:Int
 pI:Int
 Level:Int
structure Gp where
 Local:Int
 Zkh:Int
 VY:Int
 LK:Int
 V4:Int
 ZhG:Int
 Zho:Int
 ZeJ:Int
 Zf9:Int
 Given:Int
 Out:List (List Int)
 Sent:Int
 In:List Int
 Want:Int
 Failed:Bool
structure Gs where
 Kind:Int
 ID:Int
 VY:Int
 Source:Int
 Dest:Int
 LK:Int
 V4:Int
 pI:Int
 Result:Int
 PZ:Qd
structure gU where
 On:Bool
 Buffer:List Int
structure Gu where
 CID:Int
 Payload:List Int
structure pR where
 Nk:Int
 Level:Int
 Zfc:List Gn
 ZfV:List Gp
 Asked:List Gs
 Zkd:Int
 Zfd:gU
 Out:List Gu
 Sent:Int
 Length:Int
@[reducible] def Zfk:pR:=⟨(0:Int),(0:Int),[],[],[],(0:Int),(⟨false,[]⟩:gU),[],(0:Int),(0:Int)⟩
structure Gm where
 G8:Int
 NV:Int
 Value:List Int
structure Gq where
 G8:Int
 Last:Int
 BL:BB
 Value:List Int
structure Fz where
 Kind:Int
 Asked:Int
 G8:Int
 Last:Int
 BL:BB
 NV:Int
 LK:Int
 Code:Int
 qQ:Bool
 Value:List Int
 List:List Gq
@[reducible] def Z9W:Fz:=⟨(0:Int),(0:Int),(0:Int),(0:Int),(⟨(0:Int),(0:Int)⟩:BB),(0:Int),(0:Int),(0:Int),false,[],[]⟩
structure lN where
 DB:List Ac
 LK:Int
 Max:Int
 Level:Int
 sJ:List Gm
 Ut:Int
 RP:Bool
 ML:List FN
 Out:List Fz
 Wait:Bool
 Since:Int
@[reducible] def Za3:lN:=⟨[],(0:Int),(0:Int),(0:Int),[],(0:Int),false,[],[],false,(0:Int)⟩
structure FP where
 Kind:Int
 First:Int
 Last:Int
 G8:Int
 Value:List Int
 NV:Int
 Found:List Ey
 Bad:Bool
@[reducible] def ZdG:FP:=⟨(0:Int),(0:Int),(0:Int),(0:Int),[],(0:Int),[],false⟩
structure lQ where
 LK:Int
 Max:Int
 Task:FP
 Asked:Fz
 Busy:Bool
 Since:Int
 Dead:Bool
 pO:List FP
@[reducible] def Zaw:lQ:=⟨(0:Int),(0:Int),ZdG,Z9W,false,(0:Int),false,[]⟩
structure jL where
 Value:Int
 ZlG:Int
structure fD where
 Nk:Int
 Cc:GZ
 Own:Aa
 GX:Aa
 DT:Bv
 Zlr:Int
 Hz:Int
 Mine:Int
 IE:jL
@[reducible] def Z7m:fD:=⟨(0:Int),Nr,(⟨(0:Int),(0:Int)⟩:Aa),(⟨(0:Int),(0:Int)⟩:Aa),(⟨(⟨(0:Int),(0:Int)⟩:Aa),(0:Int)⟩:Bv),(0:Int),(0:Int),(0:Int),(⟨(0:Int),(0:Int)⟩:jL)⟩
structure lH where
 GH:fD
 Phase:Int
 Since:Int
 Method:Int
 GX:GZ
 Zio:GZ
 ZfJ:GZ
 ZhJ:Int
 Shared:Int
 Nonce:Int
 Other:Int
 qQ:Int
 Have:Bool
 Zig:Int
 Round:Int
 ZjJ:Bool
 Zik:Int
 Zk7:Bool
 tC:Bool
 V8:Int
 DT:Bv
 Drawn:Int
 Ue:Int
@[reducible] def ZaL:lH:=⟨Z7m,(0:Int),(0:Int),(0:Int),Nr,Nr,Nr,(0:Int),(0:Int),(0:Int),(0:Int),(0:Int),false,(0:Int),(0:Int),false,(0:Int),false,false,(0:Int),(⟨(⟨(0:Int),(0:Int)⟩:Aa),(0:Int)⟩:Bv),(0:Int),(0:Int)⟩
structure EM where
 Number:Int
 Address:Aa
 Link:nZ
 Mux:pR
 Server:lN
 Zk4:lQ
 Cache:XM
 Zht:lH
 Rz:Int
 Level:Int
 Zgw:Bool
 ZkJ:Bool
 Before:Int
 Found:List Ey
 Tasks:List FP
@[reducible] def Z1y:EM:=⟨(0:Int),(⟨(0:Int),(0:Int)⟩:Aa),ZcZ,Zfk,Za3,Zaw,jH,ZaL,(0:Int),(0:Int),false,false,(0:Int),[],[]⟩
structure DY where
 Ew:Int
 rX:Bool
 NV:Int
 Bytes:List Int
@[reducible] def Z0p:DY:=⟨(0:Int),false,(0:Int),[]⟩
structure Cb where
 GH:C9
 Up:Bool
 Store:Bj
 Y1:List Di
 DB:List Ac
 JI:List Dv
 XG:Fq
 Xo:Fv
 Rn:Aa
 N9:List EM
 Writes:List DY
 X4:Int
 YS:Int
@[reducible] def E8:Cb:=⟨yC,false,W9,[],[],[],II,IJ,(⟨(0:Int),(0:Int)⟩:Aa),[],[],(0:Int),(0:Int)⟩
structure KO where
 x0:Int
 x1:Int
 x2:Int
 x3:Int
 x4:Int
 x5:Int
 x6:Int
 x7:Int
 x8:Int
 x9:Int
 x10:Int
 x11:Int
 x12:Int
 Yy:Int
 x14:Int
 x15:Int
structure PK where
 x0:Int
 x1:Int
structure D7 where
 Size:Int
 Value:Int
structure Hf where
 x0:Int
 x1:Int
structure LM where
 q0:List Int
structure Z5e where
 q0:List FN
structure QV where
 q0:List Aa
structure TA where
 q0:List Bv
structure Z6s where
 q0:List Ey
structure Z6b where
 q0:List F8
structure Z6f where
 q0:List Gt
structure Z6w where
 q0:List Gw
structure Z5O where
 q0:List Gn
structure Z6g where
 q0:List Gs
structure Z6Q where
 q0:List FP
structure Z5K where
 q0:List Gm
structure Z6e where
 q0:List Fz
structure Z62 where
 q0:List Gp
structure Z6y where
 q0:List Gu
structure Z66 where
 q0:List Gq
structure Z6P where
 q0:List CQ
structure LP where
 q0:List Ac
 q1:Int
 q2:List (List Int)
structure QU where
 q0:List CQ
structure QP where
 q0:List Ac
structure QQ where
 q0:List Am
structure QY where
 q0:List BG
structure QW where
 q0:List Di
structure QS where
 q0:List Dv
structure QX where
 q0:List EM
structure QT where
 q0:List DY
structure NF where
 q0:List Int
structure KL where
 q0:List Ac
structure Oh where
 q0:List Ac
structure Oj where
 q0:List Int
structure OH where
 q0:List Int
@[reducible] def Ty:Nat->Type
 | 1723=>LM
 | 1724=>Z5e
 | 1725=>QV
 | 1726=>TA
 | 1727=>Z6s
 | 1728=>Z6b
 | 1729=>Z6f
 | 1730=>Z6w
 | 1731=>Z5O
 | 1732=>Z6g
 | 1733=>Z6Q
 | 1734=>Z5K
 | 1735=>Z6e
 | 1736=>Z62
 | 1737=>Z6y
 | 1738=>Z66
 | 1739=>Z6P
 | 1740=>LP
 | 1746=>QU
 | 1747=>QP
 | 1741=>QQ
 | 1748=>QY
 | 1742=>QW
 | 1743=>QS
 | 1744=>QX
 | 1745=>QT
 | 1751=>NF
 | 1749=>KL
 | 1750=>Oh
 | 1753=>Oj
 | 1754=>OH
 | 4=>Bool
 | 5=>Int
 | 222=>Ac
 | 179=>BG
 | 40=>Am
 | 34=>C9
 | 3=>Int
 | 254=>CQ
 | 265=>FN
 | 192=>Di
 | 277=>Ey
 | 160=>Dv
 | 26=>Aa
 | 29=>Bv
 | 317=>Oq
 | 348=>F8
 | 93=>Gt
 | 288=>Gw
 | 293=>Gn
 | 41=>List Int
 | 296=>Gp
 | 298=>Gs
 | 357=>Gu
 | 302=>Gm
 | 439=>Gq
 | 145=>Fz
 | 142=>FP
 | 158=>EM
 | 203=>DY
 | 64=>Cb
 | 65=>Int
 | 66=>Cb×Int
 | 44=>BV
 | 99=>BV×Int
 | 137=>List FN
 | 51=>List Aa
 | 52=>List Bv
 | 88=>List Ey
 | 119=>List F8
 | 120=>List Gt
 | 125=>List Gw
 | 128=>List Gn
 | 130=>List Gs
 | 146=>List FP
 | 136=>List Gm
 | 138=>List Fz
 | 129=>List Gp
 | 133=>List Gu
 | 143=>List Gq
 | 45=>List CQ
 | 49=>List Ac
 | 97=>(List Ac)×Int
 | 47=>Bj
 | 101=>Bj×Int
 | 23=>Gv
 | 24=>Int
 | 243=>Int×Int
 | 32=>GZ
 | 30=>List Am
 | 37=>BB
 | 75=>Int
 | 206=>Int×Int
 | 38=>List BG
 | 467=>List Int
 | 281=>Int×Bool
 | 338=>KO
 | 246=>List (List Int)
 | 184=>PK
 | 111=>Int
 | 434=>D7
 | 421=>(List Int)×Int
 | 446=>List D7
 | 48=>List Di
 | 50=>List Dv
 | 56=>Fq
 | 60=>Fv
 | 61=>List EM
 | 62=>List DY
 | 42=>Dx
 | 54=>KF
 | 58=>KE
 | 27=>Int
 | 308=>Aa×Int
 | 9=>ByteArray
 | 311=>List Int
 | 525=>Hf
 | _=>Empty
abbrev Au:AA Ty Int:=AA.int .u8
abbrev DL:AA Ty Int:=AA.int .u16
abbrev LC:AA Ty Int:=AA.int .u32
abbrev Be:AA Ty Int:=AA.int .u64
abbrev Ae:AA Ty Int:=AA.int .i64
abbrev Bh:AA Ty Bool:=AA.bool
abbrev cst:AA Ty ByteArray:=AA.str
def Iy:AA Ty BB:=AA.Aq (fun x=>(x.High,x.Low,())) (fun p=>⟨p.1,p.2.1⟩) (AA.pair Be (AA.pair Be AA.unit))
def Ff:AA Ty Ac:=AA.Aq (fun x=>(x.G8,x.BL,x.EH,x.Value,())) (fun p=>⟨p.1,p.2.1,p.2.2.1,p.2.2.2.1⟩) (AA.pair DL (AA.pair Iy (AA.pair Ae (AA.pair (AA.list 5 1 (fun(a:Int)=>Au.Ah a):AA Ty (List (Ty 5))) AA.unit))))
def Il:AA Ty BG:=AA.Aq (fun x=>(x.BL,x.Props,x.EH,x.Value,x.More,())) (fun p=>⟨p.1,p.2.1,p.2.2.1,p.2.2.2.1,p.2.2.2.2.1⟩) (AA.pair Iy (AA.pair Ae (AA.pair Ae (AA.pair (AA.list 5 1 (fun(a:Int)=>Au.Ah a):AA Ty (List (Ty 5))) (AA.pair (AA.list 222 5 (fun(a:Ac)=>.agg (Ff.AV a)):AA Ty (List (Ty 222))) AA.unit)))))
def Iu:AA Ty Am:=AA.Aq (fun x=>(x.BL,x.KR,x.BC,())) (fun p=>⟨p.1,p.2.1,p.2.2.1⟩) (AA.pair Iy (AA.pair Bh (AA.pair (AA.list 179 6 (fun(a:BG)=>.agg (Il.AV a)):AA Ty (List (Ty 179))) AA.unit)))
def QF:AA Ty Gv:=AA.Aq (fun x=>(x.He,x.Start,())) (fun p=>⟨p.1,p.2.1⟩) (AA.pair Ae (AA.pair Ae AA.unit))
def EI:AA Ty Aa:=AA.Aq (fun x=>(x.Kind,x.Bits,())) (fun p=>⟨p.1,p.2.1⟩) (AA.pair Ae (AA.pair Be AA.unit))
def Fh:AA Ty Bv:=AA.Aq (fun x=>(x.Address,x.Dq,())) (fun p=>⟨p.1,p.2.1⟩) (AA.pair EI (AA.pair Be AA.unit))
def Kz:AA Ty GZ:=AA.Aq (fun x=>(x.IO,x.IE,x.Rz,x.Yf,x.YR,x.YM,())) (fun p=>⟨p.1,p.2.1,p.2.2.1,p.2.2.2.1,p.2.2.2.2.1,p.2.2.2.2.2.1⟩) (AA.pair Ae (AA.pair Bh (AA.pair Bh (AA.pair Bh (AA.pair Bh (AA.pair Bh AA.unit))))))
def QG:AA Ty C9:=AA.Aq (fun x=>(x.Clock,x.DT,x.Fa,x.Hq,x.CO,x.Cc,x.RP,x.Hz,x.Ea,())) (fun p=>⟨p.1,p.2.1,p.2.2.1,p.2.2.2.1,p.2.2.2.2.1,p.2.2.2.2.2.1,p.2.2.2.2.2.2.1,p.2.2.2.2.2.2.2.1,p.2.2.2.2.2.2.2.2.1⟩) (AA.pair QF (AA.pair Fh (AA.pair Bh (AA.pair Ae (AA.pair (AA.list 40 4 (fun(a:Am)=>.agg (Iu.AV a)):AA Ty (List (Ty 40))) (AA.pair Kz (AA.pair Bh (AA.pair Be (AA.pair Ae AA.unit)))))))))
def Ji:AA Ty CQ:=AA.Aq (fun x=>(x.Key,x.Value,())) (fun p=>⟨p.1,p.2.1⟩) (AA.pair DL (AA.pair (AA.list 5 1 (fun(a:Int)=>Au.Ah a):AA Ty (List (Ty 5))) AA.unit))
def Io:AA Ty FN:=AA.Aq (fun x=>(x.G8,x.Bits,())) (fun p=>⟨p.1,p.2.1⟩) (AA.pair DL (AA.pair Ae AA.unit))
def Jg:AA Ty Di:=AA.Aq (fun x=>(x.GX,x.V8,x.Mark,x.qK,x.Hash,x.Ut,x.ML,x.tK,())) (fun p=>⟨p.1,p.2.1,p.2.2.1,p.2.2.2.1,p.2.2.2.2.1,p.2.2.2.2.2.1,p.2.2.2.2.2.2.1,p.2.2.2.2.2.2.2.1⟩) (AA.pair Fh (AA.pair Be (AA.pair Be (AA.pair Bh (AA.pair Be (AA.pair Bh (AA.pair (AA.list 265 2 (fun(a:FN)=>.agg (Io.AV a)):AA Ty (List (Ty 265))) (AA.pair Ae AA.unit))))))))
def Hu:AA Ty Ey:=AA.Aq (fun x=>(x.G8,x.Last,x.Value,x.Props,x.BL,())) (fun p=>⟨p.1,p.2.1,p.2.2.1,p.2.2.2.1,p.2.2.2.2.1⟩) (AA.pair DL (AA.pair DL (AA.pair DL (AA.pair Ae (AA.pair Iy AA.unit)))))
def sK:AA Ty XM:=AA.Aq (fun x=>(x.Valid,x.Hash,x.Found,x.Doubt,())) (fun p=>⟨p.1,p.2.1,p.2.2.1,p.2.2.2.1⟩) (AA.pair Bh (AA.pair Be (AA.pair (AA.list 277 6 (fun(a:Ey)=>.agg (Hu.AV a)):AA Ty (List (Ty 277))) (AA.pair Bh AA.unit))))
def Jd:AA Ty Dv:=AA.Aq (fun x=>(x.GX,x.Cache,())) (fun p=>⟨p.1,p.2.1⟩) (AA.pair EI (AA.pair sK AA.unit))
def Ro:AA Ty Oq:=AA.Aq (fun x=>(x.LLID,x.Payload,())) (fun p=>⟨p.1,p.2.1⟩) (AA.pair Ae (AA.pair (AA.list 5 1 (fun(a:Int)=>Au.Ah a):AA Ty (List (Ty 5))) AA.unit))
def VJ:AA Ty Qd:=AA.Aq (fun x=>(x.ZiC,x.Zef,x.NH,x.o7,x.Zia,())) (fun p=>⟨p.1,p.2.1,p.2.2.1,p.2.2.2.1,p.2.2.2.2.1⟩) (AA.pair Ae (AA.pair Ae (AA.pair Ae (AA.pair Ae (AA.pair Ae AA.unit)))))
def Ih:AA Ty F8:=AA.Aq (fun x=>(x.Kind,x.PZ,x.Map,x.o6,x.Ue,x.Zgz,x.VU,x.Mark,x.Cc,x.Version,x.Length,())) (fun p=>⟨p.1,p.2.1,p.2.2.1,p.2.2.2.1,p.2.2.2.2.1,p.2.2.2.2.2.1,p.2.2.2.2.2.2.1,p.2.2.2.2.2.2.2.1,p.2.2.2.2.2.2.2.2.1,p.2.2.2.2.2.2.2.2.2.1,p.2.2.2.2.2.2.2.2.2.2.1⟩) (AA.pair Ae (AA.pair VJ (AA.pair Be (AA.pair DL (AA.pair Ae (AA.pair Ae (AA.pair Be (AA.pair Be (AA.pair Be (AA.pair Ae (AA.pair Ae AA.unit)))))))))))
def Jw:AA Ty Gt:=AA.Aq (fun x=>(x.Kind,x.o6,x.PZ,x.Map,())) (fun p=>⟨p.1,p.2.1,p.2.2.1,p.2.2.2.1⟩) (AA.pair Ae (AA.pair DL (AA.pair VJ (AA.pair Be AA.unit))))
def Jm:AA Ty Gw:=AA.Aq (fun x=>(x.Good,x.Bad,())) (fun p=>⟨p.1,p.2.1⟩) (AA.pair Ae (AA.pair Ae AA.unit))
def J7:AA Ty Gn:=AA.Aq (fun x=>(x.VY,x.LK,x.V4,x.pI,x.Level,())) (fun p=>⟨p.1,p.2.1,p.2.2.1,p.2.2.2.1,p.2.2.2.2.1⟩) (AA.pair DL (AA.pair Ae (AA.pair Ae (AA.pair Ae (AA.pair Ae AA.unit)))))
def Jp:AA Ty Gp:=AA.Aq (fun x=>(x.Local,x.Zkh,x.VY,x.LK,x.V4,x.ZhG,x.Zho,x.ZeJ,x.Zf9,x.Given,x.Out,x.Sent,x.In,x.Want,x.Failed,())) (fun p=>⟨p.1,p.2.1,p.2.2.1,p.2.2.2.1,p.2.2.2.2.1,p.2.2.2.2.2.1,p.2.2.2.2.2.2.1,p.2.2.2.2.2.2.2.1,p.2.2.2.2.2.2.2.2.1,p.2.2.2.2.2.2.2.2.2.1,p.2.2.2.2.2.2.2.2.2.2.1,p.2.2.2.2.2.2.2.2.2.2.2.1,p.2.2.2.2.2.2.2.2.2.2.2.2.1,p.2.2.2.2.2.2.2.2.2.2.2.2.2.1,p.2.2.2.2.2.2.2.2.2.2.2.2.2.2.1⟩) (AA.pair DL (AA.pair DL (AA.pair DL (AA.pair Ae (AA.pair Ae (AA.pair Ae (AA.pair Ae (AA.pair Ae (AA.pair Ae (AA.pair Ae (AA.pair (AA.list 41 1 (fun(a:List Int)=>((AA.list 5 1 (fun(a:Int)=>Au.Ah a):AA Ty (List (Ty 5)))).Ah a):AA Ty (List (Ty 41))) (AA.pair Ae (AA.pair (AA.list 5 1 (fun(a:Int)=>Au.Ah a):AA Ty (List (Ty 5))) (AA.pair Ae (AA.pair Bh AA.unit)))))))))))))))
def Jb:AA Ty Gs:=AA.Aq (fun x=>(x.Kind,x.ID,x.VY,x.Source,x.Dest,x.LK,x.V4,x.pI,x.Result,x.PZ,())) (fun p=>⟨p.1,p.2.1,p.2.2.1,p.2.2.2.1,p.2.2.2.2.1,p.2.2.2.2.2.1,p.2.2.2.2.2.2.1,p.2.2.2.2.2.2.2.1,p.2.2.2.2.2.2.2.2.1,p.2.2.2.2.2.2.2.2.2.1⟩) (AA.pair Ae (AA.pair Ae (AA.pair DL (AA.pair DL (AA.pair DL (AA.pair Ae (AA.pair Ae (AA.pair Ae (AA.pair Ae (AA.pair VJ AA.unit))))))))))
def Ja:AA Ty Gu:=AA.Aq (fun x=>(x.CID,x.Payload,())) (fun p=>⟨p.1,p.2.1⟩) (AA.pair DL (AA.pair (AA.list 5 1 (fun(a:Int)=>Au.Ah a):AA Ty (List (Ty 5))) AA.unit))
def J9:AA Ty Gm:=AA.Aq (fun x=>(x.G8,x.NV,x.Value,())) (fun p=>⟨p.1,p.2.1,p.2.2.1⟩) (AA.pair DL (AA.pair Ae (AA.pair (AA.list 5 1 (fun(a:Int)=>Au.Ah a):AA Ty (List (Ty 5))) AA.unit)))
def Jc:AA Ty Gq:=AA.Aq (fun x=>(x.G8,x.Last,x.BL,x.Value,())) (fun p=>⟨p.1,p.2.1,p.2.2.1,p.2.2.2.1⟩) (AA.pair DL (AA.pair DL (AA.pair Iy (AA.pair (AA.list 5 1 (fun(a:Int)=>Au.Ah a):AA Ty (List (Ty 5))) AA.unit))))
def JJ:AA Ty Fz:=AA.Aq (fun x=>(x.Kind,x.Asked,x.G8,x.Last,x.BL,x.NV,x.LK,x.Code,x.qQ,x.Value,x.List,())) (fun p=>⟨p.1,p.2.1,p.2.2.1,p.2.2.2.1,p.2.2.2.2.1,p.2.2.2.2.2.1,p.2.2.2.2.2.2.1,p.2.2.2.2.2.2.2.1,p.2.2.2.2.2.2.2.2.1,p.2.2.2.2.2.2.2.2.2.1,p.2.2.2.2.2.2.2.2.2.2.1⟩) (AA.pair Ae (AA.pair Ae (AA.pair DL (AA.pair DL (AA.pair Iy (AA.pair Ae (AA.pair Ae (AA.pair Ae (AA.pair Bh (AA.pair (AA.list 5 1 (fun(a:Int)=>Au.Ah a):AA Ty (List (Ty 5))) (AA.pair (AA.list 439 5 (fun(a:Gq)=>.agg (Jc.AV a)):AA Ty (List (Ty 439))) AA.unit)))))))))))
def IX:AA Ty FP:=AA.Aq (fun x=>(x.Kind,x.First,x.Last,x.G8,x.Value,x.NV,x.Found,x.Bad,())) (fun p=>⟨p.1,p.2.1,p.2.2.1,p.2.2.2.1,p.2.2.2.2.1,p.2.2.2.2.2.1,p.2.2.2.2.2.2.1,p.2.2.2.2.2.2.2.1⟩) (AA.pair Ae (AA.pair DL (AA.pair DL (AA.pair DL (AA.pair (AA.list 5 1 (fun(a:Int)=>Au.Ah a):AA Ty (List (Ty 5))) (AA.pair Ae (AA.pair (AA.list 277 6 (fun(a:Ey)=>.agg (Hu.AV a)):AA Ty (List (Ty 277))) (AA.pair Bh AA.unit))))))))
def Z4D:AA Ty fF:=AA.Aq (fun x=>(x.ZlE,x.Init,x.PZ,x.Map,x.Hop,x.He,x.Zeq,())) (fun p=>⟨p.1,p.2.1,p.2.2.1,p.2.2.2.1,p.2.2.2.2.1,p.2.2.2.2.2.1,p.2.2.2.2.2.2.1⟩) (AA.pair LC (AA.pair LC (AA.pair VJ (AA.pair Be (AA.pair Ae (AA.pair Ae (AA.pair Ae AA.unit)))))))
def Z4k:AA Ty o9:=AA.Aq (fun x=>(x.SN,x.NESN,x.sJ,x.Open,x.Empty,x.sZ,x.Taken,())) (fun p=>⟨p.1,p.2.1,p.2.2.1,p.2.2.2.1,p.2.2.2.2.1,p.2.2.2.2.2.1,p.2.2.2.2.2.2.1⟩) (AA.pair Ae (AA.pair Ae (AA.pair (AA.list 317 2 (fun(a:Oq)=>.agg (Ro.AV a)):AA Ty (List (Ty 317))) (AA.pair Bh (AA.pair Bh (AA.pair Ae (AA.pair Ae AA.unit)))))))
def Z4C:AA Ty gY:=AA.Aq (fun x=>(x.o7,x.Zhh,x.Full,())) (fun p=>⟨p.1,p.2.1,p.2.2.1⟩) (AA.pair Ae (AA.pair Ae (AA.pair Bh AA.unit)))
def Z4n:AA Ty mW:=AA.Aq (fun x=>(x.Nk,x.Own,x.Since,x.pO,x.Other,x.ZeB,x.Zhw,x.Told,x.Cc,x.ZlO,x.Known,x.ZeV,x.Version,x.Length,x.Limit,x.VU,x.GX,x.Mark,x.tC,x.Ended,())) (fun p=>⟨p.1,p.2.1,p.2.2.1,p.2.2.2.1,p.2.2.2.2.1,p.2.2.2.2.2.1,p.2.2.2.2.2.2.1,p.2.2.2.2.2.2.2.1,p.2.2.2.2.2.2.2.2.1,p.2.2.2.2.2.2.2.2.2.1,p.2.2.2.2.2.2.2.2.2.2.1,p.2.2.2.2.2.2.2.2.2.2.2.1,p.2.2.2.2.2.2.2.2.2.2.2.2.1,p.2.2.2.2.2.2.2.2.2.2.2.2.2.1,p.2.2.2.2.2.2.2.2.2.2.2.2.2.2.1,p.2.2.2.2.2.2.2.2.2.2.2.2.2.2.2.1,p.2.2.2.2.2.2.2.2.2.2.2.2.2.2.2.2.1,p.2.2.2.2.2.2.2.2.2.2.2.2.2.2.2.2.2.1,p.2.2.2.2.2.2.2.2.2.2.2.2.2.2.2.2.2.2.1,p.2.2.2.2.2.2.2.2.2.2.2.2.2.2.2.2.2.2.2.1⟩) (AA.pair Ae (AA.pair Ae (AA.pair Ae (AA.pair (AA.list 348 15 (fun(a:F8)=>.agg (Ih.AV a)):AA Ty (List (Ty 348))) (AA.pair Ae (AA.pair Ae (AA.pair (AA.list 93 8 (fun(a:Gt)=>.agg (Jw.AV a)):AA Ty (List (Ty 93))) (AA.pair Bh (AA.pair Be (AA.pair Be (AA.pair Bh (AA.pair Bh (AA.pair Ae (AA.pair Ae (AA.pair Ae (AA.pair Be (AA.pair Be (AA.pair Be (AA.pair Ae (AA.pair Ae AA.unit))))))))))))))))))))
def Z4o:AA Ty jV:=AA.Aq (fun x=>(x.Nk,x.Key,x.VU,x.TxOn,x.RxOn,x.Tx,x.Rx,())) (fun p=>⟨p.1,p.2.1,p.2.2.1,p.2.2.2.1,p.2.2.2.2.1,p.2.2.2.2.2.1,p.2.2.2.2.2.2.1⟩) (AA.pair Ae (AA.pair Be (AA.pair Be (AA.pair Bh (AA.pair Bh (AA.pair Be (AA.pair Be AA.unit)))))))
def Z4x:AA Ty nZ:=AA.Aq (fun x=>(x.Nk,x.CX,x.Clock,x.Event,x.Last,x.ZjQ,x.Size,x.Sync,x.Heard,x.Begun,x.Got,x.Good,x.sZ,x.More,x.Arq,x.Zla,x.Procs,x.ZhB,x.Key,x.ZhL,x.ZgN,x.Ue,x.Hz,())) (fun p=>⟨p.1,p.2.1,p.2.2.1,p.2.2.2.1,p.2.2.2.2.1,p.2.2.2.2.2.1,p.2.2.2.2.2.2.1,p.2.2.2.2.2.2.2.1,p.2.2.2.2.2.2.2.2.1,p.2.2.2.2.2.2.2.2.2.1,p.2.2.2.2.2.2.2.2.2.2.1,p.2.2.2.2.2.2.2.2.2.2.2.1,p.2.2.2.2.2.2.2.2.2.2.2.2.1,p.2.2.2.2.2.2.2.2.2.2.2.2.2.1,p.2.2.2.2.2.2.2.2.2.2.2.2.2.2.1,p.2.2.2.2.2.2.2.2.2.2.2.2.2.2.2.1,p.2.2.2.2.2.2.2.2.2.2.2.2.2.2.2.2.1,p.2.2.2.2.2.2.2.2.2.2.2.2.2.2.2.2.2.1,p.2.2.2.2.2.2.2.2.2.2.2.2.2.2.2.2.2.2.1,p.2.2.2.2.2.2.2.2.2.2.2.2.2.2.2.2.2.2.2.1,p.2.2.2.2.2.2.2.2.2.2.2.2.2.2.2.2.2.2.2.2.1,p.2.2.2.2.2.2.2.2.2.2.2.2.2.2.2.2.2.2.2.2.2.1,p.2.2.2.2.2.2.2.2.2.2.2.2.2.2.2.2.2.2.2.2.2.2.1⟩) (AA.pair Ae (AA.pair Z4D (AA.pair Ae (AA.pair DL (AA.pair Ae (AA.pair Ae (AA.pair Ae (AA.pair Ae (AA.pair Ae (AA.pair Bh (AA.pair Bh (AA.pair Bh (AA.pair Bh (AA.pair Bh (AA.pair Z4k (AA.pair Z4C (AA.pair Z4n (AA.pair Z4o (AA.pair Be (AA.pair (AA.list 288 2 (fun(a:Gw)=>.agg (Jm.AV a)):AA Ty (List (Ty 288))) (AA.pair (AA.list 348 15 (fun(a:F8)=>.agg (Ih.AV a)):AA Ty (List (Ty 348))) (AA.pair Ae (AA.pair Be AA.unit)))))))))))))))))))))))
def Z4i:AA Ty gU:=AA.Aq (fun x=>(x.On,x.Buffer,())) (fun p=>⟨p.1,p.2.1⟩) (AA.pair Bh (AA.pair (AA.list 5 1 (fun(a:Int)=>Au.Ah a):AA Ty (List (Ty 5))) AA.unit))
def Z4H:AA Ty pR:=AA.Aq (fun x=>(x.Nk,x.Level,x.Zfc,x.ZfV,x.Asked,x.Zkd,x.Zfd,x.Out,x.Sent,x.Length,())) (fun p=>⟨p.1,p.2.1,p.2.2.1,p.2.2.2.1,p.2.2.2.2.1,p.2.2.2.2.2.1,p.2.2.2.2.2.2.1,p.2.2.2.2.2.2.2.1,p.2.2.2.2.2.2.2.2.1,p.2.2.2.2.2.2.2.2.2.1⟩) (AA.pair Ae (AA.pair Ae (AA.pair (AA.list 293 5 (fun(a:Gn)=>.agg (J7.AV a)):AA Ty (List (Ty 293))) (AA.pair (AA.list 296 15 (fun(a:Gp)=>.agg (Jp.AV a)):AA Ty (List (Ty 296))) (AA.pair (AA.list 298 14 (fun(a:Gs)=>.agg (Jb.AV a)):AA Ty (List (Ty 298))) (AA.pair Ae (AA.pair Z4i (AA.pair (AA.list 357 2 (fun(a:Gu)=>.agg (Ja.AV a)):AA Ty (List (Ty 357))) (AA.pair Ae (AA.pair Ae AA.unit))))))))))
def Z4E:AA Ty lN:=AA.Aq (fun x=>(x.DB,x.LK,x.Max,x.Level,x.sJ,x.Ut,x.RP,x.ML,x.Out,x.Wait,x.Since,())) (fun p=>⟨p.1,p.2.1,p.2.2.1,p.2.2.2.1,p.2.2.2.2.1,p.2.2.2.2.2.1,p.2.2.2.2.2.2.1,p.2.2.2.2.2.2.2.1,p.2.2.2.2.2.2.2.2.1,p.2.2.2.2.2.2.2.2.2.1,p.2.2.2.2.2.2.2.2.2.2.1⟩) (AA.pair (AA.list 222 5 (fun(a:Ac)=>.agg (Ff.AV a)):AA Ty (List (Ty 222))) (AA.pair Ae (AA.pair Ae (AA.pair Ae (AA.pair (AA.list 302 3 (fun(a:Gm)=>.agg (J9.AV a)):AA Ty (List (Ty 302))) (AA.pair Ae (AA.pair Bh (AA.pair (AA.list 265 2 (fun(a:FN)=>.agg (Io.AV a)):AA Ty (List (Ty 265))) (AA.pair (AA.list 145 12 (fun(a:Fz)=>.agg (JJ.AV a)):AA Ty (List (Ty 145))) (AA.pair Bh (AA.pair Ae AA.unit)))))))))))
def Z4A:AA Ty lQ:=AA.Aq (fun x=>(x.LK,x.Max,x.Task,x.Asked,x.Busy,x.Since,x.Dead,x.pO,())) (fun p=>⟨p.1,p.2.1,p.2.2.1,p.2.2.2.1,p.2.2.2.2.1,p.2.2.2.2.2.1,p.2.2.2.2.2.2.1,p.2.2.2.2.2.2.2.1⟩) (AA.pair Ae (AA.pair Ae (AA.pair IX (AA.pair JJ (AA.pair Bh (AA.pair Ae (AA.pair Bh (AA.pair (AA.list 142 8 (fun(a:FP)=>.agg (IX.AV a)):AA Ty (List (Ty 142))) AA.unit))))))))
def Z4t:AA Ty jL:=AA.Aq (fun x=>(x.Value,x.ZlG,())) (fun p=>⟨p.1,p.2.1⟩) (AA.pair Be (AA.pair Be AA.unit))
def Z4F:AA Ty fD:=AA.Aq (fun x=>(x.Nk,x.Cc,x.Own,x.GX,x.DT,x.Zlr,x.Hz,x.Mine,x.IE,())) (fun p=>⟨p.1,p.2.1,p.2.2.1,p.2.2.2.1,p.2.2.2.2.1,p.2.2.2.2.2.1,p.2.2.2.2.2.2.1,p.2.2.2.2.2.2.2.1,p.2.2.2.2.2.2.2.2.1⟩) (AA.pair Ae (AA.pair Kz (AA.pair EI (AA.pair EI (AA.pair Fh (AA.pair LC (AA.pair Be (AA.pair Be (AA.pair Z4t AA.unit)))))))))
def Z4u:AA Ty lH:=AA.Aq (fun x=>(x.GH,x.Phase,x.Since,x.Method,x.GX,x.Zio,x.ZfJ,x.ZhJ,x.Shared,x.Nonce,x.Other,x.qQ,x.Have,x.Zig,x.Round,x.ZjJ,x.Zik,x.Zk7,x.tC,x.V8,x.DT,x.Drawn,x.Ue,())) (fun p=>⟨p.1,p.2.1,p.2.2.1,p.2.2.2.1,p.2.2.2.2.1,p.2.2.2.2.2.1,p.2.2.2.2.2.2.1,p.2.2.2.2.2.2.2.1,p.2.2.2.2.2.2.2.2.1,p.2.2.2.2.2.2.2.2.2.1,p.2.2.2.2.2.2.2.2.2.2.1,p.2.2.2.2.2.2.2.2.2.2.2.1,p.2.2.2.2.2.2.2.2.2.2.2.2.1,p.2.2.2.2.2.2.2.2.2.2.2.2.2.1,p.2.2.2.2.2.2.2.2.2.2.2.2.2.2.1,p.2.2.2.2.2.2.2.2.2.2.2.2.2.2.2.1,p.2.2.2.2.2.2.2.2.2.2.2.2.2.2.2.2.1,p.2.2.2.2.2.2.2.2.2.2.2.2.2.2.2.2.2.1,p.2.2.2.2.2.2.2.2.2.2.2.2.2.2.2.2.2.2.1,p.2.2.2.2.2.2.2.2.2.2.2.2.2.2.2.2.2.2.2.1,p.2.2.2.2.2.2.2.2.2.2.2.2.2.2.2.2.2.2.2.2.1,p.2.2.2.2.2.2.2.2.2.2.2.2.2.2.2.2.2.2.2.2.2.1,p.2.2.2.2.2.2.2.2.2.2.2.2.2.2.2.2.2.2.2.2.2.2.1⟩) (AA.pair Z4F (AA.pair Ae (AA.pair Ae (AA.pair Ae (AA.pair Kz (AA.pair Kz (AA.pair Kz (AA.pair LC (AA.pair LC (AA.pair Be (AA.pair Be (AA.pair Be (AA.pair Bh (AA.pair Ae (AA.pair Ae (AA.pair Bh (AA.pair Be (AA.pair Bh (AA.pair Bh (AA.pair Be (AA.pair Fh (AA.pair Ae (AA.pair Ae AA.unit)))))))))))))))))))))))
def Jk:AA Ty EM:=AA.Aq (fun x=>(x.Number,x.Address,x.Link,x.Mux,x.Server,x.Zk4,x.Cache,x.Zht,x.Rz,x.Level,x.Zgw,x.ZkJ,x.Before,x.Found,x.Tasks,())) (fun p=>⟨p.1,p.2.1,p.2.2.1,p.2.2.2.1,p.2.2.2.2.1,p.2.2.2.2.2.1,p.2.2.2.2.2.2.1,p.2.2.2.2.2.2.2.1,p.2.2.2.2.2.2.2.2.1,p.2.2.2.2.2.2.2.2.2.1,p.2.2.2.2.2.2.2.2.2.2.1,p.2.2.2.2.2.2.2.2.2.2.2.1,p.2.2.2.2.2.2.2.2.2.2.2.2.1,p.2.2.2.2.2.2.2.2.2.2.2.2.2.1,p.2.2.2.2.2.2.2.2.2.2.2.2.2.2.1⟩) (AA.pair Ae (AA.pair EI (AA.pair Z4x (AA.pair Z4H (AA.pair Z4E (AA.pair Z4A (AA.pair sK (AA.pair Z4u (AA.pair Ae (AA.pair Ae (AA.pair Bh (AA.pair Bh (AA.pair Be (AA.pair (AA.list 277 6 (fun(a:Ey)=>.agg (Hu.AV a)):AA Ty (List (Ty 277))) (AA.pair (AA.list 142 8 (fun(a:FP)=>.agg (IX.AV a)):AA Ty (List (Ty 142))) AA.unit)))))))))))))))
def Je:AA Ty DY:=AA.Aq (fun x=>(x.Ew,x.rX,x.NV,x.Bytes,())) (fun p=>⟨p.1,p.2.1,p.2.2.1,p.2.2.2.1⟩) (AA.pair Ae (AA.pair Bh (AA.pair Ae (AA.pair (AA.list 5 1 (fun(a:Int)=>Au.Ah a):AA Ty (List (Ty 5))) AA.unit))))
def VR:AA Ty Dx:=AA.Aq (fun x=>(x.x0,x.x1,())) (fun p=>⟨p.1,p.2.1⟩) (AA.pair (AA.list 5 1 (fun(a:Int)=>Au.Ah a):AA Ty (List (Ty 5))) (AA.pair (AA.list 5 1 (fun(a:Int)=>Au.Ah a):AA Ty (List (Ty 5))) AA.unit))
def Pv:AA Ty BV:=AA.Aq (fun x=>(x.DV,())) (fun p=>⟨p.1⟩) (AA.pair VR AA.unit)
def Py:AA Ty Bj:=AA.Aq (fun x=>(x.Gh,x.Ew,x.Count,x.End,x.Items,())) (fun p=>⟨p.1,p.2.1,p.2.2.1,p.2.2.2.1,p.2.2.2.2.1⟩) (AA.pair Pv (AA.pair Ae (AA.pair Ae (AA.pair Ae (AA.pair (AA.list 254 2 (fun(a:CQ)=>.agg (Ji.AV a)):AA Ty (List (Ty 254))) AA.unit)))))
def VT:AA Ty KF:=AA.Aq (fun x=>(x.Kind,x.NH,x.Own,x.Target,x.Data,x.VG,x.PS,x.KZ,x.KJ,x.Hz,())) (fun p=>⟨p.1,p.2.1,p.2.2.1,p.2.2.2.1,p.2.2.2.2.1,p.2.2.2.2.2.1,p.2.2.2.2.2.2.1,p.2.2.2.2.2.2.2.1,p.2.2.2.2.2.2.2.2.1,p.2.2.2.2.2.2.2.2.2.1⟩) (AA.pair Ae (AA.pair Ae (AA.pair EI (AA.pair EI (AA.pair (AA.list 5 1 (fun(a:Int)=>Au.Ah a):AA Ty (List (Ty 5))) (AA.pair (AA.list 5 1 (fun(a:Int)=>Au.Ah a):AA Ty (List (Ty 5))) (AA.pair Ae (AA.pair (AA.list 26 2 (fun(a:Aa)=>.agg (EI.AV a)):AA Ty (List (Ty 26))) (AA.pair (AA.list 29 3 (fun(a:Bv)=>.agg (Fh.AV a)):AA Ty (List (Ty 29))) (AA.pair Be AA.unit))))))))))
def VP:AA Ty Fq:=AA.Aq (fun x=>(x.CX,x.On,x.Event,x.Next,())) (fun p=>⟨p.1,p.2.1,p.2.2.1,p.2.2.2.1⟩) (AA.pair VT (AA.pair Bh (AA.pair Ae (AA.pair Ae AA.unit))))
def VI:AA Ty KE:=AA.Aq (fun x=>(x.NH,x.rG,x.qV,x.PS,x.KZ,x.KJ,x.Own,x.rE,())) (fun p=>⟨p.1,p.2.1,p.2.2.1,p.2.2.2.1,p.2.2.2.2.1,p.2.2.2.2.2.1,p.2.2.2.2.2.2.1,p.2.2.2.2.2.2.2.1⟩) (AA.pair Ae (AA.pair Ae (AA.pair Bh (AA.pair Ae (AA.pair (AA.list 26 2 (fun(a:Aa)=>.agg (EI.AV a)):AA Ty (List (Ty 26))) (AA.pair (AA.list 29 3 (fun(a:Bv)=>.agg (Fh.AV a)):AA Ty (List (Ty 29))) (AA.pair EI (AA.pair Bh AA.unit))))))))
def VS:AA Ty Fv:=AA.Aq (fun x=>(x.CX,x.On,x.Start,x.Upper,x.Count,x.Fails,x.uM,x.Wait,x.Seen,x.Hz,())) (fun p=>⟨p.1,p.2.1,p.2.2.1,p.2.2.2.1,p.2.2.2.2.1,p.2.2.2.2.2.1,p.2.2.2.2.2.2.1,p.2.2.2.2.2.2.2.1,p.2.2.2.2.2.2.2.2.1,p.2.2.2.2.2.2.2.2.2.1⟩) (AA.pair VI (AA.pair Bh (AA.pair Ae (AA.pair Ae (AA.pair Ae (AA.pair Ae (AA.pair Ae (AA.pair EI (AA.pair (AA.list 26 2 (fun(a:Aa)=>.agg (EI.AV a)):AA Ty (List (Ty 26))) (AA.pair Be AA.unit))))))))))
def SQ:AA Ty Cb:=AA.Aq (fun x=>(x.GH,x.Up,x.Store,x.Y1,x.DB,x.JI,x.XG,x.Xo,x.Rn,x.N9,x.Writes,x.X4,x.YS,())) (fun p=>⟨p.1,p.2.1,p.2.2.1,p.2.2.2.1,p.2.2.2.2.1,p.2.2.2.2.2.1,p.2.2.2.2.2.2.1,p.2.2.2.2.2.2.2.1,p.2.2.2.2.2.2.2.2.1,p.2.2.2.2.2.2.2.2.2.1,p.2.2.2.2.2.2.2.2.2.2.1,p.2.2.2.2.2.2.2.2.2.2.2.1,p.2.2.2.2.2.2.2.2.2.2.2.2.1⟩) (AA.pair QG (AA.pair Bh (AA.pair Py (AA.pair (AA.list 192 10 (fun(a:Di)=>.agg (Jg.AV a)):AA Ty (List (Ty 192))) (AA.pair (AA.list 222 5 (fun(a:Ac)=>.agg (Ff.AV a)):AA Ty (List (Ty 222))) (AA.pair (AA.list 160 6 (fun(a:Dv)=>.agg (Jd.AV a)):AA Ty (List (Ty 160))) (AA.pair VP (AA.pair VS (AA.pair EI (AA.pair (AA.list 158 186 (fun(a:EM)=>.agg (Jk.AV a)):AA Ty (List (Ty 158))) (AA.pair (AA.list 203 4 (fun(a:DY)=>.agg (Je.AV a)):AA Ty (List (Ty 203))) (AA.pair Ae (AA.pair Ae AA.unit)))))))))))))
def Yc:AA Ty KO:=AA.Aq (fun x=>(x.x0,x.x1,x.x2,x.x3,x.x4,x.x5,x.x6,x.x7,x.x8,x.x9,x.x10,x.x11,x.x12,x.Yy,x.x14,x.x15,())) (fun p=>⟨p.1,p.2.1,p.2.2.1,p.2.2.2.1,p.2.2.2.2.1,p.2.2.2.2.2.1,p.2.2.2.2.2.2.1,p.2.2.2.2.2.2.2.1,p.2.2.2.2.2.2.2.2.1,p.2.2.2.2.2.2.2.2.2.1,p.2.2.2.2.2.2.2.2.2.2.1,p.2.2.2.2.2.2.2.2.2.2.2.1,p.2.2.2.2.2.2.2.2.2.2.2.2.1,p.2.2.2.2.2.2.2.2.2.2.2.2.2.1,p.2.2.2.2.2.2.2.2.2.2.2.2.2.2.1,p.2.2.2.2.2.2.2.2.2.2.2.2.2.2.2.1⟩) (AA.pair Au (AA.pair Au (AA.pair Au (AA.pair Au (AA.pair Au (AA.pair Au (AA.pair Au (AA.pair Au (AA.pair Au (AA.pair Au (AA.pair Au (AA.pair Au (AA.pair Au (AA.pair Au (AA.pair Au (AA.pair Au AA.unit))))))))))))))))
def Y6:AA Ty PK:=AA.Aq (fun x=>(x.x0,x.x1,())) (fun p=>⟨p.1,p.2.1⟩) (AA.pair Ae (AA.pair Ae AA.unit))
def MB:AA Ty D7:=AA.Aq (fun x=>(x.Size,x.Value,())) (fun p=>⟨p.1,p.2.1⟩) (AA.pair Ae (AA.pair Be AA.unit))
def Y0:AA Ty Hf:=AA.Aq (fun x=>(x.x0,x.x1,())) (fun p=>⟨p.1,p.2.1⟩) (AA.pair LC (AA.pair LC AA.unit))
@[reducible] def U:CE where
 Ty:=Ty
 AZ:=fun t=>match t with
  | 4=>1
  | 5=>1
  | 222=>5
  | 179=>6
  | 40=>4
  | 34=>17
  | 3=>1
  | 254=>2
  | 265=>2
  | 192=>10
  | 277=>6
  | 160=>6
  | 26=>2
  | 29=>3
  | 317=>2
  | 348=>15
  | 93=>8
  | 288=>2
  | 293=>5
  | 41=>1
  | 296=>15
  | 298=>14
  | 357=>2
  | 302=>3
  | 439=>5
  | 145=>12
  | 142=>8
  | 158=>186
  | 203=>4
  | 64=>67
  | 65=>1
  | 66=>1
  | 44=>2
  | 99=>1
  | 137=>1
  | 51=>1
  | 52=>1
  | 88=>1
  | 119=>1
  | 120=>1
  | 125=>1
  | 128=>1
  | 130=>1
  | 146=>1
  | 136=>1
  | 138=>1
  | 129=>1
  | 133=>1
  | 143=>1
  | 45=>1
  | 49=>1
  | 97=>1
  | 47=>6
  | 101=>1
  | 23=>2
  | 24=>1
  | 243=>1
  | 32=>6
  | 30=>1
  | 37=>2
  | 75=>1
  | 206=>1
  | 38=>1
  | 467=>1
  | 281=>1
  | 338=>16
  | 246=>1
  | 184=>2
  | 111=>1
  | 434=>2
  | 421=>1
  | 446=>1
  | 48=>1
  | 50=>1
  | 56=>15
  | 60=>19
  | 61=>1
  | 62=>1
  | 42=>2
  | 54=>12
  | 58=>9
  | 27=>1
  | 308=>1
  | 9=>1
  | 311=>1
  | 525=>2
  | _=>0
 enc:=fun t=>match t with
  | 4=>fun(a:Bool)=>Bh.Ah a
  | 5=>fun(a:Int)=>Au.Ah a
  | 222=>fun(a:Ac)=>.agg (Ff.AV a)
  | 179=>fun(a:BG)=>.agg (Il.AV a)
  | 40=>fun(a:Am)=>.agg (Iu.AV a)
  | 34=>fun(a:C9)=>.agg (QG.AV a)
  | 3=>fun(a:Int)=>Ae.Ah a
  | 254=>fun(a:CQ)=>.agg (Ji.AV a)
  | 265=>fun(a:FN)=>.agg (Io.AV a)
  | 192=>fun(a:Di)=>.agg (Jg.AV a)
  | 277=>fun(a:Ey)=>.agg (Hu.AV a)
  | 160=>fun(a:Dv)=>.agg (Jd.AV a)
  | 26=>fun(a:Aa)=>.agg (EI.AV a)
  | 29=>fun(a:Bv)=>.agg (Fh.AV a)
  | 317=>fun(a:Oq)=>.agg (Ro.AV a)
  | 348=>fun(a:F8)=>.agg (Ih.AV a)
  | 93=>fun(a:Gt)=>.agg (Jw.AV a)
  | 288=>fun(a:Gw)=>.agg (Jm.AV a)
  | 293=>fun(a:Gn)=>.agg (J7.AV a)
  | 41=>fun(a:List Int)=>((AA.list 5 1 (fun(a:Int)=>Au.Ah a):AA Ty (List (Ty 5)))).Ah a
  | 296=>fun(a:Gp)=>.agg (Jp.AV a)
  | 298=>fun(a:Gs)=>.agg (Jb.AV a)
  | 357=>fun(a:Gu)=>.agg (Ja.AV a)
  | 302=>fun(a:Gm)=>.agg (J9.AV a)
  | 439=>fun(a:Gq)=>.agg (Jc.AV a)
  | 145=>fun(a:Fz)=>.agg (JJ.AV a)
  | 142=>fun(a:FP)=>.agg (IX.AV a)
  | 158=>fun(a:EM)=>.agg (Jk.AV a)
  | 203=>fun(a:DY)=>.agg (Je.AV a)
  | 64=>fun(a:Cb)=>.agg (SQ.AV a)
  | 65=>fun(a:Int)=>Ae.Ah a
  | 66=>fun(a:Cb×Int)=>.Aw [(.agg (SQ.AV a.1)),(Ae.Ah a.2)]
  | 44=>fun(a:BV)=>.agg (Pv.AV a)
  | 99=>fun(a:BV×Int)=>.Aw [(.agg (Pv.AV a.1)),(Ae.Ah a.2)]
  | 137=>fun(a:List FN)=>((AA.list 265 2 (fun(a:FN)=>.agg (Io.AV a)):AA Ty (List (Ty 265)))).Ah a
  | 51=>fun(a:List Aa)=>((AA.list 26 2 (fun(a:Aa)=>.agg (EI.AV a)):AA Ty (List (Ty 26)))).Ah a
  | 52=>fun(a:List Bv)=>((AA.list 29 3 (fun(a:Bv)=>.agg (Fh.AV a)):AA Ty (List (Ty 29)))).Ah a
  | 88=>fun(a:List Ey)=>((AA.list 277 6 (fun(a:Ey)=>.agg (Hu.AV a)):AA Ty (List (Ty 277)))).Ah a
  | 119=>fun(a:List F8)=>((AA.list 348 15 (fun(a:F8)=>.agg (Ih.AV a)):AA Ty (List (Ty 348)))).Ah a
  | 120=>fun(a:List Gt)=>((AA.list 93 8 (fun(a:Gt)=>.agg (Jw.AV a)):AA Ty (List (Ty 93)))).Ah a
  | 125=>fun(a:List Gw)=>((AA.list 288 2 (fun(a:Gw)=>.agg (Jm.AV a)):AA Ty (List (Ty 288)))).Ah a
  | 128=>fun(a:List Gn)=>((AA.list 293 5 (fun(a:Gn)=>.agg (J7.AV a)):AA Ty (List (Ty 293)))).Ah a
  | 130=>fun(a:List Gs)=>((AA.list 298 14 (fun(a:Gs)=>.agg (Jb.AV a)):AA Ty (List (Ty 298)))).Ah a
  | 146=>fun(a:List FP)=>((AA.list 142 8 (fun(a:FP)=>.agg (IX.AV a)):AA Ty (List (Ty 142)))).Ah a
  | 136=>fun(a:List Gm)=>((AA.list 302 3 (fun(a:Gm)=>.agg (J9.AV a)):AA Ty (List (Ty 302)))).Ah a
  | 138=>fun(a:List Fz)=>((AA.list 145 12 (fun(a:Fz)=>.agg (JJ.AV a)):AA Ty (List (Ty 145)))).Ah a
  | 129=>fun(a:List Gp)=>((AA.list 296 15 (fun(a:Gp)=>.agg (Jp.AV a)):AA Ty (List (Ty 296)))).Ah a
  | 133=>fun(a:List Gu)=>((AA.list 357 2 (fun(a:Gu)=>.agg (Ja.AV a)):AA Ty (List (Ty 357)))).Ah a
  | 143=>fun(a:List Gq)=>((AA.list 439 5 (fun(a:Gq)=>.agg (Jc.AV a)):AA Ty (List (Ty 439)))).Ah a
  | 45=>fun(a:List CQ)=>((AA.list 254 2 (fun(a:CQ)=>.agg (Ji.AV a)):AA Ty (List (Ty 254)))).Ah a
  | 49=>fun(a:List Ac)=>((AA.list 222 5 (fun(a:Ac)=>.agg (Ff.AV a)):AA Ty (List (Ty 222)))).Ah a
  | 97=>fun(a:(List Ac)×Int)=>.Aw [(((AA.list 222 5 (fun(a:Ac)=>.agg (Ff.AV a)):AA Ty (List (Ty 222)))).Ah a.1),(Ae.Ah a.2)]
  | 47=>fun(a:Bj)=>.agg (Py.AV a)
  | 101=>fun(a:Bj×Int)=>.Aw [(.agg (Py.AV a.1)),(Ae.Ah a.2)]
  | 23=>fun(a:Gv)=>.agg (QF.AV a)
  | 24=>fun(a:Int)=>Be.Ah a
  | 243=>fun(a:Int×Int)=>.Aw [(Be.Ah a.1),(Ae.Ah a.2)]
  | 32=>fun(a:GZ)=>.agg (Kz.AV a)
  | 30=>fun(a:List Am)=>((AA.list 40 4 (fun(a:Am)=>.agg (Iu.AV a)):AA Ty (List (Ty 40)))).Ah a
  | 37=>fun(a:BB)=>.agg (Iy.AV a)
  | 75=>fun(a:Int)=>DL.Ah a
  | 206=>fun(a:Int×Int)=>.Aw [(Ae.Ah a.1),(Ae.Ah a.2)]
  | 38=>fun(a:List BG)=>((AA.list 179 6 (fun(a:BG)=>.agg (Il.AV a)):AA Ty (List (Ty 179)))).Ah a
  | 467=>fun(a:List Int)=>((AA.list 75 1 (fun(a:Int)=>DL.Ah a):AA Ty (List (Ty 75)))).Ah a
  | 281=>fun(a:Int×Bool)=>.Aw [(DL.Ah a.1),(Bh.Ah a.2)]
  | 338=>fun(a:KO)=>.agg (Yc.AV a)
  | 246=>fun(a:List (List Int))=>((AA.list 41 1 (fun(a:List Int)=>((AA.list 5 1 (fun(a:Int)=>Au.Ah a):AA Ty (List (Ty 5)))).Ah a):AA Ty (List (Ty 41)))).Ah a
  | 184=>fun(a:PK)=>.agg (Y6.AV a)
  | 111=>fun(a:Int)=>LC.Ah a
  | 434=>fun(a:D7)=>.agg (MB.AV a)
  | 421=>fun(a:(List Int)×Int)=>.Aw [(((AA.list 5 1 (fun(a:Int)=>Au.Ah a):AA Ty (List (Ty 5)))).Ah a.1),(Ae.Ah a.2)]
  | 446=>fun(a:List D7)=>((AA.list 434 2 (fun(a:D7)=>.agg (MB.AV a)):AA Ty (List (Ty 434)))).Ah a
  | 48=>fun(a:List Di)=>((AA.list 192 10 (fun(a:Di)=>.agg (Jg.AV a)):AA Ty (List (Ty 192)))).Ah a
  | 50=>fun(a:List Dv)=>((AA.list 160 6 (fun(a:Dv)=>.agg (Jd.AV a)):AA Ty (List (Ty 160)))).Ah a
  | 56=>fun(a:Fq)=>.agg (VP.AV a)
  | 60=>fun(a:Fv)=>.agg (VS.AV a)
  | 61=>fun(a:List EM)=>((AA.list 158 186 (fun(a:EM)=>.agg (Jk.AV a)):AA Ty (List (Ty 158)))).Ah a
  | 62=>fun(a:List DY)=>((AA.list 203 4 (fun(a:DY)=>.agg (Je.AV a)):AA Ty (List (Ty 203)))).Ah a
  | 42=>fun(a:Dx)=>.agg (VR.AV a)
  | 54=>fun(a:KF)=>.agg (VT.AV a)
  | 58=>fun(a:KE)=>.agg (VI.AV a)
  | 27=>fun(a:Int)=>Be.Ah a
  | 308=>fun(a:Aa×Int)=>.Aw [(.agg (EI.AV a.1)),(Ae.Ah a.2)]
  | 9=>fun(a:ByteArray)=>cst.Ah a
  | 311=>fun(a:List Int)=>((AA.list 24 1 (fun(a:Int)=>Be.Ah a):AA Ty (List (Ty 24)))).Ah a
  | 525=>fun(a:Hf)=>.agg (Y0.AV a)
  | _=>fun _=>.no
 encS:=fun t=>match t with
  | 4=>fun(a:Bool)=>Bh.Bq a
  | 5=>fun(a:Int)=>Au.Bq a
  | 222=>fun(a:Ac)=>.agg (Ff.encS a)
  | 179=>fun(a:BG)=>.agg (Il.encS a)
  | 40=>fun(a:Am)=>.agg (Iu.encS a)
  | 34=>fun(a:C9)=>.agg (QG.encS a)
  | 3=>fun(a:Int)=>Ae.Bq a
  | 254=>fun(a:CQ)=>.agg (Ji.encS a)
  | 265=>fun(a:FN)=>.agg (Io.encS a)
  | 192=>fun(a:Di)=>.agg (Jg.encS a)
  | 277=>fun(a:Ey)=>.agg (Hu.encS a)
  | 160=>fun(a:Dv)=>.agg (Jd.encS a)
  | 26=>fun(a:Aa)=>.agg (EI.encS a)
  | 29=>fun(a:Bv)=>.agg (Fh.encS a)
  | 317=>fun(a:Oq)=>.agg (Ro.encS a)
  | 348=>fun(a:F8)=>.agg (Ih.encS a)
  | 93=>fun(a:Gt)=>.agg (Jw.encS a)
  | 288=>fun(a:Gw)=>.agg (Jm.encS a)
  | 293=>fun(a:Gn)=>.agg (J7.encS a)
  | 41=>fun(a:List Int)=>((AA.list 5 1 (fun(a:Int)=>Au.Ah a):AA Ty (List (Ty 5)))).Bq a
  | 296=>fun(a:Gp)=>.agg (Jp.encS a)
  | 298=>fun(a:Gs)=>.agg (Jb.encS a)
  | 357=>fun(a:Gu)=>.agg (Ja.encS a)
  | 302=>fun(a:Gm)=>.agg (J9.encS a)
  | 439=>fun(a:Gq)=>.agg (Jc.encS a)
  | 145=>fun(a:Fz)=>.agg (JJ.encS a)
  | 142=>fun(a:FP)=>.agg (IX.encS a)
  | 158=>fun(a:EM)=>.agg (Jk.encS a)
  | 203=>fun(a:DY)=>.agg (Je.encS a)
  | 64=>fun(a:Cb)=>.agg (SQ.encS a)
  | 65=>fun(a:Int)=>Ae.Bq a
  | 66=>fun(a:Cb×Int)=>.Aw [(.agg (SQ.encS a.1)),(Ae.Bq a.2)]
  | 44=>fun(a:BV)=>.agg (Pv.encS a)
  | 99=>fun(a:BV×Int)=>.Aw [(.agg (Pv.encS a.1)),(Ae.Bq a.2)]
  | 137=>fun(a:List FN)=>((AA.list 265 2 (fun(a:FN)=>.agg (Io.AV a)):AA Ty (List (Ty 265)))).Bq a
  | 51=>fun(a:List Aa)=>((AA.list 26 2 (fun(a:Aa)=>.agg (EI.AV a)):AA Ty (List (Ty 26)))).Bq a
  | 52=>fun(a:List Bv)=>((AA.list 29 3 (fun(a:Bv)=>.agg (Fh.AV a)):AA Ty (List (Ty 29)))).Bq a
  | 88=>fun(a:List Ey)=>((AA.list 277 6 (fun(a:Ey)=>.agg (Hu.AV a)):AA Ty (List (Ty 277)))).Bq a
  | 119=>fun(a:List F8)=>((AA.list 348 15 (fun(a:F8)=>.agg (Ih.AV a)):AA Ty (List (Ty 348)))).Bq a
  | 120=>fun(a:List Gt)=>((AA.list 93 8 (fun(a:Gt)=>.agg (Jw.AV a)):AA Ty (List (Ty 93)))).Bq a
  | 125=>fun(a:List Gw)=>((AA.list 288 2 (fun(a:Gw)=>.agg (Jm.AV a)):AA Ty (List (Ty 288)))).Bq a
  | 128=>fun(a:List Gn)=>((AA.list 293 5 (fun(a:Gn)=>.agg (J7.AV a)):AA Ty (List (Ty 293)))).Bq a
  | 130=>fun(a:List Gs)=>((AA.list 298 14 (fun(a:Gs)=>.agg (Jb.AV a)):AA Ty (List (Ty 298)))).Bq a
  | 146=>fun(a:List FP)=>((AA.list 142 8 (fun(a:FP)=>.agg (IX.AV a)):AA Ty (List (Ty 142)))).Bq a
  | 136=>fun(a:List Gm)=>((AA.list 302 3 (fun(a:Gm)=>.agg (J9.AV a)):AA Ty (List (Ty 302)))).Bq a
  | 138=>fun(a:List Fz)=>((AA.list 145 12 (fun(a:Fz)=>.agg (JJ.AV a)):AA Ty (List (Ty 145)))).Bq a
  | 129=>fun(a:List Gp)=>((AA.list 296 15 (fun(a:Gp)=>.agg (Jp.AV a)):AA Ty (List (Ty 296)))).Bq a
  | 133=>fun(a:List Gu)=>((AA.list 357 2 (fun(a:Gu)=>.agg (Ja.AV a)):AA Ty (List (Ty 357)))).Bq a
  | 143=>fun(a:List Gq)=>((AA.list 439 5 (fun(a:Gq)=>.agg (Jc.AV a)):AA Ty (List (Ty 439)))).Bq a
  | 45=>fun(a:List CQ)=>((AA.list 254 2 (fun(a:CQ)=>.agg (Ji.AV a)):AA Ty (List (Ty 254)))).Bq a
  | 49=>fun(a:List Ac)=>((AA.list 222 5 (fun(a:Ac)=>.agg (Ff.AV a)):AA Ty (List (Ty 222)))).Bq a
  | 97=>fun(a:(List Ac)×Int)=>.Aw [(((AA.list 222 5 (fun(a:Ac)=>.agg (Ff.AV a)):AA Ty (List (Ty 222)))).Bq a.1),(Ae.Bq a.2)]
  | 47=>fun(a:Bj)=>.agg (Py.encS a)
  | 101=>fun(a:Bj×Int)=>.Aw [(.agg (Py.encS a.1)),(Ae.Bq a.2)]
  | 23=>fun(a:Gv)=>.agg (QF.encS a)
  | 24=>fun(a:Int)=>Be.Bq a
  | 243=>fun(a:Int×Int)=>.Aw [(Be.Bq a.1),(Ae.Bq a.2)]
  | 32=>fun(a:GZ)=>.agg (Kz.encS a)
  | 30=>fun(a:List Am)=>((AA.list 40 4 (fun(a:Am)=>.agg (Iu.AV a)):AA Ty (List (Ty 40)))).Bq a
  | 37=>fun(a:BB)=>.agg (Iy.encS a)
  | 75=>fun(a:Int)=>DL.Bq a
  | 206=>fun(a:Int×Int)=>.Aw [(Ae.Bq a.1),(Ae.Bq a.2)]
  | 38=>fun(a:List BG)=>((AA.list 179 6 (fun(a:BG)=>.agg (Il.AV a)):AA Ty (List (Ty 179)))).Bq a
  | 467=>fun(a:List Int)=>((AA.list 75 1 (fun(a:Int)=>DL.Ah a):AA Ty (List (Ty 75)))).Bq a
  | 281=>fun(a:Int×Bool)=>.Aw [(DL.Bq a.1),(Bh.Bq a.2)]
  | 338=>fun(a:KO)=>.agg (Yc.encS a)
  | 246=>fun(a:List (List Int))=>((AA.list 41 1 (fun(a:List Int)=>((AA.list 5 1 (fun(a:Int)=>Au.Ah a):AA Ty (List (Ty 5)))).Ah a):AA Ty (List (Ty 41)))).Bq a
  | 184=>fun(a:PK)=>.agg (Y6.encS a)
  | 111=>fun(a:Int)=>LC.Bq a
  | 434=>fun(a:D7)=>.agg (MB.encS a)
  | 421=>fun(a:(List Int)×Int)=>.Aw [(((AA.list 5 1 (fun(a:Int)=>Au.Ah a):AA Ty (List (Ty 5)))).Bq a.1),(Ae.Bq a.2)]
  | 446=>fun(a:List D7)=>((AA.list 434 2 (fun(a:D7)=>.agg (MB.AV a)):AA Ty (List (Ty 434)))).Bq a
  | 48=>fun(a:List Di)=>((AA.list 192 10 (fun(a:Di)=>.agg (Jg.AV a)):AA Ty (List (Ty 192)))).Bq a
  | 50=>fun(a:List Dv)=>((AA.list 160 6 (fun(a:Dv)=>.agg (Jd.AV a)):AA Ty (List (Ty 160)))).Bq a
  | 56=>fun(a:Fq)=>.agg (VP.encS a)
  | 60=>fun(a:Fv)=>.agg (VS.encS a)
  | 61=>fun(a:List EM)=>((AA.list 158 186 (fun(a:EM)=>.agg (Jk.AV a)):AA Ty (List (Ty 158)))).Bq a
  | 62=>fun(a:List DY)=>((AA.list 203 4 (fun(a:DY)=>.agg (Je.AV a)):AA Ty (List (Ty 203)))).Bq a
  | 42=>fun(a:Dx)=>.agg (VR.encS a)
  | 54=>fun(a:KF)=>.agg (VT.encS a)
  | 58=>fun(a:KE)=>.agg (VI.encS a)
  | 27=>fun(a:Int)=>Be.Bq a
  | 308=>fun(a:Aa×Int)=>.Aw [(.agg (EI.encS a.1)),(Ae.Bq a.2)]
  | 9=>fun(a:ByteArray)=>cst.Bq a
  | 311=>fun(a:List Int)=>((AA.list 24 1 (fun(a:Int)=>Be.Ah a):AA Ty (List (Ty 24)))).Bq a
  | 525=>fun(a:Hf)=>.agg (Y0.encS a)
  | _=>fun _=>.no
 FV:=fun t=>match t with
  | 4=>fun v=>Bh.one v
  | 5=>fun v=>Au.one v
  | 222=>fun v=>Ff.agg v
  | 179=>fun v=>Il.agg v
  | 40=>fun v=>Iu.agg v
  | 34=>fun v=>QG.agg v
  | 3=>fun v=>Ae.one v
  | 254=>fun v=>Ji.agg v
  | 265=>fun v=>Io.agg v
  | 192=>fun v=>Jg.agg v
  | 277=>fun v=>Hu.agg v
  | 160=>fun v=>Jd.agg v
  | 26=>fun v=>EI.agg v
  | 29=>fun v=>Fh.agg v
  | 317=>fun v=>Ro.agg v
  | 348=>fun v=>Ih.agg v
  | 93=>fun v=>Jw.agg v
  | 288=>fun v=>Jm.agg v
  | 293=>fun v=>J7.agg v
  | 41=>fun v=>((AA.list 5 1 (fun(a:Int)=>Au.Ah a):AA Ty (List (Ty 5)))).one v
  | 296=>fun v=>Jp.agg v
  | 298=>fun v=>Jb.agg v
  | 357=>fun v=>Ja.agg v
  | 302=>fun v=>J9.agg v
  | 439=>fun v=>Jc.agg v
  | 145=>fun v=>JJ.agg v
  | 142=>fun v=>IX.agg v
  | 158=>fun v=>Jk.agg v
  | 203=>fun v=>Je.agg v
  | 64=>fun v=>SQ.agg v
  | 65=>fun v=>Ae.one v
  | 66=>fun _=>none
  | 44=>fun v=>Pv.agg v
  | 99=>fun _=>none
  | 137=>fun v=>((AA.list 265 2 (fun(a:FN)=>.agg (Io.AV a)):AA Ty (List (Ty 265)))).one v
  | 51=>fun v=>((AA.list 26 2 (fun(a:Aa)=>.agg (EI.AV a)):AA Ty (List (Ty 26)))).one v
  | 52=>fun v=>((AA.list 29 3 (fun(a:Bv)=>.agg (Fh.AV a)):AA Ty (List (Ty 29)))).one v
  | 88=>fun v=>((AA.list 277 6 (fun(a:Ey)=>.agg (Hu.AV a)):AA Ty (List (Ty 277)))).one v
  | 119=>fun v=>((AA.list 348 15 (fun(a:F8)=>.agg (Ih.AV a)):AA Ty (List (Ty 348)))).one v
  | 120=>fun v=>((AA.list 93 8 (fun(a:Gt)=>.agg (Jw.AV a)):AA Ty (List (Ty 93)))).one v
  | 125=>fun v=>((AA.list 288 2 (fun(a:Gw)=>.agg (Jm.AV a)):AA Ty (List (Ty 288)))).one v
  | 128=>fun v=>((AA.list 293 5 (fun(a:Gn)=>.agg (J7.AV a)):AA Ty (List (Ty 293)))).one v
  | 130=>fun v=>((AA.list 298 14 (fun(a:Gs)=>.agg (Jb.AV a)):AA Ty (List (Ty 298)))).one v
  | 146=>fun v=>((AA.list 142 8 (fun(a:FP)=>.agg (IX.AV a)):AA Ty (List (Ty 142)))).one v
  | 136=>fun v=>((AA.list 302 3 (fun(a:Gm)=>.agg (J9.AV a)):AA Ty (List (Ty 302)))).one v
  | 138=>fun v=>((AA.list 145 12 (fun(a:Fz)=>.agg (JJ.AV a)):AA Ty (List (Ty 145)))).one v
  | 129=>fun v=>((AA.list 296 15 (fun(a:Gp)=>.agg (Jp.AV a)):AA Ty (List (Ty 296)))).one v
  | 133=>fun v=>((AA.list 357 2 (fun(a:Gu)=>.agg (Ja.AV a)):AA Ty (List (Ty 357)))).one v
  | 143=>fun v=>((AA.list 439 5 (fun(a:Gq)=>.agg (Jc.AV a)):AA Ty (List (Ty 439)))).one v
  | 45=>fun v=>((AA.list 254 2 (fun(a:CQ)=>.agg (Ji.AV a)):AA Ty (List (Ty 254)))).one v
  | 49=>fun v=>((AA.list 222 5 (fun(a:Ac)=>.agg (Ff.AV a)):AA Ty (List (Ty 222)))).one v
  | 97=>fun _=>none
  | 47=>fun v=>Py.agg v
  | 101=>fun _=>none
  | 23=>fun v=>QF.agg v
  | 24=>fun v=>Be.one v
  | 243=>fun _=>none
  | 32=>fun v=>Kz.agg v
  | 30=>fun v=>((AA.list 40 4 (fun(a:Am)=>.agg (Iu.AV a)):AA Ty (List (Ty 40)))).one v
  | 37=>fun v=>Iy.agg v
  | 75=>fun v=>DL.one v
  | 206=>fun _=>none
  | 38=>fun v=>((AA.list 179 6 (fun(a:BG)=>.agg (Il.AV a)):AA Ty (List (Ty 179)))).one v
  | 467=>fun v=>((AA.list 75 1 (fun(a:Int)=>DL.Ah a):AA Ty (List (Ty 75)))).one v
  | 281=>fun _=>none
  | 338=>fun v=>Yc.agg v
  | 246=>fun v=>((AA.list 41 1 (fun(a:List Int)=>((AA.list 5 1 (fun(a:Int)=>Au.Ah a):AA Ty (List (Ty 5)))).Ah a):AA Ty (List (Ty 41)))).one v
  | 184=>fun v=>Y6.agg v
  | 111=>fun v=>LC.one v
  | 434=>fun v=>MB.agg v
  | 421=>fun _=>none
  | 446=>fun v=>((AA.list 434 2 (fun(a:D7)=>.agg (MB.AV a)):AA Ty (List (Ty 434)))).one v
  | 48=>fun v=>((AA.list 192 10 (fun(a:Di)=>.agg (Jg.AV a)):AA Ty (List (Ty 192)))).one v
  | 50=>fun v=>((AA.list 160 6 (fun(a:Dv)=>.agg (Jd.AV a)):AA Ty (List (Ty 160)))).one v
  | 56=>fun v=>VP.agg v
  | 60=>fun v=>VS.agg v
  | 61=>fun v=>((AA.list 158 186 (fun(a:EM)=>.agg (Jk.AV a)):AA Ty (List (Ty 158)))).one v
  | 62=>fun v=>((AA.list 203 4 (fun(a:DY)=>.agg (Je.AV a)):AA Ty (List (Ty 203)))).one v
  | 42=>fun v=>VR.agg v
  | 54=>fun v=>VT.agg v
  | 58=>fun v=>VI.agg v
  | 27=>fun v=>Be.one v
  | 308=>fun _=>none
  | 9=>fun v=>cst.one v
  | 311=>fun v=>((AA.list 24 1 (fun(a:Int)=>Be.Ah a):AA Ty (List (Ty 24)))).one v
  | 525=>fun v=>Y0.agg v
  | _=>fun _=>none
 keys:=[4,5,222,179,40,34,3,254,265,192,277,160,26,29,317,348,93,288,293,41,296,298,357,302,439,145,142,158,203,64,65,66,44,99,137,51,52,88,119,120,125,128,130,146,136,138,129,133,143,45,49,97,47,101,23,24,243,32,30,37,75,206,38,467,281,338,246,184,111,434,421,446,48,50,56,60,61,62,42,54,58,27,308,9,311,525]
theorem P5:AB U Iy [0,0]:=AB.Aq ((AB.int _).pair ((AB.int _).pair AB.unit)) (fun _=>rfl) (fun _=>rfl)
theorem NL:AB U Ff [0,0,0,0,1]:=AB.Aq ((AB.int _).pair ((P5).pair ((AB.int _).pair ((AB.list (U:=U) (t:=5) (n:=1) (e:=fun(a:Int)=>Au.Ah a) (fun _=>rfl) rfl (fun a=>(AB.int _:AB U Au _).Ed a) (fun a b h=>(AB.int _:AB U Au _).Eb h)).pair AB.unit)))) (fun _=>rfl) (fun _=>rfl)
theorem UT:AB U Il [0,0,0,0,1,5]:=AB.Aq ((P5).pair ((AB.int _).pair ((AB.int _).pair ((AB.list (U:=U) (t:=5) (n:=1) (e:=fun(a:Int)=>Au.Ah a) (fun _=>rfl) rfl (fun a=>(AB.int _:AB U Au _).Ed a) (fun a b h=>(AB.int _:AB U Au _).Eb h)).pair ((AB.list (U:=U) (t:=222) (n:=5) (e:=fun(a:Ac)=>.agg (Ff.AV a)) (fun _=>rfl) rfl (fun a=>NL.nr a) (fun a b h=>NL.inj _ _ (by injection h))).pair AB.unit))))) (fun _=>rfl) (fun _=>rfl)
theorem Uk:AB U Iu [0,0,0,6]:=AB.Aq ((P5).pair ((AB.bool).pair ((AB.list (U:=U) (t:=179) (n:=6) (e:=fun(a:BG)=>.agg (Il.AV a)) (fun _=>rfl) rfl (fun a=>UT.nr a) (fun a b h=>UT.inj _ _ (by injection h))).pair AB.unit))) (fun _=>rfl) (fun _=>rfl)
theorem Z3Z:AB U QF [0,0]:=AB.Aq ((AB.int _).pair ((AB.int _).pair AB.unit)) (fun _=>rfl) (fun _=>rfl)
theorem GG:AB U EI [0,0]:=AB.Aq ((AB.int _).pair ((AB.int _).pair AB.unit)) (fun _=>rfl) (fun _=>rfl)
theorem KY:AB U Fh [0,0,0]:=AB.Aq ((GG).pair ((AB.int _).pair AB.unit)) (fun _=>rfl) (fun _=>rfl)
theorem RY:AB U Kz [0,0,0,0,0,0]:=AB.Aq ((AB.int _).pair ((AB.bool).pair ((AB.bool).pair ((AB.bool).pair ((AB.bool).pair ((AB.bool).pair AB.unit)))))) (fun _=>rfl) (fun _=>rfl)
theorem Z4b:AB U QG [0,0,0,0,0,0,0,4,0,0,0,0,0,0,0,0,0]:=AB.Aq ((Z3Z).pair ((KY).pair ((AB.bool).pair ((AB.int _).pair ((AB.list (U:=U) (t:=40) (n:=4) (e:=fun(a:Am)=>.agg (Iu.AV a)) (fun _=>rfl) rfl (fun a=>Uk.nr a) (fun a b h=>Uk.inj _ _ (by injection h))).pair ((RY).pair ((AB.bool).pair ((AB.int _).pair ((AB.int _).pair AB.unit))))))))) (fun _=>rfl) (fun _=>rfl)
theorem UW:AB U Ji [0,1]:=AB.Aq ((AB.int _).pair ((AB.list (U:=U) (t:=5) (n:=1) (e:=fun(a:Int)=>Au.Ah a) (fun _=>rfl) rfl (fun a=>(AB.int _:AB U Au _).Ed a) (fun a b h=>(AB.int _:AB U Au _).Eb h)).pair AB.unit)) (fun _=>rfl) (fun _=>rfl)
theorem PE:AB U Io [0,0]:=AB.Aq ((AB.int _).pair ((AB.int _).pair AB.unit)) (fun _=>rfl) (fun _=>rfl)
theorem Ua:AB U Jg [0,0,0,0,0,0,0,0,2,0]:=AB.Aq ((KY).pair ((AB.int _).pair ((AB.int _).pair ((AB.bool).pair ((AB.int _).pair ((AB.bool).pair ((AB.list (U:=U) (t:=265) (n:=2) (e:=fun(a:FN)=>.agg (Io.AV a)) (fun _=>rfl) rfl (fun a=>PE.nr a) (fun a b h=>PE.inj _ _ (by injection h))).pair ((AB.int _).pair AB.unit)))))))) (fun _=>rfl) (fun _=>rfl)
theorem NR:AB U Hu [0,0,0,0,0,0]:=AB.Aq ((AB.int _).pair ((AB.int _).pair ((AB.int _).pair ((AB.int _).pair ((P5).pair AB.unit))))) (fun _=>rfl) (fun _=>rfl)
theorem Z3r:AB U sK [0,0,6,0]:=AB.Aq ((AB.bool).pair ((AB.int _).pair ((AB.list (U:=U) (t:=277) (n:=6) (e:=fun(a:Ey)=>.agg (Hu.AV a)) (fun _=>rfl) rfl (fun a=>NR.nr a) (fun a b h=>NR.inj _ _ (by injection h))).pair ((AB.bool).pair AB.unit)))) (fun _=>rfl) (fun _=>rfl)
theorem UU:AB U Jd [0,0,0,0,6,0]:=AB.Aq ((GG).pair ((Z3r).pair AB.unit)) (fun _=>rfl) (fun _=>rfl)
theorem qA:AB U Ro [0,1]:=AB.Aq ((AB.int _).pair ((AB.list (U:=U) (t:=5) (n:=1) (e:=fun(a:Int)=>Au.Ah a) (fun _=>rfl) rfl (fun a=>(AB.int _:AB U Au _).Ed a) (fun a b h=>(AB.int _:AB U Au _).Eb h)).pair AB.unit)) (fun _=>rfl) (fun _=>rfl)
theorem YC:AB U VJ [0,0,0,0,0]:=AB.Aq ((AB.int _).pair ((AB.int _).pair ((AB.int _).pair ((AB.int _).pair ((AB.int _).pair AB.unit))))) (fun _=>rfl) (fun _=>rfl)
theorem PG:AB U Ih [0,0,0,0,0,0,0,0,0,0,0,0,0,0,0]:=AB.Aq ((AB.int _).pair ((YC).pair ((AB.int _).pair ((AB.int _).pair ((AB.int _).pair ((AB.int _).pair ((AB.int _).pair ((AB.int _).pair ((AB.int _).pair ((AB.int _).pair ((AB.int _).pair AB.unit))))))))))) (fun _=>rfl) (fun _=>rfl)
theorem Uf:AB U Jw [0,0,0,0,0,0,0,0]:=AB.Aq ((AB.int _).pair ((AB.int _).pair ((YC).pair ((AB.int _).pair AB.unit)))) (fun _=>rfl) (fun _=>rfl)
theorem U1:AB U Jm [0,0]:=AB.Aq ((AB.int _).pair ((AB.int _).pair AB.unit)) (fun _=>rfl) (fun _=>rfl)
theorem Uc:AB U J7 [0,0,0,0,0]:=AB.Aq ((AB.int _).pair ((AB.int _).pair ((AB.int _).pair ((AB.int _).pair ((AB.int _).pair AB.unit))))) (fun _=>rfl) (fun _=>rfl)
theorem U0:AB U Jp [0,0,0,0,0,0,0,0,0,0,1,0,1,0,0]:=AB.Aq ((AB.int _).pair ((AB.int _).pair ((AB.int _).pair ((AB.int _).pair ((AB.int _).pair ((AB.int _).pair ((AB.int _).pair ((AB.int _).pair ((AB.int _).pair ((AB.int _).pair ((AB.list (U:=U) (t:=41) (n:=1) (e:=fun(a:List Int)=>((AA.list 5 1 (fun(a:Int)=>Au.Ah a):AA Ty (List (Ty 5)))).Ah a) (fun _=>rfl) rfl (fun a=>(AB.list (U:=U) (t:=5) (n:=1) (e:=fun(a:Int)=>Au.Ah a) (fun _=>rfl) rfl (fun a=>(AB.int _:AB U Au _).Ed a) (fun a b h=>(AB.int _:AB U Au _).Eb h):AB U (AA.list 5 1 (fun(a:Int)=>Au.Ah a):AA Ty (List (Ty 5))) _).Ed a) (fun a b h=>(AB.list (U:=U) (t:=5) (n:=1) (e:=fun(a:Int)=>Au.Ah a) (fun _=>rfl) rfl (fun a=>(AB.int _:AB U Au _).Ed a) (fun a b h=>(AB.int _:AB U Au _).Eb h):AB U (AA.list 5 1 (fun(a:Int)=>Au.Ah a):AA Ty (List (Ty 5))) _).Eb h)).pair ((AB.int _).pair ((AB.list (U:=U) (t:=5) (n:=1) (e:=fun(a:Int)=>Au.Ah a) (fun _=>rfl) rfl (fun a=>(AB.int _:AB U Au _).Ed a) (fun a b h=>(AB.int _:AB U Au _).Eb h)).pair ((AB.int _).pair ((AB.bool).pair AB.unit))))))))))))))) (fun _=>rfl) (fun _=>rfl)
theorem U7:AB U Jb [0,0,0,0,0,0,0,0,0,0,0,0,0,0]:=AB.Aq ((AB.int _).pair ((AB.int _).pair ((AB.int _).pair ((AB.int _).pair ((AB.int _).pair ((AB.int _).pair ((AB.int _).pair ((AB.int _).pair ((AB.int _).pair ((YC).pair AB.unit)))))))))) (fun _=>rfl) (fun _=>rfl)
theorem U3:AB U Ja [0,1]:=AB.Aq ((AB.int _).pair ((AB.list (U:=U) (t:=5) (n:=1) (e:=fun(a:Int)=>Au.Ah a) (fun _=>rfl) rfl (fun a=>(AB.int _:AB U Au _).Ed a) (fun a b h=>(AB.int _:AB U Au _).Eb h)).pair AB.unit)) (fun _=>rfl) (fun _=>rfl)
theorem Ub:AB U J9 [0,0,1]:=AB.Aq ((AB.int _).pair ((AB.int _).pair ((AB.list (U:=U) (t:=5) (n:=1) (e:=fun(a:Int)=>Au.Ah a) (fun _=>rfl) rfl (fun a=>(AB.int _:AB U Au _).Ed a) (fun a b h=>(AB.int _:AB U Au _).Eb h)).pair AB.unit))) (fun _=>rfl) (fun _=>rfl)
theorem U2:AB U Jc [0,0,0,0,1]:=AB.Aq ((AB.int _).pair ((AB.int _).pair ((P5).pair ((AB.list (U:=U) (t:=5) (n:=1) (e:=fun(a:Int)=>Au.Ah a) (fun _=>rfl) rfl (fun a=>(AB.int _:AB U Au _).Ed a) (fun a b h=>(AB.int _:AB U Au _).Eb h)).pair AB.unit)))) (fun _=>rfl) (fun _=>rfl)
theorem RF:AB U JJ [0,0,0,0,0,0,0,0,0,0,1,5]:=AB.Aq ((AB.int _).pair ((AB.int _).pair ((AB.int _).pair ((AB.int _).pair ((P5).pair ((AB.int _).pair ((AB.int _).pair ((AB.int _).pair ((AB.bool).pair ((AB.list (U:=U) (t:=5) (n:=1) (e:=fun(a:Int)=>Au.Ah a) (fun _=>rfl) rfl (fun a=>(AB.int _:AB U Au _).Ed a) (fun a b h=>(AB.int _:AB U Au _).Eb h)).pair ((AB.list (U:=U) (t:=439) (n:=5) (e:=fun(a:Gq)=>.agg (Jc.AV a)) (fun _=>rfl) rfl (fun a=>U2.nr a) (fun a b h=>U2.inj _ _ (by injection h))).pair AB.unit))))))))))) (fun _=>rfl) (fun _=>rfl)
theorem OM:AB U IX [0,0,0,0,1,0,6,0]:=AB.Aq ((AB.int _).pair ((AB.int _).pair ((AB.int _).pair ((AB.int _).pair ((AB.list (U:=U) (t:=5) (n:=1) (e:=fun(a:Int)=>Au.Ah a) (fun _=>rfl) rfl (fun a=>(AB.int _:AB U Au _).Ed a) (fun a b h=>(AB.int _:AB U Au _).Eb h)).pair ((AB.int _).pair ((AB.list (U:=U) (t:=277) (n:=6) (e:=fun(a:Ey)=>.agg (Hu.AV a)) (fun _=>rfl) rfl (fun a=>NR.nr a) (fun a b h=>NR.inj _ _ (by injection h))).pair ((AB.bool).pair AB.unit)))))))) (fun _=>rfl) (fun _=>rfl)
theorem Zhj:AB U Z4D [0,0,0,0,0,0,0,0,0,0,0]:=AB.Aq ((AB.int _).pair ((AB.int _).pair ((YC).pair ((AB.int _).pair ((AB.int _).pair ((AB.int _).pair ((AB.int _).pair AB.unit))))))) (fun _=>rfl) (fun _=>rfl)
theorem Zi9:AB U Z4k [0,0,2,0,0,0,0]:=AB.Aq ((AB.int _).pair ((AB.int _).pair ((AB.list (U:=U) (t:=317) (n:=2) (e:=fun(a:Oq)=>.agg (Ro.AV a)) (fun _=>rfl) rfl (fun a=>qA.nr a) (fun a b h=>qA.inj _ _ (by injection h))).pair ((AB.bool).pair ((AB.bool).pair ((AB.int _).pair ((AB.int _).pair AB.unit))))))) (fun _=>rfl) (fun _=>rfl)
theorem Zhr:AB U Z4C [0,0,0]:=AB.Aq ((AB.int _).pair ((AB.int _).pair ((AB.bool).pair AB.unit))) (fun _=>rfl) (fun _=>rfl)
theorem Zhq:AB U Z4n [0,0,0,15,0,0,8,0,0,0,0,0,0,0,0,0,0,0,0,0]:=AB.Aq ((AB.int _).pair ((AB.int _).pair ((AB.int _).pair ((AB.list (U:=U) (t:=348) (n:=15) (e:=fun(a:F8)=>.agg (Ih.AV a)) (fun _=>rfl) rfl (fun a=>PG.nr a) (fun a b h=>PG.inj _ _ (by injection h))).pair ((AB.int _).pair ((AB.int _).pair ((AB.list (U:=U) (t:=93) (n:=8) (e:=fun(a:Gt)=>.agg (Jw.AV a)) (fun _=>rfl) rfl (fun a=>Uf.nr a) (fun a b h=>Uf.inj _ _ (by injection h))).pair ((AB.bool).pair ((AB.int _).pair ((AB.int _).pair ((AB.bool).pair ((AB.bool).pair ((AB.int _).pair ((AB.int _).pair ((AB.int _).pair ((AB.int _).pair ((AB.int _).pair ((AB.int _).pair ((AB.int _).pair ((AB.int _).pair AB.unit)))))))))))))))))))) (fun _=>rfl) (fun _=>rfl)
theorem ZgR:AB U Z4o [0,0,0,0,0,0,0]:=AB.Aq ((AB.int _).pair ((AB.int _).pair ((AB.int _).pair ((AB.bool).pair ((AB.bool).pair ((AB.int _).pair ((AB.int _).pair AB.unit))))))) (fun _=>rfl) (fun _=>rfl)
theorem Zha:AB U Z4x [0,0,0,0,0,0,0,0,0,0,0,0,0,0,0,0,0,0,0,0,0,0,0,0,0,0,2,0,0,0,0,0,0,0,0,0,0,15,0,0,8,0,0,0,0,0,0,0,0,0,0,0,0,0,0,0,0,0,0,0,0,0,2,15,0,0]:=AB.Aq ((AB.int _).pair ((Zhj).pair ((AB.int _).pair ((AB.int _).pair ((AB.int _).pair ((AB.int _).pair ((AB.int _).pair ((AB.int _).pair ((AB.int _).pair ((AB.bool).pair ((AB.bool).pair ((AB.bool).pair ((AB.bool).pair ((AB.bool).pair ((Zi9).pair ((Zhr).pair ((Zhq).pair ((ZgR).pair ((AB.int _).pair ((AB.list (U:=U) (t:=288) (n:=2) (e:=fun(a:Gw)=>.agg (Jm.AV a)) (fun _=>rfl) rfl (fun a=>U1.nr a) (fun a b h=>U1.inj _ _ (by injection h))).pair ((AB.list (U:=U) (t:=348) (n:=15) (e:=fun(a:F8)=>.agg (Ih.AV a)) (fun _=>rfl) rfl (fun a=>PG.nr a) (fun a b h=>PG.inj _ _ (by injection h))).pair ((AB.int _).pair ((AB.int _).pair AB.unit))))))))))))))))))))))) (fun _=>rfl) (fun _=>rfl)
theorem ZjF:AB U Z4i [0,1]:=AB.Aq ((AB.bool).pair ((AB.list (U:=U) (t:=5) (n:=1) (e:=fun(a:Int)=>Au.Ah a) (fun _=>rfl) rfl (fun a=>(AB.int _:AB U Au _).Ed a) (fun a b h=>(AB.int _:AB U Au _).Eb h)).pair AB.unit)) (fun _=>rfl) (fun _=>rfl)
theorem Zjy:AB U Z4H [0,0,5,15,14,0,0,1,2,0,0]:=AB.Aq ((AB.int _).pair ((AB.int _).pair ((AB.list (U:=U) (t:=293) (n:=5) (e:=fun(a:Gn)=>.agg (J7.AV a)) (fun _=>rfl) rfl (fun a=>Uc.nr a) (fun a b h=>Uc.inj _ _ (by injection h))).pair ((AB.list (U:=U) (t:=296) (n:=15) (e:=fun(a:Gp)=>.agg (Jp.AV a)) (fun _=>rfl) rfl (fun a=>U0.nr a) (fun a b h=>U0.inj _ _ (by injection h))).pair ((AB.list (U:=U) (t:=298) (n:=14) (e:=fun(a:Gs)=>.agg (Jb.AV a)) (fun _=>rfl) rfl (fun a=>U7.nr a) (fun a b h=>U7.inj _ _ (by injection h))).pair ((AB.int _).pair ((ZjF).pair ((AB.list (U:=U) (t:=357) (n:=2) (e:=fun(a:Gu)=>.agg (Ja.AV a)) (fun _=>rfl) rfl (fun a=>U3.nr a) (fun a b h=>U3.inj _ _ (by injection h))).pair ((AB.int _).pair ((AB.int _).pair AB.unit)))))))))) (fun _=>rfl) (fun _=>rfl)
theorem ZhV:AB U Z4E [5,0,0,0,3,0,0,2,12,0,0]:=AB.Aq ((AB.list (U:=U) (t:=222) (n:=5) (e:=fun(a:Ac)=>.agg (Ff.AV a)) (fun _=>rfl) rfl (fun a=>NL.nr a) (fun a b h=>NL.inj _ _ (by injection h))).pair ((AB.int _).pair ((AB.int _).pair ((AB.int _).pair ((AB.list (U:=U) (t:=302) (n:=3) (e:=fun(a:Gm)=>.agg (J9.AV a)) (fun _=>rfl) rfl (fun a=>Ub.nr a) (fun a b h=>Ub.inj _ _ (by injection h))).pair ((AB.int _).pair ((AB.bool).pair ((AB.list (U:=U) (t:=265) (n:=2) (e:=fun(a:FN)=>.agg (Io.AV a)) (fun _=>rfl) rfl (fun a=>PE.nr a) (fun a b h=>PE.inj _ _ (by injection h))).pair ((AB.list (U:=U) (t:=145) (n:=12) (e:=fun(a:Fz)=>.agg (JJ.AV a)) (fun _=>rfl) rfl (fun a=>RF.nr a) (fun a b h=>RF.inj _ _ (by injection h))).pair ((AB.bool).pair ((AB.int _).pair AB.unit))))))))))) (fun _=>rfl) (fun _=>rfl)
theorem ZgW:AB U Z4A [0,0,0,0,0,0,1,0,6,0,0,0,0,0,0,0,0,0,0,0,1,5,0,0,0,8]:=AB.Aq ((AB.int _).pair ((AB.int _).pair ((OM).pair ((RF).pair ((AB.bool).pair ((AB.int _).pair ((AB.bool).pair ((AB.list (U:=U) (t:=142) (n:=8) (e:=fun(a:FP)=>.agg (IX.AV a)) (fun _=>rfl) rfl (fun a=>OM.nr a) (fun a b h=>OM.inj _ _ (by injection h))).pair AB.unit)))))))) (fun _=>rfl) (fun _=>rfl)
theorem ZjH:AB U Z4t [0,0]:=AB.Aq ((AB.int _).pair ((AB.int _).pair AB.unit)) (fun _=>rfl) (fun _=>rfl)
theorem Zh8:AB U Z4F [0,0,0,0,0,0,0,0,0,0,0,0,0,0,0,0,0,0,0]:=AB.Aq ((AB.int _).pair ((RY).pair ((GG).pair ((GG).pair ((KY).pair ((AB.int _).pair ((AB.int _).pair ((AB.int _).pair ((ZjH).pair AB.unit))))))))) (fun _=>rfl) (fun _=>rfl)
theorem Zit:AB U Z4u [0,0,0,0,0,0,0,0,0,0,0,0,0,0,0,0,0,0,0,0,0,0,0,0,0,0,0,0,0,0,0,0,0,0,0,0,0,0,0,0,0,0,0,0,0,0,0,0,0,0,0,0,0,0,0,0,0,0]:=AB.Aq ((Zh8).pair ((AB.int _).pair ((AB.int _).pair ((AB.int _).pair ((RY).pair ((RY).pair ((RY).pair ((AB.int _).pair ((AB.int _).pair ((AB.int _).pair ((AB.int _).pair ((AB.int _).pair ((AB.bool).pair ((AB.int _).pair ((AB.int _).pair ((AB.bool).pair ((AB.int _).pair ((AB.bool).pair ((AB.bool).pair ((AB.int _).pair ((KY).pair ((AB.int _).pair ((AB.int _).pair AB.unit))))))))))))))))))))))) (fun _=>rfl) (fun _=>rfl)
theorem U9:AB U Jk [0,0,0,0,0,0,0,0,0,0,0,0,0,0,0,0,0,0,0,0,0,0,0,0,0,0,0,0,0,2,0,0,0,0,0,0,0,0,0,0,15,0,0,8,0,0,0,0,0,0,0,0,0,0,0,0,0,0,0,0,0,0,0,0,0,2,15,0,0,0,0,5,15,14,0,0,1,2,0,0,5,0,0,0,3,0,0,2,12,0,0,0,0,0,0,0,0,1,0,6,0,0,0,0,0,0,0,0,0,0,0,1,5,0,0,0,8,0,0,6,0,0,0,0,0,0,0,0,0,0,0,0,0,0,0,0,0,0,0,0,0,0,0,0,0,0,0,0,0,0,0,0,0,0,0,0,0,0,0,0,0,0,0,0,0,0,0,0,0,0,0,0,0,0,0,0,0,0,0,0,0,0,0,0,6,8]:=AB.Aq ((AB.int _).pair ((GG).pair ((Zha).pair ((Zjy).pair ((ZhV).pair ((ZgW).pair ((Z3r).pair ((Zit).pair ((AB.int _).pair ((AB.int _).pair ((AB.bool).pair ((AB.bool).pair ((AB.int _).pair ((AB.list (U:=U) (t:=277) (n:=6) (e:=fun(a:Ey)=>.agg (Hu.AV a)) (fun _=>rfl) rfl (fun a=>NR.nr a) (fun a b h=>NR.inj _ _ (by injection h))).pair ((AB.list (U:=U) (t:=142) (n:=8) (e:=fun(a:FP)=>.agg (IX.AV a)) (fun _=>rfl) rfl (fun a=>OM.nr a) (fun a b h=>OM.inj _ _ (by injection h))).pair AB.unit))))))))))))))) (fun _=>rfl) (fun _=>rfl)
theorem UZ:AB U Je [0,0,0,1]:=AB.Aq ((AB.int _).pair ((AB.bool).pair ((AB.int _).pair ((AB.list (U:=U) (t:=5) (n:=1) (e:=fun(a:Int)=>Au.Ah a) (fun _=>rfl) rfl (fun a=>(AB.int _:AB U Au _).Ed a) (fun a b h=>(AB.int _:AB U Au _).Eb h)).pair AB.unit)))) (fun _=>rfl) (fun _=>rfl)
theorem Z4g:AB U VR [1,1]:=AB.Aq ((AB.list (U:=U) (t:=5) (n:=1) (e:=fun(a:Int)=>Au.Ah a) (fun _=>rfl) rfl (fun a=>(AB.int _:AB U Au _).Ed a) (fun a b h=>(AB.int _:AB U Au _).Eb h)).pair ((AB.list (U:=U) (t:=5) (n:=1) (e:=fun(a:Int)=>Au.Ah a) (fun _=>rfl) rfl (fun a=>(AB.int _:AB U Au _).Ed a) (fun a b h=>(AB.int _:AB U Au _).Eb h)).pair AB.unit)) (fun _=>rfl) (fun _=>rfl)
theorem Z3N:AB U Pv [1,1]:=AB.Aq ((Z4g).pair AB.unit) (fun _=>rfl) (fun _=>rfl)
theorem Z46:AB U Py [1,1,0,0,0,2]:=AB.Aq ((Z3N).pair ((AB.int _).pair ((AB.int _).pair ((AB.int _).pair ((AB.list (U:=U) (t:=254) (n:=2) (e:=fun(a:CQ)=>.agg (Ji.AV a)) (fun _=>rfl) rfl (fun a=>UW.nr a) (fun a b h=>UW.inj _ _ (by injection h))).pair AB.unit))))) (fun _=>rfl) (fun _=>rfl)
theorem Z47:AB U VT [0,0,0,0,0,0,1,1,0,2,3,0]:=AB.Aq ((AB.int _).pair ((AB.int _).pair ((GG).pair ((GG).pair ((AB.list (U:=U) (t:=5) (n:=1) (e:=fun(a:Int)=>Au.Ah a) (fun _=>rfl) rfl (fun a=>(AB.int _:AB U Au _).Ed a) (fun a b h=>(AB.int _:AB U Au _).Eb h)).pair ((AB.list (U:=U) (t:=5) (n:=1) (e:=fun(a:Int)=>Au.Ah a) (fun _=>rfl) rfl (fun a=>(AB.int _:AB U Au _).Ed a) (fun a b h=>(AB.int _:AB U Au _).Eb h)).pair ((AB.int _).pair ((AB.list (U:=U) (t:=26) (n:=2) (e:=fun(a:Aa)=>.agg (EI.AV a)) (fun _=>rfl) rfl (fun a=>GG.nr a) (fun a b h=>GG.inj _ _ (by injection h))).pair ((AB.list (U:=U) (t:=29) (n:=3) (e:=fun(a:Bv)=>.agg (Fh.AV a)) (fun _=>rfl) rfl (fun a=>KY.nr a) (fun a b h=>KY.inj _ _ (by injection h))).pair ((AB.int _).pair AB.unit)))))))))) (fun _=>rfl) (fun _=>rfl)
theorem Z3X:AB U VP [0,0,0,0,0,0,1,1,0,2,3,0,0,0,0]:=AB.Aq ((Z47).pair ((AB.bool).pair ((AB.int _).pair ((AB.int _).pair AB.unit)))) (fun _=>rfl) (fun _=>rfl)
theorem Z3Q:AB U VI [0,0,0,0,2,3,0,0,0]:=AB.Aq ((AB.int _).pair ((AB.int _).pair ((AB.bool).pair ((AB.int _).pair ((AB.list (U:=U) (t:=26) (n:=2) (e:=fun(a:Aa)=>.agg (EI.AV a)) (fun _=>rfl) rfl (fun a=>GG.nr a) (fun a b h=>GG.inj _ _ (by injection h))).pair ((AB.list (U:=U) (t:=29) (n:=3) (e:=fun(a:Bv)=>.agg (Fh.AV a)) (fun _=>rfl) rfl (fun a=>KY.nr a) (fun a b h=>KY.inj _ _ (by injection h))).pair ((GG).pair ((AB.bool).pair AB.unit)))))))) (fun _=>rfl) (fun _=>rfl)
theorem Z4c:AB U VS [0,0,0,0,2,3,0,0,0,0,0,0,0,0,0,0,0,2,0]:=AB.Aq ((Z3Q).pair ((AB.bool).pair ((AB.int _).pair ((AB.int _).pair ((AB.int _).pair ((AB.int _).pair ((AB.int _).pair ((GG).pair ((AB.list (U:=U) (t:=26) (n:=2) (e:=fun(a:Aa)=>.agg (EI.AV a)) (fun _=>rfl) rfl (fun a=>GG.nr a) (fun a b h=>GG.inj _ _ (by injection h))).pair ((AB.int _).pair AB.unit)))))))))) (fun _=>rfl) (fun _=>rfl)
theorem ZjZ:AB U SQ [0,0,0,0,0,0,0,4,0,0,0,0,0,0,0,0,0,0,1,1,0,0,0,2,10,5,6,0,0,0,0,0,0,1,1,0,2,3,0,0,0,0,0,0,0,0,2,3,0,0,0,0,0,0,0,0,0,0,0,2,0,0,0,186,4,0,0]:=AB.Aq ((Z4b).pair ((AB.bool).pair ((Z46).pair ((AB.list (U:=U) (t:=192) (n:=10) (e:=fun(a:Di)=>.agg (Jg.AV a)) (fun _=>rfl) rfl (fun a=>Ua.nr a) (fun a b h=>Ua.inj _ _ (by injection h))).pair ((AB.list (U:=U) (t:=222) (n:=5) (e:=fun(a:Ac)=>.agg (Ff.AV a)) (fun _=>rfl) rfl (fun a=>NL.nr a) (fun a b h=>NL.inj _ _ (by injection h))).pair ((AB.list (U:=U) (t:=160) (n:=6) (e:=fun(a:Dv)=>.agg (Jd.AV a)) (fun _=>rfl) rfl (fun a=>UU.nr a) (fun a b h=>UU.inj _ _ (by injection h))).pair ((Z3X).pair ((Z4c).pair ((GG).pair ((AB.list (U:=U) (t:=158) (n:=186) (e:=fun(a:EM)=>.agg (Jk.AV a)) (fun _=>rfl) rfl (fun a=>U9.nr a) (fun a b h=>U9.inj _ _ (by injection h))).pair ((AB.list (U:=U) (t:=203) (n:=4) (e:=fun(a:DY)=>.agg (Je.AV a)) (fun _=>rfl) rfl (fun a=>UZ.nr a) (fun a b h=>UZ.inj _ _ (by injection h))).pair ((AB.int _).pair ((AB.int _).pair AB.unit))))))))))))) (fun _=>rfl) (fun _=>rfl)
theorem Zju:AB U Yc [0,0,0,0,0,0,0,0,0,0,0,0,0,0,0,0]:=AB.Aq ((AB.int _).pair ((AB.int _).pair ((AB.int _).pair ((AB.int _).pair ((AB.int _).pair ((AB.int _).pair ((AB.int _).pair ((AB.int _).pair ((AB.int _).pair ((AB.int _).pair ((AB.int _).pair ((AB.int _).pair ((AB.int _).pair ((AB.int _).pair ((AB.int _).pair ((AB.int _).pair AB.unit)))))))))))))))) (fun _=>rfl) (fun _=>rfl)
theorem Zjj:AB U Y6 [0,0]:=AB.Aq ((AB.int _).pair ((AB.int _).pair AB.unit)) (fun _=>rfl) (fun _=>rfl)
theorem qC:AB U MB [0,0]:=AB.Aq ((AB.int _).pair ((AB.int _).pair AB.unit)) (fun _=>rfl) (fun _=>rfl)
theorem Zhv:AB U Y0 [0,0]:=AB.Aq ((AB.int _).pair ((AB.int _).pair AB.unit)) (fun _=>rfl) (fun _=>rfl)
theorem rows4:rowsOf Tryz.prog 4=[0]:=by kernel_rfl
abbrev RE (E:Env):Prop:=E.rows=rowsOf Tryz.prog
theorem Z4m {E} (hE:RE E):BD U E 4:=.D9 (c:=Bh) (AB.bool) ((congrFun hE 4).trans rows4) (fun h=>Zjf h) (fun _=>rfl) (fun _=>rfl) (fun _=>rfl) (fun _=>rfl) (fun _=>rfl)
theorem rows5:rowsOf Tryz.prog 5=[0]:=by kernel_rfl
theorem tyok5 {E} (hE:RE E):BD U E 5:=.D9 (c:=Au) (AB.int _) ((congrFun hE 5).trans rows5) (fun h=>PR h) (fun _=>rfl) (fun _=>rfl) (fun _=>rfl) (fun _=>rfl) (fun _=>rfl)
theorem ZiE:rowsOf Tryz.prog 222=[0,0,0,0,1]:=by kernel_rfl
theorem Zj6 {E} (hE:RE E):BD U E 222:=.DK NL ((congrFun hE 222).trans ZiE) (fun _=>rfl) (fun _=>rfl) (fun _=>rfl)
theorem ZiQ:rowsOf Tryz.prog 179=[0,0,0,0,1,5]:=by kernel_rfl
theorem Zh2 {E} (hE:RE E):BD U E 179:=.DK UT ((congrFun hE 179).trans ZiQ) (fun _=>rfl) (fun _=>rfl) (fun _=>rfl)
theorem ZkB:rowsOf Tryz.prog 40=[0,0,0,6]:=by kernel_rfl
theorem ZlM {E} (hE:RE E):BD U E 40:=.DK Uk ((congrFun hE 40).trans ZkB) (fun _=>rfl) (fun _=>rfl) (fun _=>rfl)
theorem Zlf:rowsOf Tryz.prog 34=[0,0,0,0,0,0,0,4,0,0,0,0,0,0,0,0,0]:=by kernel_rfl
theorem ZkP {E} (hE:RE E):BD U E 34:=.DK Z4b ((congrFun hE 34).trans Zlf) (fun _=>rfl) (fun _=>rfl) (fun _=>rfl)
theorem rows3:rowsOf Tryz.prog 3=[0]:=by kernel_rfl
theorem rZ {E} (hE:RE E):BD U E 3:=.D9 (c:=Ae) (AB.int _) ((congrFun hE 3).trans rows3) (fun h=>PR h) (fun _=>rfl) (fun _=>rfl) (fun _=>rfl) (fun _=>rfl) (fun _=>rfl)
theorem Zhu:rowsOf Tryz.prog 254=[0,1]:=by kernel_rfl
theorem Ziz {E} (hE:RE E):BD U E 254:=.DK UW ((congrFun hE 254).trans Zhu) (fun _=>rfl) (fun _=>rfl) (fun _=>rfl)
theorem Zi0:rowsOf Tryz.prog 265=[0,0]:=by kernel_rfl
theorem Zi8 {E} (hE:RE E):BD U E 265:=.DK PE ((congrFun hE 265).trans Zi0) (fun _=>rfl) (fun _=>rfl) (fun _=>rfl)
theorem ZhK:rowsOf Tryz.prog 192=[0,0,0,0,0,0,0,0,2,0]:=by kernel_rfl
theorem Zic {E} (hE:RE E):BD U E 192:=.DK Ua ((congrFun hE 192).trans ZhK) (fun _=>rfl) (fun _=>rfl) (fun _=>rfl)
theorem Zjn:rowsOf Tryz.prog 277=[0,0,0,0,0,0]:=by kernel_rfl
theorem Ziu {E} (hE:RE E):BD U E 277:=.DK NR ((congrFun hE 277).trans Zjn) (fun _=>rfl) (fun _=>rfl) (fun _=>rfl)
theorem Zj9:rowsOf Tryz.prog 160=[0,0,0,0,6,0]:=by kernel_rfl
theorem ZhH {E} (hE:RE E):BD U E 160:=.DK UU ((congrFun hE 160).trans Zj9) (fun _=>rfl) (fun _=>rfl) (fun _=>rfl)
theorem ZjV:rowsOf Tryz.prog 26=[0,0]:=by kernel_rfl
theorem Z3Y {E} (hE:RE E):BD U E 26:=.DK GG ((congrFun hE 26).trans ZjV) (fun _=>rfl) (fun _=>rfl) (fun _=>rfl)
theorem Zk0:rowsOf Tryz.prog 29=[0,0,0]:=by kernel_rfl
theorem ZkO {E} (hE:RE E):BD U E 29:=.DK KY ((congrFun hE 29).trans Zk0) (fun _=>rfl) (fun _=>rfl) (fun _=>rfl)
theorem ZiB:rowsOf Tryz.prog 317=[0,1]:=by kernel_rfl
theorem Zjx {E} (hE:RE E):BD U E 317:=.DK qA ((congrFun hE 317).trans ZiB) (fun _=>rfl) (fun _=>rfl) (fun _=>rfl)
theorem Zhp:rowsOf Tryz.prog 348=[0,0,0,0,0,0,0,0,0,0,0,0,0,0,0]:=by kernel_rfl
theorem Zhl {E} (hE:RE E):BD U E 348:=.DK PG ((congrFun hE 348).trans Zhp) (fun _=>rfl) (fun _=>rfl) (fun _=>rfl)
theorem Zlv:rowsOf Tryz.prog 93=[0,0,0,0,0,0,0,0]:=by kernel_rfl
theorem ZkT {E} (hE:RE E):BD U E 93:=.DK Uf ((congrFun hE 93).trans Zlv) (fun _=>rfl) (fun _=>rfl) (fun _=>rfl)
theorem Zi5:rowsOf Tryz.prog 288=[0,0]:=by kernel_rfl
theorem Zh4 {E} (hE:RE E):BD U E 288:=.DK U1 ((congrFun hE 288).trans Zi5) (fun _=>rfl) (fun _=>rfl) (fun _=>rfl)
theorem ZgV:rowsOf Tryz.prog 293=[0,0,0,0,0]:=by kernel_rfl
theorem Zj5 {E} (hE:RE E):BD U E 293:=.DK Uc ((congrFun hE 293).trans ZgV) (fun _=>rfl) (fun _=>rfl) (fun _=>rfl)
theorem Zly:rowsOf Tryz.prog 41=[1]:=by kernel_rfl
theorem Z4e {E} (hE:RE E):BD U E 41:=.D9 (c:=(AA.list 5 1 (fun(a:Int)=>Au.Ah a):AA Ty (List (Ty 5)))) (AB.list (U:=U) (t:=5) (n:=1) (e:=fun(a:Int)=>Au.Ah a) (fun _=>rfl) rfl (fun a=>(AB.int _:AB U Au _).Ed a) (fun a b h=>(AB.int _:AB U Au _).Eb h)) ((congrFun hE 41).trans Zly) (fun h=>EO (U:=U) (t:=5) (n:=1) (e:=fun(a:Int)=>Au.Ah a) h) (fun _=>rfl) (fun _=>rfl) (fun _=>rfl) (fun _=>rfl) (fun _=>rfl)
theorem ZhF:rowsOf Tryz.prog 296=[0,0,0,0,0,0,0,0,0,0,1,0,1,0,0]:=by kernel_rfl
theorem Zim {E} (hE:RE E):BD U E 296:=.DK U0 ((congrFun hE 296).trans ZhF) (fun _=>rfl) (fun _=>rfl) (fun _=>rfl)
theorem Zhx:rowsOf Tryz.prog 298=[0,0,0,0,0,0,0,0,0,0,0,0,0,0]:=by kernel_rfl
theorem Zj4 {E} (hE:RE E):BD U E 298:=.DK U7 ((congrFun hE 298).trans Zhx) (fun _=>rfl) (fun _=>rfl) (fun _=>rfl)
theorem Zhf:rowsOf Tryz.prog 357=[0,1]:=by kernel_rfl
theorem Zhc {E} (hE:RE E):BD U E 357:=.DK U3 ((congrFun hE 357).trans Zhf) (fun _=>rfl) (fun _=>rfl) (fun _=>rfl)
theorem Zi2:rowsOf Tryz.prog 302=[0,0,1]:=by kernel_rfl
theorem ZiN {E} (hE:RE E):BD U E 302:=.DK Ub ((congrFun hE 302).trans Zi2) (fun _=>rfl) (fun _=>rfl) (fun _=>rfl)
theorem ZgX:rowsOf Tryz.prog 439=[0,0,0,0,1]:=by kernel_rfl
theorem ZjD {E} (hE:RE E):BD U E 439:=.DK U2 ((congrFun hE 439).trans ZgX) (fun _=>rfl) (fun _=>rfl) (fun _=>rfl)
theorem ZiL:rowsOf Tryz.prog 145=[0,0,0,0,0,0,0,0,0,0,1,5]:=by kernel_rfl
theorem Zji {E} (hE:RE E):BD U E 145:=.DK RF ((congrFun hE 145).trans ZiL) (fun _=>rfl) (fun _=>rfl) (fun _=>rfl)
theorem ZiH:rowsOf Tryz.prog 142=[0,0,0,0,1,0,6,0]:=by kernel_rfl
theorem ZjC {E} (hE:RE E):BD U E 142:=.DK OM ((congrFun hE 142).trans ZiH) (fun _=>rfl) (fun _=>rfl) (fun _=>rfl)
theorem Zii:rowsOf Tryz.prog 158=[0,0,0,0,0,0,0,0,0,0,0,0,0,0,0,0,0,0,0,0,0,0,0,0,0,0,0,0,0,2,0,0,0,0,0,0,0,0,0,0,15,0,0,8,0,0,0,0,0,0,0,0,0,0,0,0,0,0,0,0,0,0,0,0,0,2,15,0,0,0,0,5,15,14,0,0,1,2,0,0,5,0,0,0,3,0,0,2,12,0,0,0,0,0,0,0,0,1,0,6,0,0,0,0,0,0,0,0,0,0,0,1,5,0,0,0,8,0,0,6,0,0,0,0,0,0,0,0,0,0,0,0,0,0,0,0,0,0,0,0,0,0,0,0,0,0,0,0,0,0,0,0,0,0,0,0,0,0,0,0,0,0,0,0,0,0,0,0,0,0,0,0,0,0,0,0,0,0,0,0,0,0,0,0,6,8]:=by kernel_rfl
theorem ZiZ {E} (hE:RE E):BD U E 158:=.DK U9 ((congrFun hE 158).trans Zii) (fun _=>rfl) (fun _=>rfl) (fun _=>rfl)
theorem Zid:rowsOf Tryz.prog 203=[0,0,0,1]:=by kernel_rfl
theorem Zhg {E} (hE:RE E):BD U E 203:=.DK UZ ((congrFun hE 203).trans Zid) (fun _=>rfl) (fun _=>rfl) (fun _=>rfl)
theorem Zl3:rowsOf Tryz.prog 64=[0,0,0,0,0,0,0,4,0,0,0,0,0,0,0,0,0,0,1,1,0,0,0,2,10,5,6,0,0,0,0,0,0,1,1,0,2,3,0,0,0,0,0,0,0,0,2,3,0,0,0,0,0,0,0,0,0,0,0,2,0,0,0,186,4,0,0]:=by kernel_rfl
theorem Z3L {E} (hE:RE E):BD U E 64:=.DK ZjZ ((congrFun hE 64).trans Zl3) (fun _=>rfl) (fun _=>rfl) (fun _=>rfl)
theorem ZjO:rowsOf Tryz.prog 65=[0]:=by kernel_rfl
theorem OQ {E} (hE:RE E):BD U E 65:=.D9 (c:=Ae) (AB.int _) ((congrFun hE 65).trans ZjO) (fun h=>PR h) (fun _=>rfl) (fun _=>rfl) (fun _=>rfl) (fun _=>rfl) (fun _=>rfl)
theorem Zkf {E} (hE:RE E):BD U E 66:=.Aw [⟨64,fun a=>a.1⟩,⟨65,fun a=>a.2⟩] ⟨Z3L hE,OQ hE,trivial⟩ (fun _=>rfl) (fun _=>rfl) (fun _=>rfl) fun _ _ h=>Prod.ext h.1 h.2.1
theorem Zkc:rowsOf Tryz.prog 44=[1,1]:=by kernel_rfl
theorem Z3K {E} (hE:RE E):BD U E 44:=.DK Z3N ((congrFun hE 44).trans Zkc) (fun _=>rfl) (fun _=>rfl) (fun _=>rfl)
theorem ZkU {E} (hE:RE E):BD U E 99:=.Aw [⟨44,fun a=>a.1⟩,⟨65,fun a=>a.2⟩] ⟨Z3K hE,OQ hE,trivial⟩ (fun _=>rfl) (fun _=>rfl) (fun _=>rfl) fun _ _ h=>Prod.ext h.1 h.2.1
theorem Zib:rowsOf Tryz.prog 137=[2]:=by kernel_rfl
theorem Zjs {E} (hE:RE E):BD U E 137:=.D9 (c:=(AA.list 265 2 (fun(a:FN)=>.agg (Io.AV a)):AA Ty (List (Ty 265)))) (AB.list (U:=U) (t:=265) (n:=2) (e:=fun(a:FN)=>.agg (Io.AV a)) (fun _=>rfl) rfl (fun a=>PE.nr a) (fun a b h=>PE.inj _ _ (by injection h))) ((congrFun hE 137).trans Zib) (fun h=>EO (U:=U) (t:=265) (n:=2) (e:=fun(a:FN)=>.agg (Io.AV a)) h) (fun _=>rfl) (fun _=>rfl) (fun _=>rfl) (fun _=>rfl) (fun _=>rfl)
theorem Zkv:rowsOf Tryz.prog 51=[2]:=by kernel_rfl
theorem Zks {E} (hE:RE E):BD U E 51:=.D9 (c:=(AA.list 26 2 (fun(a:Aa)=>.agg (EI.AV a)):AA Ty (List (Ty 26)))) (AB.list (U:=U) (t:=26) (n:=2) (e:=fun(a:Aa)=>.agg (EI.AV a)) (fun _=>rfl) rfl (fun a=>GG.nr a) (fun a b h=>GG.inj _ _ (by injection h))) ((congrFun hE 51).trans Zkv) (fun h=>EO (U:=U) (t:=26) (n:=2) (e:=fun(a:Aa)=>.agg (EI.AV a)) h) (fun _=>rfl) (fun _=>rfl) (fun _=>rfl) (fun _=>rfl) (fun _=>rfl)
theorem Zkn:rowsOf Tryz.prog 52=[3]:=by kernel_rfl
theorem ZjP {E} (hE:RE E):BD U E 52:=.D9 (c:=(AA.list 29 3 (fun(a:Bv)=>.agg (Fh.AV a)):AA Ty (List (Ty 29)))) (AB.list (U:=U) (t:=29) (n:=3) (e:=fun(a:Bv)=>.agg (Fh.AV a)) (fun _=>rfl) rfl (fun a=>KY.nr a) (fun a b h=>KY.inj _ _ (by injection h))) ((congrFun hE 52).trans Zkn) (fun h=>EO (U:=U) (t:=29) (n:=3) (e:=fun(a:Bv)=>.agg (Fh.AV a)) h) (fun _=>rfl) (fun _=>rfl) (fun _=>rfl) (fun _=>rfl) (fun _=>rfl)
theorem ZkS:rowsOf Tryz.prog 88=[6]:=by kernel_rfl
theorem Zkl {E} (hE:RE E):BD U E 88:=.D9 (c:=(AA.list 277 6 (fun(a:Ey)=>.agg (Hu.AV a)):AA Ty (List (Ty 277)))) (AB.list (U:=U) (t:=277) (n:=6) (e:=fun(a:Ey)=>.agg (Hu.AV a)) (fun _=>rfl) rfl (fun a=>NR.nr a) (fun a b h=>NR.inj _ _ (by injection h))) ((congrFun hE 88).trans ZkS) (fun h=>EO (U:=U) (t:=277) (n:=6) (e:=fun(a:Ey)=>.agg (Hu.AV a)) h) (fun _=>rfl) (fun _=>rfl) (fun _=>rfl) (fun _=>rfl) (fun _=>rfl)
theorem ZhS:rowsOf Tryz.prog 119=[15]:=by kernel_rfl
theorem ZgY {E} (hE:RE E):BD U E 119:=.D9 (c:=(AA.list 348 15 (fun(a:F8)=>.agg (Ih.AV a)):AA Ty (List (Ty 348)))) (AB.list (U:=U) (t:=348) (n:=15) (e:=fun(a:F8)=>.agg (Ih.AV a)) (fun _=>rfl) rfl (fun a=>PG.nr a) (fun a b h=>PG.inj _ _ (by injection h))) ((congrFun hE 119).trans ZhS) (fun h=>EO (U:=U) (t:=348) (n:=15) (e:=fun(a:F8)=>.agg (Ih.AV a)) h) (fun _=>rfl) (fun _=>rfl) (fun _=>rfl) (fun _=>rfl) (fun _=>rfl)
theorem ZjE:rowsOf Tryz.prog 120=[8]:=by kernel_rfl
theorem ZhW {E} (hE:RE E):BD U E 120:=.D9 (c:=(AA.list 93 8 (fun(a:Gt)=>.agg (Jw.AV a)):AA Ty (List (Ty 93)))) (AB.list (U:=U) (t:=93) (n:=8) (e:=fun(a:Gt)=>.agg (Jw.AV a)) (fun _=>rfl) rfl (fun a=>Uf.nr a) (fun a b h=>Uf.inj _ _ (by injection h))) ((congrFun hE 120).trans ZjE) (fun h=>EO (U:=U) (t:=93) (n:=8) (e:=fun(a:Gt)=>.agg (Jw.AV a)) h) (fun _=>rfl) (fun _=>rfl) (fun _=>rfl) (fun _=>rfl) (fun _=>rfl)
theorem ZiA:rowsOf Tryz.prog 125=[2]:=by kernel_rfl
theorem Zil {E} (hE:RE E):BD U E 125:=.D9 (c:=(AA.list 288 2 (fun(a:Gw)=>.agg (Jm.AV a)):AA Ty (List (Ty 288)))) (AB.list (U:=U) (t:=288) (n:=2) (e:=fun(a:Gw)=>.agg (Jm.AV a)) (fun _=>rfl) rfl (fun a=>U1.nr a) (fun a b h=>U1.inj _ _ (by injection h))) ((congrFun hE 125).trans ZiA) (fun h=>EO (U:=U) (t:=288) (n:=2) (e:=fun(a:Gw)=>.agg (Jm.AV a)) h) (fun _=>rfl) (fun _=>rfl) (fun _=>rfl) (fun _=>rfl) (fun _=>rfl)
theorem Zje:rowsOf Tryz.prog 128=[5]:=by kernel_rfl
theorem ZhI {E} (hE:RE E):BD U E 128:=.D9 (c:=(AA.list 293 5 (fun(a:Gn)=>.agg (J7.AV a)):AA Ty (List (Ty 293)))) (AB.list (U:=U) (t:=293) (n:=5) (e:=fun(a:Gn)=>.agg (J7.AV a)) (fun _=>rfl) rfl (fun a=>Uc.nr a) (fun a b h=>Uc.inj _ _ (by injection h))) ((congrFun hE 128).trans Zje) (fun h=>EO (U:=U) (t:=293) (n:=5) (e:=fun(a:Gn)=>.agg (J7.AV a)) h) (fun _=>rfl) (fun _=>rfl) (fun _=>rfl) (fun _=>rfl) (fun _=>rfl)
theorem ZhO:rowsOf Tryz.prog 130=[14]:=by kernel_rfl
theorem Zh7 {E} (hE:RE E):BD U E 130:=.D9 (c:=(AA.list 298 14 (fun(a:Gs)=>.agg (Jb.AV a)):AA Ty (List (Ty 298)))) (AB.list (U:=U) (t:=298) (n:=14) (e:=fun(a:Gs)=>.agg (Jb.AV a)) (fun _=>rfl) rfl (fun a=>U7.nr a) (fun a b h=>U7.inj _ _ (by injection h))) ((congrFun hE 130).trans ZhO) (fun h=>EO (U:=U) (t:=298) (n:=14) (e:=fun(a:Gs)=>.agg (Jb.AV a)) h) (fun _=>rfl) (fun _=>rfl) (fun _=>rfl) (fun _=>rfl) (fun _=>rfl)
theorem ZiV:rowsOf Tryz.prog 146=[8]:=by kernel_rfl
theorem ZhP {E} (hE:RE E):BD U E 146:=.D9 (c:=(AA.list 142 8 (fun(a:FP)=>.agg (IX.AV a)):AA Ty (List (Ty 142)))) (AB.list (U:=U) (t:=142) (n:=8) (e:=fun(a:FP)=>.agg (IX.AV a)) (fun _=>rfl) rfl (fun a=>OM.nr a) (fun a b h=>OM.inj _ _ (by injection h))) ((congrFun hE 146).trans ZiV) (fun h=>EO (U:=U) (t:=142) (n:=8) (e:=fun(a:FP)=>.agg (IX.AV a)) h) (fun _=>rfl) (fun _=>rfl) (fun _=>rfl) (fun _=>rfl) (fun _=>rfl)
theorem Zj0:rowsOf Tryz.prog 136=[3]:=by kernel_rfl
theorem Ziv {E} (hE:RE E):BD U E 136:=.D9 (c:=(AA.list 302 3 (fun(a:Gm)=>.agg (J9.AV a)):AA Ty (List (Ty 302)))) (AB.list (U:=U) (t:=302) (n:=3) (e:=fun(a:Gm)=>.agg (J9.AV a)) (fun _=>rfl) rfl (fun a=>Ub.nr a) (fun a b h=>Ub.inj _ _ (by injection h))) ((congrFun hE 136).trans Zj0) (fun h=>EO (U:=U) (t:=302) (n:=3) (e:=fun(a:Gm)=>.agg (J9.AV a)) h) (fun _=>rfl) (fun _=>rfl) (fun _=>rfl) (fun _=>rfl) (fun _=>rfl)
theorem ZhE:rowsOf Tryz.prog 138=[12]:=by kernel_rfl
theorem ZhN {E} (hE:RE E):BD U E 138:=.D9 (c:=(AA.list 145 12 (fun(a:Fz)=>.agg (JJ.AV a)):AA Ty (List (Ty 145)))) (AB.list (U:=U) (t:=145) (n:=12) (e:=fun(a:Fz)=>.agg (JJ.AV a)) (fun _=>rfl) rfl (fun a=>RF.nr a) (fun a b h=>RF.inj _ _ (by injection h))) ((congrFun hE 138).trans ZhE) (fun h=>EO (U:=U) (t:=145) (n:=12) (e:=fun(a:Fz)=>.agg (JJ.AV a)) h) (fun _=>rfl) (fun _=>rfl) (fun _=>rfl) (fun _=>rfl) (fun _=>rfl)
theorem Zhy:rowsOf Tryz.prog 129=[15]:=by kernel_rfl
theorem Zhb {E} (hE:RE E):BD U E 129:=.D9 (c:=(AA.list 296 15 (fun(a:Gp)=>.agg (Jp.AV a)):AA Ty (List (Ty 296)))) (AB.list (U:=U) (t:=296) (n:=15) (e:=fun(a:Gp)=>.agg (Jp.AV a)) (fun _=>rfl) rfl (fun a=>U0.nr a) (fun a b h=>U0.inj _ _ (by injection h))) ((congrFun hE 129).trans Zhy) (fun h=>EO (U:=U) (t:=296) (n:=15) (e:=fun(a:Gp)=>.agg (Jp.AV a)) h) (fun _=>rfl) (fun _=>rfl) (fun _=>rfl) (fun _=>rfl) (fun _=>rfl)
theorem ZiI:rowsOf Tryz.prog 133=[2]:=by kernel_rfl
theorem Zjp {E} (hE:RE E):BD U E 133:=.D9 (c:=(AA.list 357 2 (fun(a:Gu)=>.agg (Ja.AV a)):AA Ty (List (Ty 357)))) (AB.list (U:=U) (t:=357) (n:=2) (e:=fun(a:Gu)=>.agg (Ja.AV a)) (fun _=>rfl) rfl (fun a=>U3.nr a) (fun a b h=>U3.inj _ _ (by injection h))) ((congrFun hE 133).trans ZiI) (fun h=>EO (U:=U) (t:=357) (n:=2) (e:=fun(a:Gu)=>.agg (Ja.AV a)) h) (fun _=>rfl) (fun _=>rfl) (fun _=>rfl) (fun _=>rfl) (fun _=>rfl)
theorem Zhm:rowsOf Tryz.prog 143=[5]:=by kernel_rfl
theorem Zi3 {E} (hE:RE E):BD U E 143:=.D9 (c:=(AA.list 439 5 (fun(a:Gq)=>.agg (Jc.AV a)):AA Ty (List (Ty 439)))) (AB.list (U:=U) (t:=439) (n:=5) (e:=fun(a:Gq)=>.agg (Jc.AV a)) (fun _=>rfl) rfl (fun a=>U2.nr a) (fun a b h=>U2.inj _ _ (by injection h))) ((congrFun hE 143).trans Zhm) (fun h=>EO (U:=U) (t:=439) (n:=5) (e:=fun(a:Gq)=>.agg (Jc.AV a)) h) (fun _=>rfl) (fun _=>rfl) (fun _=>rfl) (fun _=>rfl) (fun _=>rfl)
theorem Zkk:rowsOf Tryz.prog 45=[2]:=by kernel_rfl
theorem Zl2 {E} (hE:RE E):BD U E 45:=.D9 (c:=(AA.list 254 2 (fun(a:CQ)=>.agg (Ji.AV a)):AA Ty (List (Ty 254)))) (AB.list (U:=U) (t:=254) (n:=2) (e:=fun(a:CQ)=>.agg (Ji.AV a)) (fun _=>rfl) rfl (fun a=>UW.nr a) (fun a b h=>UW.inj _ _ (by injection h))) ((congrFun hE 45).trans Zkk) (fun h=>EO (U:=U) (t:=254) (n:=2) (e:=fun(a:CQ)=>.agg (Ji.AV a)) h) (fun _=>rfl) (fun _=>rfl) (fun _=>rfl) (fun _=>rfl) (fun _=>rfl)
theorem Zk8:rowsOf Tryz.prog 49=[5]:=by kernel_rfl
theorem Z49 {E} (hE:RE E):BD U E 49:=.D9 (c:=(AA.list 222 5 (fun(a:Ac)=>.agg (Ff.AV a)):AA Ty (List (Ty 222)))) (AB.list (U:=U) (t:=222) (n:=5) (e:=fun(a:Ac)=>.agg (Ff.AV a)) (fun _=>rfl) rfl (fun a=>NL.nr a) (fun a b h=>NL.inj _ _ (by injection h))) ((congrFun hE 49).trans Zk8) (fun h=>EO (U:=U) (t:=222) (n:=5) (e:=fun(a:Ac)=>.agg (Ff.AV a)) h) (fun _=>rfl) (fun _=>rfl) (fun _=>rfl) (fun _=>rfl) (fun _=>rfl)
theorem ZkN {E} (hE:RE E):BD U E 97:=.Aw [⟨49,fun a=>a.1⟩,⟨65,fun a=>a.2⟩] ⟨Z49 hE,OQ hE,trivial⟩ (fun _=>rfl) (fun _=>rfl) (fun _=>rfl) fun _ _ h=>Prod.ext h.1 h.2.1
theorem ZlQ:rowsOf Tryz.prog 47=[1,1,0,0,0,2]:=by kernel_rfl
theorem Z42 {E} (hE:RE E):BD U E 47:=.DK Z46 ((congrFun hE 47).trans ZlQ) (fun _=>rfl) (fun _=>rfl) (fun _=>rfl)
theorem Zjg {E} (hE:RE E):BD U E 101:=.Aw [⟨47,fun a=>a.1⟩,⟨65,fun a=>a.2⟩] ⟨Z42 hE,OQ hE,trivial⟩ (fun _=>rfl) (fun _=>rfl) (fun _=>rfl) fun _ _ h=>Prod.ext h.1 h.2.1
theorem Zkz:rowsOf Tryz.prog 23=[0,0]:=by kernel_rfl
theorem ZlK {E} (hE:RE E):BD U E 23:=.DK Z3Z ((congrFun hE 23).trans Zkz) (fun _=>rfl) (fun _=>rfl) (fun _=>rfl)
theorem Zl4:rowsOf Tryz.prog 24=[0]:=by kernel_rfl
theorem Z45 {E} (hE:RE E):BD U E 24:=.D9 (c:=Be) (AB.int _) ((congrFun hE 24).trans Zl4) (fun h=>PR h) (fun _=>rfl) (fun _=>rfl) (fun _=>rfl) (fun _=>rfl) (fun _=>rfl)
theorem Zjt {E} (hE:RE E):BD U E 243:=.Aw [⟨24,fun a=>a.1⟩,⟨3,fun a=>a.2⟩] ⟨Z45 hE,rZ hE,trivial⟩ (fun _=>rfl) (fun _=>rfl) (fun _=>rfl) fun _ _ h=>Prod.ext h.1 h.2.1
theorem Zlx:rowsOf Tryz.prog 32=[0,0,0,0,0,0]:=by kernel_rfl
theorem ZjY {E} (hE:RE E):BD U E 32:=.DK RY ((congrFun hE 32).trans Zlx) (fun _=>rfl) (fun _=>rfl) (fun _=>rfl)
theorem Zk1:rowsOf Tryz.prog 30=[4]:=by kernel_rfl
theorem Zl9 {E} (hE:RE E):BD U E 30:=.D9 (c:=(AA.list 40 4 (fun(a:Am)=>.agg (Iu.AV a)):AA Ty (List (Ty 40)))) (AB.list (U:=U) (t:=40) (n:=4) (e:=fun(a:Am)=>.agg (Iu.AV a)) (fun _=>rfl) rfl (fun a=>Uk.nr a) (fun a b h=>Uk.inj _ _ (by injection h))) ((congrFun hE 30).trans Zk1) (fun h=>EO (U:=U) (t:=40) (n:=4) (e:=fun(a:Am)=>.agg (Iu.AV a)) h) (fun _=>rfl) (fun _=>rfl) (fun _=>rfl) (fun _=>rfl) (fun _=>rfl)
theorem ZlP:rowsOf Tryz.prog 37=[0,0]:=by kernel_rfl
theorem Zlq {E} (hE:RE E):BD U E 37:=.DK P5 ((congrFun hE 37).trans ZlP) (fun _=>rfl) (fun _=>rfl) (fun _=>rfl)
theorem Zke:rowsOf Tryz.prog 75=[0]:=by kernel_rfl
theorem Z40 {E} (hE:RE E):BD U E 75:=.D9 (c:=DL) (AB.int _) ((congrFun hE 75).trans Zke) (fun h=>PR h) (fun _=>rfl) (fun _=>rfl) (fun _=>rfl) (fun _=>rfl) (fun _=>rfl)
theorem Zjb {E} (hE:RE E):BD U E 206:=.Aw [⟨3,fun a=>a.1⟩,⟨65,fun a=>a.2⟩] ⟨rZ hE,OQ hE,trivial⟩ (fun _=>rfl) (fun _=>rfl) (fun _=>rfl) fun _ _ h=>Prod.ext h.1 h.2.1
theorem Zkb:rowsOf Tryz.prog 38=[6]:=by kernel_rfl
theorem ZlH {E} (hE:RE E):BD U E 38:=.D9 (c:=(AA.list 179 6 (fun(a:BG)=>.agg (Il.AV a)):AA Ty (List (Ty 179)))) (AB.list (U:=U) (t:=179) (n:=6) (e:=fun(a:BG)=>.agg (Il.AV a)) (fun _=>rfl) rfl (fun a=>UT.nr a) (fun a b h=>UT.inj _ _ (by injection h))) ((congrFun hE 38).trans Zkb) (fun h=>EO (U:=U) (t:=179) (n:=6) (e:=fun(a:BG)=>.agg (Il.AV a)) h) (fun _=>rfl) (fun _=>rfl) (fun _=>rfl) (fun _=>rfl) (fun _=>rfl)
theorem Zi1:rowsOf Tryz.prog 467=[1]:=by kernel_rfl
theorem Zhk {E} (hE:RE E):BD U E 467:=.D9 (c:=(AA.list 75 1 (fun(a:Int)=>DL.Ah a):AA Ty (List (Ty 75)))) (AB.list (U:=U) (t:=75) (n:=1) (e:=fun(a:Int)=>DL.Ah a) (fun _=>rfl) rfl (fun a=>(AB.int _:AB U DL _).Ed a) (fun a b h=>(AB.int _:AB U DL _).Eb h)) ((congrFun hE 467).trans Zi1) (fun h=>EO (U:=U) (t:=75) (n:=1) (e:=fun(a:Int)=>DL.Ah a) h) (fun _=>rfl) (fun _=>rfl) (fun _=>rfl) (fun _=>rfl) (fun _=>rfl)
theorem Zh0 {E} (hE:RE E):BD U E 281:=.Aw [⟨75,fun a=>a.1⟩,⟨4,fun a=>a.2⟩] ⟨Z40 hE,Z4m hE,trivial⟩ (fun _=>rfl) (fun _=>rfl) (fun _=>rfl) fun _ _ h=>Prod.ext h.1 h.2.1
theorem ZiY:rowsOf Tryz.prog 338=[0,0,0,0,0,0,0,0,0,0,0,0,0,0,0,0]:=by kernel_rfl
theorem ZjG {E} (hE:RE E):BD U E 338:=.DK Zju ((congrFun hE 338).trans ZiY) (fun _=>rfl) (fun _=>rfl) (fun _=>rfl)
theorem Zhe:rowsOf Tryz.prog 246=[1]:=by kernel_rfl
theorem Zj1 {E} (hE:RE E):BD U E 246:=.D9 (c:=(AA.list 41 1 (fun(a:List Int)=>((AA.list 5 1 (fun(a:Int)=>Au.Ah a):AA Ty (List (Ty 5)))).Ah a):AA Ty (List (Ty 41)))) (AB.list (U:=U) (t:=41) (n:=1) (e:=fun(a:List Int)=>((AA.list 5 1 (fun(a:Int)=>Au.Ah a):AA Ty (List (Ty 5)))).Ah a) (fun _=>rfl) rfl (fun a=>(AB.list (U:=U) (t:=5) (n:=1) (e:=fun(a:Int)=>Au.Ah a) (fun _=>rfl) rfl (fun a=>(AB.int _:AB U Au _).Ed a) (fun a b h=>(AB.int _:AB U Au _).Eb h):AB U (AA.list 5 1 (fun(a:Int)=>Au.Ah a):AA Ty (List (Ty 5))) _).Ed a) (fun a b h=>(AB.list (U:=U) (t:=5) (n:=1) (e:=fun(a:Int)=>Au.Ah a) (fun _=>rfl) rfl (fun a=>(AB.int _:AB U Au _).Ed a) (fun a b h=>(AB.int _:AB U Au _).Eb h):AB U (AA.list 5 1 (fun(a:Int)=>Au.Ah a):AA Ty (List (Ty 5))) _).Eb h)) ((congrFun hE 246).trans Zhe) (fun h=>EO (U:=U) (t:=41) (n:=1) (e:=fun(a:List Int)=>((AA.list 5 1 (fun(a:Int)=>Au.Ah a):AA Ty (List (Ty 5)))).Ah a) h) (fun _=>rfl) (fun _=>rfl) (fun _=>rfl) (fun _=>rfl) (fun _=>rfl)
theorem Zjc:rowsOf Tryz.prog 184=[0,0]:=by kernel_rfl
theorem Zie {E} (hE:RE E):BD U E 184:=.DK Zjj ((congrFun hE 184).trans Zjc) (fun _=>rfl) (fun _=>rfl) (fun _=>rfl)
theorem ZhA:rowsOf Tryz.prog 111=[0]:=by kernel_rfl
theorem Zja {E} (hE:RE E):BD U E 111:=.D9 (c:=LC) (AB.int _) ((congrFun hE 111).trans ZhA) (fun h=>PR h) (fun _=>rfl) (fun _=>rfl) (fun _=>rfl) (fun _=>rfl) (fun _=>rfl)
theorem Zjm:rowsOf Tryz.prog 434=[0,0]:=by kernel_rfl
theorem Ziq {E} (hE:RE E):BD U E 434:=.DK qC ((congrFun hE 434).trans Zjm) (fun _=>rfl) (fun _=>rfl) (fun _=>rfl)
theorem Zix {E} (hE:RE E):BD U E 421:=.Aw [⟨41,fun a=>a.1⟩,⟨65,fun a=>a.2⟩] ⟨Z4e hE,OQ hE,trivial⟩ (fun _=>rfl) (fun _=>rfl) (fun _=>rfl) fun _ _ h=>Prod.ext h.1 h.2.1
theorem Zi4:rowsOf Tryz.prog 446=[2]:=by kernel_rfl
theorem ZgS {E} (hE:RE E):BD U E 446:=.D9 (c:=(AA.list 434 2 (fun(a:D7)=>.agg (MB.AV a)):AA Ty (List (Ty 434)))) (AB.list (U:=U) (t:=434) (n:=2) (e:=fun(a:D7)=>.agg (MB.AV a)) (fun _=>rfl) rfl (fun a=>qC.nr a) (fun a b h=>qC.inj _ _ (by injection h))) ((congrFun hE 446).trans Zi4) (fun h=>EO (U:=U) (t:=434) (n:=2) (e:=fun(a:D7)=>.agg (MB.AV a)) h) (fun _=>rfl) (fun _=>rfl) (fun _=>rfl) (fun _=>rfl) (fun _=>rfl)
theorem ZjK:rowsOf Tryz.prog 48=[10]:=by kernel_rfl
theorem Zld {E} (hE:RE E):BD U E 48:=.D9 (c:=(AA.list 192 10 (fun(a:Di)=>.agg (Jg.AV a)):AA Ty (List (Ty 192)))) (AB.list (U:=U) (t:=192) (n:=10) (e:=fun(a:Di)=>.agg (Jg.AV a)) (fun _=>rfl) rfl (fun a=>Ua.nr a) (fun a b h=>Ua.inj _ _ (by injection h))) ((congrFun hE 48).trans ZjK) (fun h=>EO (U:=U) (t:=192) (n:=10) (e:=fun(a:Di)=>.agg (Jg.AV a)) h) (fun _=>rfl) (fun _=>rfl) (fun _=>rfl) (fun _=>rfl) (fun _=>rfl)
theorem ZjR:rowsOf Tryz.prog 50=[6]:=by kernel_rfl
theorem Zl1 {E} (hE:RE E):BD U E 50:=.D9 (c:=(AA.list 160 6 (fun(a:Dv)=>.agg (Jd.AV a)):AA Ty (List (Ty 160)))) (AB.list (U:=U) (t:=160) (n:=6) (e:=fun(a:Dv)=>.agg (Jd.AV a)) (fun _=>rfl) rfl (fun a=>UU.nr a) (fun a b h=>UU.inj _ _ (by injection h))) ((congrFun hE 50).trans ZjR) (fun h=>EO (U:=U) (t:=160) (n:=6) (e:=fun(a:Dv)=>.agg (Jd.AV a)) h) (fun _=>rfl) (fun _=>rfl) (fun _=>rfl) (fun _=>rfl) (fun _=>rfl)
theorem Zkr:rowsOf Tryz.prog 56=[0,0,0,0,0,0,1,1,0,2,3,0,0,0,0]:=by kernel_rfl
theorem ZjU {E} (hE:RE E):BD U E 56:=.DK Z3X ((congrFun hE 56).trans Zkr) (fun _=>rfl) (fun _=>rfl) (fun _=>rfl)
theorem ZkH:rowsOf Tryz.prog 60=[0,0,0,0,2,3,0,0,0,0,0,0,0,0,0,0,0,2,0]:=by kernel_rfl
theorem Zls {E} (hE:RE E):BD U E 60:=.DK Z4c ((congrFun hE 60).trans ZkH) (fun _=>rfl) (fun _=>rfl) (fun _=>rfl)
theorem ZjM:rowsOf Tryz.prog 61=[186]:=by kernel_rfl
theorem Zlk {E} (hE:RE E):BD U E 61:=.D9 (c:=(AA.list 158 186 (fun(a:EM)=>.agg (Jk.AV a)):AA Ty (List (Ty 158)))) (AB.list (U:=U) (t:=158) (n:=186) (e:=fun(a:EM)=>.agg (Jk.AV a)) (fun _=>rfl) rfl (fun a=>U9.nr a) (fun a b h=>U9.inj _ _ (by injection h))) ((congrFun hE 61).trans ZjM) (fun h=>EO (U:=U) (t:=158) (n:=186) (e:=fun(a:EM)=>.agg (Jk.AV a)) h) (fun _=>rfl) (fun _=>rfl) (fun _=>rfl) (fun _=>rfl) (fun _=>rfl)
theorem Zln:rowsOf Tryz.prog 62=[4]:=by kernel_rfl
theorem ZkK {E} (hE:RE E):BD U E 62:=.D9 (c:=(AA.list 203 4 (fun(a:DY)=>.agg (Je.AV a)):AA Ty (List (Ty 203)))) (AB.list (U:=U) (t:=203) (n:=4) (e:=fun(a:DY)=>.agg (Je.AV a)) (fun _=>rfl) rfl (fun a=>UZ.nr a) (fun a b h=>UZ.inj _ _ (by injection h))) ((congrFun hE 62).trans Zln) (fun h=>EO (U:=U) (t:=203) (n:=4) (e:=fun(a:DY)=>.agg (Je.AV a)) h) (fun _=>rfl) (fun _=>rfl) (fun _=>rfl) (fun _=>rfl) (fun _=>rfl)
theorem Zlp:rowsOf Tryz.prog 42=[1,1]:=by kernel_rfl
theorem ZjL {E} (hE:RE E):BD U E 42:=.DK Z4g ((congrFun hE 42).trans Zlp) (fun _=>rfl) (fun _=>rfl) (fun _=>rfl)
theorem Zlt:rowsOf Tryz.prog 54=[0,0,0,0,0,0,1,1,0,2,3,0]:=by kernel_rfl
theorem Zlz {E} (hE:RE E):BD U E 54:=.DK Z47 ((congrFun hE 54).trans Zlt) (fun _=>rfl) (fun _=>rfl) (fun _=>rfl)
theorem ZjX:rowsOf Tryz.prog 58=[0,0,0,0,2,3,0,0,0]:=by kernel_rfl
theorem ZkC {E} (hE:RE E):BD U E 58:=.DK Z3Q ((congrFun hE 58).trans ZjX) (fun _=>rfl) (fun _=>rfl) (fun _=>rfl)
theorem Zko:rowsOf Tryz.prog 27=[0]:=by kernel_rfl
theorem ZkD {E} (hE:RE E):BD U E 27:=.D9 (c:=Be) (AB.int _) ((congrFun hE 27).trans Zko) (fun h=>PR h) (fun _=>rfl) (fun _=>rfl) (fun _=>rfl) (fun _=>rfl) (fun _=>rfl)
theorem ZiF {E} (hE:RE E):BD U E 308:=.Aw [⟨26,fun a=>a.1⟩,⟨65,fun a=>a.2⟩] ⟨Z3Y hE,OQ hE,trivial⟩ (fun _=>rfl) (fun _=>rfl) (fun _=>rfl) fun _ _ h=>Prod.ext h.1 h.2.1
theorem rows9:rowsOf Tryz.prog 9=[0]:=by kernel_rfl
theorem tyok9 {E} (hE:RE E):BD U E 9:=.D9 (c:=cst) (AB.str) ((congrFun hE 9).trans rows9) (fun h=>Zll h) (fun _=>rfl) (fun _=>rfl) (fun _=>rfl) (fun _=>rfl) (fun _=>rfl)
theorem Zif:rowsOf Tryz.prog 311=[1]:=by kernel_rfl
theorem ZiM {E} (hE:RE E):BD U E 311:=.D9 (c:=(AA.list 24 1 (fun(a:Int)=>Be.Ah a):AA Ty (List (Ty 24)))) (AB.list (U:=U) (t:=24) (n:=1) (e:=fun(a:Int)=>Be.Ah a) (fun _=>rfl) rfl (fun a=>(AB.int _:AB U Be _).Ed a) (fun a b h=>(AB.int _:AB U Be _).Eb h)) ((congrFun hE 311).trans Zif) (fun h=>EO (U:=U) (t:=24) (n:=1) (e:=fun(a:Int)=>Be.Ah a) h) (fun _=>rfl) (fun _=>rfl) (fun _=>rfl) (fun _=>rfl) (fun _=>rfl)
theorem Zj7:rowsOf Tryz.prog 525=[0,0]:=by kernel_rfl
theorem Ziy {E} (hE:RE E):BD U E 525:=.DK Zhv ((congrFun hE 525).trans Zj7) (fun _=>rfl) (fun _=>rfl) (fun _=>rfl)
theorem BD.four {E:Env} {t:Nat} (h:BD U E t):(∀a,AO U (U.encS t a)=U.enc t a)/\(∀v a,U.FV t v=some a->DJ (E.rows t) (AO U v)=U.enc t a)/\(∀a,(U.enc t a).cells=A7 U (cellsS (U.encS t a)))/\(∀a,BQ (U.enc t a)=true):=⟨h.encS,h.dec,h.cells,h.nr⟩
def Yl:List Nat:=[4,5,222,179,40,34,3,254,265,192,277,160,26,29,317,348,93,288,293,41,296,298,357,302,439,145,142,158,203,64,65,66,44,99,137,51,52,88,119,120,125,128,130,146,136,138,129,133,143,45,49,97,47,101,23,24,243,32,30,37,75,206,38,467,281,338,246,184,111,434,421,446,48,50,56,60,61,62,42,54,58,27,308,9,311,525]
def uP:List Nat:=[1723,1724,1725,1726,1727,1728,1729,1730,1731,1732,1733,1734,1735,1736,1737,1738,1739,1740,1746,1747,1741,1748,1742,1743,1744,1745,1751,1749,1750,1753,1754]
theorem ZgK (t:Nat) (h:t∉Yl) (h' : t∉uP) (a:Ty t):False:=by
 unfold Ty at a
 split at a<;>first|exact h (by decide)|exact h' (by decide)|exact a.elim
theorem Z4G {E} (hE:RE E):VO (BD U E) Yl:=⟨Z4m hE,tyok5 hE,Zj6 hE,Zh2 hE,ZlM hE,ZkP hE,rZ hE,Ziz hE,Zi8 hE,Zic hE,Ziu hE,ZhH hE,Z3Y hE,ZkO hE,Zjx hE,Zhl hE,ZkT hE,Zh4 hE,Zj5 hE,Z4e hE,Zim hE,Zj4 hE,Zhc hE,ZiN hE,ZjD hE,Zji hE,ZjC hE,ZiZ hE,Zhg hE,Z3L hE,OQ hE,Zkf hE,Z3K hE,ZkU hE,Zjs hE,Zks hE,ZjP hE,Zkl hE,ZgY hE,ZhW hE,Zil hE,ZhI hE,Zh7 hE,ZhP hE,Ziv hE,ZhN hE,Zhb hE,Zjp hE,Zi3 hE,Zl2 hE,Z49 hE,ZkN hE,Z42 hE,Zjg hE,ZlK hE,Z45 hE,Zjt hE,ZjY hE,Zl9 hE,Zlq hE,Z40 hE,Zjb hE,ZlH hE,Zhk hE,Zh0 hE,ZjG hE,Zj1 hE,Zie hE,Zja hE,Ziq hE,Zix hE,ZgS hE,Zld hE,Zl1 hE,ZjU hE,Zls hE,Zlk hE,ZkK hE,ZjL hE,Zlz hE,ZkC hE,ZkD hE,ZiF hE,tyok9 hE,ZiM hE,Ziy hE,trivial⟩
theorem all_Y (E:Env):VO (fun t=>(∀a,AO U (U.encS t a)=U.enc t a)/\(∀v a,U.FV t v=some a->DJ (E.rows t) (AO U v)=U.enc t a)/\(∀a,(U.enc t a).cells=A7 U (cellsS (U.encS t a)))/\(∀a,BQ (U.enc t a)=true)) uP:=by
 repeat' first|exact trivial|refine⟨⟨fun a=>rfl,(fun v a h=>nomatch h),fun a=>rfl,fun a=>rfl⟩,?_⟩
theorem Xl (E:Env) (hE:E.rows=rowsOf Tryz.prog):CG U E:=by
 have key:∀t,(∀a,AO U (U.encS t a)=U.enc t a)/\(∀v a,U.FV t v=some a->DJ (E.rows t) (AO U v)=U.enc t a)/\(∀a,(U.enc t a).cells=A7 U (cellsS (U.encS t a)))/\(∀a,BQ (U.enc t a)=true):=fun t=>by
  by_cases h:t∈Yl
  ·exact BD.four ((Z4G hE).at h)
  by_cases h' : t∈uP
  ·exact(all_Y E).at h'
  have e:=fun a=>ZgK t h h' a
  exact⟨fun a=>(e a).elim,fun v a h=>(e a).elim,fun a=>(e a).elim,fun a=>(e a).elim⟩
 have sub:∀t∈U.keys,t∈Yl:=by decide
 exact⟨fun t=>(key t).1,fun t=>(key t).2.1,fun t=>(key t).2.2.1,fun t=>(key t).2.2.2,fun t ht=>((Z4G hE).at (sub t ht)).inj⟩
def prefV:List V:=[0,0,3,1,0].map fun n=>V.lit (.int .u64 n)
def sumsV:List V:=[0,1788928,3577856,3003392,7155712,7764992,6006784,4252672,14311424,12659712,15529984,16233472,12013568,11279360,8505344,10126336].map fun n=>V.lit (.int .u32 n)
def gl:Nat->Option (List V):=fun g=>if g=0 then some prefV else if g=1 then some sumsV else none
theorem FB:Tryz.prog.follows .mixedOrders=true:=by kernel_rfl
def noH:FuncId->List FuncId->Option (HMod U):=fun _ _=>none
def FH:Lj Tryz.prog:=.no _
def B0:Env:=EV (U:=U) Tryz.prog gl 0 (fun _=>none) noH FH
abbrev MS:={ms:FuncId->Option (Ai U) // ∀g m,ms g=some m->Ag Tryz.prog B0 g m}
abbrev HS:={hs:FuncId->List FuncId->Option (HMod U) // ∀g k m,hs g k=some m->Dh Tryz.prog B0 g m}
def Ar:MS:=⟨fun _=>none,fun _ _ h=>nomatch h⟩
def Ap:HS:=⟨fun _ _=>none,fun _ _ _ h=>nomatch h⟩
def mc {f:FuncId} {m:Ai U} (h:Ag Tryz.prog B0 f m) (s:MS):MS:=⟨fun g=>bif Nat.beq g f then some m else s.1 g,fun g m' e=>by
 cases hb:Nat.beq g f with
 | true=>dsimp only at e;rw [hb] at e;cases e;exact(Nat.eq_of_beq_eq_true hb)▸h
 | false=>dsimp only at e;rw [hb] at e;exact s.2 g m' e⟩
def hc {f:FuncId} {m:HMod U} (k:List FuncId) (h:Dh Tryz.prog B0 f m) (s:HS):HS:=⟨fun g k' =>bif Nat.beq g f&&k' == k then some m else s.1 g k',fun g k' m' e=>by
 cases hb:(Nat.beq g f&&k' == k) with
 | true=>dsimp only at e;rw [hb] at e;cases e;exact(Nat.eq_of_beq_eq_true ((Bool.and_eq_true _ _).mp hb).1)▸h
 | false=>dsimp only at e;rw [hb] at e;exact s.2 g k' m' e⟩
def AN:Nat->Option Lay:=fun _=>none
noncomputable def Bl (fn:Func) (ts:List Nat) (x:Dy U ts):BI U:=⟨FZ fn,[],Um ts x fn.ntmps,false⟩
noncomputable def H6 (fn:Func) (sh:Shape) (x:sh.X U):BI U:=⟨FZ fn,[],RI (sh.enc x) fn.ntmps,false⟩
noncomputable def BA (fn:Func) (p:List Nat) (L:Lay) (x:L.sh.X U):BI U:=spot (FZ fn) p fn.ntmps L.keep (L.sh.enc x)
abbrev tV (f:FuncId) (fn:Func) (ms:MS) (hs:HS) (A:Nat->Option Lay) (rt:Nat) {Pt:Type} (T:Pt->Tr U (U.Ty rt⊕Pt)) (sp:Pt->BI U):Prop:=
 ∀p,Le.DR (EV Tryz.prog gl f ms.1 hs.1 FH) (Lu ms.1 hs.1 FH.tab) A f fn 0 (Uu (EV Tryz.prog gl f ms.1 hs.1 FH) fn) 1000 (.run (sp p).c) (sp p).K (sp p).st (sp p).sk=(T p).map (NW (Yh (U:=U) rt) sp)
abbrev BlkH (f:FuncId) (fn:Func) (ms:MS) (hs:HS) (A:Nat->Option Lay) (fa:List (List Fk)) (fb:List Bf) (k:Nat) (m:HMod U) {Pt:Type} (T:Pt->Tr U (U.Ty m.ky⊕Pt)) (sp:Pt->BI U):Prop:=
 ∀p,Le.DR (EV Tryz.prog gl f ms.1 hs.1 FH) (Lu ms.1 hs.1 FH.tab) A f fn k (Ri (EV Tryz.prog gl f ms.1 hs.1 FH) fn fa fb k m.GV m.one) 1000 (.run (sp p).c) (sp p).K (sp p).st (sp p).sk=(T p).map (NW m.out sp)
theorem okP {f:FuncId} {fn:Func} {ms:MS} {hs:HS} {A:Nat->Option Lay} {m:Ai U} {Pt:Type} {T:Pt->Tr U (U.Ty m.rt⊕Pt)} {sp:Pt->BI U} (h:tV f fn ms hs A m.rt T sp) (b0:Dy U m.ts->Pt)
  (hc:DD (EV Tryz.prog gl f ms.1 hs.1 FH) f (FZ fn)=true) (hfn:Tryz.prog.funcs[f]? = some fn) (hn:(fn.name == "runtime.NumGoroutine")=false) (hb:fn.body=some (FZ fn))
  (hm:∀x,m.fn x=AY T (b0 x)) (hsp:∀x,sp (b0 x)=Bl fn m.ts x):Ag Tryz.prog B0 f m:=
 Z2Z rfl (Xl _ rfl) FB ms.2 hs.2 hfn hn hb hc m T sp h b0 hm hsp
theorem CZ {f rt:Nat} {ts:List Nat} {hk:∀t∈ts,t∈U.keys} {fn:Func} {Pt:Type} {T:Pt->Tr U (U.Ty rt⊕Pt)} {b0:Dy U ts->Pt} (ms:MS) (hs:HS) (A:Nat->Option Lay) (sp:Pt->BI U) (hfn:Tryz.prog.funcs[f]? = some fn) (h:tV f fn ms hs A rt T sp)
  (hc:(DD (EV Tryz.prog gl f ms.1 hs.1 FH) f (FZ fn),fn.name == "runtime.NumGoroutine",fn.body)=(true,false,some (FZ fn))) (hsp:∀x,sp (b0 x)=Bl fn ts x):Ag Tryz.prog B0 f ⟨ts,rt,fun x=>AY T (b0 x),hk⟩:=
 okP (m:=⟨ts,rt,fun x=>AY T (b0 x),hk⟩) h b0 (congrArg (·.1) hc) hfn (congrArg (·.2.1) hc) (congrArg (·.2.2) hc) (fun _=>rfl) hsp
theorem okH {f:FuncId} {fn:Func} {ms:MS} {hs:HS} {A:Nat->Option Lay} {fa:List (List Fk)} {fb:List Bf} {k:Nat} {m:HMod U} {Pt:Type} {T:Pt->Tr U (U.Ty m.ky⊕Pt)} {sp:Pt->BI U} (h:BlkH f fn ms hs A fa fb k m T sp) (b0:m.BU.X U->Pt)
  (hk:∀x:m.BU.X U,(m.BU.enc x).2.length=k) (hc:DD (EV Tryz.prog gl f ms.1 hs.1 FH) f (FZ fn)=true) (hfn:Tryz.prog.funcs[f]? = some fn) (hn:(fn.name == "runtime.NumGoroutine")=false) (hb:fn.body=some (FZ fn))
  (hm:∀x:m.BU.X U,m.fn x=AY T (b0 x)) (hsp:∀x:m.BU.X U,sp (b0 x)=H6 fn m.BU x):Dh Tryz.prog B0 f m:=
 ZeK rfl (Xl _ rfl) FB ms.2 hs.2 hfn hn hb hc m hk T sp h b0 hm hsp
theorem okR {f ky:Nat} {fn:Func} {fi:List (List Fk)} {bi:List Bf} {BU GV:Shape} {one:Bool} {Iz:U.Ty ky->GV.X U} {ho:BU.OK U} {Pt:Type} {T:Pt->Tr U (U.Ty ky⊕Pt)} {b0:BU.X U->Pt} (ms:MS) (hs:HS) (A:Nat->Option Lay) (fa:List (List Fk)) (fb:List Bf) (k:Nat) (sp:Pt->BI U) (hfn:Tryz.prog.funcs[f]? = some fn)
  (h:BlkH f fn ms hs A fa fb k ⟨fi,bi,BU,GV,one,ky,Iz,fun x=>AY T (b0 x),ho⟩ T sp) (hc:(DD (EV Tryz.prog gl f ms.1 hs.1 FH) f (FZ fn),fn.name == "runtime.NumGoroutine",fn.body)=(true,false,some (FZ fn))) (hsp:∀x,((BU.enc x).2.length,sp (b0 x))=(k,H6 fn BU x)) :
  Dh Tryz.prog B0 f ⟨fi,bi,BU,GV,one,ky,Iz,fun x=>AY T (b0 x),ho⟩:=
 okH (m:=⟨fi,bi,BU,GV,one,ky,Iz,fun x=>AY T (b0 x),ho⟩) h b0 (fun x=>congrArg (·.1) (hsp x)) (congrArg (·.1) hc) hfn (congrArg (·.2.1) hc) (congrArg (·.2.2) hc) (fun _=>rfl) (fun x=>congrArg (·.2) (hsp x))
def outS (one:Bool) (sh:Shape) (x:sh.X U):SV U.Ty×Ad U:=((if one then (sh.enc x).1.headD .und else .Aw (sh.enc x).1),(sh.enc x).2)
theorem okM {f ky:Nat} {fn:Func} {fi:List (List Fk)} {bi:List Bf} {BU GV:Shape} {one:Bool} {Iz:U.Ty ky->GV.X U} {ho:BU.OK U} {Pt:Type} {T:Pt->Tr U (U.Ty ky⊕Pt)} {b0:BU.X U->Pt} (ms:MS) (hs:HS) (A:Nat->Option Lay) (fa:List (List Fk)) (fb:List Bf) (k:Nat) (sh:Shape) (x0:U.Ty ky->sh.X U) (sp:Pt->BI U) (hfn:Tryz.prog.funcs[f]? = some fn)
  (h:∀p,Le.DR (EV Tryz.prog gl f ms.1 hs.1 FH) (Lu ms.1 hs.1 FH.tab) A f fn 0 (Ri (EV Tryz.prog gl f ms.1 hs.1 FH) fn fa fb 0 sh one) 1000 (.run (sp p).c) (sp p).K (sp p).st (sp p).sk=(T p).map (NW (fun y=>outS one sh (x0 y)) sp)) (hc:(DD (EV Tryz.prog gl f ms.1 hs.1 FH) f (FZ fn),fn.name == "runtime.NumGoroutine",fn.body)=(true,false,some (FZ fn))) (hsp:∀x,((BU.enc x).2.length,sp (b0 x))=(k,H6 fn BU x))
  (hout:∀y,HMod.out ⟨fi,bi,BU,GV,one,ky,Iz,fun x=>AY T (b0 x),ho⟩ y=Ux k (outS one sh (x0 y))):Dh Tryz.prog B0 f ⟨fi,bi,BU,GV,one,ky,Iz,fun x=>AY T (b0 x),ho⟩:=
 Zed rfl (Xl _ rfl) FB ms.2 hs.2 hfn (congrArg (·.2.1) hc) (congrArg (·.2.2) hc) (congrArg (·.1) hc) ⟨fi,bi,BU,GV,one,ky,Iz,fun x=>AY T (b0 x),ho⟩ (fun x=>congrArg (·.1) (hsp x)) sh _ hout T sp h b0 (fun _=>rfl) (fun x=>congrArg (·.2) (hsp x))
def al:List (Nat×Lay)->Nat->Option Lay
 | [],_=>none
 | (k,L)::l,n=>bif Nat.beq n k then some L else al l n
abbrev S1 (P R:Type):=P->Tr U (R⊕P)
theorem ok1 {f rt:Nat} {ts:List Nat} {hk:∀t∈ts,t∈U.keys} {fn:Func} {T:Dy U ts->Tr U (U.Ty rt⊕Dy U ts)} (ms:MS) (hs:HS) (hfn:Tryz.prog.funcs[f]? = some fn) (h:tV f fn ms hs AN rt T (Bl fn ts))
  (hc:(DD (EV Tryz.prog gl f ms.1 hs.1 FH) f (FZ fn),fn.name == "runtime.NumGoroutine",fn.body)=(true,false,some (FZ fn))):Ag Tryz.prog B0 f ⟨ts,rt,fun x=>AY T x,hk⟩:=
 CZ (b0:=fun x=>x) ms hs AN (Bl fn ts) hfn h hc fun _=>rfl
abbrev kL {α:Type} (l:List α):Bool:=l.length==l.length
abbrev kA (n k:Nat):Bool:=decide (n*k<=lim)&&decide (n<=maxLen)
abbrev KP:List Fk:=[.keep]
abbrev VC(t n:Nat):Pc:=.v t n false
abbrev OV(t:Nat):Sp:=.one (.v t 1 false)
abbrev PQ(j:Nat):Sp:=.one (.ptr j)
abbrev VA(e m:Nat):Pb:=.var e m (.agg [.v e m true])
abbrev k0:List Fk:=[.keep,.keep,.keep,.keep,.keep,.keep,.keep,.s 40 4,.keep,.keep,.keep,.keep,.keep,.keep,.keep,.keep,.keep,.keep,.s 5 1,.s 5 1,.keep,.keep,.keep,.s 254 2,.s 192 10,.s 222 5,.s 160 6,.keep,.keep,.keep,.keep,.keep,.keep,.s 5 1,.s 5 1,.keep,.s 26 2,.s 29 3,.keep,.keep,.keep,.keep,.keep,.keep,.keep,.keep,.s 26 2,.s 29 3,.keep,.keep,.keep,.keep,.keep,.keep,.keep,.keep,.keep,.keep,.keep,.s 26 2,.keep,.keep,.keep,.s 158 186,.s 203 4,.keep,.keep]
abbrev k1:List Fk:=[.keep,.keep,.keep,.keep,.s 5 1,.s 222 5]
abbrev k2:List Fk:=[.keep,.keep,.keep,.s 179 6]
abbrev k3:List Fk:=[.keep,.keep,.keep,.keep,.keep,.keep,.keep,.s 40 4,.keep,.keep,.keep,.keep,.keep,.keep,.keep,.keep,.keep]
abbrev k4:List Fk:=[.keep,.keep,.keep,.keep,.keep,.keep,.keep,.keep,.s 265 2,.keep]
abbrev k5:List Fk:=[.keep,.keep,.keep,.keep,.keep,.keep,.s 5 1,.s 5 1,.keep,.s 26 2,.s 29 3,.keep,.keep,.keep,.keep]
abbrev k6:List Fk:=[.keep,.keep,.keep,.keep,.s 26 2,.s 29 3,.keep,.keep,.keep,.keep,.keep,.keep,.keep,.keep,.keep,.keep,.keep,.s 26 2,.keep]
abbrev k7:List Fk:=[.keep,.keep,.keep]
abbrev k8:List Fk:=[.keep,.keep,.keep,.keep,.keep,.keep,.s 5 1,.s 5 1,.keep,.s 26 2,.s 29 3,.keep]
abbrev k9:List Fk:=[.keep,.keep,.keep,.keep,.s 26 2,.s 29 3,.keep,.keep,.keep]
abbrev kl {α L:Type} (l:List α) (t:Tr U L):Tr U L:=.chk (kL l) t
abbrev kI {α:Type} (i:Int) (l:List α):Bool:=decide (0<=i/\i<(l.length:Int))
abbrev AQ {L M:Type} (x:L):Tr U (L⊕M):=.leaf (.inl x)
abbrev A8 {L M:Type} (x:M):Tr U (L⊕M):=.leaf (.inr x)
theorem DN:(∀(L R:Type) (l:L) (J:L->Option R),(Tr.leaf l:Tr U L).den J=J l)/\(∀(L R:Type) (c:Bool) (a b:Tr U L) (J:L->Option R),(Tr.br c a b).den J=cond c (a.den J) (b.den J))/\(∀(L R:Type) (t:Nat) (o:Option (U.Ty t)) (k:U.Ty t->Tr U L) (J:L->Option R),(Tr.bind t o k).den J=o.bind fun x=>(k x).den J) /\
  (∀(L R:Type) (c:Bool) (a:Tr U L) (J:L->Option R),(Tr.chk c a).den J=cond c (a.den J) none)/\(∀(L R:Type) (J:L->Option R),(Tr.fail:Tr U L).den J=none)/\(∀(R P:Type) (g:P->Option R) (r:R),F5 g (.inl r)=some r)/\(∀(R P:Type) (g:P->Option R) (q:P),F5 g (.inr q)=g q) /\
  (∀(α:Type) (l:List α),kL l=true)/\(∀(L R α:Type) (l:List α) (a:Tr U L) (J:L->Option R),(kl l a).den J=a.den J)/\(∀(L R:Type) (a:Tr U L) (J:L->Option R),(Tr.chk true a).den J=a.den J)/\(∀(α:Type) (i:Int) (l:List α),kI i l=decide (0<=i/\i<(l.length:Int)))/\(∀n k:Nat,kA n k=(decide (n*k<=lim)&&decide (n<=maxLen))):=
 ⟨fun _ _ _ _=>rfl,fun _ _ _ _ _ _=>rfl,fun _ _ _ _ _ _=>rfl,fun _ _ _ _ _=>rfl,fun _ _ _=>rfl,fun _ _ _ _=>rfl,fun _ _ _ _=>rfl,fun _ _=>beq_self_eq_true _,fun _ _ _ l a J=>by show cond (l.length==l.length) (a.den J) none=_;rw [beq_self_eq_true];rfl,fun _ _ _ _=>rfl,fun _ _ _=>rfl,fun _ _=>rfl⟩
def Z4r:List Nat:=[4,5,3,41,65,66,99,137,51,52,88,119,120,125,128,130,146,136,138,129,133,143,45,49,97,101,24,243,30,75,206,38,467,281,246,111,421,446,48,50,61,62,27,308,9,311]
def Z4j:List (Nat×Nat):=[(222,5),(179,6),(40,4),(34,17),(254,2),(265,2),(192,10),(277,6),(160,6),(26,2),(29,3),(317,2),(348,15),(93,8),(288,2),(293,5),(296,15),(298,14),(357,2),(302,3),(439,5),(145,12),(142,8),(158,186),(203,4),(64,67),(44,2),(47,6),(23,2),(32,6),(37,2),(338,16),(184,2),(434,2),(56,15),(60,19),(42,2),(54,12),(58,9),(525,2)]
theorem ZfI:∀t∈Z4r,t∈U.keys/\∀a,cellsS (U.encS t a)=[U.encS t a]:=by
 intro t ht
 repeat (rcases List.mem_cons.1 ht with rfl|ht;exact⟨by decide,fun _=>rfl⟩)
 cases ht
theorem Zgu:∀p∈Z4j,p.1∈U.keys/\∀a,∃cs,U.encS p.1 a = .agg cs/\cs.length=p.2:=by
 intro p ht
 repeat (rcases List.mem_cons.1 ht with rfl|ht;exact⟨by decide,fun _=>⟨_,rfl,rfl⟩⟩)
 cases ht
theorem okS {s:Shape} (h:shB U Z4r Z4j s=true):s.OK U:=Shape.ok_of ZfI Zgu h
def kt:Nat->List Fk
 | 26=>[.keep,.keep]
 | 29=>k7
 | 30=>[.s 40 4]
 | 34=>k3
 | 38=>[.s 179 6]
 | 40=>k2
 | 41=>[.s 5 1]
 | 42=>[.s 5 1,.s 5 1]
 | 44=>[.s 5 1,.s 5 1]
 | 45=>[.s 254 2]
 | 47=>[.s 5 1,.s 5 1,.keep,.keep,.keep,.s 254 2]
 | 48=>[.s 192 10]
 | 49=>[.s 222 5]
 | 50=>[.s 160 6]
 | 51=>[.s 26 2]
 | 52=>[.s 29 3]
 | 54=>k8
 | 56=>k5
 | 58=>k9
 | 60=>k6
 | 61=>[.s 158 186]
 | 62=>[.s 203 4]
 | 64=>k0
 | 179=>k1
 | 184=>[.keep,.keep]
 | 192=>k4
 | 246=>[.s 41 1]
 | 311=>[.s 24 1]
 | 434=>[.keep,.keep]
 | 446=>[.s 434 2]
 | 467=>[.s 75 1]
 | 525=>[.keep,.keep]
 | _=>[.keep]
inductive Sl where
 | v (t:Nat)|a (t:Nat)|p (j:Nat)|o (e n j:Nat)
inductive Bo where
 | v (t:Nat)|s (t:Nat)|r (e:Nat)
def LT (s:List Nat) (l:List Sl) (b:List Bo):Lay:=
 ⟨s,l.map fun | .v t=>kt t | .a t=>kt t | .p _=>[.keep] | .o e n _=>[.own e n],b.map fun | .v t=>.var (kt t) | .s t=>.var (kt t) | .r _=>.row true,
  ⟨l.map fun | .v t=>.one (.v t 1 false) | .a t=>.agg [.v t (kt t).length true] | .p j=>.one (.ptr j) | .o e _ j=>.one (.own e j),
   b.map fun | .v t=>.var t 1 (.one (.v t 1 false)) | .s t=>.var t (kt t).length (.agg [.v t (kt t).length true]) | .r e=>.row e true⟩⟩
end
end Go.Proofs.YtlabamnhpgoekaaGreatDoor
