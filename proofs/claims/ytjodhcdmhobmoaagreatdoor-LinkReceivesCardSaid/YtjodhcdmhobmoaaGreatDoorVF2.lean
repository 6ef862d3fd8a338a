/- A part of it. -/
import Derived.Test.YtjodhcdmhobmoaaGreatDoorVF1
import Derived.RangeFuncWrites
import Derived.RangeFuncBox
import Derived.RangeFuncLeaves
import Derived.WalkKit
import Derived.OwnWalkIn
import Derived.TacticsInMore
import Derived.RegionIn
import Derived.LoopNIn
import Derived.LoopIn
import Derived.Shelf.Abstract
import Derived.IntWalk
import Derived.Lib.Hide
import Derived.Laws.Closers25b
import Derived.RangeFuncCalls
set_option linter.unusedVariables false
set_option linter.unusedSimpArgs false
namespace Go.Proofs.YtjodhcdmhobmoaaGreatDoor
open Tryz
open Go Go.Proofs.YtjodhcdmhobmoaaGreatDoor.Le
set_option maxRecDepth 100000
noncomputable section
inductive fF where
 | b0 (a:List Am) (b:Int)
 | b1 (a:List Am) (b:Int) (c:List Am) (d:Int)
def Uj:fF->Tr U ((List Am)⊕fF)
 | .b0 a b=>.chk true (AP (.b1 a b ([]:List Am) (0:Int)))
 | .b1 b d a c=>.br (decide (c<(↑b.length:Int))) (.chk (kI c b) (.bind 148 (b[(Int.toNat c)]?) (fun(e:Am)=>let f:=a++[({ e with Event:=d }:Am)];.chk true (kl a (.chk (kA (a.length+1) 160) (kl f (AP (.b1 b d f (AQ (c+1)))))))))) (kl a (AB a))
def eY (a:List Am) (b:Int):Option (List Am):=AU Uj (.b0 a b)
def ZaV:Lay:=LT [0,1,5,6] [.v 77,.v 30,.o 148 18 0,.v 3] [.r 148]
def Zsg:fF->BC U
 | .b0 a b=>Bd f216 [77,30] (a,b,())
 | .b1 a b c d=>AA3 f216 [1,1,0,1,0,0,0,0] ZaV (a,b,d,c,())
theorem ZbO:AA1 216 [77,30] 77 (fun x=>eY x.1 x.2.1) rfl:=Bh Ae Af (al [(3,ZaV)]) Zsg func216 (fun p=>by cases p<;>kernel_rfl) (by kernel_rfl) fun _=>rfl
inductive eH where
 | b0 (a:Ac) (b:Aq)
 | b1 (a:Ac) (b:Aq) (c:Ac)
 | b2 (a:List Am) (b c:Ac)
def QU:eH->Tr U ((Ac×(List Am))⊕eH)
 | .b0 a b=>.bind 4 (PK b) (fun(c:Bool)=>.br c (.chk true (AB (a,([]:List Am)))) (.br a.Bq.Gf (.bind 41 (gG a.Bq true false) (fun(d:Bc)=>AP (.b1 ({ a with Bq:=d }:Ac) b D8))) (AP (.b1 a b D8))))
 | .b1 a c d=>.br (c.BP != 3) (.chk true (AB (a,([]:List Am)))) (.bind 231 (JD c.Payload) (fun(e:AO×Int)=>.bind 233 (uZ a.AA e.1) (fun(b:A7×(List Am))=>.br (e.1.Kind==5) (.bind 41 (X3 a.Bq true a.Bq.Eg) (fun(f:Bc)=>AP (.b2 b.2 ({ a with AA:=b.1,Bq:=f }:Ac) d))) (AP (.b2 b.2 ({ a with AA:=b.1 }:Ac) d)))))
 | .b2 b a d=>.bind 77 (eY b a.Event) (fun(c:List Am)=>AB (a,c))
def fH (a:Ac) (b:Aq):Option (Ac×(List Am)):=AU QU (.b0 a b)
def ZaC:Lay:=LT [2,3,4] [.p 0,.p 1,.p 2] [.s 44,.s 68,.s 44]
def Zb0:Lay:=LT [2,4,9] [.p 0,.p 1,.v 77] [.s 44,.s 44]
def Zt1:eH->BC U
 | .b0 a b=>Bd f119 [44,68] (a,b,())
 | .b1 a b c=>AA3 f119 [1,1,1,0,0] ZaC (a,b,c,())
 | .b2 a b c=>AA3 f119 [1,1,1,1,1,1,1,1,0] Zb0 (a,b,c,())
theorem Zsf:AA1 119 [44,68] 78 (fun x=>fH x.1 x.2.1) rfl:=Bh (mc rV (mc Zcf (mc Z2N (mc Zaz (mc ZuG (mc ZbO Ae)))))) Af (al [(5,ZaC),(12,Zb0)]) Zt1 func119 (fun p=>by cases p<;>kernel_rfl) (by kernel_rfl) fun _=>rfl
inductive aG where
 | b0 (a:A7) (b:AO) (c d:Int)
 | b1 (a b:A7)
def Z0k:aG->Tr U (A7⊕aG)
 | .b0 a b e d=>.br (a.BK != 1) (AB a) (.bind 138 (dA b) (fun(f:BG)=>.bind 269 (VD a.Ak e f) (fun(c:(List BG)×Int)=>let g:=({ a with Other:=b.Kind,Ez:=d,Ak:=c.1 }:A7);.br (c.2==18) (AB ({ a with Bz:=40 }:A7)) (.br (c.2 != 0) (AB ({ a with Bz:=42 }:A7)) (.br (b.Kind==0) (.br (a.Own==15) (AP (.b1 g EP)) (AB g)) (AB g))))))
 | .b1 a b=>AB ({ a with Own:=-1 }:A7)
def oI (a:A7) (b:AO) (c d:Int):Option A7:=AU Z0k (.b0 a b c d)
def Z7v:Lay:=LT [4,8] [.p 0,.p 1] [.s 39,.s 39]
def ZkY:aG->BC U
 | .b0 a b c d=>Bd f281 [39,156,30,3] (a,b,c,d,())
 | .b1 a b=>AA3 f281 [1,1,1,1,1,1,1,1,0,1,0] Z7v (a,b,())
theorem Zld:AA1 281 [39,156,30,3] 39 (fun x=>oI x.1 x.2.1 x.2.2.1 x.2.2.2.1) rfl:=Bh (mc ZdK (mc ZaY Ae)) Af (al [(14,Z7v)]) ZkY func281 (fun p=>by cases p<;>kernel_rfl) (by kernel_rfl) fun _=>rfl
def Zdw:S1 (Int×Int×Unit) (List Am)
 | (a,b,_)=>.chk true (AB ([(⟨a,0,(⟨0,[]⟩:Aq),I7,b,Be⟩:Am)]))
def Lr (a b:Int):Option (List Am):=AU Zdw (a,b,())
theorem tH:AA1 346 [3,25] 77 (fun x=>Lr x.1 x.2.1) rfl:=ok1 Ae Af func346 (fun _=>by kernel_rfl) (by kernel_rfl)
inductive aK where
 | b0 (a:A7) (b:AO) (c:Int)
 | b1 (a:Int) (b:A7) (c:AO) (d:A7)
 | b2 (a:Bool) (b:A7) (c:AO) (d:A7)
 | b3 (a:A7) (b:AO) (c:A7)
 | b4 (a:Bool) (b:A7) (c:AO) (d:A7)
 | b5 (a b:A7)
 | b6 (a b:A7)
 | b7 (a:Bool) (b:A7) (c:AO) (d:A7)
 | b8 (a:Bool) (b c:A7)
def Wj:aK->Tr U ((A7×(List AO)×(List Am))⊕aK)
 | .b0 a b c=>let d:=AP (aK.b2 (a.BK==0) a b EP);.br (b.Kind==3) (.br (!(a.BK==0)) (.br (a.CP==0) (AP (.b1 c a b EP)) d) d) d
 | .b1 b c a e=>.bind 77 (Lr (8:Int) a.Mark) (fun(d:List Am)=>.chk true (AB (({ c with Other:=3,Ez:=b,F5:=a.Bj,Mark:=a.Mark,CP:=1 }:A7),([]:List AO),d)))
 | .b2 c a b d=>let e:=AP (aK.b4 c a b d);.br (b.Kind==4) (.br c (.br (a.CP==1) (AP (.b3 a b d)) e) e) e
 | .b3 a b c=>AP (.b5 ({ a with F5:=b.Bj,CP:=2 }:A7) c)
 | .b4 b a c d=>let e:=AP (aK.b7 b a c d);.br (c.Kind==5) (.br b (.br (a.CP==2) (AP (.b6 a d)) e) e) e
 | .b5 a b=>.chk true (.chk true (AB (a,([]:List AO),([]:List Am))))
 | .b6 a c=>.bind 36 (N8 (⟨6,Be,0,0,0,0,0,0,0,0,0⟩:AO)) (fun(b:List AO)=>.chk true (AB (({ a with CP:=3 }:A7),b,([]:List Am))))
 | .b7 c a d b=>let e:=AP (aK.b5 a b);.br (d.Kind==6) (.br (a.CP==3) (AP (.b8 c a b)) e) e
 | .b8 b a f=>let g:=(Lr (3:Int) (0:Int));.br b (.bind 77 g (fun(c:List Am)=>.chk true (AB (({ a with Own:=-1,CP:=4 }:A7),([]:List AO),c)))) (.bind 36 (N8 (⟨6,Be,0,0,0,0,0,0,0,0,0⟩:AO)) (fun(d:List AO)=>.bind 77 g (fun(e:List Am)=>AB (({ a with Other:=-1,CP:=4 }:A7),d,e))))
def U0 (a:A7) (b:AO) (c:Int):Option (A7×(List AO)×(List Am)):=AU Wj (.b0 a b c)
def Z7N:Lay:=LT [2,3,4,6] [.v 3,.p 0,.p 1,.p 2] [.s 39,.s 156,.s 39]
def WY:Lay:=LT [3,4,6,9] [.p 0,.p 1,.p 2,.v 4] [.s 39,.s 156,.s 39]
def Z7S:Lay:=LT [3,4,6] [.p 0,.p 1,.p 2] [.s 39,.s 156,.s 39]
def oG:Lay:=LT [3,6] [.p 0,.p 1] [.s 39,.s 39]
def Z7M:Lay:=LT [3,6,9] [.p 0,.p 1,.v 4] [.s 39,.s 39]
def Zm0:aK->BC U
 | .b0 a b c=>Bd f282 [39,156,3] (a,b,c,())
 | .b1 a b c d=>AA3 f282 [1,1,0,0,1,0,0] Z7N (a,b,c,d,())
 | .b2 a b c d=>AA3 f282 [1,1,0,0,1,1,0] WY (a,b,c,d,())
 | .b3 a b c=>AA3 f282 [1,1,0,0,1,1,1,0,0] Z7S (a,b,c,())
 | .b4 a b c d=>AA3 f282 [1,1,0,0,1,1,1,1,0] WY (a,b,c,d,())
 | .b5 a b=>AA3 f282 [1,1,1,0] oG (a,b,())
 | .b6 a b=>AA3 f282 [1,1,0,0,1,1,1,1,1,0,0] oG (a,b,())
 | .b7 a b c d=>AA3 f282 [1,1,0,0,1,1,1,1,1,1,0] WY (a,b,c,d,())
 | .b8 a b c=>AA3 f282 [1,1,0,0,1,1,1,1,1,1,1,0,0] Z7M (a,b,c,())
theorem Zm9:AA1 282 [39,156,3] 237 (fun x=>U0 x.1 x.2.1 x.2.2.1) rfl:=Bh (mc X6 (mc tH Ae)) Af (al [(3,Z7N),(9,WY),(10,Z7S),(12,WY),(22,oG),(13,oG),(15,WY),(16,Z7M)]) Zm0 func282 (fun p=>by cases p<;>kernel_rfl) (by kernel_rfl) fun _=>rfl
inductive Yy where
 | b0 (a:A7) (b:AO)
 | b1 (a b:A7)
 | b2 (a:A7) (b:AO) (c:A7)
 | b3 (a:A7) (b:AO) (c:A7)
def Z0o:Yy->Tr U ((A7×(List AO)×(List Am))⊕Yy)
 | .b0 a b=>let d:=AP (Yy.b1 a EP);.br (a.Own != b.DL) d (.bind 4 (QX a.Own) (fun(c:Bool)=>.br c d (.br (a.Own==2) d (AP (.b2 a b EP)))))
 | .b1 a b=>.chk true (.chk true (AB (a,([]:List AO),([]:List Am))))
 | .b2 a b c=>.br (a.Own==3) (AP (.b3 ({ a with CP:=0 }:A7) b c)) (AP (.b3 a b c))
 | .b3 a b d=>.bind 77 (Lr (9:Int) (IntKind.wrap .u64 (b.DL))) (fun(c:List Am)=>.chk true (AB (({ a with Own:=-1 }:A7),([]:List AO),c)))
def o6 (a:A7) (b:AO):Option (A7×(List AO)×(List Am)):=AU Z0o (.b0 a b)
def Z7B:Lay:=LT [2,4] [.p 0,.p 1] [.s 39,.s 39]
def nV:Lay:=LT [2,3,4] [.p 0,.p 1,.p 2] [.s 39,.s 156,.s 39]
def ZkX:Yy->BC U
 | .b0 a b=>Bd f283 [39,156] (a,b,())
 | .b1 a b=>AA3 f283 [1,0,1,0,0] Z7B (a,b,())
 | .b2 a b c=>AA3 f283 [1,1,0,0] nV (a,b,c,())
 | .b3 a b c=>AA3 f283 [1,1,1,0] nV (a,b,c,())
theorem ZkH:AA1 283 [39,156] 237 (fun x=>o6 x.1 x.2.1) rfl:=Bh (mc XL (mc tH Ae)) Af (al [(2,Z7B),(3,nV),(5,nV)]) ZkX func283 (fun p=>by cases p<;>kernel_rfl) (by kernel_rfl) fun _=>rfl
def Z0r:S1 (A7×AO×Int×Unit) (A7×(List AO)×(List Am))
 | (a,b,c,_)=>let g:=([]:List Am);let f:=([]:List AO);.br (a.BK != 0) (.chk true (.chk true (AB (a,f,g)))) (.bind 4 (QX a.Own) (fun(d:Bool)=>.br d (.bind 36 (N8 (⟨13,Be,0,0,42,15,0,0,0,0,0⟩:AO)) (fun(e:List AO)=>.chk true (AB (a,e,g)))) (.chk true (.chk true (AB (({ a with Other:=15,Ez:=c }:A7),f,[(⟨12,0,(⟨0,[]⟩:Aq),I7,0,b.BB⟩:Am)]))))))
def oQ (a:A7) (b:AO) (c:Int):Option (A7×(List AO)×(List Am)):=AU Z0r (a,b,c,())
theorem Zlh:AA1 284 [39,156,3] 237 (fun x=>oQ x.1 x.2.1 x.2.2.1) rfl:=ok1 (mc XL (mc X6 Ae)) Af func284 (fun _=>by kernel_rfl) (by kernel_rfl)
inductive Yz where
 | b0 (a:A7) (b:AO)
 | b1 (a b:A7)
 | b2 (a:A7) (b:AO) (c:A7)
def Z0t:Yz->Tr U ((A7×(List AO)×(List Am))⊕Yz)
 | .b0 a b=>let c:=AP (Yz.b2 a b EP);.br (b.Kind==21) (.br (a.Own != 20) (AP (.b1 a EP)) c) c
 | .b1 a b=>.chk true (.chk true (AB (a,([]:List AO),([]:List Am))))
 | .b2 a b f=>let g:=if a.Limit<b.Length then a.Limit else b.Length;let h:=(Lr (11:Int) (IntKind.wrap .u64 (g)));.br (b.Kind==21) (.bind 77 h (fun(c:List Am)=>.chk true (AB (({ a with Own:=-1,Length:=g }:A7),([]:List AO),c)))) (.bind 36 (N8 (⟨21,Be,0,0,0,0,0,0,0,0,a.Limit⟩:AO)) (fun(d:List AO)=>.bind 77 h (fun(e:List Am)=>AB (({ a with Length:=g }:A7),d,e))))
def oU (a:A7) (b:AO):Option (A7×(List AO)×(List Am)):=AU Z0t (.b0 a b)
def Z7D:Lay:=LT [2,4] [.p 0,.p 1] [.s 39,.s 39]
def Z7r:Lay:=LT [2,3,4] [.p 0,.p 1,.p 2] [.s 39,.s 156,.s 39]
def ZkK:Yz->BC U
 | .b0 a b=>Bd f285 [39,156] (a,b,())
 | .b1 a b=>AA3 f285 [1,0,1,0,0] Z7D (a,b,())
 | .b2 a b c=>AA3 f285 [1,1,0] Z7r (a,b,c,())
theorem Zlj:AA1 285 [39,156] 237 (fun x=>oU x.1 x.2.1) rfl:=Bh (mc X6 (mc tH Ae)) Af (al [(2,Z7D),(3,Z7r)]) ZkK func285 (fun p=>by cases p<;>kernel_rfl) (by kernel_rfl) fun _=>rfl
inductive aT where
 | b0 (a:A7) (b:AO)
 | b1 (a:A7) (b:AO) (c:A7)
 | b2 (a:A7) (b:AO) (c:A7)
 | b3 (a b:A7)
 | b4 (a b:A7)
def U8:aT->Tr U ((A7×(List AO)×(List Am))⊕aT)
 | .b0 a b=>let f:=AP (aT.b2 a b EP);let e:=bits .and .u64 a.Bv b.Bv;.br (b.Kind==8) (.bind 36 (N8 (⟨9,Be,0,0,0,0,0,0,a.Bv,0,0⟩:AO)) (fun(c:List AO)=>.bind 77 (Lr (5:Int) e) (fun(d:List Am)=>AB (({ a with Hl:=e,FI:=true }:A7),c,d)))) (.br (b.Kind==9) (.br (a.Own==8) (AP (.b1 a b EP)) f) f)
 | .b1 a b d=>let e:=bits .and .u64 a.Bv b.Bv;.bind 77 (Lr (5:Int) e) (fun(c:List Am)=>.chk true (AB (({ a with Own:=-1,Hl:=e,FI:=true }:A7),([]:List AO),c)))
 | .b2 a b c=>let h:=([]:List AO);let g:=AP (aT.b4 a c);.br (b.Kind==12) (.bind 77 (Lr (6:Int) (IntKind.wrap .u64 (b.Version))) (fun(d:List Am)=>.br (a.Own==12) (.chk true (AB (({ a with Own:=-1,Version:=b.Version }:A7),h,d))) (.br a.FY (.chk true (AB (({ a with Version:=b.Version }:A7),h,d))) (.bind 36 (N8 (⟨12,Be,0,0,0,0,0,0,0,11,0⟩:AO)) (fun(e:List AO)=>AB (({ a with FY:=true,Version:=b.Version }:A7),e,d)))))) (.br (b.Kind==18) (.bind 36 (N8 (⟨19,Be,0,0,0,0,0,0,0,0,0⟩:AO)) (fun(f:List AO)=>.chk true (AB (a,f,([]:List Am))))) (.br (b.Kind==19) (.br (a.Own==18) (AP (.b3 a c)) g) g))
 | .b3 a c=>.bind 77 (Lr (7:Int) (0:Int)) (fun(b:List Am)=>.chk true (AB (({ a with Own:=-1 }:A7),([]:List AO),b)))
 | .b4 a b=>.chk true (.chk true (AB (a,([]:List AO),([]:List Am))))
def Ry (a:A7) (b:AO):Option (A7×(List AO)×(List Am)):=AU U8 (.b0 a b)
def oW:Lay:=LT [2,3,4] [.p 0,.p 1,.p 2] [.s 39,.s 156,.s 39]
def oN:Lay:=LT [2,4] [.p 0,.p 1] [.s 39,.s 39]
def Zne:aT->BC U
 | .b0 a b=>Bd f286 [39,156] (a,b,())
 | .b1 a b c=>AA3 f286 [1,0,0,1,1,1,0,0] oW (a,b,c,())
 | .b2 a b c=>AA3 f286 [1,0,0,1,1,1,1,0] oW (a,b,c,())
 | .b3 a b=>AA3 f286 [1,0,0,1,1,1,1,1,1,1,1,1,0,0] oN (a,b,())
 | .b4 a b=>AA3 f286 [1,1,0] oN (a,b,())
theorem Znh:AA1 286 [39,156] 237 (fun x=>Ry x.1 x.2.1) rfl:=Bh (mc X6 (mc tH Ae)) Af (al [(6,oW),(10,oW),(23,oN),(25,oN)]) Zne func286 (fun p=>by cases p<;>kernel_rfl) (by kernel_rfl) fun _=>rfl
inductive dE where
 | b0 (a:A7) (b:AO) (c d:Int)
 | b1 (a b:Int) (c:A7) (d:AO) (e:A7)
 | b2 (a b:Int) (c:A7) (d:AO) (e:A7)
 | b3 (a b:A7)
 | b4 (a:Int) (b:A7) (c:AO) (d:A7)
 | b5 (a b:Int) (c:A7) (d:AO) (e:A7)
 | b6 (a:A7) (b:AO) (c:A7)
 | b7 (a b:Int) (c:A7) (d:AO) (e:A7)
 | b8 (a:A7) (b:AO) (c:A7)
 | b9 (a:A7) (b:AO) (c:A7)
def I4:dE->Tr U ((A7×(List AO)×(List Am))⊕dE)
 | .b0 b a d c=>let k:=a.Kind==0;let j:=([]:List Am);let i:=AP (dE.b1 d c b a EP);let h:=AP (dE.b2 c a.Kind b a EP);let g:=(if (0:Int)>a.Kind then (0:Int) else a.Kind);.br (b.Bz != 0) (.chk true (.chk true (AB (b,([]:List AO),j)))) (.bind 262 (DJ a.Kind) (fun(e:CE)=>.br (!e.FI) (.bind 36 (N8 (⟨7,Be,0,0,0,(if (255:Int)<g then (255:Int) else g),0,0,0,0,0⟩:AO)) (fun(f:List AO)=>.chk true (AB (b,f,j)))) (.br k (.br k i h) (.br (a.Kind==1) i h))))
 | .b1 a b c d f=>.bind 39 (oI c d a b) (fun(e:A7)=>.chk true (.chk true (AB (e,([]:List AO),([]:List Am)))))
 | .b2 e a b c d=>let g:=AP (dE.b4 e b c d);let f:=AP (dE.b5 e a b c d);.br (a==2) (.br (c.Bl==0) (AP (.b3 ({ b with Bz:=19 }:A7) d)) (AP (.b3 ({ b with Bz:=c.Bl }:A7) d))) (.br (a==3) (.br (a==3) g f) (.br (a==4) (.br (a==4) g f) (.br (a==5) (.br (a==5) g f) (.br (a==6) g f))))
 | .b3 a b=>.chk true (.chk true (AB (a,([]:List AO),([]:List Am))))
 | .b4 b c d e=>.bind 237 (U0 c d b) (fun(a:A7×(List AO)×(List Am))=>AB (a.1,a.2.1,a.2.2))
 | .b5 e a b c d=>let g:=AP (dE.b6 b c d);let f:=AP (dE.b7 e a b c d);.br (a==7) (.br (a==7) g f) (.br (a==13) g f)
 | .b6 b c d=>.bind 237 (o6 b c) (fun(a:A7×(List AO)×(List Am))=>AB (a.1,a.2.1,a.2.2))
 | .b7 f c a b d=>let h:=AP (dE.b9 a b d);let g:=AP (dE.b8 a b d);.br (c==15) (.bind 237 (oQ a b f) (fun(e:A7×(List AO)×(List Am))=>AB (e.1,e.2.1,e.2.2))) (.br (c==20) (.br (c==20) g h) (.br (c==21) g h))
 | .b8 b c d=>.bind 237 (oU b c) (fun(a:A7×(List AO)×(List Am))=>AB (a.1,a.2.1,a.2.2))
 | .b9 b c d=>.bind 237 (Ry b c) (fun(a:A7×(List AO)×(List Am))=>AB (a.1,a.2.1,a.2.2))
def Uh (a:A7) (b:AO) (c d:Int):Option (A7×(List AO)×(List Am)):=AU I4 (.b0 a b c d)
def Za1:Lay:=LT [2,3,4,5,8] [.v 30,.v 3,.p 0,.p 1,.p 2] [.s 39,.s 156,.s 39]
def XA:Lay:=LT [3,4,5,8,28] [.v 3,.p 0,.p 1,.p 2,.v 3] [.s 39,.s 156,.s 39]
def Za0:Lay:=LT [4,8] [.p 0,.p 1] [.s 39,.s 39]
def Z9L:Lay:=LT [3,4,5,8] [.v 3,.p 0,.p 1,.p 2] [.s 39,.s 156,.s 39]
def Wy:Lay:=LT [4,5,8] [.p 0,.p 1,.p 2] [.s 39,.s 156,.s 39]
def Zqt:dE->BC U
 | .b0 a b c d=>Bd f217 [39,156,30,3] (a,b,c,d,())
 | .b1 a b c d e=>AA3 f217 [1,1,1,0,1,0,1,0,0] Za1 (a,b,c,d,e,())
 | .b2 a b c d e=>AA3 f217 [1,1,1,0,1,0,1,1,0] XA (a,b,c,d,e,())
 | .b3 a b=>AA3 f217 [1,1,1,0,1,0,1,1,1,0,1,1,0] Za0 (a,b,())
 | .b4 a b c d=>AA3 f217 [1,1,1,0,1,0,1,1,1,1,1,0,0] Z9L (a,b,c,d,())
 | .b5 a b c d e=>AA3 f217 [1,1,1,0,1,0,1,1,1,1,1,1,0,0] XA (a,b,c,d,e,())
 | .b6 a b c=>AA3 f217 [1,1,1,0,1,0,1,1,1,1,1,1,1,0,0] Wy (a,b,c,())
 | .b7 a b c d e=>AA3 f217 [1,1,1,0,1,0,1,1,1,1,1,1,1,1,0] XA (a,b,c,d,e,())
 | .b8 a b c=>AA3 f217 [1,1,1,0,1,0,1,1,1,1,1,1,1,1,1,1,1,0,0] Wy (a,b,c,())
 | .b9 a b c=>AA3 f217 [1,1,1,1,0] Wy (a,b,c,())
theorem ZpZ:AA1 217 [39,156,30,3] 237 (fun x=>Uh x.1 x.2.1 x.2.2.1 x.2.2.2.1) rfl:=Bh (mc SE (mc X6 (mc Zld (mc Zm9 (mc ZkH (mc Zlh (mc Zlj (mc Znh Ae)))))))) Af (al [(8,Za1),(9,XA),(13,Za0),(18,Z9L),(19,XA),(21,Wy),(22,XA),(26,Wy),(27,Wy)]) Zqt func217 (fun p=>by cases p<;>kernel_rfl) (by kernel_rfl) fun _=>rfl
inductive bT where
 | b0 (a:Ac) (b:List Int) (c:Int)
 | b1 (a:List Am) (b c:Ac) (d:A7)
 | b2 (a:List Am) (b c:Ac)
def PD:bT->Tr U ((Ac×(List Am))⊕bT)
 | .b0 a d f=>let m:=([]:List Am);let k:=kA (0+a.Ag.length) 120;let g:=([]:List AO)++a.Ag;.bind 231 (JD d) (fun(c:AO×Int)=>.br (c.2==12) (.chk true (.chk k (.chk (kI (0:Int) d) (.bind 5 (d[(Int.toNat 0)]?) (fun(e:Int)=>let i:=g++[(⟨7,Be,0,0,0,(AQ (e)),0,0,0,0,0⟩:AO)];.chk true (kl g (.chk (kA (g.length+1) 120) (kl i (.chk true (AB (({ a with Ag:=i }:Ac),m))))))))))) (.br (c.2 != 0) (.chk true (AB (a,m))) (.bind 237 (Uh a.AA c.1 a.Event f) (fun(b:A7×(List AO)×(List Am))=>let l:=g++b.2.1;let j:=({ a with AA:=b.1,Ag:=l }:Ac);let h:=kl l (AP (bT.b2 b.2.2 j D8));.chk true (.chk k (kl g (.chk (kA (g.length+b.2.1.length) 120) (.br (a.BK==0) (.br (c.1.Kind==5) (.br (b.1.CP==3) (kl l (AP (.b1 b.2.2 j D8 b.1))) h) h) h))))))))
 | .b1 c a d b=>.bind 41 (jA a.BK a.Key b.Bj b.F5) (fun(e:Bc)=>.bind 41 (X3 e true true) (fun(f:Bc)=>kl a.Ag (AP (.b2 c ({ a with Bq:=f }:Ac) d))))
 | .b2 b a d=>.bind 77 (eY b a.Event) (fun(c:List Am)=>kl a.Ag (AB (a,c)))
def qV (a:Ac) (b:List Int) (c:Int):Option (Ac×(List Am)):=AU PD (.b0 a b c)
def Z9d:Lay:=⟨[3,6,10,12],[KP,KP,KP,[.s 148 18]],[.var k11,.var k2,.var k1,.row true],⟨[PQ 0,PQ 1,PQ 2,OV 77],[.var 44 66 (mO 3),VA 44 66,VA 39 20,.row 156 true]⟩⟩
def Z9w:Lay:=⟨[3,6,12],[KP,KP,[.s 148 18]],[.var k11,.var k2,.row true],⟨[PQ 0,PQ 1,OV 77],[.var 44 66 (mO 2),VA 44 66,.row 156 true]⟩⟩
def Zp4:bT->BC U
 | .b0 a b c=>Bd f121 [44,62,3] (a,b,c,())
 | .b1 b a c d=>Ad f121 [1,1,1,1,1,1,1,0,1,0] Z9d (((),((),((),((b,()),())))),((Yo a),((c,()),((d,()),(a.Ag,())))))
 | .b2 b a c=>Ad f121 [1,1,1,1,1,1,1,1,0] Z9w (((),((),((b,()),()))),((Yo a),((c,()),(a.Ag,()))))
theorem Zpk:AA1 121 [44,62,3] 78 (fun x=>qV x.1 x.2.1 x.2.2.1) rfl:=Bh (mc Z2N (mc ZdU (mc Zaz (mc ZbO (mc ZpZ Ae))))) Af (al [(11,Z9d),(12,Z9w)]) Zp4 func121 (fun p=>by cases p<;>kernel_rfl) (by kernel_rfl) fun _=>rfl
inductive bW where
 | b0 (a:Ac) (b:List Int) (c:Bool) (d:Int)
 | b1 (a:List Int) (b:Int) (c d:Ac)
 | b2 (a:List Int) (b:Int) (c d:Ac)
 | b3 (a:Int) (b:Bool) (c d:Ac) (e:BI)
 | b4 (a:Int) (b:Bool) (c d:Ac) (e:BI)
 | b5 (a:Int) (b:Bool) (c d:Ac) (e:BI) (f:Aq)
 | b6 (a:Int) (b:Bool) (c d:Ac) (e:BI) (f:Aq)
 | b7 (a:Int) (b:Bool) (c d:Ac) (e:BI) (f:Aq)
 | b8 (a:Int) (b:Bool) (c d:Ac) (e:BI) (f:Aq)
 | b9 (a:Int) (b c:Bool) (d:List Am) (e f:Ac) (g:BI) (h:Aq)
 | b10 (a:Int) (b:List Am) (c d:Ac) (e:BI) (f:Aq)
 | b11 (a:List Am) (b c:Ac) (d:BI)
def Dp:bW->Tr U ((Ac×(List Am)×Bool)⊕bW)
 | .b0 a b d c=>let e:=({ a with FO:=true }:Ac);let f:=AP (bW.b2 b c e D8);.br (a.Bl != 0) (.chk true (AB (a,([]:List Am),false))) (.br d (.br (a.BK==1) (AP (.b1 b c e D8)) f) f)
 | .b1 b a c d=>AP (.b2 b a ({ c with Fp:=a,Size:=0,Sync:=a }:Ac) d)
 | .b2 i b a d=>let n:=([]:List Am);.bind 3 (bK a) (fun(e:Int)=>.bind 1348 (dV e i) (fun(g:SQ)=>kl g.q0 (.bind 120 (uB a.DR.LJ g.q0) (fun(h:(List Int)×Int)=>.br (h.2 != 0) (.bind 42 (XM a.CX e false) (fun(j:List BJ)=>.chk true (AB (({ a with CX:=j }:Ac),n,false)))) (.bind 71 (rY h.1) (fun(c:BI×Int)=>.br (c.2 != 0) (.chk true (AB (a,n,false))) (.bind 42 (XM a.CX e true) (fun(f:List BJ)=>let l:=({ a with IB:=b,Hq:=true,Good:=true,CX:=f }:Ac);let m:=AP (bW.b3 b false l d c.1);.br (c.1.SN==a.Ar.DX) (.bind 4 (PK c.1.Ap) (fun(k:Bool)=>.br (!k) (AP (.b3 b a.Bq.Eg l d c.1)) m)) m))))))))
 | .b3 c b a d e=>.br b (.bind 71 (uT a.Bq e) (fun(f:BI×Int)=>.br (f.2 != 0) (.bind 78 (iI a (61:Int)) (fun(g:Ac×(List Am))=>AB (g.1,g.2,false))) (AP (.b4 c b a d f.1)))) (AP (.b4 c b a d e))
 | .b4 b c a d e=>let f:=(⟨0,([]:List Int)⟩:Aq);let g:=AP (bW.b6 b c a d e f);.br a.Ar.Open (.br (!a.Ar.Empty) (AP (.b5 b c a d e f)) g) g
 | .b5 b c a d e g=>.chk (kI (0:Int) a.Ar.Az) (.bind 68 (a.Ar.Az[(Int.toNat 0)]?) (fun(f:Aq)=>AP (.b6 b c a d e f)))
 | .b6 b c a d e f=>let g:=AP (bW.b8 b c a d e f);.br a.Ar.Open (.br a.Ar.Empty (AP (.b7 b c a d e f)) g) g
 | .b7 a b c d e f=>AP (.b8 a b c d e (⟨1,([]:List Int)⟩:Aq))
 | .b8 e f c g d h=>let i:=([]:List Am);.bind 163 (vK c.Ar d) (fun(a:BQ×Aq×Bool×Bool)=>.br a.2.2.2 (.bind 78 (fH ({ c with Di:=true,Ar:=a.1 }:Ac) h) (fun(b:Ac×(List Am))=>.chk true (.chk (kA (0+b.2.length) 160) (kl (i++b.2) (AP (.b9 e f a.2.2.1 (i++b.2) b.1 g d a.2.1)))))) (.chk true (AP (.b9 e f a.2.2.1 i ({ c with Ar:=a.1 }:Ac) g d a.2.1))))
 | .b9 e g h a b c d f=>.br h (.br g (.bind 41 (gG b.Bq false true) (fun(i:Bc)=>kl a (AP (.b10 e a ({ b with Bq:=i }:Ac) c d f)))) (kl a (AP (.b10 e a b c d f)))) (kl a (AP (.b11 a b c d)))
 | .b10 g a c e f b=>let i:=([]:List Int)++b.Payload;let h:=a++[(⟨1,c.Event,(⟨b.BP,i⟩:Aq),I7,0,Be⟩:Am)];.br (b.BP==3) (.bind 78 (qV c b.Payload g) (fun(d:Ac×(List Am))=>kl a (.chk (kA (a.length+d.2.length) 160) (kl (a++d.2) (AP (.b11 (a++d.2) d.1 e f)))))) (.chk true (.chk (kA (0+b.Payload.length) 1) (kl i (.chk true (kl a (.chk (kA (a.length+1) 160) (kl h (AP (.b11 h c e f)))))))))
 | .b11 a b d c=>.br (c.MD==1) (kl a (AB (b,a,true))) (kl a (AB (b,a,b.More)))
def SC (a:Ac) (b:List Int) (c:Bool) (d:Int):Option (Ac×(List Am)×Bool):=AU Dp (.b0 a b c d)
def qG:Lay:=LT [1,3,4,8] [.v 62,.v 3,.p 0,.p 1] [.s 44,.s 44]
def qC:Lay:=LT [3,4,8,14,15] [.v 3,.p 0,.p 1,.p 2,.v 4] [.s 44,.s 44,.s 70]
def SA:Lay:=LT [3,4,8,14,15,20] [.v 3,.p 0,.p 1,.p 2,.v 4,.p 3] [.s 44,.s 44,.s 70,.s 68]
def Z9g:Lay:=LT [3,4,8,14,15,22,23,25] [.v 3,.p 0,.p 1,.p 2,.v 4,.p 3,.v 4,.o 148 18 4] [.s 44,.s 44,.s 70,.s 68,.r 148]
def Z91:Lay:=LT [3,4,8,14,22,25] [.v 3,.p 0,.p 1,.p 2,.p 3,.o 148 18 4] [.s 44,.s 44,.s 70,.s 68,.r 148]
def Z92:Lay:=LT [4,8,14,25] [.p 0,.p 1,.p 2,.o 148 18 3] [.s 44,.s 44,.s 70,.r 148]
def ZpB:bW->BC U
 | .b0 a b c d=>Bd f35 [44,62,4,3] (a,b,c,d,())
 | .b1 a b c d=>AA3 f35 [1,1,1,0,1,0] qG (a,b,c,d,())
 | .b2 a b c d=>AA3 f35 [1,1,1,1,0] qG (a,b,c,d,())
 | .b3 a b c d e=>AA3 f35 [1,1,1,1,1,1,1,1,1,1,1,1,0,0] qC (a,b,c,d,e,())
 | .b4 a b c d e=>AA3 f35 [1,1,1,1,1,1,1,1,1,1,1,1,1,0] qC (a,b,c,d,e,())
 | .b5 a b c d e f=>AA3 f35 [1,1,1,1,1,1,1,1,1,1,1,1,1,1,0,1,0] SA (a,b,c,d,e,f,())
 | .b6 a b c d e f=>AA3 f35 [1,1,1,1,1,1,1,1,1,1,1,1,1,1,1,0,0] SA (a,b,c,d,e,f,())
 | .b7 a b c d e f=>AA3 f35 [1,1,1,1,1,1,1,1,1,1,1,1,1,1,1,0,1,0] SA (a,b,c,d,e,f,())
 | .b8 a b c d e f=>AA3 f35 [1,1,1,1,1,1,1,1,1,1,1,1,1,1,1,1,0] SA (a,b,c,d,e,f,())
 | .b9 a b c d e f g h=>AA3 f35 [1,1,1,1,1,1,1,1,1,1,1,1,1,1,1,1,1,1,1,1,0,0] Z9g (a,b,c,e,f,g,h,d,())
 | .b10 a b c d e f=>AA3 f35 [1,1,1,1,1,1,1,1,1,1,1,1,1,1,1,1,1,1,1,1,0,1,0,1,0] Z91 (a,c,d,e,f,b,())
 | .b11 a b c d=>AA3 f35 [1,1,1,1,1,1,1,1,1,1,1,1,1,1,1,1,1,1,1,1,1,0] Z92 (b,c,d,a,())
theorem Z9N:AA1 35 [44,62,4,3] 86 (fun x=>SC x.1 x.2.1 x.2.2.1 x.2.2.2.1) rfl:=Bh (mc Z9P (mc ZaL (mc Zdl (mc ZsH (mc ZpT (mc rV (mc ZuV (mc Zti (mc Zsf (mc Zcf (mc Zpk Ae))))))))))) (hc [] Zbm Af) (al [(5,qG),(6,qG),(17,qC),(23,qC),(25,SA),(26,SA),(27,SA),(28,SA),(36,Z9g),(39,Z91),(44,Z92)]) ZpB func35 (fun p=>by cases p<;>kernel_rfl) (by kernel_rfl) fun _=>rfl
end
noncomputable section
inductive aC where
 | b0 (a:FD) (b:Cm) (c:Int) (d:Bool) (e:Int)
 | b1 (a:Int) (b:Bool) (c d:Int) (e:FD) (f g:Cm)
 | b2 (a:Int) (b:Bool) (c d:Int) (e:FD) (f g:Cm)
 | b3 (a:Int) (b:Bool) (c:Int) (d:FD) (e f:Cm)
 | b4 (a:Int) (b:Bool) (c d:Int) (e:FD) (f g:Cm)
 | b5 (a:Int) (b:Bool) (c d:Int) (e:FD) (f g:Cm) (h:Hg)
 | b6 (a:Int) (b:Bool) (c d:Int) (e:Bool) (f:Int) (g:FD) (h i:Cm)
 | b7 (a:Int) (b c:Cm)
 | b8 (a:Int) (b:Bool) (c d:Int) (e:Bool) (f:Int) (g:FD) (h i:Cm)
 | b9 (a:Int) (b:Bool) (c:Int) (d e:Cm)
 | b10 (b:Int) (c:Bool) (d e:Int) (f:Bool) (g h:Int) (i:List Int) (j:FD) (k a:Cm)
 | b11 (a:Int) (b c:Cm)
 | b12 (a:Int) (b c:Cm)
 | b13 (d:Int) (e:Bool) (f g:Int) (h:Bool) (i j:Int) (k:List Am) (l:Bool) (m:Int) (a:FD) (b c:Cm)
 | b14 (a b:Int) (c d:Cm)
 | b15 (d:Int) (e:Bool) (f g:Int) (h:Bool) (i j:Int) (k:List Am) (l:Bool) (m:Int) (a:FD) (b c:Cm)
 | b16 (d:Int) (e:Bool) (f g:Int) (h:Bool) (i j:Int) (k:List Am) (l:Bool) (m:Int) (a:FD) (b c:Cm)
 | b17 (a:Int) (b:Bool) (c d:Int) (e:Bool) (f:Int) (g:FD) (h i:Cm)
def Z8k:aC->Tr U ((Cm×Int)⊕aC)
 | .b0 a b c d e=>AP (.b1 c d e (0:Int) a b (⟨D8,D8⟩:Cm))
 | .b1 b c d e a f g=>let h:=AP (aC.b3 b c d a f g);.br (decide (e<(↑a.Tc.length:Int))) (.br (decide (e<8)) (AP (.b2 b c d e a f g)) h) h
 | .b2 d e f a b g h=>.chk (kI a b.Tc) (.bind 83 (b.Tc[(Int.toNat a)]?) (fun(c:Hg)=>let i:=Tr.br (decide ((↑c.Ap.Payload.length:Int)>300)) (AP (aC.b4 d e f a b g h)) (AP (aC.b5 d e f a b g h c));.br (c.Side != 0) (.br (c.Side != 1) (AP (.b4 d e f a b g h)) i) i))
 | .b3 c d e a b f=>let h:=(if (6:Int)<a.Yc then (6:Int) else a.Yc);.bind 4 (uI b.x1) (fun(g:Bool)=>AP (.b6 c d e (if h>1 then h else (1:Int)) g (0:Int) a b f))
 | .b4 a b c d e f g=>AP (.b1 a b c (AQ (d+1)) e f g)
 | .b5 b d e f g c h a=>let l:=a.Side==1;let k:=a.Side==0;.br k (.bind 46 (jX c.x0 a b) (fun(i:Ac×Int)=>.br k (AP (.b4 b d e f g (⟨i.1,c.x1⟩:Cm) h)) (.br l (AP (.b4 b d e f g (⟨c.x0,i.1⟩:Cm) h)) (.fail)))) (.br l (.bind 46 (jX c.x1 a b) (fun(j:Ac×Int)=>.br k (AP (.b4 b d e f g (⟨j.1,c.x1⟩:Cm) h)) (.br l (AP (.b4 b d e f g (⟨c.x0,j.1⟩:Cm) h)) (.fail)))) (.fail))
 | .b6 b c a g h d i e f=>let j:=AP (aC.b8 b c a g h d i e f);.br (decide (d<g)) (.br c (.br (decide (a>=0)) (.br (decide (d>=a)) (AP (.b7 b e f)) j) j) j) (AP (.b9 b c a e f))
 | .b7 a b c=>AB (b,a)
 | .b8 c d e k i a j b f=>let v:=IntKind.wrap .u64 (a);let n:=decide (0<=v);let m:=Int.tmod a 2;let s:=AQ ((1:Int) - m);let l:=(bits .and .i64 (Int.fdiv j.Y6 (2 ^ (min (Int.toNat v) (IntKind.bits .i64)))) (1:Int))==1;.br (m==0) (.bind 63 (uS b.x0) (fun(g:Ac×(List Int))=>let y:=(⟨g.1,b.x1⟩:Cm);let w:=(⟨b.x0,g.1⟩:Cm);let t:=(↑g.2.length:Int)==0;let p:=AP (aC.b9 c d e w f);let o:=AP (aC.b9 c d e y f);.br (m==0) (.br t o (.chk n (.br l o (.br i o (AP (.b10 c d e k i a s g.2 j y f)))))) (.br (m==1) (.br t p (.chk n (.br l p (.br i p (AP (.b10 c d e k i a s g.2 j w f)))))) (.fail)))) (.br (m==1) (.bind 63 (uS b.x1) (fun(h:Ac×(List Int))=>let B:=(⟨h.1,b.x1⟩:Cm);let z:=(⟨b.x0,h.1⟩:Cm);let u:=(↑h.2.length:Int)==0;let r:=AP (aC.b9 c d e z f);let q:=AP (aC.b9 c d e B f);.br (m==0) (.br u q (.chk n (.br l q (.br i q (AP (.b10 c d e k i a s h.2 j B f)))))) (.br (m==1) (.br u r (.chk n (.br l r (.br i r (AP (.b10 c d e k i a s h.2 j z f)))))) (.fail)))) (.fail))
 | .b9 a d e b c=>let f:=AP (aC.b12 a b c);.br d (.br (decide (e>=0)) (AP (.b11 a b c)) f) f
 | .b10 c h i j k d a m l e b=>.br (a==0) (.bind 86 (SC e.x0 m (d==0) c) (fun(f:Ac×(List Am)×Bool)=>.br (a==0) (AP (.b13 c h i j k d a f.2.1 f.2.2 (0:Int) l (⟨f.1,e.x1⟩:Cm) b)) (.br (a==1) (AP (.b13 c h i j k d a f.2.1 f.2.2 (0:Int) l (⟨e.x0,f.1⟩:Cm) b)) (.fail)))) (.br (a==1) (.bind 86 (SC e.x1 m (d==0) c) (fun(g:Ac×(List Am)×Bool)=>.br (a==0) (AP (.b13 c h i j k d a g.2.1 g.2.2 (0:Int) l (⟨g.1,e.x1⟩:Cm) b)) (.br (a==1) (AP (.b13 c h i j k d a g.2.1 g.2.2 (0:Int) l (⟨e.x0,g.1⟩:Cm) b)) (.fail)))) (.fail))
 | .b11 a b c=>AB (b,a)
 | .b12 a b c=>AP (.b14 a (0:Int) b c)
 | .b13 d e f h i g l j m k c a b=>let r:=AQ (d+500);let q:=AP (aC.b16 d e f h i g l j m k c a b);let p:=AP (aC.b17 r e f h i g c a b);let o:=Tr.br (g==0) (.br (!a.x1.Good) (AP (aC.b9 r e f a b)) p) p;.br (decide (k<(↑j.length:Int))) (.chk (kI k j) (.bind 148 (j[(Int.toNat k)]?) (fun(n:Am)=>.br (n.Kind==8) (.br (l==1) (AP (.b15 d e f h i g l j m k c a b)) q) q))) (.br (decide (g>0)) (.br (!m) (AP (.b9 r e f a b)) o) o)
 | .b14 b a c d=>let g:=AQ (a+1);.br (decide (a<2)) (.br (a==0) (.bind 78 (sK c.x0 b) (fun(e:Ac×(List Am))=>.br (a==0) (AP (.b14 b g (⟨e.1,c.x1⟩:Cm) d)) (.br (a==1) (AP (.b14 b g (⟨c.x0,e.1⟩:Cm) d)) (.fail)))) (.br (a==1) (.bind 78 (sK c.x1 b) (fun(f:Ac×(List Am))=>.br (a==0) (AP (.b14 b g (⟨f.1,c.x1⟩:Cm) d)) (.br (a==1) (AP (.b14 b g (⟨c.x0,f.1⟩:Cm) d)) (.fail)))) (.fail))) (AB (c,b))
 | .b15 d e f g h i j k l m b a c=>.bind 46 (jX a.x1 (⟨0,10,(⟨0,[]⟩:Aq),Be,0,0,a.x1.Key⟩:Hg) d) (fun(n:Ac×Int)=>AP (.b16 d e f g h i j k l m b (⟨a.x0,n.1⟩:Cm) c))
 | .b16 d e f g h i j k l m a b c=>AP (.b13 d e f g h i j k l (AQ (m+1)) a b c)
 | .b17 a b c d e f g h i=>AP (.b6 a b c d e (AQ (f+1)) g h i)
def Z0x (a:FD) (b:Cm) (c:Int) (d:Bool) (e:Int):Option (Cm×Int):=AU Z8k (.b0 a b c d e)
def WR:Lay:=LT [2,3,4,5,6,10,12] [.v 3,.v 4,.v 3,.p 0,.p 1,.p 2,.v 3] [.s 113,.s 109,.s 109]
def Z7n:Lay:=LT [2,3,4,5,6,10] [.v 3,.v 4,.v 3,.p 0,.p 1,.p 2] [.s 113,.s 109,.s 109]
def Z7o:Lay:=LT [2,3,4,5,6,10,12,13] [.v 3,.v 4,.v 3,.p 0,.p 1,.p 2,.v 3,.p 3] [.s 113,.s 109,.s 109,.s 83]
def WX:Lay:=LT [2,3,4,5,6,10,16,17,18] [.v 3,.v 4,.v 3,.p 0,.p 1,.p 2,.v 3,.v 4,.v 3] [.s 113,.s 109,.s 109]
def WW:Lay:=LT [2,6,10] [.v 3,.p 0,.p 1] [.s 109,.s 109]
def Z7q:Lay:=LT [2,3,4,6,10] [.v 3,.v 4,.v 3,.p 0,.p 1] [.s 109,.s 109]
def Z7j:Lay:=LT [2,3,4,5,6,10,16,17,18,20,22] [.v 3,.v 4,.v 3,.p 0,.p 1,.p 2,.v 3,.v 4,.v 3,.v 3,.v 62] [.s 113,.s 109,.s 109]
def WJ:Lay:=LT [2,3,4,5,6,10,16,17,18,20,24,25,26] [.v 3,.v 4,.v 3,.p 0,.p 1,.p 2,.v 3,.v 4,.v 3,.v 3,.v 77,.v 4,.v 3] [.s 113,.s 109,.s 109]
def Z7e:Lay:=LT [2,6,10,29] [.v 3,.p 0,.p 1,.v 3] [.s 109,.s 109]
def Zlk:aC->BC U
 | .b0 a b c d e=>Bd f61 [113,109,3,4,3] (a,b,c,d,e,())
 | .b1 a b c d e f g=>AA3 f61 [1,0,1,0,0,0,0] WR (a,b,c,d,e,f,g,())
 | .b2 a b c d e f g=>AA3 f61 [1,0,1,0,0,1,0,0,0] WR (a,b,c,d,e,f,g,())
 | .b3 a b c d e f=>AA3 f61 [1,1,0] Z7n (a,b,c,d,e,f,())
 | .b4 a b c d e f g=>AA3 f61 [1,0,1,0,0,1,1] WR (a,b,c,d,e,f,g,())
 | .b5 a b c d e f g h=>AA3 f61 [1,0,1,0,0,1,0,0,1,1,0] Z7o (a,b,c,d,e,f,g,h,())
 | .b6 a b c d e f g h i=>AA3 f61 [1,1,1,1,0,1,0,0,0,0] WX (a,b,c,d,e,f,g,h,i,())
 | .b7 a b c=>AA3 f61 [1,1,1,1,0,1,0,0,1,0,0,0,1,0,0] WW (a,b,c,())
 | .b8 a b c d e f g h i=>AA3 f61 [1,1,1,1,0,1,0,0,1,0,0,1,0] WX (a,b,c,d,e,f,g,h,i,())
 | .b9 a b c d e=>AA3 f61 [1,1,1,1,1,0,0] Z7q (a,b,c,d,e,())
 | .b10 b c d e f g h i j k a=>AA3 f61 [1,1,1,1,0,1,0,0,1,0,0,1,1,1,1,1,0] Z7j (b,c,d,e,f,g,h,i,j,k,a,())
 | .b11 a b c=>AA3 f61 [1,1,1,1,1,0,1,0,0] WW (a,b,c,())
 | .b12 a b c=>AA3 f61 [1,1,1,1,1,1,0,0] WW (a,b,c,())
 | .b13 d e f g h i j k l m a b c=>AA3 f61 [1,1,1,1,0,1,0,0,1,0,0,1,1,1,1,1,1,1,0,1,0,0,0,0] WJ (d,e,f,g,h,i,j,k,l,m,a,b,c,())
 | .b14 a b c d=>AA3 f61 [1,1,1,1,1,1,0,1,0,0,0,0] Z7e (a,b,c,d,())
 | .b15 d e f g h i j k l m a b c=>AA3 f61 [1,1,1,1,0,1,0,0,1,0,0,1,1,1,1,1,1,1,0,1,0,0,1,0,0,1,0,0] WJ (d,e,f,g,h,i,j,k,l,m,a,b,c,())
 | .b16 d e f g h i j k l m a b c=>AA3 f61 [1,1,1,1,0,1,0,0,1,0,0,1,1,1,1,1,1,1,0,1,0,0,1,1] WJ (d,e,f,g,h,i,j,k,l,m,a,b,c,())
 | .b17 a b c d e f g h i=>AA3 f61 [1,1,1,1,0,1,0,0,1,1] WX (a,b,c,d,e,f,g,h,i,())
theorem ZkZ:AA1 61 [113,109,3,4,3] 110 (fun x=>Z0x x.1 x.2.1 x.2.2.1 x.2.2.2.1 x.2.2.2.2.1) rfl:=Bh (mc Zba (mc Ztj (mc Zsw (mc Zz2 (mc Z9N Ae))))) Af (al [(2,WR),(4,WR),(8,Z7n),(3,WR),(6,Z7o),(11,WX),(14,WW),(15,WX),(29,Z7q),(19,Z7j),(30,WW),(31,WW),(22,WJ),(32,Z7e),(25,WJ),(23,WJ),(12,WX)]) Zlk func61 (fun p=>by cases p<;>kernel_rfl) (by kernel_rfl) fun _=>rfl
inductive aP where
 | b0 (a:Jc)
 | b1 (a:Ac)
 | b2 (a:Jc) (b:Ac)
 | b3 (a:Int) (b:Jc) (c:Ac) (d:Cm)
 | b4 (a b:Int) (c:Jc) (d:Ac) (e:Cm)
def Z8Q:aP->Tr U ((Ac×Int×Bool)⊕aP)
 | .b0 a=>let c:=AP (aP.b1 D8);let b:=AP (aP.b2 a D8);.br (decide ((↑a.Events.length:Int)>60)) c (.br (a.BK != 0) (.br (a.BK != 1) c b) b)
 | .b1 a=>AB (D8,0,false)
 | .b2 a b=>AP (.b3 (0:Int) a b (⟨D8,D8⟩:Cm))
 | .b3 a b c d=>let i:=AB (D8,0,false);let h:=AQ (a+1);let g:=IntKind.wrap .u64 (b.IC+(IntKind.wrap .u64 (a)));.br (decide (a<2)) (.br (a==0) (.bind 46 (vV a b.DR (0:Int) b.Keys.x0 g (0:Int)) (fun(e:Ac×Int)=>.br (e.2 != 0) i (.br (a==0) (AP (.b3 h b c (⟨e.1,d.x1⟩:Cm))) (.br (a==1) (AP (.b3 h b c (⟨d.x0,e.1⟩:Cm))) (.fail))))) (.br (a==1) (.bind 46 (vV a b.DR (0:Int) b.Keys.x1 g (0:Int)) (fun(f:Ac×Int)=>.br (f.2 != 0) i (.br (a==0) (AP (.b3 h b c (⟨f.1,d.x1⟩:Cm))) (.br (a==1) (AP (.b3 h b c (⟨d.x0,f.1⟩:Cm))) (.fail))))) (.fail))) (AP (.b4 (0:Int) (0:Int) b c d))
 | .b4 d b a f c=>let h:=(↑a.Events.length:Int);.br (decide (b<h)) (.chk (kI b a.Events) (.bind 113 (a.Events[(Int.toNat b)]?) (fun(g:FD)=>.bind 110 (Z0x g c (if c.x0.Fp>d then c.x0.Fp else d) (b==(AQ (h - 1))) a.Ap) (fun(e:Cm×Int)=>AP (.b4 e.2 (AQ (b+1)) a f (⟨e.1.x0,e.1.x1⟩:Cm)))))) (.br (a.BK==0) (AB (c.x0,d,true)) (.br (a.BK==1) (AB (c.x1,d,true)) (.fail)))
def Z11 (a:Jc):Option (Ac×Int×Bool):=AU Z8Q (.b0 a)
def Z8b:Lay:=LT [2] [.p 0] [.s 44]
def Z8a:Lay:=LT [1,2] [.p 0,.p 1] [.s 59,.s 44]
def Z8h:Lay:=LT [1,2,5,6] [.p 0,.p 1,.p 2,.v 3] [.s 59,.s 44,.s 109]
def Z8o:Lay:=LT [1,2,5,9,10] [.p 0,.p 1,.p 2,.v 3,.v 3] [.s 59,.s 44,.s 109]
def ZmT:aP->BC U
 | .b0 a=>Bd f21 [59] (a,())
 | .b1 a=>AA3 f21 [1,0,1,0,0] Z8b (a,())
 | .b2 a b=>AA3 f21 [1,1,0] Z8a (a,b,())
 | .b3 a b c d=>AA3 f21 [1,1,1,0,1,0,0,0,0] Z8h (a,b,c,d,())
 | .b4 a b c d e=>AA3 f21 [1,1,1,1,1,0,1,0,0,0,0] Z8o (a,b,c,d,e,())
theorem ZmI:AA1 21 [59] 60 (fun x=>Z11 x.1) rfl:=Bh (mc Zyi (mc ZkZ Ae)) Af (al [(2,Z8b),(3,Z8a),(5,Z8h),(13,Z8o)]) ZmT func21 (fun p=>by cases p<;>kernel_rfl) (by kernel_rfl) fun _=>rfl
inductive Z0Q where
 | b0 (a:List Aq)
 | b1 (a b:List Aq) (c:Int)
def o9:Z0Q->Tr U ((List Aq)⊕Z0Q)
 | .b0 a=>.chk true (AP (.b1 a ([]:List Aq) (0:Int)))
 | .b1 a b c=>let h:=a[(Int.toNat c)]?;.br (decide (c<(↑a.length:Int))) (.chk (kI c a) (.bind 68 h (fun(e:Aq)=>.chk (kI c a) (.bind 68 h (fun(d:Aq)=>let f:=([]:List Int)++d.Payload;let g:=b++[(⟨e.BP,f⟩:Aq)];.chk true (.chk (kA (0+d.Payload.length) 1) (kl f (.chk true (kl b (.chk (kA (b.length+1) 32) (kl g (AP (.b1 a g (AQ (c+1))))))))))))))) (kl b (AB b))
def Z0N (a:List Aq):Option (List Aq):=AU o9 (.b0 a)
def Z88:Lay:=LT [0,3,4] [.v 31,.o 68 2 0,.v 3] [.r 68]
def Zme:Z0Q->BC U
 | .b0 a=>Bd f69 [31] (a,())
 | .b1 a b c=>AA3 f69 [1,1,0,1,0,0,0,0] Z88 (a,c,b,())
theorem Zmz:AA1 69 [31] 31 (fun x=>Z0N x.1) rfl:=Bh Ae Af (al [(3,Z88)]) Zme func69 (fun p=>by cases p<;>kernel_rfl) (by kernel_rfl) fun _=>rfl
def Z3j:S1 (Ac×Unit) Ac
 | (a,_)=>let e:=([]:List BJ)++a.CX;let d:=([]:List BG)++a.AA.Ak;let c:=([]:List AO);let f:=c++a.AA.Ah;.bind 31 (Z0N a.Ar.Az) (fun(b:List Aq)=>.chk true (.chk (kA (0+a.AA.Ah.length) 120) (.chk true (.chk (kA (0+a.AA.Ak.length) 64) (.chk true (.chk (kA (0+a.CX.length) 16) (.chk true (.chk (kA (0+a.Ag.length) 120) (kl f (kl d (kl e (kl (c++a.Ag) (AB ({ a with Ar:=({ a.Ar with Az:=b }:BQ),AA:=({ a.AA with Ah:=f,Ak:=d }:A7),CX:=e,Ag:=(c++a.Ag) }:Ac))))))))))))))
def Z32 (a:Ac):Option Ac:=AU Z3j (a,())
theorem ZvB:AA1 23 [44] 44 (fun x=>Z32 x.1) rfl:=ok1 (mc Zmz Ae) Af func23 (fun _=>by kernel_rfl) (by kernel_rfl)
inductive ZX where
 | b0 (a b:List Am)
 | b1 (a b:List Am) (c:Int)
 | b2 (a b:List Am) (c:Int)
def WN:ZX->Tr U (Bool⊕ZX)
 | .b0 a b=>.br ((↑a.length:Int) != (↑b.length:Int)) (AB false) (AP (.b1 a b (0:Int)))
 | .b1 d e c=>let h:=Int.toNat c;let g:=AB false;.br (decide (c<(↑d.length:Int))) (.chk (kI c d) (.bind 148 (d[h]?) (fun(a:Am)=>.chk (kI c e) (.bind 148 (e[h]?) (fun(b:Am)=>.br (a.Kind != b.Kind) g (.br (a.Event != b.Event) g (.bind 4 (pW a.Ap b.Ap) (fun(f:Bool)=>.br (!f) g (.br (!((a.JW.Kind==b.JW.Kind)&&((a.JW.Ci==b.JW.Ci)&&((a.JW.BB.EK==b.JW.BB.EK)&&((a.JW.BB.Dx==b.JW.BB.Dx)&&((a.JW.BB.D9==b.JW.BB.D9)&&((a.JW.BB.Dh==b.JW.BB.Dh)&&((a.JW.BB.ER==b.JW.BB.ER)&&((a.JW.Map==b.JW.Map)&&true))))))))) g (.br (a.Number != b.Number) g (.br (!((a.BB.EK==b.BB.EK)&&((a.BB.Dx==b.BB.Dx)&&((a.BB.D9==b.BB.D9)&&((a.BB.Dh==b.BB.Dh)&&((a.BB.ER==b.BB.ER)&&true)))))) g (AP (.b2 d e c))))))))))))) (AB true)
 | .b2 a b c=>AP (.b1 a b (AQ (c+1)))
def ZV (a b:List Am):Option Bool:=AU WN (.b0 a b)
def nK:Lay:=LT [0,1,5] [.v 77,.v 77,.v 3] []
def ZjO:ZX->BC U
 | .b0 a b=>Bd f31 [77,77] (a,b,())
 | .b1 a b c=>AA3 f31 [1,1,0,1,0,0,0,0] nK (a,b,c,())
 | .b2 a b c=>AA3 f31 [1,1,0,1,0,0,1,1] nK (a,b,c,())
theorem ZjL:AA1 31 [77,77] 4 (fun x=>ZV x.1 x.2.1) rfl:=Bh (mc Z8E Ae) Af (al [(4,nK),(5,nK)]) ZjO func31 (fun p=>by cases p<;>kernel_rfl) (by kernel_rfl) fun _=>rfl
def Z9u:S1 (Aq×Unit) Bool
 | (a,_)=>.br (a.BP==1) (AB ((↑a.Payload.length:Int)==0)) (AB false)
def Wq (a:Aq):Option Bool:=AU Z9u (a,())
theorem Z13:AA1 27 [68] 4 (fun x=>Wq x.1) rfl:=ok1 Ae Af func27 (fun _=>by kernel_rfl) (by kernel_rfl)
def Zlz:S1 (SK×Unit) Bool
 | (a,_)=>AB (a.Link.Bl==0)
def oK (a:SK):Option Bool:=AU Zlz (a,())
theorem ZkJ:AA1 63 [115] 4 (fun x=>oK x.1) rfl:=ok1 Ae Af func63 (fun _=>by kernel_rfl) (by kernel_rfl)
def Zah:S1 (Int×Unit) Bool
 | (a,_)=>.br (a==0) (AB true) (AB (a==1))
def bQ (a:Int):Option Bool:=AU Zah (a,())
theorem Zp6:AA1 231 [3] 4 (fun x=>bQ x.1) rfl:=ok1 Ae Af func231 (fun _=>by kernel_rfl) (by kernel_rfl)
inductive Z1e where
 | b0 (a:BI)
 | b1 (a:Int) (b:BI)
 | b2 (a:Int) (b:BI)
 | b3 (a:Int)
def Rz:Z1e->Tr U (Int⊕Z1e)
 | .b0 a=>let e:=AB (5:Int);.bind 4 (bQ a.SN) (fun(b:Bool)=>.br (!b) e (.bind 4 (bQ a.DX) (fun(c:Bool)=>.br (!c) e (.bind 4 (bQ a.MD) (fun(d:Bool)=>.br (!d) e (AP (.b1 (↑a.Ap.Payload.length:Int) a)))))))
 | .b1 b a=>let c:=AB (12:Int);.br (decide (a.Ap.BP<1)) c (.br (decide (a.Ap.BP>3)) c (AP (.b2 b a)))
 | .b2 a b=>let c:=AP (Z1e.b3 a);.br (a==0) (.br (b.Ap.BP != 1) (AB (1:Int)) c) c
 | .b3 a=>.br (decide (a>255)) (AB (4:Int)) (AB (0:Int))
def qB (a:BI):Option Int:=AU Rz (.b0 a)
def pG:Lay:=LT [1,3] [.p 0,.v 3] [.s 70]
def Z8C:Lay:=LT [3] [.v 3] []
def ZnV:Z1e->BC U
 | .b0 a=>Bd f153 [70] (a,())
 | .b1 a b=>AA3 f153 [1,1,0,0,1,1,0] pG (a,b,())
 | .b2 a b=>AA3 f153 [1,1,0,0,1,1,1,1,0] pG (a,b,())
 | .b3 a=>AA3 f153 [1,1,0,0,1,1,1,1,1,1,0] Z8C (a,())
theorem Z8X:AA1 153 [70] 45 (fun x=>qB x.1) rfl:=Bh (mc Zp6 Ae) Af (al [(4,pG),(6,pG),(8,Z8C)]) ZnV func153 (fun p=>by cases p<;>kernel_rfl) (by kernel_rfl) fun _=>rfl
def Zpi:S1 (BI×(List Int)×Unit) BI
 | (a,b,_)=>AB ({ a with Ap:=(⟨a.Ap.BP,b⟩:Aq) }:BI)
def qN (a:BI) (b:List Int):Option BI:=AU Zpi (a,b,())
theorem ZoI:AA1 154 [70,62] 70 (fun x=>qN x.1 x.2.1) rfl:=ok1 Ae Af func154 (fun _=>by kernel_rfl) (by kernel_rfl)
inductive Z1E where
 | b0 (a:List (List Int))
 | b1 (a:List Int) (b:List (List Int)) (c d:Int)
def bU:Z1E->Tr U ((List Int)⊕Z1E)
 | .b0 a=>.chk true (AP (.b1 ([]:List Int) a (↑a.length:Int) (0:Int)))
 | .b1 a c e b=>.br (decide (b<e)) (.chk (kI b c) (.bind 62 (c[(Int.toNat b)]?) (fun(d:List Int)=>kl a (.chk (kA (a.length+d.length) 1) (kl (a++d) (AP (.b1 (a++d) c e (AQ (b+1))))))))) (kl a (AB a))
def Ue (a:List (List Int)):Option (List Int):=AU bU (.b0 a)
def Z9c:Lay:=LT [3,6,7,8] [.o 5 1 0,.v 256,.v 3,.v 3] [.r 5]
def ZoV:Z1E->BC U
 | .b0 a=>Bd f155 [256] (a,())
 | .b1 a b c d=>AA3 f155 [1,1,0,1,0,0,0] Z9c (b,c,d,a,())
theorem bD:AA1 155 [256] 62 (fun x=>Ue x.1) rfl:=Bh Ae Af (al [(3,Z9c)]) ZoV func155 (fun p=>by cases p<;>kernel_rfl) (by kernel_rfl) fun _=>rfl
def Z97:S1 (Bc×Unit) (Int×Int)
 | (a,_)=>.br (a.BK==1) (AB ((1:Int),(0:Int))) (AB ((0:Int),(1:Int)))
def Z1k (a:Bc):Option (Int×Int):=AU Z97 (a,())
theorem ZnR:AA1 156 [41] 194 (fun x=>Z1k x.1) rfl:=ok1 Ae Af func156 (fun _=>by kernel_rfl) (by kernel_rfl)
inductive Z1V where
 | b0 (a b:List Int)
 | b1 (a b c:List Int) (d e:Int)
def cO:Z1V->Tr U ((List Int)⊕Z1V)
 | .b0 a b=>let f:=(↑a.length:Int);let e:=(↑b.length:Int);let c:=(if e<f then e else f);let d:=(List.replicate (Int.toNat c) (0:Int));.chk (decide (0<=c/\c<=c/\Int.toNat c*1<=lim/\c<=(↑maxLen:Int))) (kl d (kl d (AP (.b1 a b d (↑(d.length):Int) (0:Int)))))
 | .b1 c d b e a=>let i:=Int.toNat a;.br (decide (a<e)) (.chk (kI a c) (.bind 5 (c[i]?) (fun(f:Int)=>.chk (kI a d) (.bind 5 (d[i]?) (fun(g:Int)=>let j:=b.set i (bits .xor .u8 f g);kl b (.chk (kI a b) (.chk (b.length==b.length&&decide (0<=i)) (.bind 5 (b[i]?) (fun(h:Int)=>.chk (j.length==b.length) (AP (.b1 c d j e (AQ (a+1))))))))))))) (kl b (AB b))
def Z2b (a b:List Int):Option (List Int):=AU cO (.b0 a b)
def Z9D:Lay:=LT [0,1,5,14,15] [.v 62,.v 62,.o 5 1 0,.v 3,.v 3] [.r 5]
def Zqp:Z1V->BC U
 | .b0 a b=>Bd f232 [62,62] (a,b,())
 | .b1 a b c d e=>AA3 f232 [1,1,0,1,0,0,0] Z9D (a,b,d,e,c,())
theorem ZpP:AA1 232 [62,62] 62 (fun x=>Z2b x.1 x.2.1) rfl:=Bh Ae Af (al [(3,Z9D)]) Zqp func232 (fun p=>by cases p<;>kernel_rfl) (by kernel_rfl) fun _=>rfl
def Z2a:S1 (Int×Int×Unit) Int
 | (b,a,_)=>.br (decide (a<=0)) (AB (0:Int)) (.br (decide (a>=64)) (AB b) (.chk (decide (0<=a)) (AB (bits .and .u64 b (IntKind.wrap .u64 ((IntKind.wrap .u64 ((1:Int)*2 ^ (min (Int.toNat a) (IntKind.bits .u64)))) - 1))))))
def SH (a b:Int):Option Int:=AU Z2a (a,b,())
def Zbr:Aj U:=⟨[25,3],25,fun x=>SH x.1 x.2.1,by decide⟩
theorem ZaO:AA0 379 Zbr:=ok1 Ae Af func379 (fun _=>by kernel_rfl) (by kernel_rfl)
def Z1N:S1 (Int×Unit) Je
 | (a,_)=>.bind 25 (SH a (32:Int)) (fun(b:Int)=>AB (⟨(IntKind.wrap .u32 ((Int.fdiv a (2 ^ (32:Nat))))),(IntKind.wrap .u32 (b))⟩:Je))
def rD (a:Int):Option Je:=AU Z1N (a,())
def ZaJ:Aj U:=⟨[25],312,fun x=>rD x.1,by decide⟩
theorem Zpp:AA0 355 ZaJ:=ok1 (mc ZaO Ae) Af func355 (fun _=>by kernel_rfl) (by kernel_rfl)
def Z6J:S1 (Int×Int×Unit) Int
 | (b,a,_)=>let e:=IntKind.bits .u64;let c:=(bits .and .u64 (IntKind.wrap .u64 (a)) (63:Int));let d:=IntKind.wrap .u64 ((64:Int) - c);.chk (decide (0<=c)) (.chk (decide (0<=d)) (AB (bits .or .u64 (IntKind.wrap .u64 (b*2 ^ (min (Int.toNat c) e))) (Int.fdiv b (2 ^ (min (Int.toNat d) e))))))
def WH (a b:Int):Option Int:=AU Z6J (a,b,())
def Z6H:Aj U:=⟨[25,3],25,fun x=>WH x.1 x.2.1,by decide⟩
theorem Zj6:AA0 380 Z6H:=ok1 Ae Af func380 (fun _=>by kernel_rfl) (by kernel_rfl)
def Z6Q:S1 (Int×Int×Unit) Int
 | (b,a,_)=>let e:=IntKind.bits .u32;let c:=(bits .and .u64 (IntKind.wrap .u64 (a)) (31:Int));let d:=IntKind.wrap .u64 ((32:Int) - c);.chk (decide (0<=c)) (.chk (decide (0<=d)) (AB (bits .or .u32 (IntKind.wrap .u32 (b*2 ^ (min (Int.toNat c) e))) (Int.fdiv b (2 ^ (min (Int.toNat d) e))))))
def RY (a b:Int):Option Int:=AU Z6Q (a,b,())
def Z6P:Aj U:=⟨[22,3],22,fun x=>RY x.1 x.2.1,by decide⟩
theorem ZiY:AA0 381 Z6P:=ok1 Ae Af func381 (fun _=>by kernel_rfl) (by kernel_rfl)
def Z1H:S1 (Int×Int×Int×Unit) Int
 | (b,c,d,_)=>.bind 25 (WH b (Int.tmod (AQ ((11:Int)*(Int.tmod c 64))) (64:Int))) (fun(e:Int)=>.bind 25 (SH e (32:Int)) (fun(a:Int)=>let h:=IntKind.wrap .u32 (a);.bind 22 (RY (IntKind.wrap .u32 (d+h)) (7:Int)) (fun(f:Int)=>.bind 22 (RY h (16:Int)) (fun(g:Int)=>AB (bits .xor .u32 (IntKind.wrap .u32 (f*2654435761)) g)))))
def bI (a b c:Int):Option Int:=AU Z1H (a,b,c,())
def ZaK:Aj U:=⟨[29,3,22],22,fun x=>bI x.1 x.2.1 x.2.2.1,by decide⟩
theorem Zpx:AA0 356 ZaK:=ok1 (mc ZaO (mc Zj6 (mc ZiY Ae))) Af func356 (fun _=>by kernel_rfl) (by kernel_rfl)
def nZ:S1 (Je×Unit) Int
 | (a,_)=>AB (bits .or .u64 (IntKind.wrap .u64 ((IntKind.wrap .u64 (a.x0))*2 ^ (32:Nat))) (IntKind.wrap .u64 (a.x1)))
def Yx (a:Je):Option Int:=AU nZ (a,())
def Z82:Aj U:=⟨[312],25,fun x=>Yx x.1,by decide⟩
theorem Zkl:AA0 357 Z82:=ok1 Ae Af func357 (fun _=>by kernel_rfl) (by kernel_rfl)
end
noncomputable section
inductive Z2P where
 | b0 (a b:Int)
 | b1 (a b:Int) (c:Je)
def JE:Z2P->Tr U (Int⊕Z2P)
 | .b0 a b=>.bind 312 (rD b) (fun(c:Je)=>AP (.b1 a (0:Int) c))
 | .b1 c b a=>.br (decide (b<8)) (.bind 22 (bI c b a.x1) (fun(d:Int)=>AP (.b1 c (AQ (b+1)) (⟨a.x1,(bits .xor .u32 a.x0 d)⟩:Je)))) (.bind 25 (Yx a) (fun(e:Int)=>AB e))
def L8 (a b:Int):Option Int:=AU JE (.b0 a b)
def sV:Aj U:=⟨[29,25],25,fun x=>L8 x.1 x.2.1,by decide⟩
def Z1M:Lay:=LT [0,5,9] [.v 29,.p 0,.v 3] [.s 312]
def ZbW:Z2P->BC U
 | .b0 a b=>Bd f322 [29,25] (a,b,())
 | .b1 a b c=>AA3 f322 [1,1,0,1,0,0,0] Z1M (a,b,c,())
theorem Zrm:AA0 322 sV:=Bh (mc Zpp (mc Zpx (mc Zkl Ae))) Af (al [(3,Z1M)]) ZbW func322 (fun p=>by cases p<;>kernel_rfl) (by kernel_rfl) fun _=>rfl
def Z9G:S1 (Int×Unit) Bool
 | (a,_)=>.br (decide (a>=1)) (AB (decide (a<=8))) (AB false)
def qL (a:Int):Option Bool:=AU Z9G (a,())
theorem Z9j:AA1 321 [3] 4 (fun x=>qL x.1) rfl:=ok1 Ae Af func321 (fun _=>by kernel_rfl) (by kernel_rfl)
inductive Z21 where
 | b0 (a:List Es)
 | b1 (a:List Int) (b:List Es) (c d:Int)
 | b2 (a:List Int) (b:List Es) (c d:Int) (e:Es)
 | b3 (a:List Int) (b:List Es) (c d e f:Int) (g:Es)
def NH:Z21->Tr U (((List Int)×Int)⊕Z21)
 | .b0 a=>.chk true (AP (.b1 ([]:List Int) a (↑a.length:Int) (0:Int)))
 | .b1 b d e c=>let g:=Tr.chk true (AB (([]:List Int),(5:Int)));.br (decide (c<e)) (.chk (kI c d) (.bind 252 (d[(Int.toNat c)]?) (fun(a:Es)=>let i:=AQ ((8:Int)*a.Size);let h:=kl b (AP (Z21.b2 b d e c a));.bind 4 (qL a.Size) (fun(f:Bool)=>.br (!f) g (.br (decide (a.Size<8)) (.chk (decide (0<=i)) (.br ((Int.fdiv a.Value (2 ^ (min (Int.toNat i) (IntKind.bits .u64)))) != 0) g h)) h))))) (kl b (AB (b,0)))
 | .b2 a c d e b=>kl a (AP (.b3 a c d e b.Size (0:Int) b))
 | .b3 a d e f g b c=>let i:=AQ ((8:Int)*b);let h:=a++[(IntKind.wrap .u8 ((Int.fdiv c.Value (2 ^ (min (Int.toNat i) (IntKind.bits .u64))))))];.br (decide (b<g)) (.chk (decide (0<=i)) (.chk true (kl a (.chk (kA (a.length+1) 1) (kl h (AP (.b3 h d e f g (AQ (b+1)) c))))))) (kl a (AP (.b1 a d e (AQ (f+1)))))
def dC (a:List Es):Option ((List Int)×Int):=AU NH (.b0 a)
def Z9y:Lay:=LT [4,8,9,10] [.o 5 1 0,.v 253,.v 3,.v 3] [.r 5]
def Z9H:Lay:=LT [4,6,8,9,10] [.o 5 1 0,.p 1,.v 253,.v 3,.v 3] [.r 5,.s 252]
def Z9V:Lay:=LT [4,6,8,9,10,33,34] [.o 5 1 0,.p 1,.v 253,.v 3,.v 3,.v 3,.v 3] [.r 5,.s 252]
def Zq3:Z21->BC U
 | .b0 a=>Bd f230 [253] (a,())
 | .b1 a b c d=>AA3 f230 [1,1,0,1,0,0,0] Z9y (b,c,d,a,())
 | .b2 a b c d e=>AA3 f230 [1,1,0,1,0,0,1,1,0,0,1,1,0] Z9H (b,c,d,a,e,())
 | .b3 a b c d e f g=>AA3 f230 [1,1,0,1,0,0,1,1,0,0,1,1,1,0,0,0] Z9V (b,c,d,e,f,a,g,())
theorem Zao:AA1 230 [253] 120 (fun x=>dC x.1) rfl:=Bh (mc Z9j Ae) Af (al [(3,Z9y),(7,Z9H),(8,Z9V)]) Zq3 func230 (fun p=>by cases p<;>kernel_rfl) (by kernel_rfl) fun _=>rfl
inductive Z2G where
 | b0 (a:List Int)
 | b1 (a:List Es) (b:List Int) (c d:Int)
def fK:Z2G->Tr U ((List Int)⊕Z2G)
 | .b0 a=>.chk true (AP (.b1 ([]:List Es) a (↑a.length:Int) (0:Int)))
 | .b1 a c d b=>.br (decide (b<d)) (.chk (kI b c) (.bind 25 (c[(Int.toNat b)]?) (fun(e:Int)=>let g:=a++[(⟨8,e⟩:Es)];.chk true (kl a (.chk (kA (a.length+1) 16) (kl g (AP (.b1 g c d (AQ (b+1)))))))))) (kl a (.bind 120 (dC a) (fun(f:(List Int)×Int)=>AB f.1)))
def Um (a:List Int):Option (List Int):=AU fK (.b0 a)
def Zav:Lay:=LT [3,8,9,10] [.o 252 2 0,.v 254,.v 3,.v 3] [.r 252]
def ZsD:Z2G->BC U
 | .b0 a=>Bd f323 [254] (a,())
 | .b1 a b c d=>AA3 f323 [1,1,0,1,0,0,0] Zav (b,c,d,a,())
theorem Z2h:AA1 323 [254] 62 (fun x=>Um x.1) rfl:=Bh (mc Zao Ae) Af (al [(3,Zav)]) ZsD func323 (fun p=>by cases p<;>kernel_rfl) (by kernel_rfl) fun _=>rfl
inductive Z1U where
 | b0 (a b c:Int)
 | b1 (a b c:Int) (d:List Int) (e:Int)
def dI:Z1U->Tr U ((List Int)⊕Z1U)
 | .b0 b c a=>let f:=AQ (a+8);let e:=(List.replicate (Int.toNat 0) (0:Int));.bind 25 (L8 b c) (fun(d:Int)=>.chk (decide (0<=(0:Int)/\(0:Int)<=f/\Int.toNat f*1<=lim/\f<=(↑maxLen:Int))) (kl e (AP (.b1 b a d e (0:Int)))))
 | .b1 d b e a f=>let j:=(↑a.length:Int);let i:=Int.toNat b;let h:=(decide (0<=b/\b<=j));kl a (.br (decide (j<b)) (.bind 25 (L8 d (IntKind.wrap .u64 (e+f))) (fun(g:Int)=>.chk true (.bind 62 (Um ([g])) (fun(c:List Int)=>kl a (.chk (kA (a.length+c.length) 1) (kl (a++c) (AP (.b1 d b e (a++c) (IntKind.wrap .u64 (f+1)))))))))) (kl a (.chk h (.chk h (.chk (i==i) (kl a (AB ((a.drop 0).take (i - 0)))))))))
def Z2i (a b c:Int):Option (List Int):=AU dI (.b0 a b c)
def Z9E:Lay:=LT [0,2,7,8,9] [.v 29,.v 3,.v 25,.o 5 1 0,.v 25] [.r 5]
def Zqw:Z1U->BC U
 | .b0 a b c=>Bd f233 [29,25,3] (a,b,c,())
 | .b1 a b c d e=>AA3 f233 [1,1,1,0,1,0,0,0,0] Z9E (a,b,c,e,d,())
theorem ZpR:AA1 233 [29,25,3] 62 (fun x=>Z2i x.1 x.2.1 x.2.2.1) rfl:=Bh (mc Zrm (mc Z2h Ae)) Af (al [(4,Z9E)]) Zqw func233 (fun p=>by cases p<;>kernel_rfl) (by kernel_rfl) fun _=>rfl
end
end Go.Proofs.YtjodhcdmhobmoaaGreatDoor
namespace Go.Proofs.YtjodhcdmhobmoaaGreatDoor
open Tryz
set_option maxRecDepth 100000
noncomputable section
attribute [local go_sem] Go.Oper.semAt_some
open Go Go.RowKit Go.Shelf
def KH (ys:List Int):Nat->Int
 | 0=>0
 | m+1=>bits .or .u64 (KH ys m) (IntKind.wrap .u64 (ys[m]?.getD 0*2 ^ (8*m)))
def Jt (xs:List Int) (k:Nat):Int:=KH ((xs.drop (8*k)).take 8) ((xs.drop (8*k)).take 8).length
def gN (xs:List Int):Nat:=(xs.length+7) / 8
theorem Zex {a b:Nat} (h:a<=b):List.range a <+: List.range b:=by
 obtain⟨d,rfl⟩:∃d,b=a+d:=⟨b - a,by omega⟩;rw[List.range_add];exact List.prefix_append _ _
theorem meas {L k:Nat} {a b:Int} (h:8*k<L) (q:a=8*(k:Int)) (hb:b=8*(k:Int)+8):L+8 - (intOf (.int .i64 b)).toNat<L+8 - (intOf (.int .i64 a)).toNat:=by
 subst q hb;simp only[intOf];omega
structure BytesAt (W:World) (Bm b o cap:Nat) (a:Option Addr) (xs:List Int):Prop where
 box:W.cell? ⟨Bm,0,none⟩=some (.slice a xs.length cap)
 Yp:xs≠[]->a=some ⟨b,o,none⟩
 cells:∀j (h:j<xs.length),W.cell? ⟨b,o+j,none⟩=some (.int .u8 xs[j])
 len:xs.length<=cap
 max:cap<=maxLen
 bd:∀x∈xs,0<=x/\x<256
set_option maxHeartbeats 1000000 in
theorem g1_in (F:Fence) (n:Nat) (hG1:F.fn 382) (hro:F.round=none) (hn:1<=n) (xs:List Int) (D:xs.length<=4611686018427387904) (b o cap:Nat) (a:Option Addr) (l Bm:Nat) (J Jx:List Nat->World->Prop)
  (hY:∀pre x W,J pre W->pre.length<gN xs->YieldAt F (n - 1) Tryz.prog l #[.int .u64 (Jt xs x)] W fun e W' =>
   (e = .returned (.bool true)/\J (pre++[x]) W' /\ (BytesAt W Bm b o cap a xs->BytesAt W' Bm b o cap a xs))\/(e = .returned (.bool false)/\Jx (pre++[x]) W'))
  (W:World) (hB:BytesAt W Bm b o cap a xs) (h0:J [] W) :
  CallsIn F n Tryz.prog 382 #[.func (.yield l) #[] #[],.pointer (some ⟨Bm,0,none⟩)] W fun e W' =>(∃v,e = .returned v) /\
   ((∃ys,ys=List.range (gN xs)/\J ys W')\/(∃pre,pre <+: List.range (gN xs)/\Jx pre W')):=by
 refine callsIn_of_wp func382 rfl hG1 ?_ hro;simp only[Tryz.ntmps382,List.size_toArray,List.length_cons,List.length_nil,Nat.reduceAdd,Nat.reduceSub,Array.replicate_succ,Array.replicate_zero,List.push_toArray,List.append_toArray,List.nil_append,List.cons_append]
 gi_wp2
 gi_loopw [3] (fun i wr=>∃k:Nat,k<=gN xs/\i = .int .i64 ((8*k:Nat):Int)/\J (List.range k) wr/\BytesAt wr Bm b o cap a xs)
  (fun i _=>xs.length+8 - (intOf i).toNat)
 case atStart=>exact⟨0,by omega,rfl,by simpa using h0,hB⟩
 case round=>
  obtain⟨k,hk,rfl,hJ,hb⟩:=hrel;have hbox:=hb.box
  by_cases O:8*k<xs.length
  ·have hl:=hb.len;have hne:xs≠[]:=by rintro rfl;simp at O
   obtain rfl:=hb.Yp hne;have hw:wrap64 (8*(k:Int)+8)=8*(k:Int)+8:=by unfold wrap64;omega
   have c1:(8*(k:Int)<xs.length):=by omega
   have c2:(0<=8*(k:Int)+8):=by omega
   have c3:(0<=8*(k:Int)):=by omega
   have c4:(8*(k:Int)<=8*(k:Int)+8):=by omega
   have c5:((xs.length:Int)<=cap):=by omega
   by_cases h8:8*k+8<=xs.length
   ·have d1:¬((xs.length:Int)<8*(k:Int)+8):=by omega
    have d2:(8*(k:Int)+8<=cap):=by omega
    have d3:(8*(k:Int)+8).toNat=8*k+8:=by omega
    have HL:=Lib.hid hl;have HE:=Lib.hid D;have S:=Lib.hid O;have HK:=Lib.hid hk;have Y:=Lib.hid h8;clear hl hne O hk h8 D
    gi_wp2
    gi_loopw [4,22] (fun acc j wi=>∃m:Nat,m<=8/\j = .int .i64 (m:Int)/\acc = .int .u64 (KH ((xs.drop (8*k)).take 8) m)/\J (List.range k) wi/\BytesAt wi Bm b o cap (some ⟨b,o,none⟩) xs)
     (fun _ j _=>8 - (intOf j).toNat)
    case atStart=>exact⟨0,by omega,rfl,rfl,hJ,hb⟩
    case round=>
     obtain⟨m,hm,rfl,rfl,G,A⟩:=hrel;have hb2b:=A.box
     by_cases hm8:m<8
     ·have e1:((m:Int)<8):=by omega
      have e2:(0<=(m:Int)):=by omega
      have e3:m<8:=hm8;have hj:8*k+m<xs.length:=by have:=Y.out;omega
      have hcell:wr.cell? ⟨b,o+8*k+m,none⟩=some (.int .u8 xs[8*k+m]):=by rw[Nat.add_assoc];exact A.cells _ hj
      obtain⟨bd1,bd2⟩:=A.bd _ (List.getElem_mem hj);have e4:IntKind.wrap .u64 xs[8*k+m]=xs[8*k+m]:=by simp only[IntKind.wrap,IntKind.signed,IntKind.bits,Bool.false_and,Bool.false_eq_true,if_false];omega
      have e5:wrap64 (8*(m:Int))=8*(m:Int):=by unfold wrap64;omega
      clear hm;have M:KH ((xs.drop (8*k)).take 8) (m+1)=bits .or .u64 (KH ((xs.drop (8*k)).take 8) m) (IntKind.wrap .u64 (xs[8*k+m]*2 ^ (8*m))):=by
       simp only[KH];rw[List.getElem?_take,if_pos hm8,List.getElem?_drop,List.getElem?_eq_getElem hj];rfl
      have HG:=Lib.hid M;clear M
      gi_wp2
      go_roundw
      case rel=>exact⟨m+1,by omega,by go_num,by rw[HG.out],G,A⟩
      case measure=>simp[intOf];omega
     ·obtain rfl:m=8:=by omega
      have hb3:=A;obtain⟨fn,tmps,Q,body,hy,hR⟩:=hY (List.range k) k wr G (by have:=Y.out;simp[gN];omega);have hg:KH ((xs.drop (8*k)).take 8) 8=Jt xs k:=by
       have:=Y.out;unfold Jt;rw[show ((xs.drop (8*k)).take 8).length=8 by simp;omega]
      have z:List.range k++[k]=List.range (k+1):=List.range_succ.symm;have C:List.range (k+1) <+: List.range (gN xs):=Zex (by have:=S.out;unfold gN;omega);rw[z]at hR;have HS:=Lib.hid z;have HP:=Lib.hid C;clear z C
      gi_wp2
      refine hR.mono ?_
      rintro e W3 (⟨rfl,hJ3,N⟩|⟨rfl,I⟩)
      ·have hb4:=N hb3;clear N
       gi_wp2
       go_roundw
       case rel=>exact⟨k+1,by have:=S.out;unfold gN;omega,by simp only[Value.int.injEq,true_and];omega,hJ3,hb4⟩
       case measure=>exact meas (by have:=S.out;omega) (by omega) (by omega)
      ·gi_wp2
       refine bodyPost_ret (results_none rfl _ _ _) rfl ?_;exact⟨⟨_,rfl⟩,.inr ⟨_,HP.out,I⟩⟩
   ·have d1:((xs.length:Int)<8*(k:Int)+8):=by omega
    have d2:(8*(k:Int)<=xs.length):=by omega
    obtain⟨q,hq⟩:∃q,xs.length - 8*k=q:=⟨_,rfl⟩;have d3:(0<=(xs.length:Int)):=by omega
    have HQ:=Lib.hid hq;have HL:=Lib.hid hl;have HE:=Lib.hid D;have S:=Lib.hid O;have HK:=Lib.hid hk;have Y:=Lib.hid h8;clear hl hne O hk h8 D
    gi_wp2
    gi_loopw [4,22] (fun acc j wi=>∃m:Nat,m<=q/\j = .int .i64 (m:Int)/\acc = .int .u64 (KH ((xs.drop (8*k)).take 8) m)/\J (List.range k) wi/\BytesAt wi Bm b o cap (some ⟨b,o,none⟩) xs)
     (fun _ j _=>q - (intOf j).toNat)
    case atStart=>exact⟨0,by omega,rfl,rfl,hJ,hb⟩
    case round=>
     obtain⟨m,hm,rfl,rfl,G,A⟩:=hrel;have hb2b:=A.box
     by_cases hm8:m<q
     ·have e1:((m:Int)<q):=by omega
      have e2:(0<=(m:Int)):=by omega
      have e3:m<xs.length - 8*k:=by have:=HQ.out;omega
      have hj:8*k+m<xs.length:=by have:=HQ.out;omega
      have hcell:wr.cell? ⟨b,o+8*k+m,none⟩=some (.int .u8 xs[8*k+m]):=by rw[Nat.add_assoc];exact A.cells _ hj
      obtain⟨bd1,bd2⟩:=A.bd _ (List.getElem_mem hj);have e4:IntKind.wrap .u64 xs[8*k+m]=xs[8*k+m]:=by simp only[IntKind.wrap,IntKind.signed,IntKind.bits,Bool.false_and,Bool.false_eq_true,if_false];omega
      have e5:wrap64 (8*(m:Int))=8*(m:Int):=by have:=HQ.out;have:=Y.out;unfold wrap64;omega
      clear hm;have M:KH ((xs.drop (8*k)).take 8) (m+1)=bits .or .u64 (KH ((xs.drop (8*k)).take 8) m) (IntKind.wrap .u64 (xs[8*k+m]*2 ^ (8*m))):=by
       simp only[KH];rw[List.getElem?_take,if_pos (by have:=HQ.out;have:=Y.out;omega),List.getElem?_drop,List.getElem?_eq_getElem hj];rfl
      have HG:=Lib.hid M;clear M
      gi_wp2
      go_roundw
      case rel=>exact⟨m+1,by omega,by go_num,by rw[HG.out],G,A⟩
      case measure=>simp[intOf];omega
     ·obtain rfl:m=q:=by omega
      have hb3:=A;obtain⟨fn,tmps,Q,body,hy,hR⟩:=hY (List.range k) k wr G (by have:=S.out;simp[gN];omega);have hg:KH ((xs.drop (8*k)).take 8) m=Jt xs k:=by
       have:=Y.out;unfold Jt;rw[show ((xs.drop (8*k)).take 8).length=m by have:=HQ.out;simp only[List.length_take,List.length_drop];omega]
      have z:List.range k++[k]=List.range (k+1):=List.range_succ.symm;have C:List.range (k+1) <+: List.range (gN xs):=Zex (by have:=S.out;unfold gN;omega);rw[z]at hR;have HS:=Lib.hid z;have HP:=Lib.hid C;clear z C
      gi_wp2
      refine hR.mono ?_
      rintro e W3 (⟨rfl,hJ3,N⟩|⟨rfl,I⟩)
      ·have hb4:=N hb3;clear N
       gi_wp2
       go_roundw
       case rel=>exact⟨k+1,by have:=S.out;unfold gN;omega,by simp only[Value.int.injEq,true_and];omega,hJ3,hb4⟩
       case measure=>exact meas (by have:=S.out;omega) (by omega) (by omega)
      ·gi_wp2
       refine bodyPost_ret (results_none rfl _ _ _) rfl ?_;exact⟨⟨_,rfl⟩,.inr ⟨_,HP.out,I⟩⟩
  ·have hkk:k<=(xs.length+7) / 8:=hk;have hdone:k=gN xs:=by unfold gN;omega
   rw[hdone]at hJ;have c1:¬(8*(k:Int)<xs.length):=by omega
   gi_wp2
   go_end0
   exact⟨⟨_,rfl⟩,.inl hJ⟩
def Ye (q:Int->Int->Option Int) (k:Int) (xs:List Int):Option Int:=
 if xs.length<=4611686018427387904 then (q k xs.length).bind fun s=>(List.range (gN xs)).foldlM (fun s g=>q k (bits .xor .u64 s (Jt xs g))) s else none
def zI (F:Fence) (q:Int->Int->Option Int):Prop:=∀k s r,(Lit.int .u64 k).wf=true->(Lit.int .u64 s).wf=true->q k s=some r->(Lit.int .u64 r).wf=true /\
 ∀n w,CallsIn F n Tryz.prog 322 #[.int .u64 k,.int .u64 s] w fun e w' =>e = .returned (.int .u64 r)/\Below w.heap.size w w'
structure Ny (W:World) (b o cap:Nat) (a:Option Addr) (xs:List Int):Prop where
 Yp:xs≠[]->a=some ⟨b,o,none⟩
 cells:∀j (h:j<xs.length),W.cell? ⟨b,o+j,none⟩=some (.int .u8 xs[j])
 len:xs.length<=cap
 max:cap<=maxLen
 bd:∀x∈xs,0<=x/\x<256
theorem Ny.below {W q : World} {n b o cap:Nat} {a:Option Addr} {xs:List Int} (h:Ny W b o cap a xs) (hb:Below n W q) (hn:W.heap.size<=n\/b<n):Ny q b o cap a xs:=
 ⟨h.Yp,fun j z=>(hb.cell (p:=⟨b,o+j,none⟩) (by
  rcases hn with hn|hn
  ·exact Nat.lt_of_lt_of_le (by have:=h.cells j z;unfold World.cell? at this;split at this<;>first|exact(Array.getElem?_eq_some_iff.1 ‹_›).1|cases this) hn
  ·exact hn)).trans (h.cells j z),h.len,h.max,h.bd⟩
theorem BytesAt.of {W:World} {Bm b o cap:Nat} {a:Option Addr} {xs:List Int} (h:Ny W b o cap a xs) (hb:W.cell? ⟨Bm,0,none⟩=some (.slice a xs.length cap)):BytesAt W Bm b o cap a xs:=⟨hb,h.Yp,h.cells,h.len,h.max,h.bd⟩
theorem BytesAt.row {W:World} {Bm b o cap:Nat} {a:Option Addr} {xs:List Int} (h:BytesAt W Bm b o cap a xs):Ny W b o cap a xs:=⟨h.Yp,h.cells,h.len,h.max,h.bd⟩
theorem Ny.same {W q : World} {b o cap:Nat} {a:Option Addr} {xs:List Int} (h:Ny W b o cap a xs) (hb:xs≠[]->q.heap[b]? = W.heap[b]?):Ny q b o cap a xs:=
 ⟨h.Yp,fun j z=>(World.cell?_of_block (hb (by rintro rfl;cases z))).trans (h.cells j z),h.len,h.max,h.bd⟩
theorem Ny.lt {W:World} {b o cap:Nat} {a:Option Addr} {xs:List Int} (h:Ny W b o cap a xs) (hx:xs≠[]):b<W.heap.size:=by
 have:=h.cells 0 (List.length_pos_iff.2 hx);unfold World.cell? at this;split at this<;>first|exact(Array.getElem?_eq_some_iff.1 ‹_›).1|cases this
structure lY (k:Int) (w:World) (n5:Nat) (s:Int) (W:World):Prop where
 key:Boxed W w.heap.size 29 (.int .u64 k)
 st:Boxed W n5 25 (.int .u64 s)
 below:Below w.heap.size w W
theorem Ze9 {W q : World} {row:Option Nat} {B B0:Nat} {t:TypeId} {v:Value} (h:Boxed W B t v) (A:W.grownBy q row) (hr:∀r,row=some r->B0<=r/\∃o:Obj,W.heap[r]? = some o/\o.isCells=false):Boxed q B t v:=by
 refine h.kept A ?_;intro e;obtain⟨_,o,z,hc⟩:=hr B e.symm;rw[show W.heap[B]? = _ from h]at z;cases z;cases hc
theorem lY.own {k:Int} {w:World} {n5:Nat} {s:Int} {W W' : World} {row:Option Nat} {B0:Nat} (z:w.heap.size<=B0) (h:lY k w n5 s W) (q:W.grownBy W' row) (hr:∀r,row=some r->B0<=r/\∃o:Obj,W.heap[r]? = some o/\o.isCells=false):lY k w n5 s W' :=
 ⟨Ze9 h.key q hr,Ze9 h.st q hr,h.below.grown q h.below.size (fun k e=>Nat.le_trans z (hr k e).1)⟩
theorem wf_x (a b:Int):(Lit.int .u64 (bits .xor .u64 a b)).wf=true:=by
 have:=bits_within .xor .u64 a b;simp only[Lit.wf,Bool.and_eq_true,decide_eq_true_eq];exact this
theorem ZAL (F:Fence) (n:Nat) (z:F.fn 358) (q:F.round=none) (a:Option Addr) (l c:Nat) (w:World) :
  CallsIn F n Tryz.prog 358 #[.slice a l c] w fun e w' =>e = .returned (.func (.func 382) #[] #[.pointer (some ⟨w.heap.size,0,none⟩)])/\w' = w.alloc (.cells #[.slice a l c] 62):=by
 refine callsIn_of_wp func358 rfl z ?_ q;simp only[Tryz.ntmps358,List.size_toArray,List.length_cons,List.length_nil,Nat.reduceAdd,Nat.reduceSub,Array.replicate_succ,Array.replicate_zero,List.push_toArray,List.append_toArray,List.nil_append,List.cons_append]
 gi_wp2
 go_ret
 exact⟨rfl,rfl⟩
set_option maxHeartbeats 2000000 in
theorem ZG3 (F:Fence) (hMIX:F.fn 322) (hG:F.fn 358) (hG1:F.fn 382) (hSELF:F.fn 324) (Y:F.round=none) (mx:Int->Int->Option Int) (hM:zI F mx) (hT:∀k s,(Lit.int .u64 s).wf=true->∃r,mx k s=some r) (n:Nat) (hn:3<=n) (k:Int) (xs:List Int) (r:Int) (hk:(Lit.int .u64 k).wf=true) (hr:Ye mx k xs=some r) (b o cap:Nat) (a:Option Addr) (w:World) (hB:Ny w b o cap a xs) :
  CallsIn F n Tryz.prog 324 #[.int .u64 k,.slice a xs.length cap] w fun e W' =>e = .returned (.int .u64 r)/\Below w.heap.size w W' :=by
 unfold Ye at hr;split at hr
 ·rename_i O;cases h0:mx k xs.length with
  | none=>rw[h0]at hr;cases hr
  | some s0=>
   rw[h0]at hr;change (List.range (gN xs)).foldlM (fun s g=>mx k (bits .xor .u64 s (Jt xs g))) s0=some r at hr;have hlw:(Lit.int .u64 (xs.length:Int)).wf=true:=by simp[Lit.wf,IntKind.min,IntKind.max,IntKind.signed,IntKind.bits];omega
   obtain⟨hs0,hC⟩:=hM k xs.length s0 hk hlw h0;have h1:1<=n:=by omega
   refine callsIn_of_wp_marks func324 rfl hSELF ?_ Y;simp only[Tryz.ntmps324,List.size_toArray,List.length_cons,List.length_nil,Nat.reduceAdd,Nat.reduceSub,Array.replicate_succ,Array.replicate_zero,List.push_toArray,List.append_toArray,List.nil_append,List.cons_append];have hcv:IntKind.wrap .u64 (xs.length:Int)=xs.length:=by simp only[IntKind.wrap,IntKind.signed,IntKind.bits,Bool.false_and,Bool.false_eq_true,if_false];omega
   have HR:=Lib.hid hr;have HS:=Lib.hid hs0;have HL:=Lib.hid O;clear hr hs0 O
   gi_wp2_with (gi_at_call 322;refine(hC (n - 1) _).mono ?_;rintro e q ⟨rfl,hb1⟩)
   gi_wp2_with (gi_at_call 358;refine(ZAL F (n - 1) hG Y _ _ _ _).mono ?_;rintro e w2 ⟨rfl,rfl⟩)
   have hb1' : w.heap.size<q.heap.size:=by have:=hb1.size;simp at this;omega
   obtain⟨W0,M⟩:∃W0,(q.alloc (Obj.cells #[Value.int IntKind.u64 s0] 25)).alloc (Obj.cells #[Value.slice a xs.length cap] 62)=W0:=⟨_,rfl⟩;have hk1:Boxed q w.heap.size 29 (.int .u64 k):=(hb1.block _ (by simp)).trans (Boxed.new w 29 _);have hI0:lY k w q.heap.size s0 W0:=by
    rw[<- M];refine⟨(hk1.alloc _).alloc _,(Boxed.new q 25 (.int .u64 s0)).alloc _,?_⟩;exact(((((Below.refl _ w).alloc (Nat.le_refl _) _).trans (hb1.mono (by simp))).alloc (Nat.le_of_lt hb1') _).alloc (by simp;omega) _)
   have C:BytesAt W0 (q.heap.size+1) b o cap a xs:=by
    refine BytesAt.of (hB.below hI0.below (.inl (Nat.le_refl _))) ?_;rw[<- M];simp
   have hs0' : W0.heap.size=q.heap.size+2:=by rw[<- M];simp
   rw[M];have HB:=Lib.hid C;clear M hk1;refine wpIn_rangeFunc_ownG Y h1 (gf:=382) (lb:=#[.pointer (some ⟨q.heap.size+1,0,none⟩)]) rfl hG1 (enters_of func382 (by kernel_rfl) rfl) (α:=Nat) (encs:=fun x=>#[Value.int .u64 (Jt xs x)])
    (Kp:=fun A B=>BytesAt A (q.heap.size+1) b o cap a xs->BytesAt B (q.heap.size+1) b o cap a xs) (S:=fun ys=>ys=List.range (gN xs)) (Sp:=fun pre=>pre <+: List.range (gN xs)) (N:=gN xs) (w0:=W0)
    (fun l J Jx W hW _ _ hY hJ=>g1_in F (n - 1) hG1 Y (by omega) xs HL.out b o cap a l (q.heap.size+1) J Jx (fun pre x W1 h1 h2=>hY pre x W1 h1 h2)
     W (BytesAt.of (C.row.below hW (.inl (Nat.le_refl _))) ((hW.cell (p:=⟨q.heap.size+1,0,none⟩) (by simp;omega)).trans C.box)) hJ)
    (fun h k=>fun x=>k (h x))
    (fun W l o o' hl ho hc _ I=>BytesAt.of (I.row.same fun hx=>World.putObj_heap_other (by have:=C.row.lt hx;omega)) ((World.cell?_of_block (World.putObj_heap_other (by simp only;omega))).trans I.box))
    (Below.refl _ _) (fun _=>rfl)
    (fun pre W=>∃s,pre.foldlM (fun s g=>mx k (bits .xor .u64 s (Jt xs g))) s0=some s/\(Lit.int .u64 s).wf=true/\lY k w q.heap.size s W)
    (fun _ _ _=>False)
    (fun p A B row hs hg hr=>by obtain⟨s,q1,q2,q3⟩:=hs;exact⟨s,q1,q2,q3.own (by omega) hg hr⟩)
    (fun c p A B row hs hg hr=>hs)
    ⟨s0,rfl,HS.out,hI0⟩
    (fun x=>{ tmps:=#[.int .u64 k,.slice a xs.length cap,.pointer (some ⟨w.heap.size,0,none⟩),undef,.int .u64 0,.pointer (some ⟨q.heap.size,0,none⟩),.int .u64 (Jt xs x),.int .u64 k,.slice a xs.length cap,.int .i64 xs.length,.int .u64 xs.length,.int .u64 s0,.slice a xs.length cap,.func (.func 382) #[] #[.pointer (some ⟨q.heap.size+1,0,none⟩)],.int .u64 (Jt xs x),undef,undef,undef,undef,undef,undef],defers:=[] }) ?assign ?body ?done ?stop
   case assign=>
    intro l x W K hK
    gi_wp2
    exact hK
   case body=>
    rintro l pre x W ⟨s,q1,q2,G⟩ O
    obtain⟨r',hr'⟩:=hT k (bits .xor .u64 s (Jt xs x)) (wf_x _ _);obtain⟨hw',hC'⟩:=hM k _ r' hk (wf_x _ _) hr';have hc0:=G.key.cell;have hc1:=G.st.cell;have hf1:=G.st.frozen;have hMIXl:(F.inRound l).fn 322:=hMIX;have h3:1<=n - 1 - 1:=by omega
    gi_wp2_with (gi_at_call 322;refine(CallsIn.inRound l (hC' (n - 1 - 1 - 1) _)).mono ?_;rintro e W2 ⟨rfl,z⟩;have Q:Boxed W2 q.heap.size 25 (.int .u64 s):=(z.block _ G.st.lt).trans G.st;have hky2:Boxed W2 w.heap.size 29 (.int .u64 k):=(z.block _ G.key.lt).trans G.key;have hc2:=Q.cell;have hf2:=Q.frozen;clear hc0 hc1 hf1)
    refine⟨KeepsFrom.trans ⟨z.size,fun j o _ hj _=>(z.block _ (Array.getElem?_eq_some_iff.1 hj).1).trans hj⟩ (KeepsFrom.of_grownBy (grownBy_setCell' W2 _ _) (fun j e=>by cases e;omega)),fun I=>?_,r',?_,hw',?_⟩
    ·refine BytesAt.of ((I.row.below z (.inl (Nat.le_refl _))).same fun hx=>Below.heap_setCell _ _ _ _ (by have:=hB.lt hx;simp only;omega)) ?_;have hbm:q.heap.size+1<W.heap.size:=by
      have:=I.box;unfold World.cell? at this;split at this<;>first|exact(Array.getElem?_eq_some_iff.1 ‹_›).1|cases this
     exact(World.cell?_of_block (Below.heap_setCell _ _ _ _ (by simp only;omega))).trans ((z.cell (p:=⟨q.heap.size+1,0,none⟩) hbm).trans I.box)
    ·simp only[List.foldlM_append,q1,List.foldlM_cons,List.foldlM_nil,Option.bind_eq_bind,Option.bind_some,hr',Option.pure_def]
    ·exact⟨(Below.heap_setCell _ _ _ _ (by simp only;omega)).trans hky2,Q.set _,(G.below.trans (z.mono G.below.size)).setCell (p:=⟨q.heap.size,0,none⟩) (Nat.le_of_lt hb1') _⟩
   case done=>
    rintro D ys W hD rfl ⟨s,q1,q2,G⟩ hK
    have hsr:s=r:=Option.some.inj (q1.symm.trans HR.out);subst hsr;have hc1:=G.st.cell;have hf1:=G.st.frozen
    gi_wp2
    refine⟨by simp,.inl ⟨_,_,rfl,run_takeDeferred hK,?_⟩⟩;refine⟨.int .u64 s,?_,?_,?_⟩
    ·simp[results,f324,go_sem]
    ·rfl
    ·exact G.below.trans (belowK_b (w:=w) (Nat.le_refl _) _ D _ _ (by omega) hK rfl rfl)
   case stop=>
    rintro D c pre W hD hp hf hK
    exact hf.elim
 ·cases hr
open Go.Proofs.YtjodhcdmhobmoaaGreatDoor.Le
theorem ZvQ {σ:Sg} {w:World}:∀{xs:List Int} {us:List Value},AV σ w (xs.map fun x=>V.lit (.int .u8 x)) us->us=xs.map (fun x=>Value.int .u8 x)/\∀x∈xs,0<=x/\x<256:=by
 intro xs;induction xs with
 | nil=>intro us h;cases h.Fa;exact⟨rfl,by simp⟩
 | cons x xs D=>
  intro us h;obtain⟨v,vs,rfl,q,z⟩:=h.EN;obtain⟨A,C⟩:=D z;cases q with
  | lit hl _=>
   refine⟨by rw[A];rfl,fun y hy=>?_⟩;rcases List.mem_cons.1 hy with rfl|hy
   ·simp[leaf,Lit.wf,IntKind.min,IntKind.max,IntKind.signed,IntKind.bits]at hl;omega
   ·exact C y hy
theorem row_of {σ:Sg} {w:World} {xs:List Int} {v:Value} (h:AV σ w [.sl false 1 (xs.map fun x=>V.lit (.int .u8 x))] [v]):∃a b o cap,v = .slice a xs.length cap/\Ny w b o cap a xs:=by
 generalize q:(xs.map fun x=>V.lit (.int .u8 x))=es at h;cases h with
 | Eo _=>
  have:xs=[]:=by simpa using q
  subst this;exact⟨none,0,0,0,rfl,⟨fun h=>absurd rfl h,fun j z=>(by cases z),Nat.le_refl _,Nat.zero_le _,by simp⟩⟩
 | GI a _=>
  have:xs=[]:=by simpa using q
  subst this;exact⟨_,0,0,_,rfl,⟨fun h=>absurd rfl h,fun j z=>(by cases z),Nat.zero_le _,by first|exact Nat.zero_le _|assumption,by simp⟩⟩
 | sl b o c e C J M N D F G _=>
  subst q;obtain⟨rfl,A⟩:=ZvQ C;refine⟨_,b,o,c,by rw[List.length_map],⟨fun _=>rfl,fun j z=>?_,by simpa using D,F,A⟩⟩;refine(G j (.int .u8 xs[j]) ?_).2;have:∀l:List Int,flat (l.map fun x=>Value.int .u8 x)=l.map fun x=>Value.int .u8 x:=by
   intro l;induction l with
   | nil=>rfl
   | cons y l I=>rw[List.map_cons,MF,I];rfl
  rw[this,List.getElem?_map,List.getElem?_eq_getElem z];rfl
theorem Zh7 (n:Int):0<=IntKind.wrap .u64 n:=by simp only[IntKind.wrap,IntKind.signed,IntKind.bits,Bool.false_and,Bool.false_eq_true,if_false];omega
theorem ZgI (a b:Int):0<=bits .and .u64 a b:=(bits_within .and .u64 a b).1
theorem ZDo (a b:Int):∃r,WH a b=some r:=⟨_,(Aa _ _).trans (by simp only[Z6J,Tr.den,Hz,Zh7,ZgI,decide_true,cond_true];rfl)⟩
theorem Zgj (a b:Int):∃r,RY a b=some r:=⟨_,(Aa _ _).trans (by simp only[Z6Q,Tr.den,Hz,Zh7,ZgI,decide_true,cond_true];rfl)⟩
theorem ZgA (a:Int):∃r,SH a 32=some r:=⟨_,(Aa _ _).trans (by simp[Z2a,Tr.den,Hz];rfl)⟩
theorem ZEi (a:Int):∃r,rD a=some r:=by
 obtain⟨x,hx⟩:=ZgA a;exact⟨_,(Aa _ _).trans (by simp only[Z1N,Tr.den,Hz,hx,Option.bind_some];rfl)⟩
theorem ZhE (a:Je):∃r,Yx a=some r:=⟨_,(Aa _ _).trans (by simp only[nZ,Tr.den,Hz];rfl)⟩
theorem ZDA (a b c:Int):∃r,bI a b c=some r:=by
 obtain⟨x1,z⟩:=ZDo a (Int.tmod (AQ ((11:Int)*(Int.tmod b (64:Int)))) (64:Int));obtain⟨q,A⟩:=ZgA x1;obtain⟨F,C⟩:=Zgj (IntKind.wrap .u32 (c+(IntKind.wrap .u32 (q)))) 7;obtain⟨G,D⟩:=Zgj (IntKind.wrap .u32 (q)) 16;exact⟨_,(Aa _ _).trans (by simp only[Z1H,Tr.den,Hz,z,A,C,D,Option.bind_some];rfl)⟩
theorem ZGh (k:Int):∀(n:Nat) (i:Int) (h:Je),0<=i->8 - i<=n->∃r,AU JE (.b1 k i h)=some r:=by
 intro n;induction n with
 | zero=>
  intro i h q z;obtain⟨r,hr⟩:=ZhE h;have:decide (i<(8:Int))=false:=by simp;omega
  exact⟨r,(Aa _ _).trans (by simp only[JE,Tr.den,Hz,this,cond_false,hr,Option.bind_some])⟩
 | succ n C=>
  intro i h q z
  by_cases A:i<8
  ·obtain⟨x,hx⟩:=ZDA k i h.x1;have hw:AQ (i+1)=i+1:=by simp[AQ,IntKind.wrap,IntKind.signed,IntKind.bits];split<;>omega
   obtain⟨r,hr⟩:=C (i+1) ⟨h.x1,bits .xor .u32 h.x0 x⟩ (by omega) (by omega);have:decide (i<(8:Int))=true:=by simp[A]
   exact⟨r,(Aa _ _).trans (by simp only[JE,Tr.den,Hz,this,cond_true,hx,Option.bind_some,hw,hr])⟩
  ·obtain⟨r,hr⟩:=ZhE h;have:decide (i<(8:Int))=false:=by simp;omega
   exact⟨r,(Aa _ _).trans (by simp only[JE,Tr.den,Hz,this,cond_false,hr,Option.bind_some])⟩
theorem ZhX (k s:Int):∃r,L8 k s=some r:=by
 obtain⟨x,hx⟩:=ZEi s;obtain⟨r,hr⟩:=ZGh k 8 0 x (by omega) (by omega);exact⟨r,(Aa _ _).trans (by simp only[JE,Tr.den,Hz,hx,Option.bind_some,hr])⟩
def Yj:Nat->Option (List V):=fun _=>none
def BZ:Env:=EV (U:=U) Tryz.prog Yj 0 (fun _=>none) noH Iz
abbrev Vp:={ms:FuncId->Option (Aj U) // ∀g m,ms g=some m->Ai Tryz.prog BZ g m}
abbrev mV:={hs:FuncId->List FuncId->Option (HMod U) // ∀g k m,hs g k=some m->DK Tryz.prog BZ g m}
def V9:Vp:=⟨fun _=>none,fun _ _ h=>nomatch h⟩
def V8:mV:=⟨fun _ _=>none,fun _ _ _ h=>nomatch h⟩
def WC {f:FuncId} {m:Aj U} (h:Ai Tryz.prog BZ f m) (s:Vp):Vp:=⟨fun g=>bif Nat.beq g f then some m else s.1 g,fun g q e=>by
 cases hb:Nat.beq g f with
 | true=>dsimp only at e;rw[hb]at e;cases e;exact(Nat.eq_of_beq_eq_true hb)▸h
 | false=>dsimp only at e;rw[hb]at e;exact s.2 g q e⟩
abbrev Z5O (f:FuncId) (fn:Func) (ms:Vp) (hs:mV) (A:Nat->Option Lay) (rt:Nat) {z:Type} (T:z->Tr U (U.Ty rt⊕z)) (q:z->BC U):Prop:=
 ∀p,Le.Eh (EV Tryz.prog Yj f ms.1 hs.1 Iz) (TU ms.1 hs.1 Iz.tab) A f fn 0 (lL (EV Tryz.prog Yj f ms.1 hs.1 Iz) fn) 1000 (.run (q p).c) (q p).K (q p).st (q p).sk=(T p).map (VU (zZ (U:=U) rt) q)
theorem okPz {f:FuncId} {fn:Func} {ms:Vp} {hs:mV} {A:Nat->Option Lay} {m:Aj U} {q:Type} {T:q->Tr U (U.Ty m.rt⊕q)} {D:q->BC U} (h:Z5O f fn ms hs A m.rt T D) (b0:F8 U m.ts->q)
  (hc:Ef (EV Tryz.prog Yj f ms.1 hs.1 Iz) f (Ik fn)=true) (z:Tryz.prog.funcs[f]? = some fn) (F:(fn.name == "runtime.NumGoroutine")=false) (hb:fn.body=some (Ik fn))
  (hm:∀x,m.fn x=AU T (b0 x)) (C:∀x,D (b0 x)=Bd fn m.ts x):Ai Tryz.prog BZ f m:=
 ZfC rfl (Z4Q _ rfl) TL ms.2 hs.2 z F hb hc m T D h b0 hm C
theorem okQz {f rt:Nat} {ts:List Nat} {hk:∀t∈ts,t∈U.keys} {fn:Func} {q:Type} {T:q->Tr U (U.Ty rt⊕q)} {b0:F8 U ts->q} (ms:Vp) (hs:mV) (A:Nat->Option Lay) (D:q->BC U) (z:Tryz.prog.funcs[f]? = some fn) (h:Z5O f fn ms hs A rt T D)
  (hc:(Ef (EV Tryz.prog Yj f ms.1 hs.1 Iz) f (Ik fn),fn.name == "runtime.NumGoroutine",fn.body)=(true,false,some (Ik fn))) (C:∀x,D (b0 x)=Bd fn ts x):Ai Tryz.prog BZ f ⟨ts,rt,fun x=>AU T (b0 x),hk⟩:=
 okPz (m:=⟨ts,rt,fun x=>AU T (b0 x),hk⟩) h b0 (congrArg (·.1) hc) z (congrArg (·.2.1) hc) (congrArg (·.2.2) hc) (fun _=>rfl) C
theorem Yd {f rt:Nat} {ts:List Nat} {hk:∀t∈ts,t∈U.keys} {fn:Func} {T:F8 U ts->Tr U (U.Ty rt⊕F8 U ts)} (ms:Vp) (hs:mV) (q:Tryz.prog.funcs[f]? = some fn) (h:Z5O f fn ms hs AN rt T (Bd fn ts))
  (hc:(Ef (EV Tryz.prog Yj f ms.1 hs.1 Iz) f (Ik fn),fn.name == "runtime.NumGoroutine",fn.body)=(true,false,some (Ik fn))):Ai Tryz.prog BZ f ⟨ts,rt,fun x=>AU T x,hk⟩:=
 okQz (b0:=fun x=>x) ms hs AN (Bd fn ts) q h hc fun _=>rfl
theorem Z9Z:Ai Tryz.prog BZ 379 Zbr:=Yd V9 V8 func379 (fun _=>by kernel_rfl) (by kernel_rfl)
theorem Zo6:Ai Tryz.prog BZ 355 ZaJ:=Yd (WC Z9Z V9) V8 func355 (fun _=>by kernel_rfl) (by kernel_rfl)
theorem ZiW:Ai Tryz.prog BZ 380 Z6H:=Yd V9 V8 func380 (fun _=>by kernel_rfl) (by kernel_rfl)
theorem ZiR:Ai Tryz.prog BZ 381 Z6P:=Yd V9 V8 func381 (fun _=>by kernel_rfl) (by kernel_rfl)
theorem Zo2:Ai Tryz.prog BZ 356 ZaK:=Yd (WC Z9Z (WC ZiW (WC ZiR V9))) V8 func356 (fun _=>by kernel_rfl) (by kernel_rfl)
theorem Zke:Ai Tryz.prog BZ 357 Z82:=Yd V9 V8 func357 (fun _=>by kernel_rfl) (by kernel_rfl)
theorem Zr0:Ai Tryz.prog BZ 322 sV:=okQz (WC Zo6 (WC Zo2 (WC Zke V9))) V8 (al [(3,Z1M)]) ZbW func322 (fun p=>by cases p<;>kernel_rfl) (by kernel_rfl) fun _=>rfl
theorem ZgW (ok:Ai Tryz.prog BZ 322 sV):zI Fence.wide L8:=by
 intro k s r hk hs hr;have key:∀w,Calls Tryz.prog 322 #[.int .u64 k,.int .u64 s] w fun e w' =>(e = .returned (.int .u64 r)/\Below w.heap.size w w')/\(Lit.int .u64 r).wf=true:=fun w=>by
  have:=ok.pure (k,s,()) r hr (fun _ _=>False) w [.int .u64 k,.int .u64 s] (fun _ _ h=>h.elim) (fun g r h=>by cases h) (.lit hk (.lit hs .nil));refine this.mono ?_
  rintro e w' ⟨u,q,rfl,hb,_,_,_,z,_⟩
  cases z with
  | lit hl _=>exact⟨⟨rfl,hb⟩,hl⟩
 refine⟨?_,fun n w=>callsIn_wide.2 ((key w).mono fun e w' h=>h.1)⟩;obtain⟨e,w',A,h,_⟩:=key { heap:=#[],os:=default,tape:=default,output:=default,drawn:=default } [];exact h.2
theorem fold_wf {F:Fence} {q:Int->Int->Option Int} (D:zI F q) {k:Int} (hk:(Lit.int .u64 k).wf=true) {xs:List Int}:∀(l:List Nat) (s r:Int),(Lit.int .u64 s).wf=true->l.foldlM (fun s g=>q k (bits .xor .u64 s (Jt xs g))) s=some r->(Lit.int .u64 r).wf=true:=by
 intro l;induction l with
 | nil=>intro s r hs h;cases h;exact hs
 | cons g l G=>
  intro s r hs h;rw[List.foldlM_cons]at h;obtain⟨z,A,C⟩:=Option.bind_eq_some_iff.1 h;exact G z r (D k _ z hk (Go.Proofs.YtjodhcdmhobmoaaGreatDoor.wf_x _ _) A).1 C
theorem ZGA {F:Fence} {A:Int->Int->Option Int} (q:zI F A) {k:Int} (hk:(Lit.int .u64 k).wf=true) {xs:List Int} {r:Int} (h:Ye A k xs=some r):(Lit.int .u64 r).wf=true:=by
 unfold Ye at h;split at h
 ·rename_i z;obtain⟨C,D,G⟩:=Option.bind_eq_some_iff.1 h;refine fold_wf q hk _ C r (q k _ C hk ?_ D).1 G;simp[Lit.wf,IntKind.min,IntKind.max,IntKind.signed,IntKind.bits];omega
 ·cases h
def iO (k:Int) (xs:List Int):Option Int:=Ye L8 k xs
def Zer:Aj U:=⟨[29,62],25,fun x=>iO x.1 x.2.1,by decide⟩
theorem Zvy (ok:Ai Tryz.prog BZ 322 sV) (F:∀k s,(Lit.int .u64 s).wf=true->∃r,L8 k s=some r):AA0 324 Zer:=by
 refine⟨⟨f324,func324,by kernel_rfl,by kernel_rfl⟩,?_⟩
 rintro ⟨k,xs,_⟩ r A fz w vs q G hr
 obtain⟨I,vs,rfl,C,hr⟩:=hr.EN;obtain⟨J,vs,rfl,D,hr⟩:=hr.EN;cases hr.Fa;obtain⟨a,b,o,cap,rfl,z⟩:=row_of (xs:=xs) D;cases C with
 | lit hl _=>
  have hw:(Lit.int .u64 r).wf=true:=ZGA (ZgW ok) hl A;refine(callsIn_wide.1 (ZG3 Fence.wide trivial trivial trivial trivial rfl L8 (ZgW ok) F 3 (by omega) k xs r hl A b o cap a w z)).mono ?_
  rintro e w' ⟨rfl,hb⟩
  refine⟨_,fz,rfl,hb,fun _ _ h=>h,fun _ _ h _=>h,fun b c h=>?_,.lit hw .nil,rfl⟩;obtain⟨u,hu⟩:=q b c h;exact⟨u,(hb.cell (p:=⟨b,c,none⟩) (cell_lt hu)).trans hu⟩
theorem Zea:AA0 324 Zer:=Zvy Zr0 fun k s _=>ZhX k s
end
open Go Go.Proofs.YtjodhcdmhobmoaaGreatDoor.Le
noncomputable section
def ZdP:S1 (Int×Int×(List Int)×(List Int)×Unit) (List Int)
 | (c,d,a,e,_)=>.chk true (.bind 120 (dC ([(⟨4,(IntKind.wrap .u64 ((IntKind.wrap .u32 ((↑a.length:Int)))))⟩:Es)])) (fun(f:(List Int)×Int)=>.chk true (.bind 62 (Um ([d])) (fun(g:List Int)=>.chk true (.bind 62 (Ue ([g,f.1,a,e])) (fun(h:List Int)=>.bind 25 (iO c h) (fun(i:Int)=>.chk true (.bind 62 (Um ([i])) (fun(b:List Int)=>.chk (decide (0<=(4:Int)/\(4:Int)<=(↑b.length:Int))) (AB ((b.drop 0).take ((Int.toNat 4) - 0))))))))))))
def Z3c (a b:Int) (c d:List Int):Option (List Int):=AU ZdP (a,b,c,d,())
theorem ZuY:AA1 234 [29,25,62,62] 62 (fun x=>Z3c x.1 x.2.1 x.2.2.1 x.2.2.2.1) rfl:=ok1 (mc bD (mc Zao (mc Z2h (mc Zea Ae)))) Af func234 (fun _=>by kernel_rfl) (by kernel_rfl)
def Z3y:S1 (Int×Int×(List Int)×(List Int)×Unit) ((List Int)×Int)
 | (b,c,e,a,_)=>let n:=([]:List Int);let m:=(↑a.length:Int);let h:=AQ (m - 4);let j:=(decide (0<=h/\h<=m));let i:=Int.toNat h;let l:=(a.drop 0).take (i - 0);let k:=(a.drop i).take (a.length - i);.br (decide (h<0)) (.chk true (AB (n,(3:Int)))) (.chk j (.bind 62 (Z3c b c e l) (fun(d:List Int)=>.chk (Jm U 5 d) (.chk j (.chk (Jm U 5 k) (.br (!((strOf U 5 d).toList==(strOf U 5 k).toList)) (.chk true (AB (n,(15:Int)))) (.bind 62 (Z2i b c h) (fun(f:List Int)=>.bind 62 (Z2b l f) (fun(g:List Int)=>AB (g,0))))))))))
def Z3o (a b:Int) (c d:List Int):Option ((List Int)×Int):=AU Z3y (a,b,c,d,())
theorem Zu0:AA1 206 [29,25,62,62] 120 (fun x=>Z3o x.1 x.2.1 x.2.2.1 x.2.2.2.1) rfl:=ok1 (mc ZpP (mc ZpR (mc ZuY Ae))) Af func206 (fun _=>by kernel_rfl) (by kernel_rfl)
def Znf:S1 (Int×SG×Int×Unit) Int
 | (a,b,c,_)=>AB (bits .xor .u64 b.Bj (IntKind.wrap .u64 ((IntKind.wrap .u64 ((2:Int)*a))+c)))
def Z0R (a:Int) (b:SG) (c:Int):Option Int:=AU Znf (a,b,c,())
theorem Zmv:AA1 235 [25,3385,3369] 25 (fun x=>Z0R x.1 x.2.1 x.2.2.1) rfl:=ok1 Ae Af func235 (fun _=>by kernel_rfl) (by kernel_rfl)
inductive Z1g where
 | b0 (a:Bc) (b:Int)
def Zo7:Z1g->Tr U (Wp⊕Z1g)
 | .b0 a b=>AB (⟨a,b⟩:Wp)
def Z16 (a:Bc) (b:Int):Option Wp:=AU Zo7 (.b0 a b)
def Z8v:Shape:=⟨[.agg [.v 41 7 true],OV 25],[]⟩
def ZlM:Shape:=⟨[.one (.fn 235 [] [0,1])],[VA 41 7,.var 25 1 (OV 25)]⟩
noncomputable def Zo1:HMod U:=⟨[k8,KP],[],Z8v,ZlM,true,1363,fun(y:Wp)=>(((),()),((y.q0,()),((y.q1,()),()))),fun x=>Z16 x.1.1.1 x.1.2.1.1,okS rfl⟩
def ZnC:Z1g->BC U
 | .b0 a b=>Dz f158 Z8v (((a,()),((b,()),())),())
theorem Znt:DK Tryz.prog B0 158 Zo1:=okR Ae Af AN [KP] [.var k8,.var KP] 0 ZnC func158 (fun p=>by cases p<;>kernel_rfl) (by kernel_rfl) fun x=>by kernel_rfl
inductive Z1x where
 | b0 (a:Bc) (b:BI)
 | b1 (a b:BI)
 | b2 (a:Bc) (b c:BI)
def Ws:Z1x->Tr U ((BI×Int)⊕Z1x)
 | .b0 b a=>let e:=AP (Z1x.b1 a Df);.bind 45 (qB a) (fun(c:Int)=>.br (c != 0) (AB (Df,c)) (.br (!b.Eg) e (.bind 4 (Wq a.Ap) (fun(d:Bool)=>.br d e (AP (.b2 b a Df))))))
 | .b1 a d=>.chk true (.bind 62 (Ue ([a.Ap.Payload])) (fun(b:List Int)=>.bind 70 (qN a b) (fun(c:BI)=>AB (c,0))))
 | .b2 a b h=>.br (decide ((↑b.Ap.Payload.length:Int)<5)) (AB (Df,3)) (.bind 194 (Z1k a) (fun(e:Int×Int)=>.bind 1363 (Z16 a e.2) (fun(d:Wp)=>.bind 25 (Z0R a.Rx (ZqR d.q0) d.q1) (fun(f:Int)=>.chk true (.bind 120 (Z3o a.Key f ([(IntKind.wrap .u8 (b.Ap.BP))]) b.Ap.Payload) (fun(c:(List Int)×Int)=>.br (c.2 != 0) (AB (Df,c.2)) (.bind 70 (qN b c.1) (fun(g:BI)=>AB (g,0)))))))))
def Z1v (a:Bc) (b:BI):Option (BI×Int):=AU Ws (.b0 a b)
def Z95:Lay:=LT [3,4] [.p 0,.p 1] [.s 70,.s 70]
def Z8Y:Lay:=LT [2,3,4] [.p 0,.p 1,.p 2] [.s 41,.s 70,.s 70]
def ZoM:Z1x->BC U
 | .b0 a b=>Bd f109 [41,70] (a,b,())
 | .b1 a b=>AA3 f109 [1,1,0,1,0,0] Z95 (a,b,())
 | .b2 a b c=>AA3 f109 [1,1,1,0,0] Z8Y (a,b,c,())
theorem Zou:AA1 109 [41,70] 71 (fun x=>Z1v x.1 x.2.1) rfl:=Bh (mc Z13 (mc Z8X (mc ZoI (mc bD (mc ZnR (mc Zu0 (mc Zmv Ae))))))) (hc [] Znt Af) (al [(5,Z95),(6,Z8Y)]) ZoM func109 (fun p=>by cases p<;>kernel_rfl) (by kernel_rfl) fun _=>rfl
def Zd2:S1 (Aq×Unit) Aq
 | (a,_)=>.bind 1344 (KT a.Payload) (fun(b:OX)=>kl b.q0 (AB (⟨a.BP,b.q0⟩:Aq)))
def uA (a:Aq):Option Aq:=AU Zd2 (a,())
theorem Zbu:AA1 79 [68] 68 (fun x=>uA x.1) rfl:=ok1 Ae (hc [] UI Af) func79 (fun _=>by kernel_rfl) (by kernel_rfl)
inductive Z3C where
 | b0 (a:BQ)
 | b1 (a b:List Aq) (c d:Int) (e f:BQ)
def iP:Z3C->Tr U (Xc⊕Z3C)
 | .b0 a=>let c:=(↑a.Az.length:Int);let b:=(List.replicate (Int.toNat 0) ((⟨0,[]⟩:Aq):Aq));.chk (decide (0<=(0:Int)/\(0:Int)<=c/\Int.toNat c*32<=lim/\c<=(↑maxLen:Int))) (.chk ((b.length==b.length)&&true) (AP (.b1 b a.Az c (0:Int) a KZ)))
 | .b1 a c d b e f=>.br (decide (b<d)) (.chk (kI b c) (.bind 68 (c[(Int.toNat b)]?) (fun(h:Aq)=>.bind 68 (uA h) (fun(g:Aq)=>.chk true (kl a (.chk (kA (a.length+1) 32) (.chk (kL (a++[g])&&kL f.Az) (AP (.b1 (a++[g]) c d (AQ (b+1)) e f))))))))) (kl a (AB (⟨({ e with Az:=a }:BQ)⟩:Xc)))
def Z3T (a:BQ):Option Xc:=AU iP (.b0 a)
def Zc2:Shape:=⟨[.agg [.v 33 7 true]],[]⟩
def Zt7:Shape:=⟨[(Zo 0)],[.row 68 true]⟩
noncomputable def ZAd:HMod U:=⟨[k7],[],Zc2,Zt7,true,1364,fun(y:Xc)=>(((Zj y.q0),()),(y.q0.Az,())),fun x=>Z3T x.1.1.1,okS rfl⟩
def ZcI:Lay:=⟨[1,2,3,11,12,13],[KP,KP,[.own 68 2],[.s 68 2],KP,KP],[.var k7,.var k13,.row true,.row true],⟨[PQ 0,PQ 1,.one (.own 68 2),OV 31,OV 3,OV 3],[VA 33 7,.var 33 7 (Zo 3),.row 68 true,.row 68 true]⟩⟩
def ZwR:Z3C->BC U
 | .b0 a=>Dz f78 Zc2 (((a,()),()),())
 | .b1 b c d e f a=>Ad f78 [1,1,0,1,0,0,0] ZcI (((),((),((),((c,()),((d,()),((e,()),())))))),((f,()),((Zj a),(b,(a.Az,())))))
theorem Zx3:DK Tryz.prog B0 78 ZAd:=okR (mc Zbu Ae) Af (al [(3,ZcI)]) [k13] [.row true] 0 ZwR func78 (fun p=>by cases p<;>kernel_rfl) (by kernel_rfl) fun x=>by kernel_rfl
inductive Z3b where
 | b0 (a:BQ) (b:BI)
 | b1 (a:Bool) (b:BQ) (c:BI) (d:BQ) (e:Aq)
 | b2 (a b:Bool) (c:BQ) (d:BI) (e:BQ) (f:Aq)
 | b3 (a b:Bool) (c:Int) (d:BQ) (e:BI) (f:BQ) (g:Aq)
 | b4 (a b:Bool) (c:BQ) (d:BI) (e:BQ) (f:Aq)
 | b5 (a b:Bool) (c d:BQ) (e:Aq)
def O4:Z3b->Tr U ((BQ×Aq×Bool×Bool)⊕Z3b)
 | .b0 c b=>let f:=(⟨0,([]:List Int)⟩:Aq);.bind 1364 (Z3T c) (fun(a:Xc)=>let e:=kl a.q0.Az (AP (Z3b.b2 false false a.q0 b KZ f));.bind 45 (qB b) (fun(d:Int)=>.br (d != 0) (kl a.q0.Az (AB (a.q0,(⟨0,[]⟩:Aq),false,false))) (.br a.q0.Open (.br (b.DX != a.q0.SN) (kl a.q0.Az (AP (.b1 false a.q0 b KZ f))) e) e)))
 | .b1 b a c d e=>let h:=(↑a.Az.length:Int);let f:=({ a with SN:=(AQ ((1:Int) - a.SN)) }:BQ);let g:=kl a.Az (AP (Z3b.b4 b true f c d e));kl a.Az (.br (!a.Empty) (.br (decide (h>0)) (kl a.Az (AP (.b3 b true h f c d e))) g) g)
 | .b2 e b a c d f=>let i:=AQ ((1:Int) - a.DX);.br (c.SN==a.DX) (.bind 4 (Wq c.Ap) (fun(g:Bool)=>.br (!g) (.bind 68 (uA c.Ap) (fun(h:Aq)=>AP (.b5 true b ({ a with DX:=i,Taken:=(AQ (a.Taken+1)) }:BQ) d h))) (AP (.b5 e b ({ a with DX:=i }:BQ) d f)))) (AP (.b5 e b a d f))
 | .b3 c d a b e f g=>let j:=Int.toNat 1;let i:=Int.toNat a;let h:=(decide (0<=a/\a<=(↑b.Az.length:Int)));kl b.Az (.chk h (.chk (decide (0<=(1:Int)/\(1:Int)<=(↑i:Int))) (.chk h (.chk (i==i) (kl b.Az (AP (.b4 c d ({ b with Az:=((b.Az.drop j).take (i - j)),Di:=(AQ (b.Di+1)) }:BQ) e f g)))))))
 | .b4 a b c d e f=>AP (.b2 a b ({ c with Open:=false,Empty:=false }:BQ) d e f)
 | .b5 a b c e d=>AB (c,d,a,b)
def Z3d (a:BQ) (b:BI):Option (BQ×Aq×Bool×Bool):=AU O4 (.b0 a b)
def ZbD:Lay:=⟨[2,3,4,5,6],[KP,KP,KP,KP,KP],[.var k13,.var k3,.var k7,.var [.keep,.s 5 1],.row true],⟨[PQ 0,PQ 1,PQ 2,PQ 3,OV 4],[.var 33 7 (Zo 4),VA 70 5,VA 33 7,VA 68 2,.row 68 true]⟩⟩
def sJ:Lay:=LT [2,3,4,5,6,7] [.p 0,.p 1,.p 2,.p 3,.v 4,.v 4] [.s 33,.s 70,.s 33,.s 68]
def Zbp:Lay:=⟨[2,3,4,5,6,7,8],[KP,KP,KP,KP,KP,KP,KP],[.var k13,.var k3,.var k7,.var [.keep,.s 5 1],.row true],⟨[PQ 0,PQ 1,PQ 2,PQ 3,OV 4,OV 4,OV 3],[.var 33 7 (Zo 4),VA 70 5,VA 33 7,VA 68 2,.row 68 true]⟩⟩
def Zbj:Lay:=LT [2,4,5,6,7] [.p 0,.p 1,.p 2,.v 4,.v 4] [.s 33,.s 33,.s 68]
def ZtS:Z3b->BC U
 | .b0 a b=>Bd f110 [33,70] (a,b,())
 | .b1 b a c d e=>Ad f110 [1,1,1,0,1,0,0] ZbD (((),((),((),((),((b,()),()))))),((Zj a),((c,()),((d,()),((e,()),(a.Az,()))))))
 | .b2 a b c d e f=>AA3 f110 [1,1,1,1,0,0] sJ (a,b,c,d,e,f,())
 | .b3 b c d a e f g=>Ad f110 [1,1,1,0,1,0,1,1,0,1,1,0,0] Zbp (((),((),((),((),((b,()),((c,()),((d,()),()))))))),((Zj a),((e,()),((f,()),((g,()),(a.Az,()))))))
 | .b4 a b c d e f=>AA3 f110 [1,1,1,0,1,0,1,1,1] sJ (a,b,c,d,e,f,())
 | .b5 a b c d e=>AA3 f110 [1,1,1,1,1,0] Zbj (a,b,c,d,e,())
theorem Zvt:AA1 110 [33,70] 163 (fun x=>Z3d x.1 x.2.1) rfl:=Bh (mc Z13 (mc Zbu (mc Z8X Ae))) (hc [] Zx3 Af) (al [(5,ZbD),(12,sJ),(9,Zbp),(11,sJ),(17,Zbj)]) ZtS func110 (fun p=>by cases p<;>kernel_rfl) (by kernel_rfl) fun _=>rfl
inductive Z1y where
 | b0 (a:Bc) (b c:Bool)
 | b1 (a:Bool) (b c:Bc)
 | b2 (a:Bool) (b c:Bc)
 | b3 (a b:Bc)
def Wu:Z1y->Tr U (Bc⊕Z1y)
 | .b0 a c b=>let d:=AP (Z1y.b2 b a NF);.br c (.br a.Gf (AP (.b1 b a NF)) d) d
 | .b1 b a c=>AP (.b2 b ({ a with Tx:=(IntKind.wrap .u64 (a.Tx+1)) }:Bc) c)
 | .b2 b a c=>.br b (.br a.Eg (AP (.b3 a c)) (AB a)) (AB a)
 | .b3 a b=>AB ({ a with Rx:=(IntKind.wrap .u64 (a.Rx+1)) }:Bc)
def qQ (a:Bc) (b c:Bool):Option Bc:=AU Wu (.b0 a b c)
def pV:Lay:=LT [2,3,6] [.v 4,.p 0,.p 1] [.s 41,.s 41]
def Z94:Lay:=LT [3,6] [.p 0,.p 1] [.s 41,.s 41]
def Zoq:Z1y->BC U
 | .b0 a b c=>Bd f112 [41,4,4] (a,b,c,())
 | .b1 a b c=>AA3 f112 [1,0,1,0] pV (a,b,c,())
 | .b2 a b c=>AA3 f112 [1,1,0,0] pV (a,b,c,())
 | .b3 a b=>AA3 f112 [1,1,0,1,0] Z94 (a,b,())
theorem Z9h:AA1 112 [41,4,4] 41 (fun x=>qQ x.1 x.2.1 x.2.2.1) rfl:=Bh Ae Af (al [(2,pV),(3,pV),(4,Z94)]) Zoq func112 (fun p=>by cases p<;>kernel_rfl) (by kernel_rfl) fun _=>rfl
inductive Z2I where
 | b0 (a:Ac)
 | b1 (a b:List Aq) (c d:Int) (e:Ac)
def sQ:Z2I->Tr U (XW⊕Z2I)
 | .b0 a=>let b:=(↑a.Ar.Az.length:Int);let c:=(List.replicate (Int.toNat b) ((⟨0,[]⟩:Aq):Aq));.chk (decide (0<=b/\b<=b/\Int.toNat b*32<=lim/\b<=(↑maxLen:Int))) (kl c (AP (.b1 c a.Ar.Az b (0:Int) a)))
 | .b1 a d g b c=>let m:=Int.toNat b;.br (decide (b<g)) (.chk (kI b d) (.bind 68 (d[m]?) (fun(e:Aq)=>.bind 1344 (KT e.Payload) (fun(f:OX)=>let n:=(a.set m (⟨e.BP,f.q0⟩:Aq));kl a (.chk (kI b a) (.chk (a.length==a.length&&decide (0<=m)) (.bind 68 (a[m]?) (fun(l:Aq)=>kl f.q0 (.chk (n.length==a.length) (AP (.b1 n d g (AQ (b+1)) c))))))))))) (.bind 1345 (UF c.AA.Ah) (fun(h:Rk)=>.bind 1346 (Ro c.AA.Ak) (fun(i:Rl)=>.bind 1347 (nX c.CX) (fun(j:Yu)=>.bind 1345 (UF c.Ag) (fun(k:Rk)=>.chk (kL a&&(kL h.q0&&(kL i.q0&&(kL j.q0&&(kL k.q0&&true))))) (AB (⟨(⟨({ c with Ar:=({ c.Ar with Az:=a }:BQ),AA:=({ c.AA with Ah:=h.q0,Ak:=i.q0 }:A7),CX:=j.q0,Ag:=k.q0 }:Ac),([]:List Am)⟩:CO)⟩:XW)))))))
def Z2L (a:Ac):Option XW:=AU sQ (.b0 a)
def ZaS:Shape:=⟨[.agg [.v 44 66 true]],[]⟩
def Zp3:Shape:=⟨[PQ 0],[.var 118 67 (Zm 1),.row 68 true,.row 156 true,.row 138 true,.row 99 true,.row 156 true,.row 148 true]⟩
noncomputable def Zvx:HMod U:=⟨[k2],[],ZaS,Zp3,true,1353,fun(y:XW)=>(((),()),(nD y.q0)),fun x=>Z2L x.1.1.1,okS rfl⟩
def Zay:Lay:=LT [1,3,13,14,15] [.p 0,.o 68 2 1,.v 31,.v 3,.v 3] [.s 44,.r 68]
def Zs9:Z2I->BC U
 | .b0 a=>Dz f62 ZaS (((a,()),()),())
 | .b1 a b c d e=>AA3 f62 [1,1,0,1,0,0,0] Zay (b,c,d,e,a,())
theorem ZrI:DK Tryz.prog B0 62 Zvx:=okR Ae (hc [] UI (hc [] Z6Y (hc [] ZN (hc [] ZjW Af)))) (al [(3,Zay)]) [KP] [.var k12,.row true,.row true,.row true,.row true,.row true,.row true] 0 Zs9 func62 (fun p=>by cases p<;>kernel_rfl) (by kernel_rfl) fun x=>by kernel_rfl
inductive Z0a where
 | b0 (a:Int) (b:List Am) (c:CO)
 | b1 (a:Int) (b:List Am) (c d:Int) (e:CO)
def We:Z0a->Tr U (W9⊕Z0a)
 | .b0 c b a=>kl b (.chk (kL b&&(kL a.Link.Ar.Az&&(kL a.Link.AA.Ah&&(kL a.Link.AA.Ak&&(kL a.Link.Ag&&(kL a.Ba&&(kL a.Link.Ar.Az&&(kL a.Link.AA.Ah&&(kL a.Link.AA.Ak&&kL a.Link.Ag))))))))) (AP (.b1 c b (↑b.length:Int) (0:Int) a)))
 | .b1 d b g e a=>let i:=kL a.Link.Ar.Az&&(kL a.Link.AA.Ah&&(kL a.Link.AA.Ak&&kL a.Link.Ag));.br (decide (e<g)) (kl b (.chk (kI e b) (kl b (.bind 148 (b[(Int.toNat e)]?) (fun(c:Am)=>.bind 1344 (KT c.Ap.Payload) (fun(f:OX)=>let h:=a.Ba++[({ c with Event:=d,Ap:=(⟨c.Ap.BP,f.q0⟩:Aq) }:Am)];kl f.q0 (.chk true (kl a.Ba (.chk (kA (a.Ba.length+1) 160) (.chk (kL b&&(kL a.Link.Ar.Az&&(kL a.Link.AA.Ah&&(kL a.Link.AA.Ak&&(kL a.Link.Ag&&((h.length==h.length)&&i)))))) (AP (.b1 d b g (AQ (e+1)) (⟨a.Link,h⟩:CO))))))))))))) (.chk (kL a.Link.Ar.Az&&(kL a.Link.AA.Ah&&(kL a.Link.AA.Ak&&(kL a.Link.Ag&&(kL a.Ba&&i))))) (AB (⟨a,b⟩:W9)))
def Z0b (a:Int) (b:List Am) (c:CO):Option W9:=AU We (.b0 a b c)
def Z7w:Shape:=⟨[PQ 0,OV 30,.one (.own 148 1)],[.var 118 67 (Vw 2),.row 148 true,.row 68 false,.row 156 false,.row 138 false,.row 156 false,.row 148 true]⟩
def Zk4:Shape:=⟨[],[.var 118 67 (Vw 2),.row 148 true,.row 68 false,.row 156 false,.row 138 false,.row 156 false,.row 148 true]⟩
noncomputable def ZlH:HMod U:=⟨[KP,KP,[.own 148 18]],[.var k10,.row true,.row false,.row false,.row false,.row false,.row true],Z7w,Zk4,false,1357,fun(y:W9)=>((),((QJ y.q0),(y.q1,(Tv y.q0)))),fun x=>Z0b x.1.2.1.1 x.2.2.1 (match x with|⟨_,⟨v0,v1,v3,v5,v7,v9,z,A,C,D,F,G,I,J,M,N,O,Q,S,Y,v25,v26,v27,v28,v29,v30,v31,v32,v33,v34,v35,v36,v37,v38,v39,v40,v41,v42,v43,v44,v45,v46,v47,v48,_⟩,_,v2,v4,v6,v8,q,_⟩=>(⟨(⟨v0,v1,v3,v5,v7,v9,z,A,C,D,F,G,I,J,(⟨M,N,v2,O,Q,S,Y⟩:BQ),v25,(⟨v26,v27,v28,v4,v29,v30,v6,v31,v32,v33,v34,v35,v36,v37,v38,v39,v40,v41,v42,v43⟩:A7),v44,v45,v46,v8,v47,v48⟩:Ac),q⟩:CO)),okS rfl⟩
def Z7A:Lay:=⟨[0,1,8,9,10],[KP,KP,[.own 148 18],KP,KP],[.var k10,.row true,.row false,.row false,.row false,.row false,.row true],⟨[PQ 0,OV 30,.one (.own 148 1),OV 3,OV 3],[.var 118 67 (Vw 2),.row 148 true,.row 68 false,.row 156 false,.row 138 false,.row 156 false,.row 148 true]⟩⟩
def ZkW:Z0a->BC U
 | .b0 b c a=>Dz f181 Z7w (((),((b,()),((),()))),((QJ a),(c,(Tv a))))
 | .b1 b c d e a=>Ad f181 [1,0,0,0] Z7A (((),((b,()),((),((d,()),((e,()),()))))),((QJ a),(c,(Tv a))))
theorem Zl7:DK Tryz.prog B0 181 ZlH:=okR Ae (hc [] UI Af) (al [(1,Z7A)]) [] [.var k10,.row true,.row false,.row false,.row false,.row false,.row true] 7 ZkW func181 (fun p=>by cases p<;>kernel_rfl) (by kernel_rfl) fun x=>by kernel_rfl
inductive Z18 where
 | b0 (a b:Int) (c:CO)
def Z98:Z18->Tr U (Wl⊕Z18)
 | .b0 d c a=>.chk (true&&(kL a.Link.Ar.Az&&(kL a.Link.AA.Ah&&(kL a.Link.AA.Ak&&(kL a.Link.Ag&&(kL a.Ba&&(kL a.Link.Ar.Az&&(kL a.Link.AA.Ah&&(kL a.Link.AA.Ak&&kL a.Link.Ag))))))))) (.bind 1357 (Z0b d ([(⟨4,0,(⟨0,[]⟩:Aq),I7,(IntKind.wrap .u64 (c)),Be⟩:Am)]) (⟨({ a.Link with Bl:=c }:Ac),a.Ba⟩:CO)) (fun(b:W9)=>.chk (kL b.q0.Link.Ar.Az&&(kL b.q0.Link.AA.Ah&&(kL b.q0.Link.AA.Ak&&(kL b.q0.Link.Ag&&(kL b.q0.Ba&&(kL b.q0.Link.Ar.Az&&(kL b.q0.Link.AA.Ah&&(kL b.q0.Link.AA.Ak&&kL b.q0.Link.Ag)))))))) (AB (⟨b.q0⟩:Wl))))
def Z1a (a b:Int) (c:CO):Option Wl:=AU Z98 (.b0 a b c)
def Z8I:Shape:=⟨[PQ 0,OV 30,OV 3],[.var 118 67 (Vw 1),.row 68 false,.row 156 false,.row 138 false,.row 156 false,.row 148 true]⟩
def ZlA:Shape:=⟨[],[.var 118 67 (Vw 1),.row 68 false,.row 156 false,.row 138 false,.row 156 false,.row 148 true]⟩
noncomputable def Zom:HMod U:=⟨[KP,KP,KP],[.var k10,.row false,.row false,.row false,.row false,.row true],Z8I,ZlA,false,1356,fun(y:Wl)=>((),((QJ y.q0),(Tv y.q0))),fun x=>Z1a x.1.2.1.1 x.1.2.2.1.1 (match x with|⟨_,⟨v0,v2,v4,v6,v8,q,z,A,C,D,F,G,I,J,M,N,O,Q,S,Y,v25,v26,v27,v28,v29,v30,v31,v32,v33,v34,v35,v36,v37,v38,v39,v40,v41,v42,v43,v44,v45,v46,v47,v48,_⟩,v1,v3,v5,v7,v9,_⟩=>(⟨(⟨v0,v2,v4,v6,v8,q,z,A,C,D,F,G,I,J,(⟨M,N,v1,O,Q,S,Y⟩:BQ),v25,(⟨v26,v27,v28,v3,v29,v30,v5,v31,v32,v33,v34,v35,v36,v37,v38,v39,v40,v41,v42,v43⟩:A7),v44,v45,v46,v7,v47,v48⟩:Ac),v9⟩:CO)),okS rfl⟩
def Znr:Z18->BC U
 | .b0 b c a=>Dz f90 Z8I (((),((b,()),((c,()),()))),((a.Link.BK,(a.Link.DR,(a.Link.Clock,(a.Link.Event,(a.Link.Last,(a.Link.Fp,(a.Link.Size,(a.Link.Sync,(a.Link.IB,(a.Link.Hq,(a.Link.FO,(a.Link.Good,(a.Link.Di,(a.Link.More,(a.Link.Ar.SN,(a.Link.Ar.DX,(a.Link.Ar.Open,(a.Link.Ar.Empty,(a.Link.Ar.Di,(a.Link.Ar.Taken,(a.Link.Gj,(a.Link.AA.BK,(a.Link.AA.Own,(a.Link.AA.Since,(a.Link.AA.Other,(a.Link.AA.Ez,(a.Link.AA.Told,(a.Link.AA.Bv,(a.Link.AA.Hl,(a.Link.AA.FI,(a.Link.AA.FY,(a.Link.AA.Version,(a.Link.AA.Length,(a.Link.AA.Limit,(a.Link.AA.Bj,(a.Link.AA.F5,(a.Link.AA.Mark,(a.Link.AA.CP,(a.Link.AA.Bz,(a.Link.Bq,(a.Link.Key,(a.Link.CX,(a.Link.Bl,(a.Link.IC,())))))))))))))))))))))))))))))))))))))))))))),(a.Link.Ar.Az,(a.Link.AA.Ah,(a.Link.AA.Ak,(a.Link.Ag,(a.Ba,())))))))
theorem ZnF:DK Tryz.prog B0 90 Zom:=okR Ae (hc [] Zl7 Af) AN [] [.var k10,.row false,.row false,.row false,.row false,.row true] 6 Znr func90 (fun p=>by cases p<;>kernel_rfl) (by kernel_rfl) fun x=>by kernel_rfl
inductive Z1D where
 | b0 (a:Int)
 | b1 (a b c:Int)
def XD:Z1D->Tr U (Int⊕Z1D)
 | .b0 a=>AP (.b1 a (0:Int) (0:Int))
 | .b1 b c a=>let e:=AQ ((7:Int) - a);let d:=IntKind.bits .u16;.br (decide (a<8)) (.chk (decide (0<=a)) (.chk (decide (0<=e)) (AP (.b1 b (bits .or .u16 c (IntKind.wrap .u16 ((bits .and .u16 (Int.fdiv b (2 ^ (min (Int.toNat a) d))) (257:Int))*2 ^ (min (Int.toNat e) d)))) (AQ (a+1)))))) (AB c)
def Z1I (a:Int):Option Int:=AU XD (.b0 a)
def Z99:Lay:=LT [0,3,5] [.v 30,.v 30,.v 3] []
def ZoT:Z1D->BC U
 | .b0 a=>Bd f222 [30] (a,())
 | .b1 a b c=>AA3 f222 [1,1,0,1,0,0,0] Z99 (a,b,c,())
theorem Zpd:AA1 222 [30] 30 (fun x=>Z1I x.1) rfl:=Bh Ae Af (al [(3,Z99)]) ZoT func222 (fun p=>by cases p<;>kernel_rfl) (by kernel_rfl) fun _=>rfl
inductive Z2f where
 | b0 (a b:Int)
 | b1 (a b c:Int)
def dJ:Z2f->Tr U (Int⊕Z2f)
 | .b0 b a=>AP (.b1 a (bits .xor .u16 b a) (0:Int))
 | .b1 a b c=>.br (decide (c<3)) (.bind 30 (Z1I b) (fun(d:Int)=>AP (.b1 a (IntKind.wrap .u16 ((IntKind.wrap .u16 (d*17))+a)) (AQ (c+1))))) (AB (bits .xor .u16 b a))
def sD (a b:Int):Option Int:=AU dJ (.b0 a b)
def Z9F:Lay:=LT [1,5,9] [.v 30,.v 30,.v 3] []
def Zq1:Z2f->BC U
 | .b0 a b=>Bd f133 [30,30] (a,b,())
 | .b1 a b c=>AA3 f133 [1,1,0,1,0,0,0] Z9F (a,b,c,())
theorem Za4:AA1 133 [30,30] 30 (fun x=>sD x.1 x.2.1) rfl:=Bh (mc Zpd Ae) Af (al [(3,Z9F)]) Zq1 func133 (fun p=>by cases p<;>kernel_rfl) (by kernel_rfl) fun _=>rfl
def Zce:S1 (Int×Unit) Int
 | (a,_)=>AB (bits .xor .u16 (IntKind.wrap .u16 ((Int.fdiv a (2 ^ (16:Nat))))) (IntKind.wrap .u16 (a)))
def uC (a:Int):Option Int:=AU Zce (a,())
theorem ZbS:AA1 134 [22] 30 (fun x=>uC x.1) rfl:=ok1 Ae Af func134 (fun _=>by kernel_rfl) (by kernel_rfl)
def Zjs:S1 (Int×Unit) Int
 | (a,_)=>let c:=(IntKind.wrap .u64 ((bits .and .u64 (Int.fdiv a (2 ^ (1:Nat))) (6148914691236517205:Int))+(bits .and .u64 a (6148914691236517205:Int))));let e:=(IntKind.wrap .u64 ((bits .and .u64 (Int.fdiv c (2 ^ (2:Nat))) (3689348814741910323:Int))+(bits .and .u64 c (3689348814741910323:Int))));let b:=(bits .and .u64 (IntKind.wrap .u64 ((Int.fdiv e (2 ^ (4:Nat)))+e)) (1085102592571150095:Int));let f:=(IntKind.wrap .u64 (b+(Int.fdiv b (2 ^ (8:Nat)))));let d:=(IntKind.wrap .u64 (f+(Int.fdiv f (2 ^ (16:Nat)))));AB (bits .and .i64 (AQ ((IntKind.wrap .u64 (d+(Int.fdiv d (2 ^ (32:Nat))))))) (127:Int))
def nN (a:Int):Option Int:=AU Zjs (a,())
theorem Zjm:AA1 287 [25] 3 (fun x=>nN x.1) rfl:=ok1 Ae Af func287 (fun _=>by kernel_rfl) (by kernel_rfl)
end
noncomputable section
def Z9o:S1 (Int×Unit) Int
 | (a,_)=>.bind 3 (nN (bits .and .u64 a (137438953471:Int))) (fun(b:Int)=>AB b)
def Wn (a:Int):Option Int:=AU Z9o (a,())
theorem Z0Z:AA1 218 [26] 3 (fun x=>Wn x.1) rfl:=ok1 (mc Zjm Ae) Af func218 (fun _=>by kernel_rfl) (by kernel_rfl)
def Zam:S1 (Int×Int×Unit) Bool
 | (b,a,_)=>.br (decide (a>=0)) (.br (decide (a<37)) (.chk (decide (0<=a)) (AB ((bits .and .u64 (Int.fdiv b (2 ^ (min (Int.toNat a) (IntKind.bits .u64)))) (1:Int))==1))) (AB false)) (AB false)
def rG (a b:Int):Option Bool:=AU Zam (a,b,())
theorem Z9R:AA1 223 [26,3] 4 (fun x=>rG x.1 x.2.1) rfl:=ok1 Ae Af func223 (fun _=>by kernel_rfl) (by kernel_rfl)
end
end Go.Proofs.YtjodhcdmhobmoaaGreatDoor
namespace Go.Proofs.YtjodhcdmhobmoaaGreatDoor
open Tryz
open Go Go.RowKit Go.Shelf
attribute [local go_sem] Oper.semAt_some
set_option maxRecDepth 100000
def hasB (m:Int) (c:Nat):Bool:=(bits .and .u64 (m / 2 ^ c) 1==1)
def FV (m:Int) (k:Nat):List Nat:=(List.range k).filter (hasB m)
theorem ZhH (F:Fence) (n:Nat) (q:F.fn 223) (z:F.round=none) (m:Int) (c:Nat) (hc:c<37) (W:World) {b:Bool} (hb:hasB m c=b):CallsIn F n Tryz.prog 223 #[.int .u64 m,.int .i64 c] W fun e C =>e = .returned (.bool b)/\C = W:=by
 refine callsIn_of_wp func223 rfl q ?_ z;simp only[Tryz.ntmps223,List.size_toArray,List.length_cons,List.length_nil,Nat.reduceAdd,Nat.reduceSub,Array.replicate_succ,Array.replicate_zero,List.push_toArray,List.append_toArray,List.nil_append,List.cons_append];have A:=Lib.hid hb;clear hb
 gi_wp2
 go_ret
 exact⟨by rw[<- A.out];rfl,rfl⟩
theorem Z4g (m:Int) (k:Nat):FV m (k+1)=FV m k++if hasB m k then [k] else []:=by
 unfold FV;rw[List.range_succ,List.filter_append];cases h:hasB m k<;>simp[h]
theorem ZE4 (m:Int) {k:Nat} (h:k<=37):FV m k <+: FV m 37:=by
 obtain⟨d,q⟩:∃d,37=k+d:=⟨37 - k,by omega⟩;rw[q];unfold FV;rw[List.range_add,List.filter_append];exact List.prefix_append _ _
set_option maxHeartbeats 1000000 in
theorem all1_in (F:Fence) (n:Nat) (A:F.fn 223) (D:F.fn 347) (G:F.round=none) (hn:1<=n) (m:Int) (l Bm:Nat) (J Jx:List Nat->World->Prop)
  (hY:∀pre x W,J pre W->pre.length<(FV m 37).length->YieldAt F (n - 1) Tryz.prog l #[.int .i64 (x:Nat)] W fun e I =>
   (e = .returned (.bool true)/\J (pre++[x]) I /\ I.cell? ⟨Bm,0,none⟩=W.cell? ⟨Bm,0,none⟩)\/(e = .returned (.bool false)/\Jx (pre++[x]) I))
  (W:World) (S:W.cell? ⟨Bm,0,none⟩=some (.int .u64 m)) (h0:J [] W) :
  CallsIn F n Tryz.prog 347 #[.func (.yield l) #[] #[],.pointer (some ⟨Bm,0,none⟩)] W fun e I =>(∃v,e = .returned v) /\
   ((∃ys,ys=FV m 37/\J ys I)\/(∃pre,pre <+: FV m 37/\Jx pre I)):=by
 refine callsIn_of_wp func347 rfl D ?_ G;simp only[Tryz.ntmps347,List.size_toArray,List.length_cons,List.length_nil,Nat.reduceAdd,Nat.reduceSub,Array.replicate_succ,Array.replicate_zero,List.push_toArray,List.append_toArray,List.nil_append,List.cons_append]
 gi_wp2
 gi_loopw [4] (fun i wr=>∃k:Nat,k<=37/\i = .int .i64 k/\J (FV m k) wr/\wr.cell? ⟨Bm,0,none⟩=some (.int .u64 m))
  (fun i _=>37 - (intOf i).toNat)
 case atStart=>exact⟨0,by omega,rfl,h0,S⟩
 case round=>
  obtain⟨k,hk,rfl,Y,z⟩:=hrel
  by_cases O:k<37
  ·have hs:=Z4g m k;have q:=ZE4 m (k:=k+1) (by omega);cases hb:hasB m k with
   | false=>
    rw[hb]at hs;simp only[Bool.false_eq_true,if_false,List.append_nil]at hs;have HS:=Lib.hid hs;clear hs q
    gi_wp2_with (gi_at_call 223;refine(ZhH F (n - 1) A G m k O _ hb).mono ?_;rintro e w' ⟨rfl,rfl⟩)
    refine⟨fun f h=>(by cases h),?_⟩
    gi_wp2
    go_roundw
    case rel=>exact⟨k+1,by omega,by go_num,by rw[HS.out];exact Y,z⟩
    case measure=>simp[intOf];omega
   | true=>
    rw[hb]at hs;simp only[if_true]at hs;have C:(FV m k).length<(FV m 37).length:=by
     have:=q.length_le;rw[hs]at this;simp at this;omega
    obtain⟨fn,tmps,Q,body,hy,hR⟩:=hY (FV m k) k wr Y C;have HS:=Lib.hid hs;have HP:=Lib.hid q;clear hs q C
    gi_wp2_with (gi_at_call 223;refine(ZhH F (n - 1) A G m k O _ hb).mono ?_;rintro e w' ⟨rfl,rfl⟩)
    refine hR.mono ?_
    rintro e W3 (⟨rfl,hJ3,N⟩|⟨rfl,M⟩)
    ·have hc3:=N.trans z;clear N
     gi_wp2
     go_roundw
     case rel=>exact⟨k+1,by omega,by go_num,by rw[HS.out];exact hJ3,hc3⟩
     case measure=>simp[intOf];omega
    ·gi_wp2
     refine bodyPost_ret (results_none rfl _ _ _) rfl ?_;exact⟨⟨_,rfl⟩,.inr ⟨FV m k++[k],by rw[<- HS.out];exact HP.out,M⟩⟩
  ·obtain rfl:k=37:=by omega
   gi_wp2
   go_end0
   exact⟨⟨_,rfl⟩,.inl ⟨_,rfl,Y⟩⟩
def KpM (Bm:Nat) (A B:World):Prop:=B.cell? ⟨Bm,0,none⟩=A.cell? ⟨Bm,0,none⟩
theorem all_stops (F:Fence) (n:Nat) (z:F.fn 223) (q:F.fn 347) (C:F.round=none) (N:1<=n) (m:Int) (Bm:Nat) (w:World) (A:Bm<w.heap.size) (hc:w.cell? ⟨Bm,0,none⟩=some (.int .u64 m)) :
  SeqStopsK F n Tryz.prog 347 #[.pointer (some ⟨Bm,0,none⟩)] (fun x:Nat=>#[Value.int .i64 (x:Nat)]) (KpM Bm) (fun ys=>ys=FV m 37) (fun pre=>pre <+: FV m 37) (FV m 37).length w:=fun l J D W I _ _ M G=>
 all1_in F n z q C N m l Bm J D M W ((I.cell (p:=⟨Bm,0,none⟩) A).trans hc) G
theorem all_in (F:Fence) (n:Nat) (q:F.fn 288) (z:F.round=none) (m:Int) (w:World) :
  CallsIn F n Tryz.prog 288 #[.int .u64 m] w fun e w' =>e = .returned (.func (.func 347) #[] #[.pointer (some ⟨w.heap.size,0,none⟩)])/\w' = w.alloc (.cells #[.int .u64 m] 26):=by
 refine callsIn_of_wp func288 rfl q ?_ z;simp only[Tryz.ntmps288,List.size_toArray,List.length_cons,List.length_nil,Nat.reduceAdd,Nat.reduceSub,Array.replicate_succ,Array.replicate_zero,List.push_toArray,List.append_toArray,List.nil_append,List.cons_append]
 gi_wp2
 go_ret
 exact⟨rfl,rfl⟩
def OI (m i:Int):Int:=if 0<=i/\i<(FV m 37).length then (((FV m 37)[i.toNat]?.getD 0:Nat):Int) else -1
theorem boxed_own {W q : World} {row:Option Nat} {B B0:Nat} {t:TypeId} {v:Value} (h:Boxed W B t v) (A:W.grownBy q row) (hr:∀r,row=some r->B0<=r/\∃o:Obj,W.heap[r]? = some o/\o.isCells=false):Boxed q B t v:=by
 refine h.kept A ?_;intro e;obtain⟨_,o,z,hc⟩:=hr B e.symm;rw[show W.heap[B]? = _ from h]at z;cases z;cases hc
theorem ZeA {W:World} {B l:Nat} {t:TypeId} {v:Value} {o o' : Obj} (h:Boxed W B t v) (hl:W.heap[l]? = some o) (hc:o.isCells=false):Boxed (W.putObj l o') B t v:=
 boxed_own (B0:=0) h (grownBy_putObj' W l o') (fun r e=>by cases e;exact⟨Nat.zero_le _,o,hl,hc⟩)
theorem Xk {W:World} {B b:Nat} {t:TypeId} {v u:Value} (h:Boxed W B t v) (q:B≠b):Boxed (W.setCell ⟨b,0,none⟩ u) B t v:=
 (Below.heap_setCell W ⟨b,0,none⟩ u B q).trans h
theorem Z44 {W w:World} {n b:Nat} {u:Value} (h:Below n w W) (hb:n<=b):Below n w (W.setCell ⟨b,0,none⟩ u):=h.setCell hb u
structure Y1 (m i:Int) (w:World) (res:Int) (k:Nat) (W:World):Prop where
 b0:Boxed W w.heap.size 3 (.int .i64 i)
 b1:Boxed W (w.heap.size+1) 3 (.int .i64 res)
 b2:Boxed W (w.heap.size+1+1) 3 (.int .i64 k)
 b3:Boxed W (w.heap.size+1+1+1) 26 (.int .u64 m)
 below:Below w.heap.size w W
theorem Y1.own {m i:Int} {w:World} {res:Int} {k:Nat} {W W' : World} {row:Option Nat} {B0:Nat} (z:w.heap.size<=B0) (h:Y1 m i w res k W) (q:W.grownBy W' row) (hr:∀r,row=some r->B0<=r/\∃o:Obj,W.heap[r]? = some o/\o.isCells=false):Y1 m i w res k W' :=
 ⟨boxed_own h.b0 q hr,boxed_own h.b1 q hr,boxed_own h.b2 q hr,boxed_own h.b3 q hr,h.below.grown q h.below.size (fun k e=>Nat.le_trans z (hr k e).1)⟩
set_option maxHeartbeats 2000000 in
theorem ZGy (F:Fence) (n:Nat) (S:F.fn 223) (C:F.fn 347) (Q:F.fn 288) (N:F.fn 224) (G:F.round=none) (hn:3<=n) (m i:Int) (w:World) :
  CallsIn F n Tryz.prog 224 #[.int .u64 m,.int .i64 i] w fun e W' =>e = .returned (.int .i64 (OI m i))/\Below w.heap.size w W' :=by
 have h1:1<=n:=by omega
 refine callsIn_of_wp_marks func224 rfl N ?_ G;simp only[Tryz.ntmps224,List.size_toArray,List.length_cons,List.length_nil,Nat.reduceAdd,Nat.reduceSub,Array.replicate_succ,Array.replicate_zero,List.push_toArray,List.append_toArray,List.nil_append,List.cons_append]
 gi_wp2_with (gi_at_call 288;refine(all_in F (n - 1) Q G _ _).mono ?_;rintro e w' ⟨rfl,rfl⟩)
 have I:Y1 m i w 0 0 ((((w.alloc (Obj.cells #[Value.int IntKind.i64 i] 3)).alloc (Obj.cells #[Value.int IntKind.i64 0] 3)).alloc (Obj.cells #[Value.int IntKind.i64 0] 3)).alloc (Obj.cells #[Value.int IntKind.u64 m] 26)):=by
  refine⟨(((Boxed.new _ _ _).alloc _).alloc _).alloc _,?_,?_,?_,((((Below.refl _ _).alloc (Nat.le_refl _) _).alloc (by simp) _).alloc (by simp;omega) _).alloc (by simp;omega) _⟩
  ·have:=((Boxed.new (w.alloc (Obj.cells #[Value.int IntKind.i64 i] 3)) 3 (.int .i64 0)).alloc (Obj.cells #[Value.int IntKind.i64 0] 3)).alloc (Obj.cells #[Value.int IntKind.u64 m] 26);simpa using this
  ·have:=(Boxed.new ((w.alloc (Obj.cells #[Value.int IntKind.i64 i] 3)).alloc (Obj.cells #[Value.int IntKind.i64 0] 3)) 3 (.int .i64 0)).alloc (Obj.cells #[Value.int IntKind.u64 m] 26);simpa using this
  ·have:=Boxed.new (((w.alloc (Obj.cells #[Value.int IntKind.i64 i] 3)).alloc (Obj.cells #[Value.int IntKind.i64 0] 3)).alloc (Obj.cells #[Value.int IntKind.i64 0] 3)) 26 (.int .u64 m);simpa using this
 generalize Y:((((w.alloc (Obj.cells #[Value.int IntKind.i64 i] 3)).alloc (Obj.cells #[Value.int IntKind.i64 0] 3)).alloc (Obj.cells #[Value.int IntKind.i64 0] 3)).alloc (Obj.cells #[Value.int IntKind.u64 m] 26))=W0 at I;have hs0:W0.heap.size=w.heap.size+4:=by rw[<- Y];simp
 clear Y;refine wpIn_rangeFunc_ownG G h1 (gf:=347) (lb:=#[.pointer (some ⟨w.heap.size+1+1+1,0,none⟩)]) rfl C (enters_of func347 (by kernel_rfl) rfl)
  (all_stops F (n - 1) S C G (by omega) m (w.heap.size+1+1+1) W0 (by omega) I.b3.cell) (fun h k=>k.trans h)
  (fun W l o o' hl ho hc _=>World.cell?_of_block (World.putObj_heap_other (by simp only;omega))) (Below.refl _ _) (fun _=>rfl)
  (fun pre W=>Y1 m i w 0 pre.length W/\¬(0<=i/\i<pre.length))
  (fun c pre W=>c = .ret/\∃(z : List Nat) (x:Nat),pre=z ++[x]/\i=(z.length:Int)/\Y1 m i w (x:Nat) z.length W)
  (fun s A B row hs hg hr=>⟨hs.1.own (by omega) hg hr,hs.2⟩)
  (fun c s A B row hs hg hr=>by obtain⟨h1,p,x,h2,h3,h4⟩:=hs;exact⟨h1,p,x,h2,h3,h4.own (by omega) hg hr⟩)
  ⟨I,by simp⟩
  (fun x=>{ tmps:=#[.int .u64 m,.int .i64 i,undef,.pointer (some ⟨w.heap.size,0,none⟩),.pointer (some ⟨w.heap.size+1,0,none⟩),.pointer (some ⟨w.heap.size+1+1,0,none⟩),.int .i64 (x:Nat),.int .u64 m,.func (.func 347) #[] #[.pointer (some ⟨w.heap.size+1+1+1,0,none⟩)],.int .i64 (x:Nat),undef,undef,undef,undef,undef,undef],defers:=[] }) ?assign ?body ?done ?stop
 case assign=>
  intro l x W K J
  gi_wp2
  exact J
 case body=>
  rintro l pre x W ⟨q,hno⟩ hlen
  have hc0:=q.b0.cell;have hf0:=q.b0.frozen;have hc1:=q.b1.cell;have hf1:=q.b1.frozen;have hc2:=q.b2.cell;have hf2:=q.b2.frozen;have hl37:pre.length<37:=by
   have:(FV m 37).length<=37:=by unfold FV;exact Nat.le_trans (List.length_filter_le _ _) (by simp)
   omega
  by_cases hx:i=(pre.length:Int)
  ·subst hx
   gi_wp2
   refine⟨KeepsFrom.of_grownBy (grownBy_setCell' W _ _) (fun j e=>by cases e;omega),rfl,pre,x,rfl,rfl,Xk q.b0 (by omega),q.b1.set _,Xk q.b2 (by omega),Xk q.b3 (by omega),Z44 q.below (by omega)⟩
  ·have hx' : ((pre.length:Int)==i)=false:=by simp;omega
   gi_wp2
   refine⟨KeepsFrom.of_grownBy (grownBy_setCell' W _ _) (fun j e=>by cases e;omega),World.cell?_of_block (Below.heap_setCell W _ _ _ (by simp only;omega)),⟨Xk q.b0 (by omega),Xk q.b1 (by omega),?_,Xk q.b3 (by omega),Z44 q.below (by omega)⟩,by simp;omega⟩;have:=q.b2.set (.int .i64 (pre.length+1:Nat));simpa using this
 case done=>
  rintro D xs W hD rfl ⟨q,hno⟩ J
  have hc1:=q.b1.cell;have hf1:=q.b1.frozen
  gi_wp2
  have M : (W.setCell ⟨w.heap.size+1,0,none⟩ (.int .i64 (-1))).heap[D]? = some (.deferred (some [])):=(Below.heap_setCell W _ _ D (by simp only;omega)).trans J;have hb:=q.b1.set (.int .i64 (-1));refine⟨by simp,.inl ⟨_,_,rfl,run_takeDeferred M,?_⟩⟩;have O:=(ZeA (o' :=.deferred none) hb M rfl).cell;refine⟨.int .i64 (-1),?_,?_,?_⟩
  ·simp[results,f224,go_sem,O]
  ·unfold OI;rw[if_neg hno]
  ·exact(Z44 q.below (by omega)).trans (belowK_b (w:=w) (Nat.le_refl _) _ D _ _ (by omega) M rfl rfl)
 case stop=>
  rintro D c pre W hD hp ⟨rfl,z,x,rfl,hi,q⟩ J
  have hc1:=q.b1.cell
  gi_wp2
  refine⟨by simp,.inl ⟨_,_,rfl,run_takeDeferred J,?_⟩⟩;have O:=(ZeA (o' :=.deferred none) q.b1 J rfl).cell;refine⟨.int .i64 (x:Nat),?_,?_,?_⟩
  ·simp[results,f224,go_sem,O]
  ·obtain⟨t,ht⟩:=hp;unfold OI;rw[<- ht,hi];simp;omega
  ·exact q.below.trans (belowK_b (w:=w) (Nat.le_refl _) _ D _ _ (by omega) J rfl rfl)
theorem ZDe (m i:Int) : -1<=OI m i/\OI m i<37:=by
 unfold OI;split
 ·rename_i h;have hx:i.toNat<(FV m 37).length:=by omega
  have hm:(FV m 37)[i.toNat]∈FV m 37:=List.getElem_mem hx;rw[List.getElem?_eq_getElem hx,Option.getD_some];generalize (FV m 37)[i.toNat]=c at hm;have:c<37:=by
   unfold FV at hm;have:=(List.mem_filter.1 hm).1;simpa using this
  omega
 ·omega
open Go.Proofs.YtjodhcdmhobmoaaGreatDoor.Le
noncomputable def rO (a b:Int):Option Int:=some (OI a b)
noncomputable def ZqZ:Aj U:={ ts:=[26,3],rt:=3,fn:=fun x=>rO x.1 x.2.1,ok:=by decide }
theorem Z9B:AA0 224 ZqZ:=by
 refine⟨⟨f224,func224,by kernel_rfl,by kernel_rfl⟩,?_⟩
 rintro ⟨m,i,_⟩ a C fz w vs q D hr
 cases C;obtain⟨F,vs,rfl,z,hr⟩:=hr.EN;obtain⟨G,vs,rfl,A,hr⟩:=hr.EN;cases hr.Fa;cases z with
 | lit _ _=>cases A with
  | lit _ _=>
   refine(callsIn_wide.1 (ZGy Fence.wide 3 trivial trivial trivial trivial rfl (by omega) m i w)).mono ?_
   rintro e w' ⟨rfl,hb⟩
   refine⟨_,fz,rfl,hb,fun _ _ h=>h,fun _ _ h _=>h,fun b c h=>?_,.lit ?_ .nil,rfl⟩
   ·obtain⟨u,hu⟩:=q b c h;exact⟨u,(hb.cell (p:=⟨b,c,none⟩) (cell_lt hu)).trans hu⟩
   ·have:=ZDe m i;simp[leaf,Lit.wf,IntKind.min,IntKind.max,IntKind.signed,IntKind.bits];omega
end Go.Proofs.YtjodhcdmhobmoaaGreatDoor
namespace Go.Proofs.YtjodhcdmhobmoaaGreatDoor
open Tryz
open Go Go.Proofs.YtjodhcdmhobmoaaGreatDoor.Le
set_option maxRecDepth 100000
noncomputable section
def Zeo:S1 (Int×Int×Int×Unit) Int
 | (a,c,d,_)=>.bind 30 (uC d) (fun(e:Int)=>.bind 30 (sD c e) (fun(b:Int)=>let i:=Int.tmod (AQ (b)) 37;.bind 4 (rG a i) (fun(f:Bool)=>.br f (AB i) (.bind 3 (Wn a) (fun(g:Int)=>.bind 3 (rO a (Int.fdiv (AQ (g*(AQ (b)))) (2 ^ (16:Nat)))) (fun(h:Int)=>AB h))))))
def Z3V (a b c:Int):Option Int:=AU Zeo (a,b,c,())
theorem Zwd:AA1 135 [26,30,22] 3 (fun x=>Z3V x.1 x.2.1 x.2.2.1) rfl:=ok1 (mc Za4 (mc ZbS (mc Z0Z (mc Z9R (mc Z9B Ae))))) Af func135 (fun _=>by kernel_rfl) (by kernel_rfl)
def Zy7:S1 (Int×Int×Unit) Int
 | (a,b,_)=>AB (Int.tmod (AQ ((AQ ((Int.tmod a 37)+(Int.tmod b 37)))+74)) (37:Int))
def Z3l (a b:Int):Option Int:=AU Zy7 (a,b,())
theorem Zup:AA1 136 [3,3] 3 (fun x=>Z3l x.1 x.2.1) rfl:=ok1 Ae Af func136 (fun _=>by kernel_rfl) (by kernel_rfl)
def Z9s:S1 (Int×Int×Unit) Int
 | (b,a,_)=>let h:=(if (0:Int)>a then (0:Int) else a);let g:=(if (36:Int)<h then (36:Int) else h);.bind 4 (rG b g) (fun(d:Bool)=>.br d (AB g) (.bind 3 (Wn b) (fun(e:Int)=>.br (e==0) (AB (-1:Int)) (.bind 3 (Wn b) (fun(c:Int)=>.chk (c != 0) (.bind 3 (rO b (Int.tmod g c)) (fun(f:Int)=>AB f)))))))
def Z1d (a b:Int):Option Int:=AU Z9s (a,b,())
theorem ZnH:AA1 137 [26,3] 3 (fun x=>Z1d x.1 x.2.1) rfl:=ok1 (mc Z0Z (mc Z9R (mc Z9B Ae))) Af func137 (fun _=>by kernel_rfl) (by kernel_rfl)
def Zdm:S1 (FW×Int×Int×Unit) (Int×Int)
 | (a,b,d,_)=>.br (a.MH==2) (.bind 30 (uC a.Il) (fun(e:Int)=>.bind 30 (sD b e) (fun(f:Int)=>.bind 3 (Z3V a.Map b a.Il) (fun(g:Int)=>AB (g,(AQ ((Int.tmod f 37)))))))) (.bind 3 (Z3l d a.Hop) (fun(c:Int)=>.bind 3 (Z1d a.Map c) (fun(h:Int)=>AB (h,c))))
def Z33 (a:FW) (b c:Int):Option (Int×Int):=AU Zdm (a,b,c,())
theorem Zur:AA1 53 [28,30,3] 104 (fun x=>Z33 x.1 x.2.1 x.2.2.1) rfl:=ok1 (mc Za4 (mc ZbS (mc Zwd (mc Zup (mc ZnH Ae))))) Af func53 (fun _=>by kernel_rfl) (by kernel_rfl)
def Za3:S1 (Ac×Unit) Int
 | (a,_)=>.bind 104 (Z33 a.DR a.Event a.Last) (fun(b:Int×Int)=>AB b.1)
def qK (a:Ac):Option Int:=AU Za3 (a,())
theorem Z9v:AA1 15 [44] 3 (fun x=>qK x.1) rfl:=ok1 (mc Zur Ae) Af func15 (fun _=>by kernel_rfl) (by kernel_rfl)
def Z9X:S1 (Int×Unit) Int
 | (a,_)=>let b:=(if (0:Int)>a then (0:Int) else a);AB (AQ ((64:Int)+(if (39:Int)<b then (39:Int) else b)))
def Z1t (a:Int):Option Int:=AU Z9X (a,())
theorem Zo5:AA1 236 [3] 3 (fun x=>Z1t x.1) rfl:=ok1 Ae Af func236 (fun _=>by kernel_rfl) (by kernel_rfl)
def Za6:S1 (Int×Unit) (Int×Int)
 | (a,_)=>let b:=(AQ (a*2 ^ (1:Nat)));.br (decide (a<64)) (AB ((0:Int),b)) (AB ((1:Int),(bits .xor .i64 (bits .and .i64 b (127:Int)) (17:Int))))
def Z1B (a:Int):Option (Int×Int):=AU Za6 (a,())
theorem Zph:AA1 237 [3] 104 (fun x=>Z1B x.1) rfl:=ok1 Ae Af func237 (fun _=>by kernel_rfl) (by kernel_rfl)
inductive Z0D where
 | b0 (a b:Int)
 | b1 (a:Int) (b:List Int) (c d:Int)
 | b2 (a:Int) (b:List Int) (c d e f:Int)
def OY:Z0D->Tr U (Wh⊕Z0D)
 | .b0 b a=>let d:=(List.replicate (Int.toNat a) (0:Int));.bind 3 (Z1t b) (fun(c:Int)=>.chk (decide (0<=a/\a<=a/\Int.toNat a*1<=lim/\a<=(↑maxLen:Int))) (kl d (kl d (AP (.b1 c d (↑(d.length):Int) (0:Int))))))
 | .b1 d a c b=>.br (decide (b<c)) (kl a (AP (.b2 d a b c b (0:Int)))) (kl a (AB (⟨a⟩:Wh)))
 | .b2 e a b f g c=>let k:=Int.toNat b;.br (decide (c<8)) (.bind 104 (Z1B e) (fun(d:Int×Int)=>kl a (.chk (kI b a) (kl a (.bind 5 (a[k]?) (fun(h:Int)=>let j:=a.set k (bits .or .u8 h (IntKind.wrap .u8 ((AQ (d.1*2 ^ (min (Int.toNat c) (IntKind.bits .i64)))))));.chk (decide (0<=c)) (kl a (.chk (kI b a) (.chk (a.length==a.length&&decide (0<=k)) (.bind 5 (a[k]?) (fun(i:Int)=>.chk (j.length==a.length) (AP (.b2 d.2 j b f g (AQ (c+1))))))))))))))) (kl a (AP (.b1 e a f (AQ (g+1)))))
def Z0J (a b:Int):Option Wh:=AU OY (.b0 a b)
def Z87:Shape:=⟨[OV 3,OV 3],[]⟩
def Zki:Shape:=⟨[.one (.own 5 0)],[.row 5 true]⟩
noncomputable def ZmX:HMod U:=⟨[KP,KP],[],Z87,Zki,true,1365,fun(y:Wh)=>(((),()),(y.q0,())),fun x=>Z0J x.1.1.1 x.1.2.1.1,okS rfl⟩
def Z80:Lay:=LT [5,6,15,16] [.v 3,.o 5 1 0,.v 3,.v 3] [.r 5]
def Z7J:Lay:=LT [5,6,7,15,16,19] [.v 3,.o 5 1 0,.v 3,.v 3,.v 3,.v 3] [.r 5]
def Zlw:Z0D->BC U
 | .b0 a b=>Dz f160 Z87 (((a,()),((b,()),())),())
 | .b1 a b c d=>AA3 f160 [1,1,1,0,1,0,0,0] Z80 (a,c,d,b,())
 | .b2 a b c d e f=>AA3 f160 [1,1,1,0,1,0,0,1,1,0,0,1,1,0,0,0] Z7J (a,c,d,e,f,b,())
theorem Zls:DK Tryz.prog B0 160 ZmX:=okR (mc Zo5 (mc Zph Ae)) Af (al [(4,Z80),(7,Z7J)]) [[.own 5 1]] [.row true] 0 Zlw func160 (fun p=>by cases p<;>kernel_rfl) (by kernel_rfl) fun x=>by kernel_rfl
inductive Z1r where
 | b0 (a:Int) (b:List Int)
 | b1 (a b:List Int) (c d:Int)
def bF:Z1r->Tr U ((List Int)⊕Z1r)
 | .b0 c a=>let d:=(↑a.length:Int);.bind 1365 (Z0J c d) (fun(b:Wh)=>kl b.q0 (AP (.b1 b.q0 a d (0:Int))))
 | .b1 a c d b=>let h:=Int.toNat b;.br (decide (b<d)) (.chk (kI b c) (.bind 5 (c[h]?) (fun(e:Int)=>kl a (.chk (kI b a) (kl a (.bind 5 (a[h]?) (fun(f:Int)=>let i:=a.set h (bits .xor .u8 f e);kl a (.chk (kI b a) (.chk (a.length==a.length&&decide (0<=h)) (.bind 5 (a[h]?) (fun(g:Int)=>.chk (i.length==a.length) (AP (.b1 i c d (AQ (b+1))))))))))))))) (kl a (AB a))
def Z1p (a:Int) (b:List Int):Option (List Int):=AU bF (.b0 a b)
def Z8T:Lay:=LT [5,12,13,14] [.o 5 1 0,.v 62,.v 3,.v 3] [.r 5]
def Zop:Z1r->BC U
 | .b0 a b=>Bd f67 [3,62] (a,b,())
 | .b1 a b c d=>AA3 f67 [1,1,0,1,0,0,0] Z8T (b,c,d,a,())
theorem Zoe:AA1 67 [3,62] 62 (fun x=>Z1p x.1 x.2.1) rfl:=Bh Ae (hc [] Zls Af) (al [(3,Z8T)]) Zop func67 (fun p=>by cases p<;>kernel_rfl) (by kernel_rfl) fun _=>rfl
def Zef:S1 (Int×Int×Unit) Int
 | (a,b,_)=>let i:=(2 ^ (4:Nat));let g:=(bits .and .u32 (bits .xor .u32 a (IntKind.wrap .u32 (b))) (15:Int));let f:=([0,1788928,3577856,3003392,7155712,7764992,6006784,4252672,14311424,12659712,15529984,16233472,12013568,11279360,8505344,10126336]:List Int);.chk (decide (0<=g/\g<16)) (.bind 22 (f[(Int.toNat g)]?) (fun(c:Int)=>let h:=(bits .xor .u32 (Int.fdiv a i) c);let e:=(bits .and .u32 (bits .xor .u32 h (IntKind.wrap .u32 ((Int.fdiv b i)))) (15:Int));.chk (decide (0<=e/\e<16)) (.bind 22 (f[(Int.toNat e)]?) (fun(d:Int)=>AB (bits .xor .u32 (Int.fdiv h i) d)))))
def uK (a b:Int):Option Int:=AU Zef (a,b,())
theorem Ztu:AA1 238 [22,5] 22 (fun x=>uK x.1 x.2.1) rfl:=ok1 Ae Af func238 (fun _=>by kernel_rfl) (by kernel_rfl)
inductive Z42 where
 | b0 (a:Int) (b:List Int)
 | b1 (a:Int) (b:List Int) (c d:Int)
def jD:Z42->Tr U (Int⊕Z42)
 | .b0 b a=>AP (.b1 (bits .and .u32 b (16777215:Int)) a (↑a.length:Int) (0:Int))
 | .b1 c b d a=>.br (decide (a<d)) (.chk (kI a b) (.bind 5 (b[(Int.toNat a)]?) (fun(e:Int)=>.bind 22 (uK c e) (fun(f:Int)=>AP (.b1 f b d (AQ (a+1))))))) (AB c)
def Z3L (a:Int) (b:List Int):Option Int:=AU jD (.b0 a b)
def Zcq:Lay:=LT [5,10,11,12] [.v 22,.v 62,.v 3,.v 3] []
def Zyc:Z42->BC U
 | .b0 a b=>Bd f161 [22,62] (a,b,())
 | .b1 a b c d=>AA3 f161 [1,1,0,1,0,0,0] Zcq (a,b,c,d,())
theorem ZxF:AA1 161 [22,62] 22 (fun x=>Z3L x.1 x.2.1) rfl:=Bh (mc Ztu Ae) Af (al [(3,Zcq)]) Zyc func161 (fun p=>by cases p<;>kernel_rfl) (by kernel_rfl) fun _=>rfl
def ZbI:S1 (Int×(List Int)×Unit) (List Int)
 | (d,c,_)=>.bind 22 (Z3L d c) (fun(a:Int)=>.bind 1344 (KT c) (fun(b:OX)=>let e:=b.q0++[(IntKind.wrap .u8 (a)),(IntKind.wrap .u8 ((Int.fdiv a (2 ^ (8:Nat))))),(IntKind.wrap .u8 ((Int.fdiv a (2 ^ (16:Nat)))))];.chk true (kl b.q0 (.chk (kA (b.q0.length+3) 1) (kl e (AB e))))))
def Z1T (a:Int) (b:List Int):Option (List Int):=AU ZbI (a,b,())
theorem Zq7:AA1 68 [22,62] 62 (fun x=>Z1T x.1 x.2.1) rfl:=ok1 (mc ZxF Ae) (hc [] UI Af) func68 (fun _=>by kernel_rfl) (by kernel_rfl)
inductive Z04 where
 | b0 (a b:List Int)
 | b1 (a b:List Int) (c d:Int)
def WZ:Z04->Tr U (Bool⊕Z04)
 | .b0 a b=>let c:=(↑a.length:Int);.br (c != (↑b.length:Int)) (AB false) (AP (.b1 a b c (0:Int)))
 | .b1 b c d a=>let g:=Int.toNat a;.br (decide (a<d)) (.chk (kI a b) (.bind 5 (b[g]?) (fun(e:Int)=>.chk (kI a c) (.bind 5 (c[g]?) (fun(f:Int)=>.br (e != f) (AB false) (AP (.b1 b c d (AQ (a+1))))))))) (AB true)
def Z09 (a b:List Int):Option Bool:=AU WZ (.b0 a b)
def Z7i:Lay:=LT [0,1,12,13] [.v 62,.v 62,.v 3,.v 3] []
def Zkx:Z04->BC U
 | .b0 a b=>Bd f174 [62,62] (a,b,())
 | .b1 a b c d=>AA3 f174 [1,1,0,1,0,0,0] Z7i (a,b,c,d,())
theorem Zkj:AA1 174 [62,62] 4 (fun x=>Z09 x.1 x.2.1) rfl:=Bh Ae Af (al [(4,Z7i)]) Zkx func174 (fun p=>by cases p<;>kernel_rfl) (by kernel_rfl) fun _=>rfl
def Z2q:S1 (Int×(List Int)×Unit) ((List Int)×Int)
 | (c,a,_)=>let j:=([]:List Int);let i:=(↑a.length:Int);let f:=AQ (i - 3);let h:=(a.drop 0).take ((Int.toNat f) - 0);let g:=(decide (0<=f/\f<=i));.br (decide (f<0)) (.chk true (AB (j,(3:Int)))) (.chk g (.bind 62 (Z1T c h) (fun(d:List Int)=>.bind 4 (Z09 d a) (fun(e:Bool)=>.br (!e) (.chk true (AB (j,(10:Int)))) (.chk g (.bind 1344 (KT h) (fun(b:OX)=>kl b.q0 (AB (b.q0,0)))))))))
def Z2r (a:Int) (b:List Int):Option ((List Int)×Int):=AU Z2q (a,b,())
theorem Zre:AA1 76 [22,62] 120 (fun x=>Z2r x.1 x.2.1) rfl:=ok1 (mc Zq7 (mc Zkj Ae)) (hc [] UI Af) func76 (fun _=>by kernel_rfl) (by kernel_rfl)
def Z8m:S1 (Int×Int×Unit) Int
 | (a,b,_)=>.chk (decide (0<=a)) (AB (AQ ((bits .and .u8 (Int.fdiv b (2 ^ (min (Int.toNat a) (IntKind.bits .u8)))) (1:Int)))))
def aA (a b:Int):Option Int:=AU Z8m (a,b,())
theorem ZkD:AA1 175 [3,338] 3 (fun x=>aA x.1 x.2.1) rfl:=ok1 Ae Af func175 (fun _=>by kernel_rfl) (by kernel_rfl)
inductive Z14 where
 | b0 (a:List Int)
 | b1 (a:BI)
 | b2 (a:List Int) (b c:Int) (d:BI) (e:Int)
def aS:Z14->Tr U ((BI×Int)⊕Z14)
 | .b0 a=>.br (decide ((↑a.length:Int)<2)) (AB (Df,3)) (.chk (kI (0:Int) a) (.bind 5 (a[(Int.toNat 0)]?) (fun(b:Int)=>let d:=(AQ ((bits .and .u8 b (3:Int))));.chk (kI (1:Int) a) (.bind 5 (a[(Int.toNat 1)]?) (fun(c:Int)=>let e:=AP (Z14.b2 a (AQ (c)) d Df b);.br ((Int.fdiv b (2 ^ (5:Nat))) != 0) (AB (Df,2)) (.br (d==0) (AB (Df,12)) (.br ((AQ (c))==0) (.br (d != 1) (AP (.b1 Df)) e) e)))))))
 | .b1 a=>AB (Df,1)
 | .b2 a c d i b=>let k:=Int.toNat 2;let j:=(↑a.length:Int);let l:=AQ (j - 2);.br (decide (l<c)) (AB (Df,3)) (.br (decide (l>c)) (AB (Df,2)) (.bind 3 (aA (3:Int) b) (fun(e:Int)=>.bind 3 (aA (2:Int) b) (fun(f:Int)=>.bind 3 (aA (4:Int) b) (fun(g:Int)=>.chk (decide (0<=(2:Int)/\(2:Int)<=j)) (.chk true (.bind 62 (Ue ([((a.drop k).take (a.length - k))])) (fun(h:List Int)=>AB ((⟨e,f,g,(⟨d,h⟩:Aq)⟩:BI),(0:Int))))))))))
def Z15 (a:List Int):Option (BI×Int):=AU aS (.b0 a)
def Z89:Lay:=LT [2] [.p 0] [.s 70]
def Z8i:Lay:=LT [0,2,4,5,6] [.v 62,.p 0,.p 1,.v 3,.v 3] [.s 70,.v 5]
def Zn4:Z14->BC U
 | .b0 a=>Bd f77 [62] (a,())
 | .b1 a=>AA3 f77 [1,1,1,1,0,0,1,1,1,1,1,0,0] Z89 (a,())
 | .b2 a b c d e=>AA3 f77 [1,1,1,1,0,0,1,1,1,1,1,1,0] Z8i (a,b,c,d,e,())
theorem ZmY:AA1 77 [62] 71 (fun x=>Z15 x.1) rfl:=Bh (mc bD (mc ZkD Ae)) Af (al [(10,Z89),(11,Z8i)]) Zn4 func77 (fun p=>by cases p<;>kernel_rfl) (by kernel_rfl) fun _=>rfl
inductive Z1o where
 | b0 (a:List BJ)
def Z9Y:Z1o->Tr U (Wv⊕Z1o)
 | .b0 a=>let c:=(↑a.length:Int);let b:=(List.replicate (Int.toNat c) (⟨0,0⟩:BJ));let d:=a.take b.length++b.drop a.length;.chk (decide (0<=c/\c<=c/\Int.toNat c*16<=lim/\c<=(↑maxLen:Int))) (kl b (.chk (d.length==b.length) (AB (⟨d⟩:Wv))))
def Z1w (a:List BJ):Option Wv:=AU Z9Y (.b0 a)
def Z8V:Shape:=⟨[OV 42],[]⟩
def Zn7:Shape:=⟨[.one (.own 99 0)],[.row 99 true]⟩
noncomputable def ZoZ:HMod U:=⟨[[.s 99 2]],[],Z8V,Zn7,true,1366,fun(y:Wv)=>(((),()),(y.q0,())),fun x=>Z1w x.1.1.1,okS rfl⟩
def Zol:Z1o->BC U
 | .b0 a=>Dz f251 Z8V (((a,()),()),())
theorem Zoj:DK Tryz.prog B0 251 ZoZ:=okR Ae Af AN [[.own 99 2]] [.row true] 0 Zol func251 (fun p=>by cases p<;>kernel_rfl) (by kernel_rfl) fun x=>by kernel_rfl
def Z9e:S1 ((List BJ)×Int×Bool×Unit) (List BJ)
 | (g,b,h,_)=>let k:=Int.toNat b;.bind 1366 (Z1w g) (fun(a:Wv)=>let p:=kI b a.q0;let o:=a.q0.length==a.q0.length&&decide (0<=k);let l:=a.q0[k]?;.br (decide (b<0)) (kl a.q0 (AB a.q0)) (kl a.q0 (.br (decide (b>=(↑a.q0.length:Int))) (kl a.q0 (AB a.q0)) (kl a.q0 (.chk p (.br h (kl a.q0 (.chk p (kl a.q0 (.bind 99 l (fun(i:BJ)=>.br (decide (i.Good<65536)) (kl a.q0 (.bind 99 l (fun(c:BJ)=>.chk o (.bind 99 l (fun(d:BJ)=>let m:=(a.q0.set k (⟨(AQ (c.Good+1)),d.IY⟩:BJ));.chk (m.length==a.q0.length) (AB m)))))) (kl a.q0 (AB a.q0))))))) (kl a.q0 (.bind 99 l (fun(j:BJ)=>.br (decide (j.IY<65536)) (kl a.q0 (.bind 99 l (fun(e:BJ)=>.chk o (.bind 99 l (fun(f:BJ)=>let n:=(a.q0.set k (⟨f.Good,(AQ (e.IY+1))⟩:BJ));.chk (n.length==a.q0.length) (AB n)))))) (kl a.q0 (AB a.q0)))))))))))
def Z1i (a:List BJ) (b:Int) (c:Bool):Option (List BJ):=AU Z9e (a,b,c,())
theorem ZnW:AA1 176 [42,3,4] 42 (fun x=>Z1i x.1 x.2.1 x.2.2.1) rfl:=ok1 Ae (hc [] Zoj Af) func176 (fun _=>by kernel_rfl) (by kernel_rfl)
inductive Z0O where
 | b0 (a:Bool) (b:CO)
def Z8H:Z0O->Tr U (UZ⊕Z0O)
 | .b0 b a=>kl a.Link.Ar.Az (kl a.Link.AA.Ah (kl a.Link.AA.Ak (kl a.Link.CX (kl a.Link.Ag (.bind 3 (qK a.Link) (fun(c:Int)=>kl a.Link.CX (.bind 42 (Z1i a.Link.CX c b) (fun(d:List BJ)=>.chk (kL a.Link.Ar.Az&&(kL a.Link.AA.Ah&&(kL a.Link.AA.Ak&&(kL a.Link.Ag&&(kL a.Ba&&(kL a.Link.Ar.Az&&(kL a.Link.AA.Ah&&(kL a.Link.AA.Ak&&(kL a.Link.CX&&kL a.Link.Ag))))))))) (AB (⟨(⟨({ a.Link with CX:=d }:Ac),a.Ba⟩:CO),a.Link.CX⟩:UZ))))))))))
def pF (a:Bool) (b:CO):Option UZ:=AU Z8H (.b0 a b)
def Z7V:Shape:=⟨[PQ 0,OV 4],[.var 118 67 (Zm 1),.row 68 false,.row 156 false,.row 138 false,.row 99 false,.row 156 false,.row 148 true]⟩
def Zku:Shape:=⟨[],[.var 118 67 (ag6 1 2 3 5 6),.row 68 false,.row 156 false,.row 138 false,.row 99 false,.row 156 false,.row 148 true]⟩
noncomputable def ZmR:HMod U:=⟨[KP,KP],[.var k12,.row false,.row false,.row false,.row false,.row false,.row true],Z7V,Zku,false,1355,fun(y:UZ)=>((),((QJ y.q0),(y.q0.Link.Ar.Az,(y.q0.Link.AA.Ah,(y.q0.Link.AA.Ak,(y.q1,(y.q0.Link.Ag,(y.q0.Ba,())))))))),fun x=>pF x.1.2.1.1 (match x with|⟨_,⟨v0,v2,v4,v6,v8,q,A,C,D,F,G,I,J,M,N,O,Q,S,Y,v25,v26,v27,v28,v29,v30,v31,v32,v33,v34,v35,v36,v37,v38,v39,v40,v41,v42,v43,v44,v45,v46,v47,v48,_⟩,v1,v3,v5,v7,v9,z,_⟩=>(⟨(⟨v0,v2,v4,v6,v8,q,A,C,D,F,G,I,J,M,(⟨N,O,v1,Q,S,Y,v25⟩:BQ),v26,(⟨v27,v28,v29,v3,v30,v31,v5,v32,v33,v34,v35,v36,v37,v38,v39,v40,v41,v42,v43,v44⟩:A7),v45,v46,v7,v9,v47,v48⟩:Ac),z⟩:CO)),okS rfl⟩
def Zlu:Z0O->BC U
 | .b0 a b=>Dz f82 Z7V (((),((a,()),())),(nD b))
theorem ZlX:DK Tryz.prog B0 82 ZmR:=okR (mc Z9v (mc ZnW Ae)) Af AN [] [.var k10,.row false,.row false,.row false,.row false,.row false,.row true] 7 Zlu func82 (fun p=>by cases p<;>kernel_rfl) (by kernel_rfl) fun x=>by kernel_rfl
inductive Z0e where
 | b0 (a:List Int) (b:Int) (c:CO)
def oV:Z0e->Tr U (Rt⊕Z0e)
 | .b0 f g a=>let j:=kL a.Link.Ag&&(kL a.Ba&&(kL a.Link.Ar.Az&&(kL a.Link.AA.Ah&&(kL a.Link.AA.Ak&&(kL a.Link.CX&&kL a.Link.Ag)))));let k:=kL a.Link.Ar.Az&&(kL a.Link.AA.Ah&&(kL a.Link.AA.Ak&&(kL a.Link.CX&&j)));kl a.Link.Ar.Az (kl a.Link.AA.Ah (kl a.Link.AA.Ak (kl a.Link.CX (kl a.Link.Ag (.bind 3 (qK a.Link) (fun(h:Int)=>.bind 62 (Z1p h f) (fun(i:List Int)=>.bind 120 (Z2r a.Link.DR.LJ i) (fun(d:(List Int)×Int)=>.br (d.2 != 0) (.chk k (.bind 1355 (pF false a) (fun(c:UZ)=>.chk (kL c.q0.Link.Ar.Az&&(kL c.q0.Link.AA.Ah&&(kL c.q0.Link.AA.Ak&&(kL c.q0.Link.Ag&&(kL c.q0.Ba&&(kL c.q0.Link.Ar.Az&&(kL c.q0.Link.AA.Ah&&(kL c.q0.Link.AA.Ak&&(kL c.q1&&kL c.q0.Link.Ag))))))))) (AB (⟨Df,false,c.q0,c.q1⟩:Rt))))) (.bind 71 (Z15 d.1) (fun(e:BI×Int)=>.br (e.2 != 0) (kl a.Link.CX (.chk (kL a.Link.Ar.Az&&(kL a.Link.AA.Ah&&(kL a.Link.AA.Ak&&j))) (AB (⟨Df,false,a,a.Link.CX⟩:Rt)))) (.chk k (.bind 1355 (pF true a) (fun(b:UZ)=>.chk (kL b.q0.Link.Ar.Az&&(kL b.q0.Link.AA.Ah&&(kL b.q0.Link.AA.Ak&&(kL b.q0.Link.Ag&&(kL b.q0.Ba&&(kL b.q0.Link.Ar.Az&&(kL b.q0.Link.AA.Ah&&(kL b.q0.Link.AA.Ak&&(kL b.q1&&kL b.q0.Link.Ag))))))))) (AB (⟨e.1,true,(⟨({ b.q0.Link with IB:=g,Hq:=true,Good:=true }:Ac),b.q0.Ba⟩:CO),b.q1⟩:Rt)))))))))))))))
def aB (a:List Int) (b:Int) (c:CO):Option Rt:=AU oV (.b0 a b c)
def Z7y:Shape:=⟨[PQ 0,OV 62,OV 3],[.var 118 67 (Zm 1),.row 68 true,.row 156 true,.row 138 true,.row 99 true,.row 156 true,.row 148 true]⟩
def Zk2:Shape:=⟨[.agg [.v 70 5 true],OV 4],[.var 118 67 (ag6 1 2 3 5 6),.row 68 false,.row 156 false,.row 138 false,.row 99 false,.row 156 false,.row 148 true]⟩
noncomputable def Zln:HMod U:=⟨[KP,[.s 5 1],KP],[.var k12,.row true,.row true,.row true,.row true,.row true,.row true],Z7y,Zk2,false,1354,fun(y:Rt)=>(((y.q0,()),((y.q1,()),())),((QJ y.q2),(y.q2.Link.Ar.Az,(y.q2.Link.AA.Ah,(y.q2.Link.AA.Ak,(y.q3,(y.q2.Link.Ag,(y.q2.Ba,())))))))),fun x=>aB x.1.2.1.1 x.1.2.2.1.1 (match x with|⟨_,⟨v0,v2,v4,v6,v8,q,A,C,D,F,G,I,J,M,N,O,Q,S,Y,v25,v26,v27,v28,v29,v30,v31,v32,v33,v34,v35,v36,v37,v38,v39,v40,v41,v42,v43,v44,v45,v46,v47,v48,_⟩,v1,v3,v5,v7,v9,z,_⟩=>(⟨(⟨v0,v2,v4,v6,v8,q,A,C,D,F,G,I,J,M,(⟨N,O,v1,Q,S,Y,v25⟩:BQ),v26,(⟨v27,v28,v29,v3,v30,v31,v5,v32,v33,v34,v35,v36,v37,v38,v39,v40,v41,v42,v43,v44⟩:A7),v45,v46,v7,v9,v47,v48⟩:Ac),z⟩:CO)),okS rfl⟩
def ZkU:Z0e->BC U
 | .b0 a b c=>Dz f108 Z7y (((),((a,()),((b,()),()))),(nD c))
theorem ZkE:DK Tryz.prog B0 108 Zln:=okR (mc Z9v (mc Zoe (mc Zre (mc ZmY Ae)))) (hc [] ZlX Af) AN [k3,KP] [.var k10,.row false,.row false,.row false,.row false,.row false,.row true] 7 ZkU func108 (fun p=>by cases p<;>kernel_rfl) (by kernel_rfl) fun x=>by kernel_rfl
end
end Go.Proofs.YtjodhcdmhobmoaaGreatDoor
