/- A part of it. -/
import Derived.Test.YtjodhcdmhobmoaaGreatDoorWF1
import Derived.RangeFuncWrites
import Derived.RangeFuncBox
import Derived.RangeFuncLeaves
import Derived.WalkKit
import Derived.OwnWalkIn
import Derived.TacticsInMore
import Derived.RegionIn
import Derived.LoopNIn
import Derived.LoopIn
import Derived.Shelf.Abstract
import Derived.IntWalk
import Derived.Lib.Hide
import Derived.Laws.Closers25b
import Derived.RangeFuncCalls
set_option linter.unusedVariables false
set_option linter.unusedSimpArgs false
namespace Go.Proofs.YtjodhcdmhobmoaaGreatDoor
open Tryz
open Go Go.Proofs.YtjodhcdmhobmoaaGreatDoor.Le
set_option maxRecDepth 100000
noncomputable section
inductive dY where
 | b0 (a:List Au) (b:Int)
 | b1 (a:List Au) (b:Int) (c:List Au) (d:Int)
def Zcv:dY->Tr U ((List Au)⊕dY)
 | .b0 a b=>.chk true (AP (.b1 a b ([]:List Au) (0:Int)))
 | .b1 b d a c=>.br (decide (c<(↑b.length:Int))) (.chk (kI c b) (.bind 148 (b[(Int.toNat c)]?) (fun(e:Au)=>let f:=a++[({ e with Event:=d }:Au)];.chk true (kl a (.chk (kA (a.length+1) 160) (kl f (AP (.b1 b d f (AQ (c+1)))))))))) (kl a (AB a))
def rJ (a:List Au) (b:Int):Option (List Au):=AU Zcv (.b0 a b)
def Zbf:Lay:=LT [0,1,5,6] [.v 77,.v 30,.o 148 18 0,.v 3] [.r 148]
def ZuE:dY->BH U
 | .b0 a b=>Bg f216 [77,30] (a,b,())
 | .b1 a b c d=>AA3 f216 [1,1,0,1,0,0,0,0] Zbf (a,b,d,c,())
theorem ZbO:AA1 216 [77,30] 77 (fun x=>rJ x.1 x.2.1) rfl:=Bj Ag Af (al [(3,Zbf)]) ZuE func216 (fun p=>by cases p<;>kernel_rfl) (by kernel_rfl) fun _=>rfl
inductive dM where
 | b0 (a:Ad) (b:Az)
 | b1 (a:Ad) (b:Az) (c:Ad)
 | b2 (a:List Au) (b c:Ad)
def ZdD:dM->Tr U ((Ad×(List Au))⊕dM)
 | .b0 a b=>.bind 4 (UU b) (fun(c:Bool)=>.br c (.chk true (AB (a,([]:List Au)))) (.br a.EL.Nh (.bind 41 (tH a.EL true false) (fun(d:Bq)=>AP (.b1 ({ a with EL:=d }:Ad) b EM))) (AP (.b1 a b EM))))
 | .b1 a c d=>.br (c.Bz != 3) (.chk true (AB (a,([]:List Au)))) (.bind 231 (OC c.Payload) (fun(e:AO×Int)=>.bind 233 (Z2P a.AA e.1) (fun(b:AZ×(List Au))=>.br (e.1.Kind==5) (.bind 41 (fF a.EL true a.EL.IY) (fun(f:Bq)=>AP (.b2 b.2 ({ a with AA:=b.1,EL:=f }:Ad) d))) (AP (.b2 b.2 ({ a with AA:=b.1 }:Ad) d)))))
 | .b2 b a d=>.bind 77 (rJ b a.Event) (fun(c:List Au)=>AB (a,c))
def Z1M (a:Ad) (b:Az):Option (Ad×(List Au)):=AU ZdD (.b0 a b)
def Zb9:Lay:=LT [2,3,4] [.p 0,.p 1,.p 2] [.s 44,.s 68,.s 44]
def ZaP:Lay:=LT [2,4,9] [.p 0,.p 1,.v 77] [.s 44,.s 44]
def Zuh:dM->BH U
 | .b0 a b=>Bg f119 [44,68] (a,b,())
 | .b1 a b c=>AA3 f119 [1,1,1,0,0] Zb9 (a,b,c,())
 | .b2 a b c=>AA3 f119 [1,1,1,1,1,1,1,1,0] ZaP (a,b,c,())
theorem ZuO:AA1 119 [44,68] 78 (fun x=>Z1M x.1 x.2.1) rfl:=Bj (mc qC (mc ZcV (mc Z1L (mc Zav (mc ZvO (mc ZbO Ag)))))) Af (al [(5,Zb9),(12,ZaP)]) Zuh func119 (fun p=>by cases p<;>kernel_rfl) (by kernel_rfl) fun _=>rfl
inductive Y9 where
 | b0 (a:AZ) (b:AO) (c d:Int)
 | b1 (a b:AZ)
def Z80:Y9->Tr U (AZ⊕Y9)
 | .b0 a b e d=>.br (a.CB != 1) (AB a) (.bind 138 (qH b) (fun(f:BC)=>.bind 269 (uJ a.Aq e f) (fun(c:(List BC)×Int)=>let g:=({ a with Other:=b.Kind,Fv:=d,Aq:=c.1 }:AZ);.br (c.2==18) (AB ({ a with Eb:=40 }:AZ)) (.br (c.2 != 0) (AB ({ a with Eb:=42 }:AZ)) (.br (b.Kind==0) (.br (a.Own==15) (AP (.b1 g ED)) (AB g)) (AB g))))))
 | .b1 a b=>AB ({ a with Own:=-1 }:AZ)
def ZF (a:AZ) (b:AO) (c d:Int):Option AZ:=AU Z80 (.b0 a b c d)
def Z72:Lay:=LT [4,8] [.p 0,.p 1] [.s 39,.s 39]
def ZlZ:Y9->BH U
 | .b0 a b c d=>Bg f281 [39,156,30,3] (a,b,c,d,())
 | .b1 a b=>AA3 f281 [1,1,1,1,1,1,1,1,0,1,0] Z72 (a,b,())
theorem ZlI:AA1 281 [39,156,30,3] 39 (fun x=>ZF x.1 x.2.1 x.2.2.1 x.2.2.2.1) rfl:=Bj (mc ZeS (mc Zbe Ag)) Af (al [(14,Z72)]) ZlZ func281 (fun p=>by cases p<;>kernel_rfl) (by kernel_rfl) fun _=>rfl
def Zex:S1 (Int×Int×Unit) (List Au)
 | (a,b,_)=>.chk true (AB ([(⟨a,0,(⟨0,[]⟩:Az),Jl,b,CE⟩:Au)]))
def MZ (a b:Int):Option (List Au):=AU Zex (a,b,())
theorem sD:AA1 346 [3,25] 77 (fun x=>MZ x.1 x.2.1) rfl:=ok1 Ag Af func346 (fun _=>by kernel_rfl) (by kernel_rfl)
inductive Yf where
 | b0 (a:AZ) (b:AO) (c:Int)
 | b1 (a:Int) (b:AZ) (c:AO) (d:AZ)
 | b2 (a:Bool) (b:AZ) (c:AO) (d:AZ)
 | b3 (a:AZ) (b:AO) (c:AZ)
 | b4 (a:Bool) (b:AZ) (c:AO) (d:AZ)
 | b5 (a b:AZ)
 | b6 (a b:AZ)
 | b7 (a:Bool) (b:AZ) (c:AO) (d:AZ)
 | b8 (a:Bool) (b c:AZ)
def Z8r:Yf->Tr U ((AZ×(List AO)×(List Au))⊕Yf)
 | .b0 a b c=>let d:=AP (Yf.b2 (a.CB==0) a b ED);.br (b.Kind==3) (.br (!(a.CB==0)) (.br (a.Dy==0) (AP (.b1 c a b ED)) d) d) d
 | .b1 b c a e=>.bind 77 (MZ (8:Int) a.Mark) (fun(d:List Au)=>.chk true (AB (({ c with Other:=3,Fv:=b,Gw:=a.CZ,Mark:=a.Mark,Dy:=1 }:AZ),([]:List AO),d)))
 | .b2 c a b d=>let e:=AP (Yf.b4 c a b d);.br (b.Kind==4) (.br c (.br (a.Dy==1) (AP (.b3 a b d)) e) e) e
 | .b3 a b c=>AP (.b5 ({ a with Gw:=b.CZ,Dy:=2 }:AZ) c)
 | .b4 b a c d=>let e:=AP (Yf.b7 b a c d);.br (c.Kind==5) (.br b (.br (a.Dy==2) (AP (.b6 a d)) e) e) e
 | .b5 a b=>.chk true (.chk true (AB (a,([]:List AO),([]:List Au))))
 | .b6 a c=>.bind 36 (OG (⟨6,CE,0,0,0,0,0,0,0,0,0⟩:AO)) (fun(b:List AO)=>.chk true (AB (({ a with Dy:=3 }:AZ),b,([]:List Au))))
 | .b7 c a d b=>let e:=AP (Yf.b5 a b);.br (d.Kind==6) (.br (a.Dy==3) (AP (.b8 c a b)) e) e
 | .b8 b a f=>let g:=(MZ (3:Int) (0:Int));.br b (.bind 77 g (fun(c:List Au)=>.chk true (AB (({ a with Own:=-1,Dy:=4 }:AZ),([]:List AO),c)))) (.bind 36 (OG (⟨6,CE,0,0,0,0,0,0,0,0,0⟩:AO)) (fun(d:List AO)=>.bind 77 g (fun(e:List Au)=>AB (({ a with Other:=-1,Dy:=4 }:AZ),d,e))))
def ZU (a:AZ) (b:AO) (c:Int):Option (AZ×(List AO)×(List Au)):=AU Z8r (.b0 a b c)
def Z7l:Lay:=LT [2,3,4,6] [.v 3,.p 0,.p 1,.p 2] [.s 39,.s 156,.s 39]
def V5:Lay:=LT [3,4,6,9] [.p 0,.p 1,.p 2,.v 4] [.s 39,.s 156,.s 39]
def Z7P:Lay:=LT [3,4,6] [.p 0,.p 1,.p 2] [.s 39,.s 156,.s 39]
def mJ:Lay:=LT [3,6] [.p 0,.p 1] [.s 39,.s 39]
def Z7B:Lay:=LT [3,6,9] [.p 0,.p 1,.v 4] [.s 39,.s 39]
def Zmr:Yf->BH U
 | .b0 a b c=>Bg f282 [39,156,3] (a,b,c,())
 | .b1 a b c d=>AA3 f282 [1,1,0,0,1,0,0] Z7l (a,b,c,d,())
 | .b2 a b c d=>AA3 f282 [1,1,0,0,1,1,0] V5 (a,b,c,d,())
 | .b3 a b c=>AA3 f282 [1,1,0,0,1,1,1,0,0] Z7P (a,b,c,())
 | .b4 a b c d=>AA3 f282 [1,1,0,0,1,1,1,1,0] V5 (a,b,c,d,())
 | .b5 a b=>AA3 f282 [1,1,1,0] mJ (a,b,())
 | .b6 a b=>AA3 f282 [1,1,0,0,1,1,1,1,1,0,0] mJ (a,b,())
 | .b7 a b c d=>AA3 f282 [1,1,0,0,1,1,1,1,1,1,0] V5 (a,b,c,d,())
 | .b8 a b c=>AA3 f282 [1,1,0,0,1,1,1,1,1,1,1,0,0] Z7B (a,b,c,())
theorem ZmP:AA1 282 [39,156,3] 237 (fun x=>ZU x.1 x.2.1 x.2.2.1) rfl:=Bj (mc WV (mc sD Ag)) Af (al [(3,Z7l),(9,V5),(10,Z7P),(12,V5),(22,mJ),(13,mJ),(15,V5),(16,Z7B)]) Zmr func282 (fun p=>by cases p<;>kernel_rfl) (by kernel_rfl) fun _=>rfl
inductive Y8 where
 | b0 (a:AZ) (b:AO)
 | b1 (a b:AZ)
 | b2 (a:AZ) (b:AO) (c:AZ)
 | b3 (a:AZ) (b:AO) (c:AZ)
def Z8k:Y8->Tr U ((AZ×(List AO)×(List Au))⊕Y8)
 | .b0 a b=>let d:=AP (Y8.b1 a ED);.br (a.Own != b.ER) d (.bind 4 (Rh a.Own) (fun(c:Bool)=>.br c d (.br (a.Own==2) d (AP (.b2 a b ED)))))
 | .b1 a b=>.chk true (.chk true (AB (a,([]:List AO),([]:List Au))))
 | .b2 a b c=>.br (a.Own==3) (AP (.b3 ({ a with Dy:=0 }:AZ) b c)) (AP (.b3 a b c))
 | .b3 a b d=>.bind 77 (MZ (9:Int) (IntKind.wrap .u64 (b.ER))) (fun(c:List Au)=>.chk true (AB (({ a with Own:=-1 }:AZ),([]:List AO),c)))
def ZK (a:AZ) (b:AO):Option (AZ×(List AO)×(List Au)):=AU Z8k (.b0 a b)
def Z74:Lay:=LT [2,4] [.p 0,.p 1] [.s 39,.s 39]
def lZ:Lay:=LT [2,3,4] [.p 0,.p 1,.p 2] [.s 39,.s 156,.s 39]
def Zm5:Y8->BH U
 | .b0 a b=>Bg f283 [39,156] (a,b,())
 | .b1 a b=>AA3 f283 [1,0,1,0,0] Z74 (a,b,())
 | .b2 a b c=>AA3 f283 [1,1,0,0] lZ (a,b,c,())
 | .b3 a b c=>AA3 f283 [1,1,1,0] lZ (a,b,c,())
theorem Zm8:AA1 283 [39,156] 237 (fun x=>ZK x.1 x.2.1) rfl:=Bj (mc Vt (mc sD Ag)) Af (al [(2,Z74),(3,lZ),(5,lZ)]) Zm5 func283 (fun p=>by cases p<;>kernel_rfl) (by kernel_rfl) fun _=>rfl
def Z7S:S1 (AZ×AO×Int×Unit) (AZ×(List AO)×(List Au))
 | (a,b,c,_)=>let g:=([]:List Au);let f:=([]:List AO);.br (a.CB != 0) (.chk true (.chk true (AB (a,f,g)))) (.bind 4 (Rh a.Own) (fun(d:Bool)=>.br d (.bind 36 (OG (⟨13,CE,0,0,42,15,0,0,0,0,0⟩:AO)) (fun(e:List AO)=>.chk true (AB (a,e,g)))) (.chk true (.chk true (AB (({ a with Other:=15,Fv:=c }:AZ),f,[(⟨12,0,(⟨0,[]⟩:Az),Jl,0,b.BL⟩:Au)]))))))
def ZQ (a:AZ) (b:AO) (c:Int):Option (AZ×(List AO)×(List Au)):=AU Z7S (a,b,c,())
theorem Zm7:AA1 284 [39,156,3] 237 (fun x=>ZQ x.1 x.2.1 x.2.2.1) rfl:=ok1 (mc Vt (mc WV Ag)) Af func284 (fun _=>by kernel_rfl) (by kernel_rfl)
inductive Y7 where
 | b0 (a:AZ) (b:AO)
 | b1 (a b:AZ)
 | b2 (a:AZ) (b:AO) (c:AZ)
def Z7Y:Y7->Tr U ((AZ×(List AO)×(List Au))⊕Y7)
 | .b0 a b=>let c:=AP (Y7.b2 a b ED);.br (b.Kind==21) (.br (a.Own != 20) (AP (.b1 a ED)) c) c
 | .b1 a b=>.chk true (.chk true (AB (a,([]:List AO),([]:List Au))))
 | .b2 a b f=>let g:=if a.Limit<b.Length then a.Limit else b.Length;let h:=(MZ (11:Int) (IntKind.wrap .u64 (g)));.br (b.Kind==21) (.bind 77 h (fun(c:List Au)=>.chk true (AB (({ a with Own:=-1,Length:=g }:AZ),([]:List AO),c)))) (.bind 36 (OG (⟨21,CE,0,0,0,0,0,0,0,0,a.Limit⟩:AO)) (fun(d:List AO)=>.bind 77 h (fun(e:List Au)=>AB (({ a with Length:=g }:AZ),d,e))))
def ZA (a:AZ) (b:AO):Option (AZ×(List AO)×(List Au)):=AU Z7Y (.b0 a b)
def Z6Y:Lay:=LT [2,4] [.p 0,.p 1] [.s 39,.s 39]
def Z6S:Lay:=LT [2,3,4] [.p 0,.p 1,.p 2] [.s 39,.s 156,.s 39]
def Zlx:Y7->BH U
 | .b0 a b=>Bg f285 [39,156] (a,b,())
 | .b1 a b=>AA3 f285 [1,0,1,0,0] Z6Y (a,b,())
 | .b2 a b c=>AA3 f285 [1,1,0] Z6S (a,b,c,())
theorem ZlK:AA1 285 [39,156] 237 (fun x=>ZA x.1 x.2.1) rfl:=Bj (mc WV (mc sD Ag)) Af (al [(2,Z6Y),(3,Z6S)]) Zlx func285 (fun p=>by cases p<;>kernel_rfl) (by kernel_rfl) fun _=>rfl
inductive Yq where
 | b0 (a:AZ) (b:AO)
 | b1 (a:AZ) (b:AO) (c:AZ)
 | b2 (a:AZ) (b:AO) (c:AZ)
 | b3 (a b:AZ)
 | b4 (a b:AZ)
def Z8Z:Yq->Tr U ((AZ×(List AO)×(List Au))⊕Yq)
 | .b0 a b=>let f:=AP (Yq.b2 a b ED);let e:=bits .and .u64 a.D7 b.D7;.br (b.Kind==8) (.bind 36 (OG (⟨9,CE,0,0,0,0,0,0,a.D7,0,0⟩:AO)) (fun(c:List AO)=>.bind 77 (MZ (5:Int) e) (fun(d:List Au)=>AB (({ a with I7:=e,Fq:=true }:AZ),c,d)))) (.br (b.Kind==9) (.br (a.Own==8) (AP (.b1 a b ED)) f) f)
 | .b1 a b d=>let e:=bits .and .u64 a.D7 b.D7;.bind 77 (MZ (5:Int) e) (fun(c:List Au)=>.chk true (AB (({ a with Own:=-1,I7:=e,Fq:=true }:AZ),([]:List AO),c)))
 | .b2 a b c=>let h:=([]:List AO);let g:=AP (Yq.b4 a c);.br (b.Kind==12) (.bind 77 (MZ (6:Int) (IntKind.wrap .u64 (b.Version))) (fun(d:List Au)=>.br (a.Own==12) (.chk true (AB (({ a with Own:=-1,Version:=b.Version }:AZ),h,d))) (.br a.Gi (.chk true (AB (({ a with Version:=b.Version }:AZ),h,d))) (.bind 36 (OG (⟨12,CE,0,0,0,0,0,0,0,11,0⟩:AO)) (fun(e:List AO)=>AB (({ a with Gi:=true,Version:=b.Version }:AZ),e,d)))))) (.br (b.Kind==18) (.bind 36 (OG (⟨19,CE,0,0,0,0,0,0,0,0,0⟩:AO)) (fun(f:List AO)=>.chk true (AB (a,f,([]:List Au))))) (.br (b.Kind==19) (.br (a.Own==18) (AP (.b3 a c)) g) g))
 | .b3 a c=>.bind 77 (MZ (7:Int) (0:Int)) (fun(b:List Au)=>.chk true (AB (({ a with Own:=-1 }:AZ),([]:List AO),b)))
 | .b4 a b=>.chk true (.chk true (AB (a,([]:List AO),([]:List Au))))
def Z0f (a:AZ) (b:AO):Option (AZ×(List AO)×(List Au)):=AU Z8Z (.b0 a b)
def mV:Lay:=LT [2,3,4] [.p 0,.p 1,.p 2] [.s 39,.s 156,.s 39]
def mY:Lay:=LT [2,4] [.p 0,.p 1] [.s 39,.s 39]
def ZnV:Yq->BH U
 | .b0 a b=>Bg f286 [39,156] (a,b,())
 | .b1 a b c=>AA3 f286 [1,0,0,1,1,1,0,0] mV (a,b,c,())
 | .b2 a b c=>AA3 f286 [1,0,0,1,1,1,1,0] mV (a,b,c,())
 | .b3 a b=>AA3 f286 [1,0,0,1,1,1,1,1,1,1,1,1,0,0] mY (a,b,())
 | .b4 a b=>AA3 f286 [1,1,0] mY (a,b,())
theorem Zos:AA1 286 [39,156] 237 (fun x=>Z0f x.1 x.2.1) rfl:=Bj (mc WV (mc sD Ag)) Af (al [(6,mV),(10,mV),(23,mY),(25,mY)]) ZnV func286 (fun p=>by cases p<;>kernel_rfl) (by kernel_rfl) fun _=>rfl
inductive aY where
 | b0 (a:AZ) (b:AO) (c d:Int)
 | b1 (a b:Int) (c:AZ) (d:AO) (e:AZ)
 | b2 (a b:Int) (c:AZ) (d:AO) (e:AZ)
 | b3 (a b:AZ)
 | b4 (a:Int) (b:AZ) (c:AO) (d:AZ)
 | b5 (a b:Int) (c:AZ) (d:AO) (e:AZ)
 | b6 (a:AZ) (b:AO) (c:AZ)
 | b7 (a b:Int) (c:AZ) (d:AO) (e:AZ)
 | b8 (a:AZ) (b:AO) (c:AZ)
 | b9 (a:AZ) (b:AO) (c:AZ)
def ZbP:aY->Tr U ((AZ×(List AO)×(List Au))⊕aY)
 | .b0 b a d c=>let k:=a.Kind==0;let j:=([]:List Au);let i:=AP (aY.b1 d c b a ED);let h:=AP (aY.b2 c a.Kind b a ED);let g:=(if (0:Int)>a.Kind then (0:Int) else a.Kind);.br (b.Eb != 0) (.chk true (.chk true (AB (b,([]:List AO),j)))) (.bind 262 (DU a.Kind) (fun(e:CP)=>.br (!e.Fq) (.bind 36 (OG (⟨7,CE,0,0,0,(if (255:Int)<g then (255:Int) else g),0,0,0,0,0⟩:AO)) (fun(f:List AO)=>.chk true (AB (b,f,j)))) (.br k (.br k i h) (.br (a.Kind==1) i h))))
 | .b1 a b c d f=>.bind 39 (ZF c d a b) (fun(e:AZ)=>.chk true (.chk true (AB (e,([]:List AO),([]:List Au)))))
 | .b2 e a b c d=>let g:=AP (aY.b4 e b c d);let f:=AP (aY.b5 e a b c d);.br (a==2) (.br (c.CQ==0) (AP (.b3 ({ b with Eb:=19 }:AZ) d)) (AP (.b3 ({ b with Eb:=c.CQ }:AZ) d))) (.br (a==3) (.br (a==3) g f) (.br (a==4) (.br (a==4) g f) (.br (a==5) (.br (a==5) g f) (.br (a==6) g f))))
 | .b3 a b=>.chk true (.chk true (AB (a,([]:List AO),([]:List Au))))
 | .b4 b c d e=>.bind 237 (ZU c d b) (fun(a:AZ×(List AO)×(List Au))=>AB (a.1,a.2.1,a.2.2))
 | .b5 e a b c d=>let g:=AP (aY.b6 b c d);let f:=AP (aY.b7 e a b c d);.br (a==7) (.br (a==7) g f) (.br (a==13) g f)
 | .b6 b c d=>.bind 237 (ZK b c) (fun(a:AZ×(List AO)×(List Au))=>AB (a.1,a.2.1,a.2.2))
 | .b7 f c a b d=>let h:=AP (aY.b9 a b d);let g:=AP (aY.b8 a b d);.br (c==15) (.bind 237 (ZQ a b f) (fun(e:AZ×(List AO)×(List Au))=>AB (e.1,e.2.1,e.2.2))) (.br (c==20) (.br (c==20) g h) (.br (c==21) g h))
 | .b8 b c d=>.bind 237 (ZA b c) (fun(a:AZ×(List AO)×(List Au))=>AB (a.1,a.2.1,a.2.2))
 | .b9 b c d=>.bind 237 (Z0f b c) (fun(a:AZ×(List AO)×(List Au))=>AB (a.1,a.2.1,a.2.2))
def Z1v (a:AZ) (b:AO) (c d:Int):Option (AZ×(List AO)×(List Au)):=AU ZbP (.b0 a b c d)
def Z9F:Lay:=LT [2,3,4,5,8] [.v 30,.v 3,.p 0,.p 1,.p 2] [.s 39,.s 156,.s 39]
def Vf:Lay:=LT [3,4,5,8,28] [.v 3,.p 0,.p 1,.p 2,.v 3] [.s 39,.s 156,.s 39]
def Za9:Lay:=LT [4,8] [.p 0,.p 1] [.s 39,.s 39]
def Z9Q:Lay:=LT [3,4,5,8] [.v 3,.p 0,.p 1,.p 2] [.s 39,.s 156,.s 39]
def Vh:Lay:=LT [4,5,8] [.p 0,.p 1,.p 2] [.s 39,.s 156,.s 39]
def ZrT:aY->BH U
 | .b0 a b c d=>Bg f217 [39,156,30,3] (a,b,c,d,())
 | .b1 a b c d e=>AA3 f217 [1,1,1,0,1,0,1,0,0] Z9F (a,b,c,d,e,())
 | .b2 a b c d e=>AA3 f217 [1,1,1,0,1,0,1,1,0] Vf (a,b,c,d,e,())
 | .b3 a b=>AA3 f217 [1,1,1,0,1,0,1,1,1,0,1,1,0] Za9 (a,b,())
 | .b4 a b c d=>AA3 f217 [1,1,1,0,1,0,1,1,1,1,1,0,0] Z9Q (a,b,c,d,())
 | .b5 a b c d e=>AA3 f217 [1,1,1,0,1,0,1,1,1,1,1,1,0,0] Vf (a,b,c,d,e,())
 | .b6 a b c=>AA3 f217 [1,1,1,0,1,0,1,1,1,1,1,1,1,0,0] Vh (a,b,c,())
 | .b7 a b c d e=>AA3 f217 [1,1,1,0,1,0,1,1,1,1,1,1,1,1,0] Vf (a,b,c,d,e,())
 | .b8 a b c=>AA3 f217 [1,1,1,0,1,0,1,1,1,1,1,1,1,1,1,1,1,0,0] Vh (a,b,c,())
 | .b9 a b c=>AA3 f217 [1,1,1,1,0] Vh (a,b,c,())
theorem ZrM:AA1 217 [39,156,30,3] 237 (fun x=>Z1v x.1 x.2.1 x.2.2.1 x.2.2.2.1) rfl:=Bj (mc RX (mc WV (mc ZlI (mc ZmP (mc Zm8 (mc Zm7 (mc ZlK (mc Zos Ag)))))))) Af (al [(8,Z9F),(9,Vf),(13,Za9),(18,Z9Q),(19,Vf),(21,Vh),(22,Vf),(26,Vh),(27,Vh)]) ZrT func217 (fun p=>by cases p<;>kernel_rfl) (by kernel_rfl) fun _=>rfl
inductive aN where
 | b0 (a:Ad) (b:List Int) (c:Int)
 | b1 (a:List Au) (b c:Ad) (d:AZ)
 | b2 (a:List Au) (b c:Ad)
def ZaF:aN->Tr U ((Ad×(List Au))⊕aN)
 | .b0 a d f=>let m:=([]:List Au);let k:=kA (0+a.Ac.length) 120;let g:=([]:List AO)++a.Ac;.bind 231 (OC d) (fun(c:AO×Int)=>.br (c.2==12) (.chk true (.chk k (.chk (kI (0:Int) d) (.bind 5 (d[(Int.toNat 0)]?) (fun(e:Int)=>let i:=g++[(⟨7,CE,0,0,0,(AQ (e)),0,0,0,0,0⟩:AO)];.chk true (kl g (.chk (kA (g.length+1) 120) (kl i (.chk true (AB (({ a with Ac:=i }:Ad),m))))))))))) (.br (c.2 != 0) (.chk true (AB (a,m))) (.bind 237 (Z1v a.AA c.1 a.Event f) (fun(b:AZ×(List AO)×(List Au))=>let l:=g++b.2.1;let j:=({ a with AA:=b.1,Ac:=l }:Ad);let h:=kl l (AP (aN.b2 b.2.2 j EM));.chk true (.chk k (kl g (.chk (kA (g.length+b.2.1.length) 120) (.br (a.CB==0) (.br (c.1.Kind==5) (.br (b.1.Dy==3) (kl l (AP (.b1 b.2.2 j EM b.1))) h) h) h))))))))
 | .b1 c a d b=>.bind 41 (uO a.CB a.Key b.CZ b.Gw) (fun(e:Bq)=>.bind 41 (fF e true true) (fun(f:Bq)=>kl a.Ac (AP (.b2 c ({ a with EL:=f }:Ad) d))))
 | .b2 b a d=>.bind 77 (rJ b a.Event) (fun(c:List Au)=>kl a.Ac (AB (a,c)))
def Z0S (a:Ad) (b:List Int) (c:Int):Option (Ad×(List Au)):=AU ZaF (.b0 a b c)
def Z9y:Lay:=⟨[3,6,10,12],[KP,KP,KP,[.s 148 18]],[.var k16,.var k2,.var k1,.row true],⟨[PQ 0,PQ 1,PQ 2,OV 77],[.var 44 66 (lD 3),VA 44 66,VA 39 20,.row 156 true]⟩⟩
def Z9v:Lay:=⟨[3,6,12],[KP,KP,[.s 148 18]],[.var k16,.var k2,.row true],⟨[PQ 0,PQ 1,OV 77],[.var 44 66 (lD 2),VA 44 66,.row 156 true]⟩⟩
def Zqr:aN->BH U
 | .b0 a b c=>Bg f121 [44,62,3] (a,b,c,())
 | .b1 b a c d=>Ae f121 [1,1,1,1,1,1,1,0,1,0] Z9y (((),((),((),((b,()),())))),((Xt a),((c,()),((d,()),(a.Ac,())))))
 | .b2 b a c=>Ae f121 [1,1,1,1,1,1,1,1,0] Z9v (((),((),((b,()),()))),((Xt a),((c,()),(a.Ac,()))))
theorem Zqj:AA1 121 [44,62,3] 78 (fun x=>Z0S x.1 x.2.1 x.2.2.1) rfl:=Bj (mc Z1L (mc Ze9 (mc Zav (mc ZbO (mc ZrM Ag))))) Af (al [(11,Z9y),(12,Z9v)]) Zqr func121 (fun p=>by cases p<;>kernel_rfl) (by kernel_rfl) fun _=>rfl
inductive aT where
 | b0 (a:Ad) (b:List Int) (c:Bool) (d:Int)
 | b1 (a:List Int) (b:Int) (c d:Ad)
 | b2 (a:List Int) (b:Int) (c d:Ad)
 | b3 (a:Int) (b:Bool) (c d:Ad) (e:BM)
 | b4 (a:Int) (b:Bool) (c d:Ad) (e:BM)
 | b5 (a:Int) (b:Bool) (c d:Ad) (e:BM) (f:Az)
 | b6 (a:Int) (b:Bool) (c d:Ad) (e:BM) (f:Az)
 | b7 (a:Int) (b:Bool) (c d:Ad) (e:BM) (f:Az)
 | b8 (a:Int) (b:Bool) (c d:Ad) (e:BM) (f:Az)
 | b9 (a:Int) (b c:Bool) (d:List Au) (e f:Ad) (g:BM) (h:Az)
 | b10 (a:Int) (b:List Au) (c d:Ad) (e:BM) (f:Az)
 | b11 (a:List Au) (b c:Ad) (d:BM)
def Zby:aT->Tr U ((Ad×(List Au)×Bool)⊕aT)
 | .b0 a b d c=>let e:=({ a with Ez:=true }:Ad);let f:=AP (aT.b2 b c e EM);.br (a.CQ != 0) (.chk true (AB (a,([]:List Au),false))) (.br d (.br (a.CB==1) (AP (.b1 b c e EM)) f) f)
 | .b1 b a c d=>AP (.b2 b a ({ c with F9:=a,Size:=0,Sync:=a }:Ad) d)
 | .b2 i b a d=>let n:=([]:List Au);.bind 3 (o6 a) (fun(e:Int)=>.bind 1348 (dW e i) (fun(g:Ri)=>kl g.q0 (.bind 120 (qP a.Df.VE g.q0) (fun(h:(List Int)×Int)=>.br (h.2 != 0) (.bind 42 (bV a.DJ e false) (fun(j:List BO)=>.chk true (AB (({ a with DJ:=j }:Ad),n,false)))) (.bind 71 (qB h.1) (fun(c:BM×Int)=>.br (c.2 != 0) (.chk true (AB (a,n,false))) (.bind 42 (bV a.DJ e true) (fun(f:List BO)=>let l:=({ a with Hm:=b,GU:=true,Good:=true,DJ:=f }:Ad);let m:=AP (aT.b3 b false l d c.1);.br (c.1.SN==a.Ar.EI) (.bind 4 (UU c.1.Aw) (fun(k:Bool)=>.br (!k) (AP (.b3 b a.EL.IY l d c.1)) m)) m))))))))
 | .b3 c b a d e=>.br b (.bind 71 (tZ a.EL e) (fun(f:BM×Int)=>.br (f.2 != 0) (.bind 78 (uP a (61:Int)) (fun(g:Ad×(List Au))=>AB (g.1,g.2,false))) (AP (.b4 c b a d f.1)))) (AP (.b4 c b a d e))
 | .b4 b c a d e=>let f:=(⟨0,([]:List Int)⟩:Az);let g:=AP (aT.b6 b c a d e f);.br a.Ar.Open (.br (!a.Ar.Empty) (AP (.b5 b c a d e f)) g) g
 | .b5 b c a d e g=>.chk (kI (0:Int) a.Ar.Ap) (.bind 68 (a.Ar.Ap[(Int.toNat 0)]?) (fun(f:Az)=>AP (.b6 b c a d e f)))
 | .b6 b c a d e f=>let g:=AP (aT.b8 b c a d e f);.br a.Ar.Open (.br a.Ar.Empty (AP (.b7 b c a d e f)) g) g
 | .b7 a b c d e f=>AP (.b8 a b c d e (⟨1,([]:List Int)⟩:Az))
 | .b8 e f c g d h=>let i:=([]:List Au);.bind 163 (uD c.Ar d) (fun(a:BR×Az×Bool×Bool)=>.br a.2.2.2 (.bind 78 (Z1M ({ c with EX:=true,Ar:=a.1 }:Ad) h) (fun(b:Ad×(List Au))=>.chk true (.chk (kA (0+b.2.length) 160) (kl (i++b.2) (AP (.b9 e f a.2.2.1 (i++b.2) b.1 g d a.2.1)))))) (.chk true (AP (.b9 e f a.2.2.1 i ({ c with Ar:=a.1 }:Ad) g d a.2.1))))
 | .b9 e g h a b c d f=>.br h (.br g (.bind 41 (tH b.EL false true) (fun(i:Bq)=>kl a (AP (.b10 e a ({ b with EL:=i }:Ad) c d f)))) (kl a (AP (.b10 e a b c d f)))) (kl a (AP (.b11 a b c d)))
 | .b10 g a c e f b=>let i:=([]:List Int)++b.Payload;let h:=a++[(⟨1,c.Event,(⟨b.Bz,i⟩:Az),Jl,0,CE⟩:Au)];.br (b.Bz==3) (.bind 78 (Z0S c b.Payload g) (fun(d:Ad×(List Au))=>kl a (.chk (kA (a.length+d.2.length) 160) (kl (a++d.2) (AP (.b11 (a++d.2) d.1 e f)))))) (.chk true (.chk (kA (0+b.Payload.length) 1) (kl i (.chk true (kl a (.chk (kA (a.length+1) 160) (kl h (AP (.b11 h c e f)))))))))
 | .b11 a b d c=>.br (c.MD==1) (kl a (AB (b,a,true))) (kl a (AB (b,a,b.More)))
def pK (a:Ad) (b:List Int) (c:Bool) (d:Int):Option (Ad×(List Au)×Bool):=AU Zby (.b0 a b c d)
def nZ:Lay:=LT [1,3,4,8] [.v 62,.v 3,.p 0,.p 1] [.s 44,.s 44]
def oC:Lay:=LT [3,4,8,14,15] [.v 3,.p 0,.p 1,.p 2,.v 4] [.s 44,.s 44,.s 70]
def RQ:Lay:=LT [3,4,8,14,15,20] [.v 3,.p 0,.p 1,.p 2,.v 4,.p 3] [.s 44,.s 44,.s 70,.s 68]
def Z9w:Lay:=LT [3,4,8,14,15,22,23,25] [.v 3,.p 0,.p 1,.p 2,.v 4,.p 3,.v 4,.o 148 18 4] [.s 44,.s 44,.s 70,.s 68,.r 148]
def Z91:Lay:=LT [3,4,8,14,22,25] [.v 3,.p 0,.p 1,.p 2,.p 3,.o 148 18 4] [.s 44,.s 44,.s 70,.s 68,.r 148]
def Z8M:Lay:=LT [4,8,14,25] [.p 0,.p 1,.p 2,.o 148 18 3] [.s 44,.s 44,.s 70,.r 148]
def Zqh:aT->BH U
 | .b0 a b c d=>Bg f35 [44,62,4,3] (a,b,c,d,())
 | .b1 a b c d=>AA3 f35 [1,1,1,0,1,0] nZ (a,b,c,d,())
 | .b2 a b c d=>AA3 f35 [1,1,1,1,0] nZ (a,b,c,d,())
 | .b3 a b c d e=>AA3 f35 [1,1,1,1,1,1,1,1,1,1,1,1,0,0] oC (a,b,c,d,e,())
 | .b4 a b c d e=>AA3 f35 [1,1,1,1,1,1,1,1,1,1,1,1,1,0] oC (a,b,c,d,e,())
 | .b5 a b c d e f=>AA3 f35 [1,1,1,1,1,1,1,1,1,1,1,1,1,1,0,1,0] RQ (a,b,c,d,e,f,())
 | .b6 a b c d e f=>AA3 f35 [1,1,1,1,1,1,1,1,1,1,1,1,1,1,1,0,0] RQ (a,b,c,d,e,f,())
 | .b7 a b c d e f=>AA3 f35 [1,1,1,1,1,1,1,1,1,1,1,1,1,1,1,0,1,0] RQ (a,b,c,d,e,f,())
 | .b8 a b c d e f=>AA3 f35 [1,1,1,1,1,1,1,1,1,1,1,1,1,1,1,1,0] RQ (a,b,c,d,e,f,())
 | .b9 a b c d e f g h=>AA3 f35 [1,1,1,1,1,1,1,1,1,1,1,1,1,1,1,1,1,1,1,1,0,0] Z9w (a,b,c,e,f,g,h,d,())
 | .b10 a b c d e f=>AA3 f35 [1,1,1,1,1,1,1,1,1,1,1,1,1,1,1,1,1,1,1,1,0,1,0,1,0] Z91 (a,c,d,e,f,b,())
 | .b11 a b c d=>AA3 f35 [1,1,1,1,1,1,1,1,1,1,1,1,1,1,1,1,1,1,1,1,1,0] Z8M (b,c,d,a,())
theorem Zqq:AA1 35 [44,62,4,3] 86 (fun x=>pK x.1 x.2.1 x.2.2.1 x.2.2.2.1) rfl:=Bj (mc Za6 (mc Zbw (mc ZeC (mc Ztb (mc Zse (mc qC (mc Zx9 (mc Zv6 (mc ZuO (mc ZcV (mc Zqj Ag))))))))))) (hc [] Zcb Af) (al [(5,nZ),(6,nZ),(17,oC),(23,oC),(25,RQ),(26,RQ),(27,RQ),(28,RQ),(36,Z9w),(39,Z91),(44,Z8M)]) Zqh func35 (fun p=>by cases p<;>kernel_rfl) (by kernel_rfl) fun _=>rfl
end
noncomputable section
inductive Yc where
 | b0 (a:FT) (b:DD) (c:Int) (d:Bool) (e:Int)
 | b1 (a:Int) (b:Bool) (c d:Int) (e:FT) (f g:DD)
 | b2 (a:Int) (b:Bool) (c d:Int) (e:FT) (f g:DD)
 | b3 (a:Int) (b:Bool) (c:Int) (d:FT) (e f:DD)
 | b4 (a:Int) (b:Bool) (c d:Int) (e:FT) (f g:DD)
 | b5 (a:Int) (b:Bool) (c d:Int) (e:FT) (f g:DD) (h:Hw)
 | b6 (a:Int) (b:Bool) (c d:Int) (e:Bool) (f:Int) (g:FT) (h i:DD)
 | b7 (a:Int) (b c:DD)
 | b8 (a:Int) (b:Bool) (c d:Int) (e:Bool) (f:Int) (g:FT) (h i:DD)
 | b9 (a:Int) (b:Bool) (c:Int) (d e:DD)
 | b10 (b:Int) (c:Bool) (d e:Int) (f:Bool) (g h:Int) (i:List Int) (j:FT) (k a:DD)
 | b11 (a:Int) (b c:DD)
 | b12 (a:Int) (b c:DD)
 | b13 (d:Int) (e:Bool) (f g:Int) (h:Bool) (i j:Int) (k:List Au) (l:Bool) (m:Int) (a:FT) (b c:DD)
 | b14 (a b:Int) (c d:DD)
 | b15 (d:Int) (e:Bool) (f g:Int) (h:Bool) (i j:Int) (k:List Au) (l:Bool) (m:Int) (a:FT) (b c:DD)
 | b16 (d:Int) (e:Bool) (f g:Int) (h:Bool) (i j:Int) (k:List Au) (l:Bool) (m:Int) (a:FT) (b c:DD)
 | b17 (a:Int) (b:Bool) (c d:Int) (e:Bool) (f:Int) (g:FT) (h i:DD)
def Z8e:Yc->Tr U ((DD×Int)⊕Yc)
 | .b0 a b c d e=>AP (.b1 c d e (0:Int) a b (⟨EM,EM⟩:DD))
 | .b1 b c d e a f g=>let h:=AP (Yc.b3 b c d a f g);.br (decide (e<(↑a.TB.length:Int))) (.br (decide (e<8)) (AP (.b2 b c d e a f g)) h) h
 | .b2 d e f a b g h=>.chk (kI a b.TB) (.bind 83 (b.TB[(Int.toNat a)]?) (fun(c:Hw)=>let i:=Tr.br (decide ((↑c.Aw.Payload.length:Int)>300)) (AP (Yc.b4 d e f a b g h)) (AP (Yc.b5 d e f a b g h c));.br (c.Side != 0) (.br (c.Side != 1) (AP (.b4 d e f a b g h)) i) i))
 | .b3 c d e a b f=>let h:=(if (6:Int)<a.Xf then (6:Int) else a.Xf);.bind 4 (qZ b.x1) (fun(g:Bool)=>AP (.b6 c d e (if h>1 then h else (1:Int)) g (0:Int) a b f))
 | .b4 a b c d e f g=>AP (.b1 a b c (AQ (d+1)) e f g)
 | .b5 b d e f g c h a=>let l:=a.Side==1;let k:=a.Side==0;.br k (.bind 46 (iO c.x0 a b) (fun(i:Ad×Int)=>.br k (AP (.b4 b d e f g (⟨i.1,c.x1⟩:DD) h)) (.br l (AP (.b4 b d e f g (⟨c.x0,i.1⟩:DD) h)) (.fail)))) (.br l (.bind 46 (iO c.x1 a b) (fun(j:Ad×Int)=>.br k (AP (.b4 b d e f g (⟨j.1,c.x1⟩:DD) h)) (.br l (AP (.b4 b d e f g (⟨c.x0,j.1⟩:DD) h)) (.fail)))) (.fail))
 | .b6 b c a g h d i e f=>let j:=AP (Yc.b8 b c a g h d i e f);.br (decide (d<g)) (.br c (.br (decide (a>=0)) (.br (decide (d>=a)) (AP (.b7 b e f)) j) j) j) (AP (.b9 b c a e f))
 | .b7 a b c=>AB (b,a)
 | .b8 c d e k i a j b f=>let v:=IntKind.wrap .u64 (a);let n:=decide (0<=v);let m:=Int.tmod a 2;let s:=AQ ((1:Int) - m);let l:=(bits .and .i64 (Int.fdiv j.Xb (2 ^ (min (Int.toNat v) (IntKind.bits .i64)))) (1:Int))==1;.br (m==0) (.bind 63 (sQ b.x0) (fun(g:Ad×(List Int))=>let y:=(⟨g.1,b.x1⟩:DD);let w:=(⟨b.x0,g.1⟩:DD);let t:=(↑g.2.length:Int)==0;let p:=AP (Yc.b9 c d e w f);let o:=AP (Yc.b9 c d e y f);.br (m==0) (.br t o (.chk n (.br l o (.br i o (AP (.b10 c d e k i a s g.2 j y f)))))) (.br (m==1) (.br t p (.chk n (.br l p (.br i p (AP (.b10 c d e k i a s g.2 j w f)))))) (.fail)))) (.br (m==1) (.bind 63 (sQ b.x1) (fun(h:Ad×(List Int))=>let B:=(⟨h.1,b.x1⟩:DD);let z:=(⟨b.x0,h.1⟩:DD);let u:=(↑h.2.length:Int)==0;let r:=AP (Yc.b9 c d e z f);let q:=AP (Yc.b9 c d e B f);.br (m==0) (.br u q (.chk n (.br l q (.br i q (AP (.b10 c d e k i a s h.2 j B f)))))) (.br (m==1) (.br u r (.chk n (.br l r (.br i r (AP (.b10 c d e k i a s h.2 j z f)))))) (.fail)))) (.fail))
 | .b9 a d e b c=>let f:=AP (Yc.b12 a b c);.br d (.br (decide (e>=0)) (AP (.b11 a b c)) f) f
 | .b10 c h i j k d a m l e b=>.br (a==0) (.bind 86 (pK e.x0 m (d==0) c) (fun(f:Ad×(List Au)×Bool)=>.br (a==0) (AP (.b13 c h i j k d a f.2.1 f.2.2 (0:Int) l (⟨f.1,e.x1⟩:DD) b)) (.br (a==1) (AP (.b13 c h i j k d a f.2.1 f.2.2 (0:Int) l (⟨e.x0,f.1⟩:DD) b)) (.fail)))) (.br (a==1) (.bind 86 (pK e.x1 m (d==0) c) (fun(g:Ad×(List Au)×Bool)=>.br (a==0) (AP (.b13 c h i j k d a g.2.1 g.2.2 (0:Int) l (⟨g.1,e.x1⟩:DD) b)) (.br (a==1) (AP (.b13 c h i j k d a g.2.1 g.2.2 (0:Int) l (⟨e.x0,g.1⟩:DD) b)) (.fail)))) (.fail))
 | .b11 a b c=>AB (b,a)
 | .b12 a b c=>AP (.b14 a (0:Int) b c)
 | .b13 d e f h i g l j m k c a b=>let r:=AQ (d+500);let q:=AP (Yc.b16 d e f h i g l j m k c a b);let p:=AP (Yc.b17 r e f h i g c a b);let o:=Tr.br (g==0) (.br (!a.x1.Good) (AP (Yc.b9 r e f a b)) p) p;.br (decide (k<(↑j.length:Int))) (.chk (kI k j) (.bind 148 (j[(Int.toNat k)]?) (fun(n:Au)=>.br (n.Kind==8) (.br (l==1) (AP (.b15 d e f h i g l j m k c a b)) q) q))) (.br (decide (g>0)) (.br (!m) (AP (.b9 r e f a b)) o) o)
 | .b14 b a c d=>let g:=AQ (a+1);.br (decide (a<2)) (.br (a==0) (.bind 78 (rW c.x0 b) (fun(e:Ad×(List Au))=>.br (a==0) (AP (.b14 b g (⟨e.1,c.x1⟩:DD) d)) (.br (a==1) (AP (.b14 b g (⟨c.x0,e.1⟩:DD) d)) (.fail)))) (.br (a==1) (.bind 78 (rW c.x1 b) (fun(f:Ad×(List Au))=>.br (a==0) (AP (.b14 b g (⟨f.1,c.x1⟩:DD) d)) (.br (a==1) (AP (.b14 b g (⟨c.x0,f.1⟩:DD) d)) (.fail)))) (.fail))) (AB (c,b))
 | .b15 d e f g h i j k l m b a c=>.bind 46 (iO a.x1 (⟨0,10,(⟨0,[]⟩:Az),CE,0,0,a.x1.Key⟩:Hw) d) (fun(n:Ad×Int)=>AP (.b16 d e f g h i j k l m b (⟨a.x0,n.1⟩:DD) c))
 | .b16 d e f g h i j k l m a b c=>AP (.b13 d e f g h i j k l (AQ (m+1)) a b c)
 | .b17 a b c d e f g h i=>AP (.b6 a b c d e (AQ (f+1)) g h i)
def ZN (a:FT) (b:DD) (c:Int) (d:Bool) (e:Int):Option (DD×Int):=AU Z8e (.b0 a b c d e)
def VY:Lay:=LT [2,3,4,5,6,10,12] [.v 3,.v 4,.v 3,.p 0,.p 1,.p 2,.v 3] [.s 113,.s 109,.s 109]
def Z6P:Lay:=LT [2,3,4,5,6,10] [.v 3,.v 4,.v 3,.p 0,.p 1,.p 2] [.s 113,.s 109,.s 109]
def Z71:Lay:=LT [2,3,4,5,6,10,12,13] [.v 3,.v 4,.v 3,.p 0,.p 1,.p 2,.v 3,.p 3] [.s 113,.s 109,.s 109,.s 83]
def VZ:Lay:=LT [2,3,4,5,6,10,16,17,18] [.v 3,.v 4,.v 3,.p 0,.p 1,.p 2,.v 3,.v 4,.v 3] [.s 113,.s 109,.s 109]
def VX:Lay:=LT [2,6,10] [.v 3,.p 0,.p 1] [.s 109,.s 109]
def Z78:Lay:=LT [2,3,4,6,10] [.v 3,.v 4,.v 3,.p 0,.p 1] [.s 109,.s 109]
def Z6G:Lay:=LT [2,3,4,5,6,10,16,17,18,20,22] [.v 3,.v 4,.v 3,.p 0,.p 1,.p 2,.v 3,.v 4,.v 3,.v 3,.v 62] [.s 113,.s 109,.s 109]
def VW:Lay:=LT [2,3,4,5,6,10,16,17,18,20,24,25,26] [.v 3,.v 4,.v 3,.p 0,.p 1,.p 2,.v 3,.v 4,.v 3,.v 3,.v 77,.v 4,.v 3] [.s 113,.s 109,.s 109]
def Z6N:Lay:=LT [2,6,10,29] [.v 3,.p 0,.p 1,.v 3] [.s 109,.s 109]
def ZlA:Yc->BH U
 | .b0 a b c d e=>Bg f61 [113,109,3,4,3] (a,b,c,d,e,())
 | .b1 a b c d e f g=>AA3 f61 [1,0,1,0,0,0,0] VY (a,b,c,d,e,f,g,())
 | .b2 a b c d e f g=>AA3 f61 [1,0,1,0,0,1,0,0,0] VY (a,b,c,d,e,f,g,())
 | .b3 a b c d e f=>AA3 f61 [1,1,0] Z6P (a,b,c,d,e,f,())
 | .b4 a b c d e f g=>AA3 f61 [1,0,1,0,0,1,1] VY (a,b,c,d,e,f,g,())
 | .b5 a b c d e f g h=>AA3 f61 [1,0,1,0,0,1,0,0,1,1,0] Z71 (a,b,c,d,e,f,g,h,())
 | .b6 a b c d e f g h i=>AA3 f61 [1,1,1,1,0,1,0,0,0,0] VZ (a,b,c,d,e,f,g,h,i,())
 | .b7 a b c=>AA3 f61 [1,1,1,1,0,1,0,0,1,0,0,0,1,0,0] VX (a,b,c,())
 | .b8 a b c d e f g h i=>AA3 f61 [1,1,1,1,0,1,0,0,1,0,0,1,0] VZ (a,b,c,d,e,f,g,h,i,())
 | .b9 a b c d e=>AA3 f61 [1,1,1,1,1,0,0] Z78 (a,b,c,d,e,())
 | .b10 b c d e f g h i j k a=>AA3 f61 [1,1,1,1,0,1,0,0,1,0,0,1,1,1,1,1,0] Z6G (b,c,d,e,f,g,h,i,j,k,a,())
 | .b11 a b c=>AA3 f61 [1,1,1,1,1,0,1,0,0] VX (a,b,c,())
 | .b12 a b c=>AA3 f61 [1,1,1,1,1,1,0,0] VX (a,b,c,())
 | .b13 d e f g h i j k l m a b c=>AA3 f61 [1,1,1,1,0,1,0,0,1,0,0,1,1,1,1,1,1,1,0,1,0,0,0,0] VW (d,e,f,g,h,i,j,k,l,m,a,b,c,())
 | .b14 a b c d=>AA3 f61 [1,1,1,1,1,1,0,1,0,0,0,0] Z6N (a,b,c,d,())
 | .b15 d e f g h i j k l m a b c=>AA3 f61 [1,1,1,1,0,1,0,0,1,0,0,1,1,1,1,1,1,1,0,1,0,0,1,0,0,1,0,0] VW (d,e,f,g,h,i,j,k,l,m,a,b,c,())
 | .b16 d e f g h i j k l m a b c=>AA3 f61 [1,1,1,1,0,1,0,0,1,0,0,1,1,1,1,1,1,1,0,1,0,0,1,1] VW (d,e,f,g,h,i,j,k,l,m,a,b,c,())
 | .b17 a b c d e f g h i=>AA3 f61 [1,1,1,1,0,1,0,0,1,1] VZ (a,b,c,d,e,f,g,h,i,())
theorem Zmb:AA1 61 [113,109,3,4,3] 110 (fun x=>ZN x.1 x.2.1 x.2.2.1 x.2.2.2.1 x.2.2.2.2.1) rfl:=Bj (mc ZbX (mc ZvP (mc ZtM (mc ZAF (mc Zqq Ag))))) Af (al [(2,VY),(4,VY),(8,Z6P),(3,VY),(6,Z71),(11,VZ),(14,VX),(15,VZ),(29,Z78),(19,Z6G),(30,VX),(31,VX),(22,VW),(32,Z6N),(25,VW),(23,VW),(12,VZ)]) ZlA func61 (fun p=>by cases p<;>kernel_rfl) (by kernel_rfl) fun _=>rfl
inductive Yt where
 | b0 (a:JV)
 | b1 (a:Ad)
 | b2 (a:JV) (b:Ad)
 | b3 (a:Int) (b:JV) (c:Ad) (d:DD)
 | b4 (a b:Int) (c:JV) (d:Ad) (e:DD)
def Z8T:Yt->Tr U ((Ad×Int×Bool)⊕Yt)
 | .b0 a=>let c:=AP (Yt.b1 EM);let b:=AP (Yt.b2 a EM);.br (decide ((↑a.Events.length:Int)>60)) c (.br (a.CB != 0) (.br (a.CB != 1) c b) b)
 | .b1 a=>AB (EM,0,false)
 | .b2 a b=>AP (.b3 (0:Int) a b (⟨EM,EM⟩:DD))
 | .b3 a b c d=>let i:=AB (EM,0,false);let h:=AQ (a+1);let g:=IntKind.wrap .u64 (b.Hq+(IntKind.wrap .u64 (a)));.br (decide (a<2)) (.br (a==0) (.bind 46 (uG a b.Df (0:Int) b.Keys.x0 g (0:Int)) (fun(e:Ad×Int)=>.br (e.2 != 0) i (.br (a==0) (AP (.b3 h b c (⟨e.1,d.x1⟩:DD))) (.br (a==1) (AP (.b3 h b c (⟨d.x0,e.1⟩:DD))) (.fail))))) (.br (a==1) (.bind 46 (uG a b.Df (0:Int) b.Keys.x1 g (0:Int)) (fun(f:Ad×Int)=>.br (f.2 != 0) i (.br (a==0) (AP (.b3 h b c (⟨f.1,d.x1⟩:DD))) (.br (a==1) (AP (.b3 h b c (⟨d.x0,f.1⟩:DD))) (.fail))))) (.fail))) (AP (.b4 (0:Int) (0:Int) b c d))
 | .b4 d b a f c=>let h:=(↑a.Events.length:Int);.br (decide (b<h)) (.chk (kI b a.Events) (.bind 113 (a.Events[(Int.toNat b)]?) (fun(g:FT)=>.bind 110 (ZN g c (if c.x0.F9>d then c.x0.F9 else d) (b==(AQ (h - 1))) a.Aw) (fun(e:DD×Int)=>AP (.b4 e.2 (AQ (b+1)) a f (⟨e.1.x0,e.1.x1⟩:DD)))))) (.br (a.CB==0) (AB (c.x0,d,true)) (.br (a.CB==1) (AB (c.x1,d,true)) (.fail)))
def Z0k (a:JV):Option (Ad×Int×Bool):=AU Z8T (.b0 a)
def Z8c:Lay:=LT [2] [.p 0] [.s 44]
def Z7R:Lay:=LT [1,2] [.p 0,.p 1] [.s 59,.s 44]
def Z81:Lay:=LT [1,2,5,6] [.p 0,.p 1,.p 2,.v 3] [.s 59,.s 44,.s 109]
def Z7U:Lay:=LT [1,2,5,9,10] [.p 0,.p 1,.p 2,.v 3,.v 3] [.s 59,.s 44,.s 109]
def ZnM:Yt->BH U
 | .b0 a=>Bg f21 [59] (a,())
 | .b1 a=>AA3 f21 [1,0,1,0,0] Z8c (a,())
 | .b2 a b=>AA3 f21 [1,1,0] Z7R (a,b,())
 | .b3 a b c d=>AA3 f21 [1,1,1,0,1,0,0,0,0] Z81 (a,b,c,d,())
 | .b4 a b c d e=>AA3 f21 [1,1,1,1,1,0,1,0,0,0,0] Z7U (a,b,c,d,e,())
theorem Zoh:AA1 21 [59] 60 (fun x=>Z0k x.1) rfl:=Bj (mc Zz4 (mc Zmb Ag)) Af (al [(2,Z8c),(3,Z7R),(5,Z81),(13,Z7U)]) ZnM func21 (fun p=>by cases p<;>kernel_rfl) (by kernel_rfl) fun _=>rfl
inductive Z03 where
 | b0 (a:List Az)
 | b1 (a b:List Az) (c:Int)
def nH:Z03->Tr U ((List Az)⊕Z03)
 | .b0 a=>.chk true (AP (.b1 a ([]:List Az) (0:Int)))
 | .b1 a b c=>let h:=a[(Int.toNat c)]?;.br (decide (c<(↑a.length:Int))) (.chk (kI c a) (.bind 68 h (fun(e:Az)=>.chk (kI c a) (.bind 68 h (fun(d:Az)=>let f:=([]:List Int)++d.Payload;let g:=b++[(⟨e.Bz,f⟩:Az)];.chk true (.chk (kA (0+d.Payload.length) 1) (kl f (.chk true (kl b (.chk (kA (b.length+1) 32) (kl g (AP (.b1 a g (AQ (c+1))))))))))))))) (kl b (AB b))
def Z0e (a:List Az):Option (List Az):=AU nH (.b0 a)
def Z7D:Lay:=LT [0,3,4] [.v 31,.o 68 2 0,.v 3] [.r 68]
def Zmk:Z03->BH U
 | .b0 a=>Bg f69 [31] (a,())
 | .b1 a b c=>AA3 f69 [1,1,0,1,0,0,0,0] Z7D (a,c,b,())
theorem Zn8:AA1 69 [31] 31 (fun x=>Z0e x.1) rfl:=Bj Ag Af (al [(3,Z7D)]) Zmk func69 (fun p=>by cases p<;>kernel_rfl) (by kernel_rfl) fun _=>rfl
def Z2D:S1 (Ad×Unit) Ad
 | (a,_)=>let e:=([]:List BO)++a.DJ;let d:=([]:List BC)++a.AA.Aq;let c:=([]:List AO);let f:=c++a.AA.A8;.bind 31 (Z0e a.Ar.Ap) (fun(b:List Az)=>.chk true (.chk (kA (0+a.AA.A8.length) 120) (.chk true (.chk (kA (0+a.AA.Aq.length) 64) (.chk true (.chk (kA (0+a.DJ.length) 16) (.chk true (.chk (kA (0+a.Ac.length) 120) (kl f (kl d (kl e (kl (c++a.Ac) (AB ({ a with Ar:=({ a.Ar with Ap:=b }:BR),AA:=({ a.AA with A8:=f,Aq:=d }:AZ),DJ:=e,Ac:=(c++a.Ac) }:Ad))))))))))))))
def Z2O (a:Ad):Option Ad:=AU Z2D (a,())
theorem Zx6:AA1 23 [44] 44 (fun x=>Z2O x.1) rfl:=ok1 (mc Zn8 Ag) Af func23 (fun _=>by kernel_rfl) (by kernel_rfl)
inductive Z0Z where
 | b0 (a:Int)
 | b1 (a b c:Int)
def Vo:Z0Z->Tr U (Int⊕Z0Z)
 | .b0 a=>AP (.b1 a (0:Int) (0:Int))
 | .b1 b c a=>let e:=AQ ((7:Int) - a);let d:=IntKind.bits .u16;.br (decide (a<8)) (.chk (decide (0<=a)) (.chk (decide (0<=e)) (AP (.b1 b (bits .or .u16 c (IntKind.wrap .u16 ((bits .and .u16 (Int.fdiv b (2 ^ (min (Int.toNat a) d))) (257:Int))*2 ^ (min (Int.toNat e) d)))) (AQ (a+1)))))) (AB c)
def Z16 (a:Int):Option Int:=AU Vo (.b0 a)
def Z9c:Lay:=LT [0,3,5] [.v 30,.v 30,.v 3] []
def Zqu:Z0Z->BH U
 | .b0 a=>Bg f222 [30] (a,())
 | .b1 a b c=>AA3 f222 [1,1,0,1,0,0,0] Z9c (a,b,c,())
theorem Zr8:AA1 222 [30] 30 (fun x=>Z16 x.1) rfl:=Bj Ag Af (al [(3,Z9c)]) Zqu func222 (fun p=>by cases p<;>kernel_rfl) (by kernel_rfl) fun _=>rfl
inductive Z1h where
 | b0 (a b:Int)
 | b1 (a b c:Int)
def bW:Z1h->Tr U (Int⊕Z1h)
 | .b0 b a=>AP (.b1 a (bits .xor .u16 b a) (0:Int))
 | .b1 a b c=>.br (decide (c<3)) (.bind 30 (Z16 b) (fun(d:Int)=>AP (.b1 a (IntKind.wrap .u16 ((IntKind.wrap .u16 (d*17))+a)) (AQ (c+1))))) (AB (bits .xor .u16 b a))
def qO (a b:Int):Option Int:=AU bW (.b0 a b)
def Zai:Lay:=LT [1,5,9] [.v 30,.v 30,.v 3] []
def Zro:Z1h->BH U
 | .b0 a b=>Bg f133 [30,30] (a,b,())
 | .b1 a b c=>AA3 f133 [1,1,0,1,0,0,0] Zai (a,b,c,())
theorem ZaS:AA1 133 [30,30] 30 (fun x=>qO x.1 x.2.1) rfl:=Bj (mc Zr8 Ag) Af (al [(3,Zai)]) Zro func133 (fun p=>by cases p<;>kernel_rfl) (by kernel_rfl) fun _=>rfl
def Zdj:S1 (Int×Unit) Int
 | (a,_)=>AB (bits .xor .u16 (IntKind.wrap .u16 ((Int.fdiv a (2 ^ (16:Nat))))) (IntKind.wrap .u16 (a)))
def rM (a:Int):Option Int:=AU Zdj (a,())
theorem Zc6:AA1 134 [22] 30 (fun x=>rM x.1) rfl:=ok1 Ag Af func134 (fun _=>by kernel_rfl) (by kernel_rfl)
def ZjX:S1 (Int×Unit) Int
 | (a,_)=>let c:=(IntKind.wrap .u64 ((bits .and .u64 (Int.fdiv a (2 ^ (1:Nat))) (6148914691236517205:Int))+(bits .and .u64 a (6148914691236517205:Int))));let e:=(IntKind.wrap .u64 ((bits .and .u64 (Int.fdiv c (2 ^ (2:Nat))) (3689348814741910323:Int))+(bits .and .u64 c (3689348814741910323:Int))));let b:=(bits .and .u64 (IntKind.wrap .u64 ((Int.fdiv e (2 ^ (4:Nat)))+e)) (1085102592571150095:Int));let f:=(IntKind.wrap .u64 (b+(Int.fdiv b (2 ^ (8:Nat)))));let d:=(IntKind.wrap .u64 (f+(Int.fdiv f (2 ^ (16:Nat)))));AB (bits .and .i64 (AQ ((IntKind.wrap .u64 (d+(Int.fdiv d (2 ^ (32:Nat))))))) (127:Int))
def lN (a:Int):Option Int:=AU ZjX (a,())
theorem ZjD:AA1 287 [25] 3 (fun x=>lN x.1) rfl:=ok1 Ag Af func287 (fun _=>by kernel_rfl) (by kernel_rfl)
def Z9z:S1 (Int×Unit) Int
 | (a,_)=>.bind 3 (lN (bits .and .u64 a (137438953471:Int))) (fun(b:Int)=>AB b)
def Va (a:Int):Option Int:=AU Z9z (a,())
theorem Z0m:AA1 218 [26] 3 (fun x=>Va x.1) rfl:=ok1 (mc ZjD Ag) Af func218 (fun _=>by kernel_rfl) (by kernel_rfl)
def Zbp:S1 (Int×Int×Unit) Bool
 | (b,a,_)=>.br (decide (a>=0)) (.br (decide (a<37)) (.chk (decide (0<=a)) (AB ((bits .and .u64 (Int.fdiv b (2 ^ (min (Int.toNat a) (IntKind.bits .u64)))) (1:Int))==1))) (AB false)) (AB false)
def pV (a b:Int):Option Bool:=AU Zbp (a,b,())
theorem Z9Y:AA1 223 [26,3] 4 (fun x=>pV x.1 x.2.1) rfl:=ok1 Ag Af func223 (fun _=>by kernel_rfl) (by kernel_rfl)
end
end Go.Proofs.YtjodhcdmhobmoaaGreatDoor
namespace Go.Proofs.YtjodhcdmhobmoaaGreatDoor
open Tryz
open Go Go.RowKit Go.Shelf
attribute [local go_sem] Oper.semAt_some
set_option maxRecDepth 100000
def hasB (m:Int) (c:Nat):Bool:=(bits .and .u64 (m / 2 ^ c) 1==1)
def Ff (m:Int) (k:Nat):List Nat:=(List.range k).filter (hasB m)
theorem Zhx (F:Fence) (n:Nat) (q:F.fn 223) (z:F.round=none) (m:Int) (c:Nat) (hc:c<37) (W:World) {b:Bool} (hb:hasB m c=b):CallsIn F n Tryz.prog 223 #[.int .u64 m,.int .i64 c] W fun e C =>e = .returned (.bool b)/\C = W:=by
 refine callsIn_of_wp func223 rfl q ?_ z;simp only[Tryz.ntmps223,List.size_toArray,List.length_cons,List.length_nil,Nat.reduceAdd,Nat.reduceSub,Array.replicate_succ,Array.replicate_zero,List.push_toArray,List.append_toArray,List.nil_append,List.cons_append];have A:=Lib.hid hb;clear hb
 gi_wp2
 go_ret
 exact⟨by rw[<- A.out];rfl,rfl⟩
theorem Z3K (m:Int) (k:Nat):Ff m (k+1)=Ff m k++if hasB m k then [k] else []:=by
 unfold Ff;rw[List.range_succ,List.filter_append];cases h:hasB m k<;>simp[h]
theorem ZFw (m:Int) {k:Nat} (h:k<=37):Ff m k <+: Ff m 37:=by
 obtain⟨d,q⟩:∃d,37=k+d:=⟨37 - k,by omega⟩;rw[q];unfold Ff;rw[List.range_add,List.filter_append];exact List.prefix_append _ _
set_option maxHeartbeats 1000000 in
theorem all1_in (F:Fence) (n:Nat) (A:F.fn 223) (D:F.fn 347) (G:F.round=none) (hn:1<=n) (m:Int) (l Bm:Nat) (J Jx:List Nat->World->Prop)
  (hY:∀pre x W,J pre W->pre.length<(Ff m 37).length->YieldAt F (n - 1) Tryz.prog l #[.int .i64 (x:Nat)] W fun e I =>
   (e = .returned (.bool true)/\J (pre++[x]) I /\ I.cell? ⟨Bm,0,none⟩=W.cell? ⟨Bm,0,none⟩)\/(e = .returned (.bool false)/\Jx (pre++[x]) I))
  (W:World) (S:W.cell? ⟨Bm,0,none⟩=some (.int .u64 m)) (h0:J [] W) :
  CallsIn F n Tryz.prog 347 #[.func (.yield l) #[] #[],.pointer (some ⟨Bm,0,none⟩)] W fun e I =>(∃v,e = .returned v) /\
   ((∃ys,ys=Ff m 37/\J ys I)\/(∃pre,pre <+: Ff m 37/\Jx pre I)):=by
 refine callsIn_of_wp func347 rfl D ?_ G;simp only[Tryz.ntmps347,List.size_toArray,List.length_cons,List.length_nil,Nat.reduceAdd,Nat.reduceSub,Array.replicate_succ,Array.replicate_zero,List.push_toArray,List.append_toArray,List.nil_append,List.cons_append]
 gi_wp2
 gi_loopw [4] (fun i wr=>∃k:Nat,k<=37/\i = .int .i64 k/\J (Ff m k) wr/\wr.cell? ⟨Bm,0,none⟩=some (.int .u64 m))
  (fun i _=>37 - (intOf i).toNat)
 case atStart=>exact⟨0,by omega,rfl,h0,S⟩
 case round=>
  obtain⟨k,hk,rfl,Y,z⟩:=hrel
  by_cases O:k<37
  ·have hs:=Z3K m k;have q:=ZFw m (k:=k+1) (by omega);cases hb:hasB m k with
   | false=>
    rw[hb]at hs;simp only[Bool.false_eq_true,if_false,List.append_nil]at hs;have HS:=Lib.hid hs;clear hs q
    gi_wp2_with (gi_at_call 223;refine(Zhx F (n - 1) A G m k O _ hb).mono ?_;rintro e w' ⟨rfl,rfl⟩)
    refine⟨fun f h=>(by cases h),?_⟩
    gi_wp2
    go_roundw
    case rel=>exact⟨k+1,by omega,by go_num,by rw[HS.out];exact Y,z⟩
    case measure=>simp[intOf];omega
   | true=>
    rw[hb]at hs;simp only[if_true]at hs;have C:(Ff m k).length<(Ff m 37).length:=by
     have:=q.length_le;rw[hs]at this;simp at this;omega
    obtain⟨fn,tmps,Q,body,hy,hR⟩:=hY (Ff m k) k wr Y C;have HS:=Lib.hid hs;have HP:=Lib.hid q;clear hs q C
    gi_wp2_with (gi_at_call 223;refine(Zhx F (n - 1) A G m k O _ hb).mono ?_;rintro e w' ⟨rfl,rfl⟩)
    refine hR.mono ?_
    rintro e W3 (⟨rfl,hJ3,N⟩|⟨rfl,M⟩)
    ·have hc3:=N.trans z;clear N
     gi_wp2
     go_roundw
     case rel=>exact⟨k+1,by omega,by go_num,by rw[HS.out];exact hJ3,hc3⟩
     case measure=>simp[intOf];omega
    ·gi_wp2
     refine bodyPost_ret (results_none rfl _ _ _) rfl ?_;exact⟨⟨_,rfl⟩,.inr ⟨Ff m k++[k],by rw[<- HS.out];exact HP.out,M⟩⟩
  ·obtain rfl:k=37:=by omega
   gi_wp2
   go_end0
   exact⟨⟨_,rfl⟩,.inl ⟨_,rfl,Y⟩⟩
def KpM (Bm:Nat) (A B:World):Prop:=B.cell? ⟨Bm,0,none⟩=A.cell? ⟨Bm,0,none⟩
theorem all_stops (F:Fence) (n:Nat) (z:F.fn 223) (q:F.fn 347) (C:F.round=none) (N:1<=n) (m:Int) (Bm:Nat) (w:World) (A:Bm<w.heap.size) (hc:w.cell? ⟨Bm,0,none⟩=some (.int .u64 m)) :
  SeqStopsK F n Tryz.prog 347 #[.pointer (some ⟨Bm,0,none⟩)] (fun x:Nat=>#[Value.int .i64 (x:Nat)]) (KpM Bm) (fun ys=>ys=Ff m 37) (fun pre=>pre <+: Ff m 37) (Ff m 37).length w:=fun l J D W I _ _ M G=>
 all1_in F n z q C N m l Bm J D M W ((I.cell (p:=⟨Bm,0,none⟩) A).trans hc) G
theorem all_in (F:Fence) (n:Nat) (q:F.fn 288) (z:F.round=none) (m:Int) (w:World) :
  CallsIn F n Tryz.prog 288 #[.int .u64 m] w fun e w' =>e = .returned (.func (.func 347) #[] #[.pointer (some ⟨w.heap.size,0,none⟩)])/\w' = w.alloc (.cells #[.int .u64 m] 26):=by
 refine callsIn_of_wp func288 rfl q ?_ z;simp only[Tryz.ntmps288,List.size_toArray,List.length_cons,List.length_nil,Nat.reduceAdd,Nat.reduceSub,Array.replicate_succ,Array.replicate_zero,List.push_toArray,List.append_toArray,List.nil_append,List.cons_append]
 gi_wp2
 go_ret
 exact⟨rfl,rfl⟩
def P7 (m i:Int):Int:=if 0<=i/\i<(Ff m 37).length then (((Ff m 37)[i.toNat]?.getD 0:Nat):Int) else -1
theorem boxed_own {W q : World} {row:Option Nat} {B B0:Nat} {t:TypeId} {v:Value} (h:Boxed W B t v) (A:W.grownBy q row) (C:∀r,row=some r->B0<=r/\∃o:Obj,W.heap[r]? = some o/\o.isCells=false):Boxed q B t v:=by
 refine h.kept A ?_;intro e;obtain⟨_,o,z,hc⟩:=C B e.symm;rw[show W.heap[B]? = _ from h]at z;cases z;cases hc
theorem ZfW {W:World} {B l:Nat} {t:TypeId} {v:Value} {o o' : Obj} (h:Boxed W B t v) (hl:W.heap[l]? = some o) (hc:o.isCells=false):Boxed (W.putObj l o') B t v:=
 boxed_own (B0:=0) h (grownBy_putObj' W l o') (fun r e=>by cases e;exact⟨Nat.zero_le _,o,hl,hc⟩)
theorem WY {W:World} {B b:Nat} {t:TypeId} {v u:Value} (h:Boxed W B t v) (q:B≠b):Boxed (W.setCell ⟨b,0,none⟩ u) B t v:=
 (Below.heap_setCell W ⟨b,0,none⟩ u B q).trans h
theorem Z39 {W w:World} {n b:Nat} {u:Value} (h:Below n w W) (hb:n<=b):Below n w (W.setCell ⟨b,0,none⟩ u):=h.setCell hb u
structure Xa (m i:Int) (w:World) (res:Int) (k:Nat) (W:World):Prop where
 b0:Boxed W w.heap.size 3 (.int .i64 i)
 b1:Boxed W (w.heap.size+1) 3 (.int .i64 res)
 b2:Boxed W (w.heap.size+1+1) 3 (.int .i64 k)
 b3:Boxed W (w.heap.size+1+1+1) 26 (.int .u64 m)
 below:Below w.heap.size w W
theorem Xa.own {m i:Int} {w:World} {res:Int} {k:Nat} {W W' : World} {row:Option Nat} {B0:Nat} (A:w.heap.size<=B0) (h:Xa m i w res k W) (q:W.grownBy W' row) (z:∀r,row=some r->B0<=r/\∃o:Obj,W.heap[r]? = some o/\o.isCells=false):Xa m i w res k W' :=
 ⟨boxed_own h.b0 q z,boxed_own h.b1 q z,boxed_own h.b2 q z,boxed_own h.b3 q z,h.below.grown q h.below.size (fun k e=>Nat.le_trans A (z k e).1)⟩
set_option maxHeartbeats 2000000 in
theorem ZHF (F:Fence) (n:Nat) (S:F.fn 223) (C:F.fn 347) (Q:F.fn 288) (N:F.fn 224) (G:F.round=none) (hn:3<=n) (m i:Int) (w:World) :
  CallsIn F n Tryz.prog 224 #[.int .u64 m,.int .i64 i] w fun e W' =>e = .returned (.int .i64 (P7 m i))/\Below w.heap.size w W' :=by
 have h1:1<=n:=by omega
 refine callsIn_of_wp_marks func224 rfl N ?_ G;simp only[Tryz.ntmps224,List.size_toArray,List.length_cons,List.length_nil,Nat.reduceAdd,Nat.reduceSub,Array.replicate_succ,Array.replicate_zero,List.push_toArray,List.append_toArray,List.nil_append,List.cons_append]
 gi_wp2_with (gi_at_call 288;refine(all_in F (n - 1) Q G _ _).mono ?_;rintro e w' ⟨rfl,rfl⟩)
 have I:Xa m i w 0 0 ((((w.alloc (Obj.cells #[Value.int IntKind.i64 i] 3)).alloc (Obj.cells #[Value.int IntKind.i64 0] 3)).alloc (Obj.cells #[Value.int IntKind.i64 0] 3)).alloc (Obj.cells #[Value.int IntKind.u64 m] 26)):=by
  refine⟨(((Boxed.new _ _ _).alloc _).alloc _).alloc _,?_,?_,?_,((((Below.refl _ _).alloc (Nat.le_refl _) _).alloc (by simp) _).alloc (by simp;omega) _).alloc (by simp;omega) _⟩
  ·have:=((Boxed.new (w.alloc (Obj.cells #[Value.int IntKind.i64 i] 3)) 3 (.int .i64 0)).alloc (Obj.cells #[Value.int IntKind.i64 0] 3)).alloc (Obj.cells #[Value.int IntKind.u64 m] 26);simpa using this
  ·have:=(Boxed.new ((w.alloc (Obj.cells #[Value.int IntKind.i64 i] 3)).alloc (Obj.cells #[Value.int IntKind.i64 0] 3)) 3 (.int .i64 0)).alloc (Obj.cells #[Value.int IntKind.u64 m] 26);simpa using this
  ·have:=Boxed.new (((w.alloc (Obj.cells #[Value.int IntKind.i64 i] 3)).alloc (Obj.cells #[Value.int IntKind.i64 0] 3)).alloc (Obj.cells #[Value.int IntKind.i64 0] 3)) 26 (.int .u64 m);simpa using this
 generalize Y:((((w.alloc (Obj.cells #[Value.int IntKind.i64 i] 3)).alloc (Obj.cells #[Value.int IntKind.i64 0] 3)).alloc (Obj.cells #[Value.int IntKind.i64 0] 3)).alloc (Obj.cells #[Value.int IntKind.u64 m] 26))=W0 at I;have hs0:W0.heap.size=w.heap.size+4:=by rw[<- Y];simp
 clear Y;refine wpIn_rangeFunc_ownG G h1 (gf:=347) (lb:=#[.pointer (some ⟨w.heap.size+1+1+1,0,none⟩)]) rfl C (enters_of func347 (by kernel_rfl) rfl)
  (all_stops F (n - 1) S C G (by omega) m (w.heap.size+1+1+1) W0 (by omega) I.b3.cell) (fun h k=>k.trans h)
  (fun W l o o' hl ho hc _=>World.cell?_of_block (World.putObj_heap_other (by simp only;omega))) (Below.refl _ _) (fun _=>rfl)
  (fun pre W=>Xa m i w 0 pre.length W/\¬(0<=i/\i<pre.length))
  (fun c pre W=>c = .ret/\∃(z : List Nat) (x:Nat),pre=z ++[x]/\i=(z.length:Int)/\Xa m i w (x:Nat) z.length W)
  (fun s A B row hs hg hr=>⟨hs.1.own (by omega) hg hr,hs.2⟩)
  (fun c s A B row hs hg hr=>by obtain⟨h1,p,x,h2,h3,h4⟩:=hs;exact⟨h1,p,x,h2,h3,h4.own (by omega) hg hr⟩)
  ⟨I,by simp⟩
  (fun x=>{ tmps:=#[.int .u64 m,.int .i64 i,undef,.pointer (some ⟨w.heap.size,0,none⟩),.pointer (some ⟨w.heap.size+1,0,none⟩),.pointer (some ⟨w.heap.size+1+1,0,none⟩),.int .i64 (x:Nat),.int .u64 m,.func (.func 347) #[] #[.pointer (some ⟨w.heap.size+1+1+1,0,none⟩)],.int .i64 (x:Nat),undef,undef,undef,undef,undef,undef],defers:=[] }) ?assign ?body ?done ?stop
 case assign=>
  intro l x W K J
  gi_wp2
  exact J
 case body=>
  rintro l pre x W ⟨q,hno⟩ hlen
  have hc0:=q.b0.cell;have hf0:=q.b0.frozen;have hc1:=q.b1.cell;have hf1:=q.b1.frozen;have hc2:=q.b2.cell;have hf2:=q.b2.frozen;have hl37:pre.length<37:=by
   have:(Ff m 37).length<=37:=by unfold Ff;exact Nat.le_trans (List.length_filter_le _ _) (by simp)
   omega
  by_cases hx:i=(pre.length:Int)
  ·subst hx
   gi_wp2
   refine⟨KeepsFrom.of_grownBy (grownBy_setCell' W _ _) (fun j e=>by cases e;omega),rfl,pre,x,rfl,rfl,WY q.b0 (by omega),q.b1.set _,WY q.b2 (by omega),WY q.b3 (by omega),Z39 q.below (by omega)⟩
  ·have hx' : ((pre.length:Int)==i)=false:=by simp;omega
   gi_wp2
   refine⟨KeepsFrom.of_grownBy (grownBy_setCell' W _ _) (fun j e=>by cases e;omega),World.cell?_of_block (Below.heap_setCell W _ _ _ (by simp only;omega)),⟨WY q.b0 (by omega),WY q.b1 (by omega),?_,WY q.b3 (by omega),Z39 q.below (by omega)⟩,by simp;omega⟩;have:=q.b2.set (.int .i64 (pre.length+1:Nat));simpa using this
 case done=>
  rintro D xs W hD rfl ⟨q,hno⟩ J
  have hc1:=q.b1.cell;have hf1:=q.b1.frozen
  gi_wp2
  have M : (W.setCell ⟨w.heap.size+1,0,none⟩ (.int .i64 (-1))).heap[D]? = some (.deferred (some [])):=(Below.heap_setCell W _ _ D (by simp only;omega)).trans J;have hb:=q.b1.set (.int .i64 (-1));refine⟨by simp,.inl ⟨_,_,rfl,run_takeDeferred M,?_⟩⟩;have O:=(ZfW (o' :=.deferred none) hb M rfl).cell;refine⟨.int .i64 (-1),?_,?_,?_⟩
  ·simp[results,f224,go_sem,O]
  ·unfold P7;rw[if_neg hno]
  ·exact(Z39 q.below (by omega)).trans (belowK_b (w:=w) (Nat.le_refl _) _ D _ _ (by omega) M rfl rfl)
 case stop=>
  rintro D c pre W hD hp ⟨rfl,z,x,rfl,hi,q⟩ J
  have hc1:=q.b1.cell
  gi_wp2
  refine⟨by simp,.inl ⟨_,_,rfl,run_takeDeferred J,?_⟩⟩;have O:=(ZfW (o' :=.deferred none) q.b1 J rfl).cell;refine⟨.int .i64 (x:Nat),?_,?_,?_⟩
  ·simp[results,f224,go_sem,O]
  ·obtain⟨t,ht⟩:=hp;unfold P7;rw[<- ht,hi];simp;omega
  ·exact q.below.trans (belowK_b (w:=w) (Nat.le_refl _) _ D _ _ (by omega) J rfl rfl)
theorem ZFO (m i:Int) : -1<=P7 m i/\P7 m i<37:=by
 unfold P7;split
 ·rename_i h;have q:i.toNat<(Ff m 37).length:=by omega
  have hm:(Ff m 37)[i.toNat]∈Ff m 37:=List.getElem_mem q;rw[List.getElem?_eq_getElem q,Option.getD_some];generalize (Ff m 37)[i.toNat]=c at hm;have:c<37:=by
   unfold Ff at hm;have:=(List.mem_filter.1 hm).1;simpa using this
  omega
 ·omega
open Go.Proofs.YtjodhcdmhobmoaaGreatDoor.Le
noncomputable def pF (a b:Int):Option Int:=some (P7 a b)
noncomputable def ZrF:Ai U:={ ts:=[26,3],rt:=3,fn:=fun x=>pF x.1 x.2.1,ok:=by decide }
theorem Z9O:AA0 224 ZrF:=by
 refine⟨⟨f224,func224,by kernel_rfl,by kernel_rfl⟩,?_⟩
 rintro ⟨m,i,_⟩ a D fz w vs q F z
 cases D;obtain⟨G,vs,rfl,A,z⟩:=z.EP;obtain⟨I,vs,rfl,C,z⟩:=z.EP;cases z.Fj;cases A with
 | lit _ _=>cases C with
  | lit _ _=>
   refine(callsIn_wide.1 (ZHF Fence.wide 3 trivial trivial trivial trivial rfl (by omega) m i w)).mono ?_
   rintro e w' ⟨rfl,hb⟩
   refine⟨_,fz,rfl,hb,fun _ _ h=>h,fun _ _ h _=>h,fun b c h=>?_,.lit ?_ .nil,rfl⟩
   ·obtain⟨u,hu⟩:=q b c h;exact⟨u,(hb.cell (p:=⟨b,c,none⟩) (cell_lt hu)).trans hu⟩
   ·have:=ZFO m i;simp[leaf,Lit.wf,IntKind.min,IntKind.max,IntKind.signed,IntKind.bits];omega
end Go.Proofs.YtjodhcdmhobmoaaGreatDoor
namespace Go.Proofs.YtjodhcdmhobmoaaGreatDoor
open Tryz
open Go Go.Proofs.YtjodhcdmhobmoaaGreatDoor.Le
set_option maxRecDepth 100000
noncomputable section
def ZfM:S1 (Int×Int×Int×Unit) Int
 | (a,c,d,_)=>.bind 30 (rM d) (fun(e:Int)=>.bind 30 (qO c e) (fun(b:Int)=>let i:=Int.tmod (AQ (b)) 37;.bind 4 (pV a i) (fun(f:Bool)=>.br f (AB i) (.bind 3 (Va a) (fun(g:Int)=>.bind 3 (pF a (Int.fdiv (AQ (g*(AQ (b)))) (2 ^ (16:Nat)))) (fun(h:Int)=>AB h))))))
def Z3c (a b c:Int):Option Int:=AU ZfM (a,b,c,())
theorem Zxy:AA1 135 [26,30,22] 3 (fun x=>Z3c x.1 x.2.1 x.2.2.1) rfl:=ok1 (mc ZaS (mc Zc6 (mc Z0m (mc Z9Y (mc Z9O Ag))))) Af func135 (fun _=>by kernel_rfl) (by kernel_rfl)
def Zyz:S1 (Int×Int×Unit) Int
 | (a,b,_)=>AB (Int.tmod (AQ ((AQ ((Int.tmod a 37)+(Int.tmod b 37)))+74)) (37:Int))
def Z2y (a b:Int):Option Int:=AU Zyz (a,b,())
theorem Zxk:AA1 136 [3,3] 3 (fun x=>Z2y x.1 x.2.1) rfl:=ok1 Ag Af func136 (fun _=>by kernel_rfl) (by kernel_rfl)
def Z9E:S1 (Int×Int×Unit) Int
 | (b,a,_)=>let h:=(if (0:Int)>a then (0:Int) else a);let g:=(if (36:Int)<h then (36:Int) else h);.bind 4 (pV b g) (fun(d:Bool)=>.br d (AB g) (.bind 3 (Va b) (fun(e:Int)=>.br (e==0) (AB (-1:Int)) (.bind 3 (Va b) (fun(c:Int)=>.chk (c != 0) (.bind 3 (pF b (Int.tmod g c)) (fun(f:Int)=>AB f)))))))
def Z0t (a b:Int):Option Int:=AU Z9E (a,b,())
theorem Zp2:AA1 137 [26,3] 3 (fun x=>Z0t x.1 x.2.1) rfl:=ok1 (mc Z0m (mc Z9Y (mc Z9O Ag))) Af func137 (fun _=>by kernel_rfl) (by kernel_rfl)
def ZdW:S1 (FO×Int×Int×Unit) (Int×Int)
 | (a,b,d,_)=>.br (a.QL==2) (.bind 30 (rM a.Jq) (fun(e:Int)=>.bind 30 (qO b e) (fun(f:Int)=>.bind 3 (Z3c a.Map b a.Jq) (fun(g:Int)=>AB (g,(AQ ((Int.tmod f 37)))))))) (.bind 3 (Z2y d a.Hop) (fun(c:Int)=>.bind 3 (Z0t a.Map c) (fun(h:Int)=>AB (h,c))))
def eU (a:FO) (b c:Int):Option (Int×Int):=AU ZdW (a,b,c,())
theorem ZcJ:AA1 53 [28,30,3] 104 (fun x=>eU x.1 x.2.1 x.2.2.1) rfl:=ok1 (mc ZaS (mc Zc6 (mc Zxy (mc Zxk (mc Zp2 Ag))))) Af func53 (fun _=>by kernel_rfl) (by kernel_rfl)
def ZnA:S1 (Jm×Unit) Bool
 | (a,_)=>AB (a.Link.CQ==0)
def nD (a:Jm):Option Bool:=AU ZnA (a,())
theorem Z7E:AA1 63 [115] 4 (fun x=>nD x.1) rfl:=ok1 Ag Af func63 (fun _=>by kernel_rfl) (by kernel_rfl)
def Z0N:S1 (CW×Unit) (CW×Int)
 | (a,_)=>.bind 4 (oZ a false) (fun(b:Bool)=>.br b (AB (a,9)) (AB (({ a with EJ:=(AQ (a.EJ+1)) }:CW),(0:Int))))
def Z0G (a:CW):Option (CW×Int):=AU Z0N (a,())
theorem ZpT:AA1 80 [35] 129 (fun x=>Z0G x.1) rfl:=ok1 (mc Z9q Ag) Af func80 (fun _=>by kernel_rfl) (by kernel_rfl)
def Z95:S1 (CW×Bool×Unit) CW
 | (a,b,_)=>.br a.Full (AB (⟨a.C9,0,(!b)⟩:CW)) (AB (⟨a.C9,0,false⟩:CW))
def Z0n (a:CW) (b:Bool):Option CW:=AU Z95 (a,b,())
theorem Zod:AA1 81 [35,4] 35 (fun x=>Z0n x.1 x.2.1) rfl:=ok1 Ag Af func81 (fun _=>by kernel_rfl) (by kernel_rfl)
def Zcq:S1 (Int×Int×Unit) Int
 | (a,b,_)=>AB (IntKind.wrap .u16 (a+(IntKind.wrap .u16 (b))))
def bM (a b:Int):Option Int:=AU Zcq (a,b,())
theorem Z0P:AA1 83 [30,3] 30 (fun x=>bM x.1 x.2.1) rfl:=ok1 Ag Af func83 (fun _=>by kernel_rfl) (by kernel_rfl)
def Z7h:S1 (Jm×Unit) Int
 | (a,_)=>AB (AQ (a.Link.Df.BL.E5*1250))
def lX (a:Jm):Option Int:=AU Z7h (a,())
theorem Z6J:AA1 84 [115] 3 (fun x=>lX x.1) rfl:=ok1 Ag Af func84 (fun _=>by kernel_rfl) (by kernel_rfl)
def Zsd:S1 (Int×Int×Unit) Int
 | (a,b,_)=>AB (AQ ((IntKind.wrap .i16 ((IntKind.wrap .u16 (b - a))))))
def Z0R (a b:Int):Option Int:=AU Zsd (a,b,())
theorem Zqc:AA1 331 [30,30] 3 (fun x=>Z0R x.1 x.2.1) rfl:=ok1 Ag Af func331 (fun _=>by kernel_rfl) (by kernel_rfl)
def Z9h:S1 (Int×Int×Unit) Bool
 | (a,b,_)=>.bind 3 (Z0R b a) (fun(c:Int)=>AB (decide (c>=0)))
def RU (a b:Int):Option Bool:=AU Z9h (a,b,())
theorem Yu:AA1 252 [30,30] 4 (fun x=>RU x.1 x.2.1) rfl:=ok1 (mc Zqc Ag) Af func252 (fun _=>by kernel_rfl) (by kernel_rfl)
inductive Z0U where
 | b0 (a:List BC) (b:Int)
def Vl:Z0U->Tr U (((List BC)×(List BC))⊕Z0U)
 | .b0 a c=>let s:=(↑a.length:Int);let r:=(kI (1:Int) a);let q:=a[(Int.toNat 1)]?;let p:=Int.toNat 0;let o:=(decide ((1:Int)<s));let n:=(decide (0<=(0:Int)/\(0:Int)<=s));let m:=(a.drop 0).take (p - 0);let v:=AB (m,m);let u:=kA (m.length+1) 64;.chk n (.chk n (.chk (p==p) (.chk n (.chk n (.chk (p==p) (.br (decide ((0:Int)<s)) (.chk (kI (0:Int) a) (.bind 138 (a[p]?) (fun(b:BC)=>let w:=([b]).isEmpty;let t:=m++[b];.bind 4 (RU c b.DZ) (fun(d:Bool)=>.br d (.chk true (.chk u (.br w (.br o (.chk r (.bind 138 q (fun(e:BC)=>.bind 4 (RU c e.DZ) (fun(j:Bool)=>.fail)))) v) (.br o (.chk r (.bind 138 q (fun(f:BC)=>.bind 4 (RU c f.DZ) (fun(k:Bool)=>.fail)))) (kl t (AB (m,t))))))) (.chk true (.chk u (.br w (.br o (.chk r (.bind 138 q (fun(g:BC)=>.bind 4 (RU c g.DZ) (fun(l:Bool)=>.fail)))) v) (.br o (.chk r (.bind 138 q (fun(h:BC)=>.bind 4 (RU c h.DZ) (fun(i:Bool)=>.fail)))) (kl t (AB (t,m))))))))))) v))))))
def Z1c (a:List BC) (b:Int):Option ((List BC)×(List BC)):=AU Vl (.b0 a b)
def Zaq:Ai U:=⟨[37,30],208,fun x=>Z1c x.1 x.2.1,by decide⟩
def Vk:Z0U->BH U
 | .b0 a b=>Bg f178 [37,30] (a,b,())
theorem Zpj:∀p,Le.Em (EV Tryz.prog gl 178 (mc Yu Ag).1 Af.1 IU) (Qj (mc Yu Ag).1 Af.1 IU.tab) AN 178 f178 0 (XQ (EV Tryz.prog gl 178 (mc Yu Ag).1 Af.1 IU) f178) 48 (.run (Vk p).c) (Vk p).K (Vk p).st (Vk p).sk=(Vl p).map (SI (kJ (U:=U) 208) Vk)
 | .b0 ..=>by kernel_rfl
theorem ZqB:AA0 178 Zaq:=Z3N rfl (wK _ rfl) Qe (mc Yu Ag).2 Af.2 func178 (by kernel_rfl) (by kernel_rfl) (by kernel_rfl) Zaq Vl Vk Zpj (fun x=>.b0 x.1 x.2.1) (fun _=>rfl) (fun _=>rfl)
def Z5Z:S1 (RP×Unit) Bool
 | (a,_)=>AB (a.AA.CB != 1)
def Pg (a:RP):Option Bool:=AU Z5Z (a,())
theorem TQ:AA1 179 [206] 4 (fun x=>Pg x.1) rfl:=ok1 Ag Af func179 (fun _=>by kernel_rfl) (by kernel_rfl)
inductive Z0K where
 | b0 (a:AZ) (b c:Int)
def Za2:Z0K->Tr U (OB⊕Z0K)
 | .b0 a d e=>.bind 1345 (VV a.A8) (fun(b:RF)=>.bind 1346 (TU a.Aq) (fun(c:Pn)=>.chk (kL b.q0&&(kL c.q0&&(true&&true))) (AB (⟨(⟨({ a with A8:=b.q0,Aq:=c.q0 }:AZ),d,e,([]:List AO),([]:List Au)⟩:BD)⟩:OB))))
def Vg (a:AZ) (b c:Int):Option OB:=AU Za2 (.b0 a b c)
def Z8V:Shape:=⟨[.agg [.v 39 20 true],OV 30,OV 3],[]⟩
def ZoB:Shape:=⟨[PQ 0],[.var 211 24 (Ep 1),.row 156 true,.row 138 true,.row 156 true,.row 148 true]⟩
noncomputable def Zqv:HMod U:=⟨[k1,KP,KP],[],Z8V,ZoB,true,1363,fun(y:OB)=>(((),()),(FV y.q0)),fun x=>Vg x.1.1.1 x.1.2.1.1 x.1.2.2.1.1,okS rfl⟩
def Zq3:Z0K->BH U
 | .b0 a b c=>Dj f177 Z8V (((a,()),((b,()),((c,()),()))),())
theorem oD:Cf Tryz.prog B0 177 Zqv:=okR Ag (hc [] Z6l (hc [] Z7 Af)) AN [KP] [.var k5,.row true,.row true,.row true,.row true] 0 Zq3 func177 (fun p=>by cases p<;>kernel_rfl) (by kernel_rfl) fun x=>by kernel_rfl
inductive Yz where
 | b0 (a:AZ) (b:Int)
 | b1 (a:AZ) (b:BD)
 | b2 (a:List BC) (b:AZ) (c:BD)
 | b3 (a:AZ) (b:BD)
 | b4 (a b:List BC) (c d:Int) (e:AZ) (f:BD)
 | b5 (a b:List BC) (c d:Int) (e:AZ) (f:BD) (g:BC)
 | b6 (a b:List BC) (c d:Int) (e:AZ) (f:BD)
def Z9C:Yz->Tr U ((AZ×(List BC))⊕Yz)
 | .b0 d c=>.bind 1363 (Vg d c (0:Int)) (fun(a:OB)=>let h:=kL a.q0.AA.A8&&(kL a.q0.f_out&&kL a.q0.BG);kl a.q0.AA.Aq (.bind 208 (Z1c a.q0.AA.Aq c) (fun(b:(List BC)×(List BC))=>let g:=({ a.q0 with AA:=({ a.q0.AA with Aq:=b.1 }:AZ) }:BD);let f:=Tr.chk h (AP (Yz.b2 b.2 ED g));.br (decide ((↑b.2.length:Int)>0)) (.bind 4 (Pg (UL a.q0)) (fun(e:Bool)=>.br e (.br (!a.q0.AA.Told) (.chk h (AP (.b1 ED g))) f) f)) f)))
 | .b1 b a=>let c:=kL a.AA.A8&&(kL a.f_out&&kL a.BG);.br (a.AA.Eb==0) (.chk c (AP (.b3 b ({ a with AA:=({ a.AA with Eb:=40 }:AZ) }:BD)))) (.chk c (AP (.b3 b a)))
 | .b2 b c a=>.chk (kL a.AA.A8&&(kL a.f_out&&kL a.BG)) (AP (.b4 b b (↑b.length:Int) (0:Int) c a))
 | .b3 b a=>kl a.AA.A8 (.chk true (AB (a.AA,([]:List BC))))
 | .b4 d c e b g a=>let h:=kL a.AA.A8&&(kL a.f_out&&kL a.BG);.br (decide (b<e)) (.chk (kI b c) (.bind 138 (c[(Int.toNat b)]?) (fun(f:BC)=>.br (a.AA.Own==f.Kind) (.chk h (AP (.b5 d c e b g ({ a with AA:=({ a.AA with Own:=-1 }:AZ) }:BD) f))) (.chk h (AP (.b5 d c e b g a f)))))) (kl a.AA.A8 (AB (a.AA,d)))
 | .b5 b c d e f a g=>let h:=kL a.AA.A8&&(kL a.f_out&&kL a.BG);.br (a.AA.Other==g.Kind) (.chk h (AP (.b6 b c d e f ({ a with AA:=({ a.AA with Other:=-1 }:AZ) }:BD)))) (.chk h (AP (.b6 b c d e f a)))
 | .b6 b c d e f a=>.chk (kL a.AA.A8&&(kL a.f_out&&kL a.BG)) (AP (.b4 b c d (AQ (e+1)) f a))
def Z0v (a:AZ) (b:Int):Option (AZ×(List BC)):=AU Z9C (.b0 a b)
def nM:Lay:=⟨[4,6],[KP,KP],[.var k1,.var k13,.row true,.row true,.row true],⟨[PQ 0,PQ 1],[VA 39 20,.var 211 24 (kW 2),.row 156 true,.row 156 true,.row 148 true]⟩⟩
def Z8z:Lay:=⟨[4,6,8],[KP,KP,[.s 138 8]],[.var k1,.var k13,.row true,.row true,.row true],⟨[PQ 0,PQ 1,OV 37],[VA 39 20,.var 211 24 (kW 2),.row 156 true,.row 156 true,.row 148 true]⟩⟩
def nJ:Lay:=⟨[4,6,8,58,59,60],[KP,KP,[.s 138 8],[.s 138 8],KP,KP],[.var k1,.var k13,.row true,.row true,.row true],⟨[PQ 0,PQ 1,OV 37,OV 37,OV 3,OV 3],[VA 39 20,.var 211 24 (kW 2),.row 156 true,.row 156 true,.row 148 true]⟩⟩
def Z8A:Lay:=⟨[4,6,8,10,58,59,60],[KP,KP,[.s 138 8],KP,[.s 138 8],KP,KP],[.var k1,.var k13,.var k15,.row true,.row true,.row true],⟨[PQ 0,PQ 1,OV 37,PQ 2,OV 37,OV 3,OV 3],[VA 39 20,.var 211 24 (kW 3),VA 138 8,.row 156 true,.row 156 true,.row 148 true]⟩⟩
def ZoI:Yz->BH U
 | .b0 a b=>Bg f85 [39,30] (a,b,())
 | .b1 a b=>Ae f85 [1,1,1,1,0,1,0,0,0] nM (((),((),())),((a,()),(YC b)))
 | .b2 a b c=>Ae f85 [1,1,1,1,1,0,0] Z8z (((),((),((a,()),()))),((b,()),(YC c)))
 | .b3 a b=>Ae f85 [1,1,1,1,0,1,0,1,0] nM (((),((),())),((a,()),(YC b)))
 | .b4 a b c d e f=>Ae f85 [1,1,1,1,1,0,1,0,0,0] nJ (((),((),((a,()),((b,()),((c,()),((d,()),())))))),((e,()),(YC f)))
 | .b5 b c d e f a g=>Ae f85 [1,1,1,1,1,0,1,0,0,1,1,0,0,1,1,0] Z8A (((),((),((b,()),((),((c,()),((d,()),((e,()),()))))))),((f,()),((tu13 a),((g,()),(a.AA.A8,(a.f_out,(a.BG,())))))))
 | .b6 a b c d e f=>Ae f85 [1,1,1,1,1,0,1,0,0,1,1,1] nJ (((),((),((a,()),((b,()),((c,()),((d,()),())))))),((e,()),(YC f)))
theorem Zpb:AA1 85 [39,30] 135 (fun x=>Z0v x.1 x.2.1) rfl:=Bj (mc ZqB (mc TQ Ag)) (hc [] oD Af) (al [(5,nM),(8,Z8z),(7,nM),(9,nJ),(13,Z8A),(15,nJ)]) ZoI func85 (fun p=>by cases p<;>kernel_rfl) (by kernel_rfl) fun _=>rfl
def Z7r:S1 (Int×Unit) Bool
 | (a,_)=>.br (a==0) (AB true) (AB (a==1))
def Tc (a:Int):Option Bool:=AU Z7r (a,())
theorem YZ:AA1 182 [3] 4 (fun x=>Tc x.1) rfl:=ok1 Ag Af func182 (fun _=>by kernel_rfl) (by kernel_rfl)
def Za0:S1 (Int×Int×Unit) Int
 | (b,a,_)=>let d:=(if (0:Int)>a then (0:Int) else a);.bind 30 (bM b (AQ ((6:Int)+(if (499:Int)<d then (499:Int) else d)))) (fun(c:Int)=>AB c)
def Z0O (a b:Int):Option Int:=AU Za0 (a,b,())
theorem ZpF:AA1 253 [30,3] 30 (fun x=>Z0O x.1 x.2.1) rfl:=ok1 (mc Z0P Ag) Af func253 (fun _=>by kernel_rfl) (by kernel_rfl)
inductive Yw where
 | b0 (a:Int) (b:BC)
 | b1 (a:Int) (b:BC)
def Z9u:Yw->Tr U (Int⊕Yw)
 | .b0 b a=>let c:=AP (Yw.b1 b a);.br (a.Kind != 0) (.br (a.Kind != 1) (AB (12:Int)) c) c
 | .b1 a b=>.bind 4 (RU a b.DZ) (fun(c:Bool)=>.br c (AB (18:Int)) (AB (0:Int)))
def Z0u (a:Int) (b:BC):Option Int:=AU Z9u (.b0 a b)
def Z8B:Lay:=LT [0,3] [.v 30,.p 0] [.s 138]
def Zpc:Yw->BH U
 | .b0 a b=>Bg f332 [30,138] (a,b,())
 | .b1 a b=>AA3 f332 [1,1,0,0] Z8B (a,b,())
theorem ZoD:AA1 332 [30,138] 45 (fun x=>Z0u x.1 x.2.1) rfl:=Bj (mc Yu Ag) Af (al [(3,Z8B)]) Zpc func332 (fun p=>by cases p<;>kernel_rfl) (by kernel_rfl) fun _=>rfl
def Zas:S1 ((List BC)×Int×BC×Unit) ((List BC)×Int)
 | (a,f,b,_)=>.bind 45 (Z0u f b) (fun(c:Int)=>.br (c != 0) (.bind 1346 (TU a) (fun(d:Pn)=>kl d.q0 (AB (d.q0,c)))) (.br (decide ((↑a.length:Int)>0)) (.bind 1346 (TU a) (fun(e:Pn)=>kl e.q0 (AB (e.q0,20)))) (.chk true (AB ([b],(0:Int))))))
def pM (a:List BC) (b:Int) (c:BC):Option ((List BC)×Int):=AU Zas (a,b,c,())
theorem Za1:AA1 254 [37,30,138] 269 (fun x=>pM x.1 x.2.1 x.2.2.1) rfl:=ok1 (mc ZoD Ag) (hc [] Z7 Af) func254 (fun _=>by kernel_rfl) (by kernel_rfl)
def Z8b:S1 (AO×Unit) BC
 | (a,_)=>AB (⟨a.Kind,a.DZ,a.BL,a.Map⟩:BC)
def mQ (a:AO):Option BC:=AU Z8b (a,())
theorem Z7F:AA1 255 [156] 138 (fun x=>mQ x.1) rfl:=ok1 Ag Af func255 (fun _=>by kernel_rfl) (by kernel_rfl)
inductive YS where
 | b0 (a:AO) (b:BD)
def Z6q:YS->Tr U (TS⊕YS)
 | .b0 b a=>let c:=a.f_out++[b];.chk true (kl a.f_out (.chk (kA (a.f_out.length+1) 120) (.chk (kL c&&kL a.BG) (AB (⟨({ a with f_out:=c }:BD)⟩:TS)))))
def Z9 (a:AO) (b:BD):Option TS:=AU Z6q (.b0 a b)
def Z69:Shape:=⟨[PQ 0,.agg [.v 156 15 true]],[.var 211 24 (TP 1),.row 156 true,.row 148 true]⟩
def Zjy:Shape:=⟨[],[.var 211 24 (TP 1),.row 156 true,.row 148 true]⟩
noncomputable def Zkk:HMod U:=⟨[KP,k0],[.var k11,.row true,.row true],Z69,Zjy,false,1365,fun(y:TS)=>((),(VN y.q0)),fun x=>Z9 x.1.2.1.1 (match x with|⟨_,⟨q,A,D,_⟩,z,C,_⟩=>(⟨q,A,D,z,C⟩:BD)),okS rfl⟩
def Zk4:YS->BH U
 | .b0 a b=>Dj f256 Z69 (((),((a,()),())),(VN b))
theorem Zk9:Cf Tryz.prog B0 256 Zkk:=okR Ag Af AN [] [.var k11,.row true,.row true] 3 Zk4 func256 (fun p=>by cases p<;>kernel_rfl) (by kernel_rfl) fun x=>by kernel_rfl
inductive YJ where
 | b0 (a:AO) (b:BD)
 | b1 (a:BD) (b:AO)
 | b2 (a:Int) (b:BD) (c:AO)
 | b3 (a:BD) (b:AO)
 | b4 (a:BD) (b:AO)
def Z5Y:YJ->Tr U (TR⊕YJ)
 | .b0 b a=>let g:=b.Kind==0;let d:=kL a.f_out&&kL a.BG;let c:=({ a with AA:=({ a.AA with Own:=b.Kind,Since:=a.Hg }:AZ) }:BD);let f:=Tr.chk d (AP (YJ.b1 c b));let e:=Tr.chk d (AP (YJ.b2 b.Kind c b));.br g (.br g f e) (.br (b.Kind==1) f e)
 | .b1 a b=>let i:=kL a.f_out&&kL a.BG;.bind 30 (Z0O a.FX (0:Int)) (fun(c:Int)=>let h:=({ b with DZ:=c }:AO);.bind 138 (mQ h) (fun(e:BC)=>.bind 269 (pM a.AA.Aq a.FX e) (fun(d:(List BC)×Int)=>let g:=({ a with AA:=({ a.AA with Aq:=d.1,Told:=false }:AZ) }:BD);let f:=Tr.chk i (AP (YJ.b4 g h));.br (b.Kind==0) (.br (a.AA.Other==15) (.chk i (AP (.b3 g h))) f) f)))
 | .b2 c a b=>let d:=kL a.f_out&&kL a.BG;.br (c==3) (.chk d (AP (.b4 ({ a with AA:=({ a.AA with CZ:=b.CZ,Mark:=b.Mark,Dy:=1 }:AZ) }:BD) b))) (.br (c==12) (.chk d (AP (.b4 ({ a with AA:=({ a.AA with Gi:=true }:AZ) }:BD) b))) (.br (c==20) (.chk d (AP (.b4 ({ a with AA:=({ a.AA with Limit:=b.Length }:AZ) }:BD) b))) (.chk d (AP (.b4 a b)))))
 | .b3 a b=>.chk (kL a.f_out&&kL a.BG) (AP (.b4 ({ a with AA:=({ a.AA with Other:=-1 }:AZ) }:BD) b))
 | .b4 a c=>.chk (kL a.f_out&&kL a.BG) (.bind 1365 (Z9 c a) (fun(b:TS)=>.chk (kL b.q0.f_out&&kL b.q0.BG) (AB (⟨b.q0⟩:TR))))
def zV (a:AO) (b:BD):Option TR:=AU Z5Y (.b0 a b)
def Z5H:Shape:=⟨[PQ 0,.agg [.v 156 15 true]],[.var 211 24 (TP 1),.row 156 true,.row 148 true]⟩
def Zj8:Shape:=⟨[],[.var 211 24 (TP 1),.row 156 true,.row 148 true]⟩
noncomputable def ZjL:HMod U:=⟨[KP,k0],[.var k11,.row true,.row true],Z5H,Zj8,false,1366,fun(y:TR)=>((),(VN y.q0)),fun x=>zV x.1.2.1.1 (match x with|⟨_,⟨q,A,D,_⟩,z,C,_⟩=>(⟨q,A,D,z,C⟩:BD)),okS rfl⟩
def VT:Lay:=⟨[0,3],[KP,KP],[.var k11,.row true,.row true,.var k0],⟨[PQ 0,PQ 3],[.var 211 24 (TP 1),.row 156 true,.row 148 true,VA 156 15]⟩⟩
def Z5J:Lay:=⟨[0,3,19],[KP,KP,KP],[.var k11,.row true,.row true,.var k0],⟨[PQ 0,PQ 3,OV 3],[.var 211 24 (TP 1),.row 156 true,.row 148 true,VA 156 15]⟩⟩
def Zjm:YJ->BH U
 | .b0 a b=>Dj f183 Z5H (((),((a,()),())),(VN b))
 | .b1 a b=>AA3 f183 [1,1,0,1,0,1,0,0] VT (a.AA,a.FX,a.Hg,a.f_out,a.BG,b,())
 | .b2 b a c=>AA3 f183 [1,1,0,1,0,1,1,0] Z5J (b,a.AA,a.FX,a.Hg,a.f_out,a.BG,c,())
 | .b3 a b=>AA3 f183 [1,1,0,1,0,1,0,1,1,1,1,0] VT (a.AA,a.FX,a.Hg,a.f_out,a.BG,b,())
 | .b4 a b=>AA3 f183 [1,1,1] VT (a.AA,a.FX,a.Hg,a.f_out,a.BG,b,())
theorem Zjv:Cf Tryz.prog B0 183 ZjL:=okR (mc ZpF (mc Za1 (mc Z7F Ag))) (hc [] Zk9 Af) (al [(5,VT),(10,Z5J),(9,VT),(16,VT)]) [] [.var k11,.row true,.row true] 3 Zjm func183 (fun p=>by cases p<;>kernel_rfl) (by kernel_rfl) fun x=>by kernel_rfl
inductive Yo where
 | b0 (a:AZ) (b c:Int)
 | b1 (a:AZ) (b:BD)
 | b2 (a:AZ) (b:BD)
 | b3 (a:AZ) (b:BD)
 | b4 (a:AZ) (b:BD) (c:AO)
 | b5 (a:AZ) (b:BD) (c:AO)
def Z8q:Yo->Tr U ((AZ×(List AO))⊕Yo)
 | .b0 b c d=>.bind 1363 (Vg b c d) (fun(a:OB)=>kl a.q0.AA.A8 (kl a.q0.AA.Aq (.chk (kL a.q0.f_out&&kL a.q0.BG) (AP (.b1 ED a.q0)))))
 | .b1 b a=>let d:=kL a.f_out&&kL a.BG;let c:=Tr.chk d (AP (Yo.b3 b a));.br (a.AA.Eb==0) (.br (a.AA.Own == -1) (.br (decide ((↑a.AA.A8.length:Int)>0)) (.chk d (AP (.b2 b a))) c) c) c
 | .b2 b a=>let f:=kL a.f_out&&kL a.BG;.chk (kI (0:Int) a.AA.A8) (.bind 156 (a.AA.A8[(Int.toNat 0)]?) (fun(c:AO)=>let e:=Tr.chk f (AP (Yo.b4 b a c));.bind 4 (Tc c.Kind) (fun(d:Bool)=>.br d (.br (decide ((↑a.AA.Aq.length:Int)>0)) (.chk f (AP (.b3 b a))) e) e)))
 | .b3 b a=>kl a.f_out (AB (a.AA,a.f_out))
 | .b4 b a c=>let h:=Int.toNat 1;let f:=kL a.f_out&&kL a.BG;let d:=({ a with AA:=({ a.AA with A8:=((a.AA.A8.drop h).take (a.AA.A8.length - h)) }:AZ) }:BD);let g:=Tr.chk f (AP (Yo.b5 b d c));let e:=Tr.br (c.Kind==3) (.br (a.AA.Dy != 0) (.chk f (AP (Yo.b1 b d))) g) g;.chk (decide (0<=(1:Int)/\(1:Int)<=(↑a.AA.A8.length:Int))) (.br (c.Kind==12) (.br a.AA.Gi (.chk f (AP (.b1 b d))) e) e)
 | .b5 c a d=>.chk (kL a.f_out&&kL a.BG) (.bind 1366 (zV d a) (fun(b:TR)=>.chk (kL b.q0.f_out&&kL b.q0.BG) (AP (.b1 c b.q0))))
def ZY (a:AZ) (b c:Int):Option (AZ×(List AO)):=AU Z8q (.b0 a b c)
def V3:Lay:=⟨[6,8],[KP,KP],[.var k1,.var k11,.row true,.row true],⟨[PQ 0,PQ 1],[VA 39 20,.var 211 24 (TP 2),.row 156 true,.row 148 true]⟩⟩
def mO:Lay:=⟨[6,8,9],[KP,KP,KP],[.var k1,.var k11,.var k0,.row true,.row true],⟨[PQ 0,PQ 1,PQ 2],[VA 39 20,.var 211 24 (TP 3),VA 156 15,.row 156 true,.row 148 true]⟩⟩
def ZmC:Yo->BH U
 | .b0 a b c=>Bg f87 [39,30,3] (a,b,c,())
 | .b1 a b=>Ae f87 [1,1,0,0,0,0,0] V3 (((),((),())),((a,()),(VN b)))
 | .b2 a b=>Ae f87 [1,1,0,0,0,1,0,0] V3 (((),((),())),((a,()),(VN b)))
 | .b3 a b=>Ae f87 [1,1,1,0] V3 (((),((),())),((a,()),(VN b)))
 | .b4 b a c=>AA3 f87 [1,1,0,0,0,1,0,1,1,0] mO (b,a.AA,a.FX,a.Hg,c,a.f_out,a.BG,())
 | .b5 b a c=>AA3 f87 [1,1,0,0,0,1,0,1,1,1,1] mO (b,a.AA,a.FX,a.Hg,c,a.f_out,a.BG,())
theorem ZmO:AA1 87 [39,30,3] 140 (fun x=>ZY x.1 x.2.1 x.2.2.1) rfl:=Bj (mc YZ Ag) (hc [] oD (hc [] Zjv Af)) (al [(2,V3),(3,V3),(8,V3),(5,mO),(7,mO)]) ZmC func87 (fun p=>by cases p<;>kernel_rfl) (by kernel_rfl) fun _=>rfl
def Z79:S1 (Jm×Unit) Int
 | (a,_)=>.bind 30 (bM a.Link.Event a.Link.Df.BL.C9) (fun(b:Int)=>AB b)
def Ze (a:Jm):Option Int:=AU Z79 (a,())
theorem Zkx:AA1 88 [115] 30 (fun x=>Ze x.1) rfl:=ok1 (mc Z0P Ag) Af func88 (fun _=>by kernel_rfl) (by kernel_rfl)
inductive Z1J where
 | b0 (a:Ad)
 | b1 (a b:List Az) (c d:Int) (e:Ad)
def qR:Z1J->Tr U (QD⊕Z1J)
 | .b0 a=>let b:=(↑a.Ar.Ap.length:Int);let c:=(List.replicate (Int.toNat b) ((⟨0,[]⟩:Az):Az));.chk (decide (0<=b/\b<=b/\Int.toNat b*32<=lim/\b<=(↑maxLen:Int))) (kl c (AP (.b1 c a.Ar.Ap b (0:Int) a)))
 | .b1 a d g b c=>let m:=Int.toNat b;.br (decide (b<g)) (.chk (kI b d) (.bind 68 (d[m]?) (fun(e:Az)=>.bind 1344 (Jk e.Payload) (fun(f:Kv)=>let n:=(a.set m (⟨e.Bz,f.q0⟩:Az));kl a (.chk (kI b a) (.chk (a.length==a.length&&decide (0<=m)) (.bind 68 (a[m]?) (fun(l:Az)=>kl f.q0 (.chk (n.length==a.length) (AP (.b1 n d g (AQ (b+1)) c))))))))))) (.bind 1345 (VV c.AA.A8) (fun(h:RF)=>.bind 1346 (TU c.AA.Aq) (fun(i:Pn)=>.bind 1347 (lW c.DJ) (fun(j:Y1)=>.bind 1345 (VV c.Ac) (fun(k:RF)=>.chk (kL a&&(kL h.q0&&(kL i.q0&&(kL j.q0&&(kL k.q0&&true))))) (AB (⟨(⟨({ c with Ar:=({ c.Ar with Ap:=a }:BR),AA:=({ c.AA with A8:=h.q0,Aq:=i.q0 }:AZ),DJ:=j.q0,Ac:=k.q0 }:Ad),([]:List Au)⟩:BQ)⟩:QD)))))))
def rX (a:Ad):Option QD:=AU qR (.b0 a)
def Zbc:Shape:=⟨[.agg [.v 44 66 true]],[]⟩
def ZqC:Shape:=⟨[PQ 0],[.var 118 67 (Xp 1),.row 68 true,.row 156 true,.row 138 true,.row 99 true,.row 156 true,.row 148 true]⟩
noncomputable def Zvc:HMod U:=⟨[k2],[],Zbc,ZqC,true,1353,fun(y:QD)=>(((),()),(TM y.q0)),fun x=>rX x.1.1.1,okS rfl⟩
def ZaN:Lay:=LT [1,3,13,14,15] [.p 0,.o 68 2 1,.v 31,.v 3,.v 3] [.s 44,.r 68]
def Zu5:Z1J->BH U
 | .b0 a=>Dj f62 Zbc (((a,()),()),())
 | .b1 a b c d e=>AA3 f62 [1,1,0,1,0,0,0] ZaN (b,c,d,e,a,())
theorem ZbZ:Cf Tryz.prog B0 62 Zvc:=okR Ag (hc [] RH (hc [] Z6l (hc [] Z7 (hc [] Zkw Af)))) (al [(3,ZaN)]) [KP] [.var k14,.row true,.row true,.row true,.row true,.row true,.row true] 0 Zu5 func62 (fun p=>by cases p<;>kernel_rfl) (by kernel_rfl) fun x=>by kernel_rfl
end
noncomputable section
def Zak:S1 (Ad×Unit) Int
 | (a,_)=>.bind 104 (eU a.Df a.Event a.Last) (fun(b:Int×Int)=>AB b.1)
def oQ (a:Ad):Option Int:=AU Zak (a,())
theorem Z9r:AA1 15 [44] 3 (fun x=>oQ x.1) rfl:=ok1 (mc ZcJ Ag) Af func15 (fun _=>by kernel_rfl) (by kernel_rfl)
inductive aG where
 | b0 (a:List BO)
def Zab:aG->Tr U (UM⊕aG)
 | .b0 a=>let c:=(↑a.length:Int);let b:=(List.replicate (Int.toNat c) (⟨0,0⟩:BO));let d:=a.take b.length++b.drop a.length;.chk (decide (0<=c/\c<=c/\Int.toNat c*16<=lim/\c<=(↑maxLen:Int))) (kl b (.chk (d.length==b.length) (AB (⟨d⟩:UM))))
def Z0M (a:List BO):Option UM:=AU Zab (.b0 a)
def Z99:Shape:=⟨[OV 42],[]⟩
def Zoj:Shape:=⟨[.one (.own 99 0)],[.row 99 true]⟩
noncomputable def Zqt:HMod U:=⟨[[.s 99 2]],[],Z99,Zoj,true,1367,fun(y:UM)=>(((),()),(y.q0,())),fun x=>Z0M x.1.1.1,okS rfl⟩
def Zq0:aG->BH U
 | .b0 a=>Dj f251 Z99 (((a,()),()),())
theorem ZpN:Cf Tryz.prog B0 251 Zqt:=okR Ag Af AN [[.own 99 2]] [.row true] 0 Zq0 func251 (fun p=>by cases p<;>kernel_rfl) (by kernel_rfl) fun x=>by kernel_rfl
def Z9x:S1 ((List BO)×Int×Bool×Unit) (List BO)
 | (g,b,h,_)=>let k:=Int.toNat b;.bind 1367 (Z0M g) (fun(a:UM)=>let p:=kI b a.q0;let o:=a.q0.length==a.q0.length&&decide (0<=k);let l:=a.q0[k]?;.br (decide (b<0)) (kl a.q0 (AB a.q0)) (kl a.q0 (.br (decide (b>=(↑a.q0.length:Int))) (kl a.q0 (AB a.q0)) (kl a.q0 (.chk p (.br h (kl a.q0 (.chk p (kl a.q0 (.bind 99 l (fun(i:BO)=>.br (decide (i.Good<65536)) (kl a.q0 (.bind 99 l (fun(c:BO)=>.chk o (.bind 99 l (fun(d:BO)=>let m:=(a.q0.set k (⟨(AQ (c.Good+1)),d.Kq⟩:BO));.chk (m.length==a.q0.length) (AB m)))))) (kl a.q0 (AB a.q0))))))) (kl a.q0 (.bind 99 l (fun(j:BO)=>.br (decide (j.Kq<65536)) (kl a.q0 (.bind 99 l (fun(e:BO)=>.chk o (.bind 99 l (fun(f:BO)=>let n:=(a.q0.set k (⟨f.Good,(AQ (e.Kq+1))⟩:BO));.chk (n.length==a.q0.length) (AB n)))))) (kl a.q0 (AB a.q0)))))))))))
def Z0x (a:List BO) (b:Int) (c:Bool):Option (List BO):=AU Z9x (a,b,c,())
theorem Zp6:AA1 176 [42,3,4] 42 (fun x=>Z0x x.1 x.2.1 x.2.2.1) rfl:=ok1 Ag (hc [] ZpN Af) func176 (fun _=>by kernel_rfl) (by kernel_rfl)
inductive Yl where
 | b0 (a:Bool) (b:BQ)
def Z8t:Yl->Tr U (Oa⊕Yl)
 | .b0 b a=>kl a.Link.Ar.Ap (kl a.Link.AA.A8 (kl a.Link.AA.Aq (kl a.Link.DJ (kl a.Link.Ac (.bind 3 (oQ a.Link) (fun(c:Int)=>kl a.Link.DJ (.bind 42 (Z0x a.Link.DJ c b) (fun(d:List BO)=>.chk (kL a.Link.Ar.Ap&&(kL a.Link.AA.A8&&(kL a.Link.AA.Aq&&(kL a.Link.Ac&&(kL a.Ak&&(kL a.Link.Ar.Ap&&(kL a.Link.AA.A8&&(kL a.Link.AA.Aq&&(kL a.Link.DJ&&kL a.Link.Ac))))))))) (AB (⟨(⟨({ a.Link with DJ:=d }:Ad),a.Ak⟩:BQ),a.Link.DJ⟩:Oa))))))))))
def Yj (a:Bool) (b:BQ):Option Oa:=AU Z8t (.b0 a b)
def Z7j:Shape:=⟨[PQ 0,OV 4],[.var 118 67 (Xp 1),.row 68 false,.row 156 false,.row 138 false,.row 99 false,.row 156 false,.row 148 true]⟩
def Zl2:Shape:=⟨[],[.var 118 67 (ag9 1 2 3 5 6),.row 68 false,.row 156 false,.row 138 false,.row 99 false,.row 156 false,.row 148 true]⟩
noncomputable def Zou:HMod U:=⟨[KP,KP],[.var k14,.row false,.row false,.row false,.row false,.row false,.row true],Z7j,Zl2,false,1354,fun(y:Oa)=>((),((Qs y.q0),(y.q0.Link.Ar.Ap,(y.q0.Link.AA.A8,(y.q0.Link.AA.Aq,(y.q1,(y.q0.Link.Ac,(y.q0.Ak,())))))))),fun x=>Yj x.1.2.1.1 (match x with|⟨_,⟨v0,v2,v4,v6,v8,q,A,C,D,F,G,I,J,M,N,O,Q,S,Y,v25,v26,v27,v28,v29,v30,v31,v32,v33,v34,v35,v36,v37,v38,v39,v40,v41,v42,v43,v44,v45,v46,v47,v48,_⟩,v1,v3,v5,v7,v9,z,_⟩=>(⟨(⟨v0,v2,v4,v6,v8,q,A,C,D,F,G,I,J,M,(⟨N,O,v1,Q,S,Y,v25⟩:BR),v26,(⟨v27,v28,v29,v3,v30,v31,v5,v32,v33,v34,v35,v36,v37,v38,v39,v40,v41,v42,v43,v44⟩:AZ),v45,v46,v7,v9,v47,v48⟩:Ad),z⟩:BQ)),okS rfl⟩
def Zn6:Yl->BH U
 | .b0 a b=>Dj f82 Z7j (((),((a,()),())),(TM b))
theorem Z7T:Cf Tryz.prog B0 82 Zou:=okR (mc Z9r (mc Zp6 Ag)) Af AN [] [.var k12,.row false,.row false,.row false,.row false,.row false,.row true] 7 Zn6 func82 (fun p=>by cases p<;>kernel_rfl) (by kernel_rfl) fun x=>by kernel_rfl
def Zaz:S1 (Int×Unit) CW
 | (a,_)=>let b:=(if (0:Int)>a then (0:Int) else a);AB (⟨(if (499:Int)<b then (499:Int) else b),0,true⟩:CW)
def Z15 (a:Int):Option CW:=AU Zaz (a,())
theorem ZqG:AA1 40 [3] 35 (fun x=>Z15 x.1) rfl:=ok1 Ag Af func40 (fun _=>by kernel_rfl) (by kernel_rfl)
def Zbv:S1 (CW×Int×Unit) CW
 | (c,a,_)=>.bind 35 (Z15 a) (fun(b:CW)=>AB b)
def Z19 (a:CW) (b:Int):Option CW:=AU Zbv (a,b,())
theorem Zr7:AA1 180 [35,3] 35 (fun x=>Z19 x.1 x.2.1) rfl:=ok1 (mc ZqG Ag) Af func180 (fun _=>by kernel_rfl) (by kernel_rfl)
inductive YY where
 | b0 (a:Int) (b:List Au) (c:BQ)
 | b1 (a:Int) (b:List Au) (c d:Int) (e:BQ)
def Z6R:YY->Tr U (Pv⊕YY)
 | .b0 c b a=>kl b (.chk (kL b&&(kL a.Link.Ar.Ap&&(kL a.Link.Ac&&(kL a.Ak&&(kL a.Link.Ar.Ap&&kL a.Link.Ac))))) (AP (.b1 c b (↑b.length:Int) (0:Int) a)))
 | .b1 d b g e a=>let i:=kL a.Link.Ar.Ap&&kL a.Link.Ac;.br (decide (e<g)) (kl b (.chk (kI e b) (kl b (.bind 148 (b[(Int.toNat e)]?) (fun(c:Au)=>.bind 1344 (Jk c.Aw.Payload) (fun(f:Kv)=>let h:=a.Ak++[({ c with Event:=d,Aw:=(⟨c.Aw.Bz,f.q0⟩:Az) }:Au)];kl f.q0 (.chk true (kl a.Ak (.chk (kA (a.Ak.length+1) 160) (.chk (kL b&&(kL a.Link.Ar.Ap&&(kL a.Link.Ac&&((h.length==h.length)&&i)))) (AP (.b1 d b g (AQ (e+1)) (⟨a.Link,h⟩:BQ))))))))))))) (.chk (kL a.Link.Ar.Ap&&(kL a.Link.Ac&&(kL a.Ak&&i))) (AB (⟨a,b⟩:Pv)))
def l9 (a:Int) (b:List Au) (c:BQ):Option Pv:=AU Z6R (.b0 a b c)
def Z6m:Shape:=⟨[PQ 0,OV 30,.one (.own 148 1)],[.var 118 67 (Lt 2),.row 148 true,.row 68 false,.row 156 false,.row 148 true]⟩
def Zk5:Shape:=⟨[],[.var 118 67 (Lt 2),.row 148 true,.row 68 false,.row 156 false,.row 148 true]⟩
noncomputable def Zlt:HMod U:=⟨[KP,KP,[.own 148 18]],[.var k10,.row true,.row false,.row false,.row true],Z6m,Zk5,false,1360,fun(y:Pv)=>((),((YD y.q0),(y.q1,(y.q0.Link.Ar.Ap,(y.q0.Link.Ac,(y.q0.Ak,())))))),fun x=>l9 x.1.2.1.1 x.2.2.1 (match x with|⟨_,⟨v0,v1,v3,v5,v7,v8,v9,q,z,A,C,D,F,G,I,J,M,N,O,Q,S,Y,v25,v26,v27,v28,v29,_⟩,_,v2,v4,v6,_⟩=>(⟨(⟨v0,v1,v3,v5,v7,v8,v9,q,z,A,C,D,F,G,(⟨I,J,v2,M,N,O,Q⟩:BR),S,Y,v25,v26,v27,v4,v28,v29⟩:Ad),v6⟩:BQ)),okS rfl⟩
def Z6r:Lay:=⟨[0,1,8,9,10],[KP,KP,[.own 148 18],KP,KP],[.var k10,.row true,.row false,.row false,.row true],⟨[PQ 0,OV 30,.one (.own 148 1),OV 3,OV 3],[.var 118 67 (Lt 2),.row 148 true,.row 68 false,.row 156 false,.row 148 true]⟩⟩
def Zkv:YY->BH U
 | .b0 b c a=>Dj f181 Z6m (((),((b,()),((),()))),((YD a),(c,(a.Link.Ar.Ap,(a.Link.Ac,(a.Ak,()))))))
 | .b1 b c d e a=>Ae f181 [1,0,0,0] Z6r (((),((b,()),((),((d,()),((e,()),()))))),((YD a),(c,(a.Link.Ar.Ap,(a.Link.Ac,(a.Ak,()))))))
theorem Z6O:Cf Tryz.prog B0 181 Zlt:=okR Ag (hc [] RH Af) (al [(1,Z6r)]) [] [.var k10,.row true,.row false,.row false,.row true] 5 Zkv func181 (fun p=>by cases p<;>kernel_rfl) (by kernel_rfl) fun x=>by kernel_rfl
inductive Y3 where
 | b0 (a:BC) (b:BQ)
 | b1 (a:BQ) (b:BC)
 | b2 (a:BQ) (b:BC)
def Z7t:Y3->Tr U (TZ⊕Y3)
 | .b0 b a=>let e:=({ a.Link.Df with BL:=b.BL }:FO);let d:=AQ (a.Link.F9+(AQ (b.BL.FC*1250)));let c:=kL a.Link.Ar.Ap&&(kL a.Link.Ac&&(kL a.Ak&&(kL a.Link.Ar.Ap&&kL a.Link.Ac)));.br (b.Kind==1) (.chk c (AP (.b1 (⟨({ a.Link with Df:=({ a.Link.Df with Map:=b.Map }:FO) }:Ad),a.Ak⟩:BQ) b))) (.br (a.Link.CB==1) (.chk c (AP (.b2 (⟨({ a.Link with Df:=e,F9:=d,Size:=(AQ (a.Link.Size+(AQ (b.BL.FP*1250)))) }:Ad),a.Ak⟩:BQ) b))) (.chk c (AP (.b2 (⟨({ a.Link with Df:=e,F9:=d }:Ad),a.Ak⟩:BQ) b))))
 | .b1 a c=>.chk (true&&(kL a.Link.Ar.Ap&&(kL a.Link.Ac&&(kL a.Ak&&(kL a.Link.Ar.Ap&&kL a.Link.Ac))))) (.bind 1360 (l9 a.Link.Event ([(⟨2,0,(⟨0,[]⟩:Az),c,0,CE⟩:Au)]) a) (fun(b:Pv)=>.chk (kL b.q0.Link.Ar.Ap&&(kL b.q0.Link.Ac&&(kL b.q0.Ak&&(kL b.q0.Link.Ar.Ap&&kL b.q0.Link.Ac)))) (AB (⟨b.q0⟩:TZ))))
 | .b2 a b=>.bind 35 (Z19 a.Link.DY b.BL.C9) (fun(c:CW)=>.chk (kL a.Link.Ar.Ap&&(kL a.Link.Ac&&(kL a.Ak&&(kL a.Link.Ar.Ap&&kL a.Link.Ac)))) (AP (.b1 (⟨({ a.Link with DY:=c }:Ad),a.Ak⟩:BQ) b)))
def Zm (a:BC) (b:BQ):Option TZ:=AU Z7t (.b0 a b)
def Z6L:Shape:=⟨[PQ 0,.agg [.v 138 8 true]],[.var 118 67 (Lt 1),.row 68 false,.row 156 false,.row 148 true]⟩
def Zki:Shape:=⟨[],[.var 118 67 (Lt 1),.row 68 false,.row 156 false,.row 148 true]⟩
noncomputable def Zma:HMod U:=⟨[KP,k15],[.var k10,.row false,.row false,.row true],Z6L,Zki,false,1359,fun(y:TZ)=>((),(TK y.q0)),fun x=>Zm (⟨x.1.2.1.1.Kind,x.1.2.1.1.DZ,x.1.2.1.1.BL,x.1.2.1.1.Map⟩:BC) (match x with|⟨_,⟨v0,v2,v4,v6,v7,v8,v9,q,z,A,C,D,F,G,I,J,M,N,O,Q,S,Y,v25,v26,v27,v28,v29,_⟩,v1,v3,v5,_⟩=>(⟨(⟨v0,v2,v4,v6,v7,v8,v9,q,z,A,C,D,F,G,(⟨I,J,v1,M,N,O,Q⟩:BR),S,Y,v25,v26,v27,v3,v28,v29⟩:Ad),v5⟩:BQ)),okS rfl⟩
def lU:Lay:=⟨[0,3],[KP,KP],[.var k10,.row false,.row false,.row true,.var k15],⟨[PQ 0,PQ 4],[.var 118 67 (Lt 1),.row 68 false,.row 156 false,.row 148 true,VA 138 8]⟩⟩
def Zll:Y3->BH U
 | .b0 a b=>Dj f86 Z6L (((),((a,()),())),(TK b))
 | .b1 a b=>Ae f86 [1,1] lU (((),((),())),((YD a),(a.Link.Ar.Ap,(a.Link.Ac,(a.Ak,((b,()),()))))))
 | .b2 a b=>Ae f86 [1,0,1,1,1,1,1] lU (((),((),())),((YD a),(a.Link.Ar.Ap,(a.Link.Ac,(a.Ak,((b,()),()))))))
theorem Zlq:Cf Tryz.prog B0 86 Zma:=okR (mc Zr7 Ag) (hc [] Z6O Af) (al [(8,lU),(7,lU)]) [] [.var k10,.row false,.row false,.row true] 4 Zll func86 (fun p=>by cases p<;>kernel_rfl) (by kernel_rfl) fun x=>by kernel_rfl
def Z90:S1 (Int×Int×Int×Unit) Bool
 | (a,b,c,_)=>.br (a != -1) (.bind 4 (Tc a) (fun(d:Bool)=>.br (!d) (AB (decide ((AQ (c - b))>40000000))) (AB false))) (AB false)
def nP (a b c:Int):Option Bool:=AU Z90 (a,b,c,())
theorem ZnX:AA1 257 [3,3,3] 4 (fun x=>nP x.1 x.2.1 x.2.2.1) rfl:=ok1 (mc YZ Ag) Af func257 (fun _=>by kernel_rfl) (by kernel_rfl)
def Z7p:S1 (AZ×Int×Unit) Bool
 | (a,b,_)=>.bind 4 (nP a.Own a.Since b) (fun(c:Bool)=>.br c (AB true) (.bind 4 (nP a.Other a.Fv b) (fun(d:Bool)=>AB d)))
def Zi (a:AZ) (b:Int):Option Bool:=AU Z7p (a,b,())
theorem Zla:AA1 184 [39,3] 4 (fun x=>Zi x.1 x.2.1) rfl:=ok1 (mc ZnX Ag) Af func184 (fun _=>by kernel_rfl) (by kernel_rfl)
def Z9d:S1 (Int×Int×Int×Unit) Int
 | (a,b,c,_)=>let d:=if b>a then b else a;AB (if c<d then c else d)
def V9 (a b c:Int):Option Int:=AU Z9d (a,b,c,())
theorem ZoT:AA1 219 [3,3,3] 3 (fun x=>V9 x.1 x.2.1 x.2.2.1) rfl:=ok1 Ag Af func219 (fun _=>by kernel_rfl) (by kernel_rfl)
def Z8J:S1 (DR×Unit) DR
 | (a,_)=>.bind 3 (V9 a.FP (1:Int) (8:Int)) (fun(b:Int)=>.bind 3 (V9 a.FC (0:Int) (3200:Int)) (fun(c:Int)=>.bind 3 (V9 a.E5 (6:Int) (3200:Int)) (fun(d:Int)=>.bind 3 (V9 a.FY (10:Int) (3200:Int)) (fun(e:Int)=>AB (⟨b,c,d,a.C9,e⟩:DR)))))
def Z05 (a:DR):Option DR:=AU Z8J (a,())
theorem ZmM:AA1 125 [24] 24 (fun x=>Z05 x.1) rfl:=ok1 (mc ZoT Ag) Af func125 (fun _=>by kernel_rfl) (by kernel_rfl)
def Z8H:S1 (DR×Unit) Int
 | (a,_)=>.bind 24 (Z05 a) (fun(b:DR)=>AB (AQ (b.FY*10000)))
def Z0c (a:DR):Option Int:=AU Z8H (a,())
theorem Znt:AA1 185 [24] 3 (fun x=>Z0c x.1) rfl:=ok1 (mc ZmM Ag) Af func185 (fun _=>by kernel_rfl) (by kernel_rfl)
inductive Yb where
 | b0 (a:Int) (b:BQ)
 | b1 (a:Int) (b:BQ)
def Z8l:Yb->Tr U (MB⊕Yb)
 | .b0 b a=>let g:=AQ (b - a.Link.Hm);let e:=kL a.Link.Ar.Ap&&(kL a.Link.Ac&&(kL a.Ak&&(kL a.Link.Ar.Ap&&kL a.Link.Ac)));let f:=Tr.chk e (AP (Yb.b1 g a));.br (a.Link.AA.Eb != 0) (.chk e (AB (⟨a.Link.AA.Eb,a⟩:MB))) (.bind 4 (Zi a.Link.AA b) (fun(c:Bool)=>.br c (.chk e (AB (⟨34,a⟩:MB))) (.br a.Link.GU (.bind 3 (Z0c a.Link.Df.BL) (fun(d:Int)=>.br (decide (g>d)) (.chk e (AB (⟨8,a⟩:MB))) f)) f)))
 | .b1 b a=>let d:=kL a.Link.Ar.Ap&&(kL a.Link.Ac&&(kL a.Ak&&(kL a.Link.Ar.Ap&&kL a.Link.Ac)));let e:=Tr.chk d (AB (⟨0,a⟩:MB));.br (!a.Link.GU) (.bind 3 (lX (WG a)) (fun(c:Int)=>.br (decide (b>(AQ ((6:Int)*c)))) (.chk d (AB (⟨62,a⟩:MB))) e)) e
def Zw (a:Int) (b:BQ):Option MB:=AU Z8l (.b0 a b)
def Z7b:Shape:=⟨[PQ 0,OV 3],[.var 118 67 (Lt 1),.row 68 false,.row 156 false,.row 148 true]⟩
def ZkW:Shape:=⟨[OV 3],[.var 118 67 (Lt 1),.row 68 false,.row 156 false,.row 148 true]⟩
noncomputable def Zn1:HMod U:=⟨[KP,KP],[.var k10,.row false,.row false,.row true],Z7b,ZkW,true,1361,fun(y:MB)=>(((y.q0,()),()),(TK y.q1)),fun x=>Zw x.1.2.1.1 (match x with|⟨_,⟨v0,v2,v4,v6,v7,v8,v9,q,z,A,C,D,F,G,I,J,M,N,O,Q,S,Y,v25,v26,v27,v28,v29,_⟩,v1,v3,v5,_⟩=>(⟨(⟨v0,v2,v4,v6,v7,v8,v9,q,z,A,C,D,F,G,(⟨I,J,v1,M,N,O,Q⟩:BR),S,Y,v25,v26,v27,v3,v28,v29⟩:Ad),v5⟩:BQ)),okS rfl⟩
def Z7f:Lay:=⟨[0,5],[KP,KP],[.var k10,.row false,.row false,.row true],⟨[PQ 0,OV 3],[.var 118 67 (Lt 1),.row 68 false,.row 156 false,.row 148 true]⟩⟩
def ZlH:Yb->BH U
 | .b0 a b=>Dj f89 Z7b (((),((a,()),())),(TK b))
 | .b1 a b=>Ae f89 [1,0,1,0,1,1,1,1,1,1,0] Z7f (((),((a,()),())),(TK b))
theorem ZlW:Cf Tryz.prog B0 89 Zn1:=okR (mc Z6J (mc Zla (mc Znt Ag))) Af (al [(8,Z7f)]) [KP] [.var k10,.row false,.row false,.row true] 4 ZlH func89 (fun p=>by cases p<;>kernel_rfl) (by kernel_rfl) fun x=>by kernel_rfl
inductive Yh where
 | b0 (a b:Int) (c:BQ)
def Z8p:Yh->Tr U (UF⊕Yh)
 | .b0 d c a=>.chk (true&&(kL a.Link.Ar.Ap&&(kL a.Link.Ac&&(kL a.Ak&&(kL a.Link.Ar.Ap&&kL a.Link.Ac))))) (.bind 1360 (l9 d ([(⟨4,0,(⟨0,[]⟩:Az),Jl,(IntKind.wrap .u64 (c)),CE⟩:Au)]) (⟨({ a.Link with CQ:=c }:Ad),a.Ak⟩:BQ)) (fun(b:Pv)=>.chk (kL b.q0.Link.Ar.Ap&&(kL b.q0.Link.Ac&&(kL b.q0.Ak&&(kL b.q0.Link.Ar.Ap&&kL b.q0.Link.Ac)))) (AB (⟨b.q0⟩:UF))))
def Z09 (a b:Int) (c:BQ):Option UF:=AU Z8p (.b0 a b c)
def Z7L:Shape:=⟨[PQ 0,OV 30,OV 3],[.var 118 67 (Lt 1),.row 68 false,.row 156 false,.row 148 true]⟩
def Zl4:Shape:=⟨[],[.var 118 67 (Lt 1),.row 68 false,.row 156 false,.row 148 true]⟩
noncomputable def Zor:HMod U:=⟨[KP,KP,KP],[.var k10,.row false,.row false,.row true],Z7L,Zl4,false,1362,fun(y:UF)=>((),(TK y.q0)),fun x=>Z09 x.1.2.1.1 x.1.2.2.1.1 (match x with|⟨_,⟨v0,v2,v4,v6,v7,v8,v9,q,z,A,C,D,F,G,I,J,M,N,O,Q,S,Y,v25,v26,v27,v28,v29,_⟩,v1,v3,v5,_⟩=>(⟨(⟨v0,v2,v4,v6,v7,v8,v9,q,z,A,C,D,F,G,(⟨I,J,v1,M,N,O,Q⟩:BR),S,Y,v25,v26,v27,v3,v28,v29⟩:Ad),v5⟩:BQ)),okS rfl⟩
def Zne:Yh->BH U
 | .b0 a b c=>Dj f90 Z7L (((),((a,()),((b,()),()))),(TK c))
theorem ZmJ:Cf Tryz.prog B0 90 Zor:=okR Ag (hc [] Z6O Af) AN [] [.var k10,.row false,.row false,.row true] 4 Zne func90 (fun p=>by cases p<;>kernel_rfl) (by kernel_rfl) fun x=>by kernel_rfl
inductive bF where
 | b0 (a:Ad) (b:Int)
 | b1 (a:Int) (b:Bool) (c:Ad) (d:BQ)
 | b2 (a:Int) (b:Bool) (c:Ad) (d:BQ)
 | b3 (a:Int) (b:Ad) (c:BQ)
 | b4 (a:Int) (b:Ad) (c:BQ)
 | b5 (a:Int) (b:List BC) (c d:Int) (e:Ad) (f:BQ) (g:AZ)
 | b6 (a:Ad) (b:BQ)
def Z1j:bF->Tr U ((Ad×(List Au))⊕bF)
 | .b0 c b=>.bind 1353 (rX c) (fun(a:QD)=>let f:=kL a.q0.Link.Ar.Ap&&(kL a.q0.Link.AA.A8&&(kL a.q0.Link.AA.Aq&&(kL a.q0.Link.DJ&&(kL a.q0.Link.Ac&&(kL a.q0.Ak&&(kL a.q0.Link.Ar.Ap&&(kL a.q0.Link.AA.A8&&(kL a.q0.Link.AA.Aq&&(kL a.q0.Link.DJ&&kL a.q0.Link.Ac)))))))));.bind 4 (nD (WG a.q0)) (fun(d:Bool)=>.br (!d) (kl a.q0.Link.Ar.Ap (kl a.q0.Link.AA.A8 (kl a.q0.Link.AA.Aq (kl a.q0.Link.DJ (kl a.q0.Link.Ac (.chk true (AB (a.q0.Link,([]:List Au))))))))) (.br (!a.q0.Link.Ez) (kl a.q0.Link.Ar.Ap (kl a.q0.Link.AA.A8 (kl a.q0.Link.AA.Aq (kl a.q0.Link.DJ (kl a.q0.Link.Ac (.bind 4 (aW a.q0.Link) (fun(e:Bool)=>.chk f (AP (.b1 b e EM a.q0))))))))) (.chk f (AP (.b1 b false EM a.q0))))))
 | .b1 c b d a=>let g:=kL a.Link.Ar.Ap&&(kL a.Link.AA.A8&&(kL a.Link.AA.Aq&&(kL a.Link.DJ&&(kL a.Link.Ac&&(kL a.Ak&&(kL a.Link.Ar.Ap&&(kL a.Link.AA.A8&&(kL a.Link.AA.Aq&&(kL a.Link.DJ&&kL a.Link.Ac)))))))));.br b (.bind 129 (Z0G a.Link.DY) (fun(e:CW×Int)=>.chk g (AP (.b2 c b d (⟨({ a.Link with DY:=e.1 }:Ad),a.Ak⟩:BQ))))) (.br (a.Link.CB==1) (.bind 35 (Z0n a.Link.DY a.Link.EX) (fun(f:CW)=>.chk g (AP (.b2 c b d (⟨({ a.Link with DY:=f }:Ad),a.Ak⟩:BQ))))) (.chk g (AP (.b2 c b d a))))
 | .b2 b d c a=>let e:=kl a.Link.DJ (.chk (kL a.Link.Ar.Ap&&(kL a.Link.AA.A8&&(kL a.Link.AA.Aq&&(kL a.Link.Ac&&(kL a.Ak&&(kL a.Link.Ar.Ap&&(kL a.Link.AA.A8&&(kL a.Link.AA.Aq&&kL a.Link.Ac)))))))) (AP (bF.b4 b c a)));.br (!a.Link.Good) (.br (!d) (.chk (kL a.Link.Ar.Ap&&(kL a.Link.AA.A8&&(kL a.Link.AA.Aq&&(kL a.Link.DJ&&(kL a.Link.Ac&&(kL a.Ak&&(kL a.Link.Ar.Ap&&(kL a.Link.AA.A8&&(kL a.Link.AA.Aq&&(kL a.Link.DJ&&kL a.Link.Ac)))))))))) (AP (.b3 b c a))) e) e
 | .b3 c d a=>.chk (kL a.Link.Ar.Ap&&(kL a.Link.AA.A8&&(kL a.Link.AA.Aq&&(kL a.Link.DJ&&(kL a.Link.Ac&&(kL a.Ak&&(kL a.Link.Ar.Ap&&(kL a.Link.AA.A8&&(kL a.Link.AA.Aq&&(kL a.Link.DJ&&kL a.Link.Ac)))))))))) (.bind 1354 (Yj false a) (fun(b:Oa)=>.chk (kL b.q0.Link.Ar.Ap&&(kL b.q0.Link.AA.A8&&(kL b.q0.Link.AA.Aq&&(kL b.q0.Link.Ac&&(kL b.q0.Ak&&(kL b.q0.Link.Ar.Ap&&(kL b.q0.Link.AA.A8&&(kL b.q0.Link.AA.Aq&&kL b.q0.Link.Ac)))))))) (AP (.b4 c d b.q0))))
 | .b4 e f a=>.bind 104 (eU a.Link.Df a.Link.Event a.Link.Last) (fun(d:Int×Int)=>.bind 30 (bM a.Link.Event (1:Int)) (fun(c:Int)=>.bind 3 (lX (⟨(⟨a.Link.CB,a.Link.Df,a.Link.Clock,c,d.2,a.Link.F9,a.Link.Size,a.Link.Sync,a.Link.Hm,a.Link.GU,a.Link.Ez,a.Link.Good,a.Link.EX,a.Link.More,(ZAj a.Link.Ar),a.Link.DY,(Zvy a.Link.AA),a.Link.EL,a.Link.Key,a.Link.CQ,a.Link.Hq⟩:sV)⟩:Jm)) (fun(g:Int)=>kl a.Link.AA.A8 (kl a.Link.AA.Aq (.bind 135 (Z0v a.Link.AA c) (fun(b:AZ×(List BC))=>.chk (kL a.Link.Ar.Ap&&(kL a.Link.Ac&&(kL a.Ak&&(kL a.Link.Ar.Ap&&kL a.Link.Ac)))) (AP (.b5 e b.2 (↑b.2.length:Int) (0:Int) f (⟨({ a.Link with Event:=c,Last:=d.2,F9:=(AQ (a.Link.F9+g)),Ez:=false,Good:=false,EX:=false,More:=false,AA:=b.1 }:Ad),a.Ak⟩:BQ) b.1))))))))
 | .b5 g h j f i a k=>.br (decide (f<j)) (.chk (kI f h) (.bind 138 (h[(Int.toNat f)]?) (fun(l:BC)=>.chk (kL a.Link.Ar.Ap&&(kL a.Link.Ac&&(kL a.Ak&&(kL a.Link.Ar.Ap&&kL a.Link.Ac)))) (.bind 1359 (Zm l a) (fun(c:TZ)=>.chk (kL c.q0.Link.Ar.Ap&&(kL c.q0.Link.Ac&&(kL c.q0.Ak&&(kL c.q0.Link.Ar.Ap&&kL c.q0.Link.Ac)))) (AP (.b5 g h j (AQ (f+1)) i c.q0 k))))))) (.bind 30 (Ze (WG a)) (fun(m:Int)=>.bind 140 (ZY a.Link.AA m g) (fun(e:AZ×(List AO))=>let o:=a.Link.Ac++e.2;kl a.Link.Ac (.chk (kA (a.Link.Ac.length+e.2.length) 120) (.chk (kL a.Link.Ar.Ap&&(kL o&&(kL a.Ak&&(kL a.Link.Ar.Ap&&kL o)))) (.bind 1361 (Zw g (⟨({ a.Link with AA:=e.1,Ac:=o }:Ad),a.Ak⟩:BQ)) (fun(b:MB)=>let n:=kL b.q1.Link.Ar.Ap&&(kL b.q1.Link.Ac&&(kL b.q1.Ak&&(kL b.q1.Link.Ar.Ap&&kL b.q1.Link.Ac)));.br (b.q0 != 0) (.chk n (.bind 1362 (Z09 b.q1.Link.Event b.q0 b.q1) (fun(d:UF)=>.chk (kL d.q0.Link.Ar.Ap&&(kL d.q0.Link.Ac&&(kL d.q0.Ak&&(kL d.q0.Link.Ar.Ap&&kL d.q0.Link.Ac)))) (AP (.b6 i d.q0))))) (.chk n (AP (.b6 i b.q1))))))))))
 | .b6 b a=>kl a.Link.Ar.Ap (kl a.Link.Ac (kl a.Ak (AB (a.Link,a.Ak))))
def Z1f (a:Ad) (b:Int):Option (Ad×(List Au)):=AU Z1j (.b0 a b)
def oK:Lay:=⟨[1,4,6,7],[KP,KP,KP,KP],[.var k2,.var k14,.row false,.row false,.row false,.row false,.row false,.row true],⟨[OV 3,PQ 0,PQ 1,OV 4],[VA 44 66,.var 118 67 (Xp 2),.row 68 false,.row 156 false,.row 138 false,.row 99 false,.row 156 false,.row 148 true]⟩⟩
def Z9P:Lay:=⟨[1,4,6],[KP,KP,KP],[.var k2,.var k14,.row false,.row false,.row false,.row false,.row false,.row true],⟨[OV 3,PQ 0,PQ 1],[VA 44 66,.var 118 67 (Xp 2),.row 68 false,.row 156 false,.row 138 false,.row 99 false,.row 156 false,.row 148 true]⟩⟩
def Za4:Lay:=⟨[1,4,6],[KP,KP,KP],[.var k2,.var k12,.row false,.row false,.row false,.row false,.row true],⟨[OV 3,PQ 0,PQ 1],[VA 44 66,.var 118 67 (TL 2),.row 68 false,.row 156 false,.row 138 false,.row 156 false,.row 148 true]⟩⟩
def Z9W:Lay:=⟨[1,4,6,8,162,163,164],[KP,KP,KP,KP,[.s 138 8],KP,KP],[.var k2,.var k10,.var k1,.row false,.row false,.row true],⟨[OV 3,PQ 0,PQ 1,PQ 2,OV 37,OV 3,OV 3],[VA 44 66,.var 118 67 (Lt 3),VA 39 20,.row 68 false,.row 156 false,.row 148 true]⟩⟩
def Zac:Lay:=⟨[4,6],[KP,KP],[.var k2,.var k10,.row false,.row false,.row true],⟨[PQ 0,PQ 1],[VA 44 66,.var 118 67 (Lt 2),.row 68 false,.row 156 false,.row 148 true]⟩⟩
def Zrz:bF->BH U
 | .b0 a b=>Bg f29 [44,3] (a,b,())
 | .b1 a b c d=>Ae f29 [1,1,1,1,0,0] oK (((a,()),((),((),((b,()),())))),((c,()),(TM d)))
 | .b2 a b c d=>Ae f29 [1,1,1,1,1,0,0] oK (((a,()),((),((),((b,()),())))),((c,()),(TM d)))
 | .b3 a b c=>Ae f29 [1,1,1,1,1,0,1,0] Z9P (((a,()),((),((),()))),((b,()),(TM c)))
 | .b4 a b c=>Ae f29 [1,1,1,1,1,1,0] Za4 (((a,()),((),((),()))),((b,()),(tu14 c)))
 | .b5 b c d e f a g=>Ae f29 [1,1,1,1,1,1,1,1,1,1,1,1,0,1,0,0,0] Z9W (((b,()),((),((),((),((c,()),((d,()),((e,()),()))))))),((f,()),((YD a),((g,()),(a.Link.Ar.Ap,(a.Link.Ac,(a.Ak,())))))))
 | .b6 a b=>Ae f29 [1,1,1,1,1,1,1,1,1,1,1,1,1,1,1,1,1,0] Zac (((),((),())),((a,()),(TK b)))
theorem ZrQ:AA1 29 [44,3] 78 (fun x=>Z1f x.1 x.2.1) rfl:=Bj (mc Zat (mc ZcJ (mc Z7E (mc ZpT (mc Zod (mc Z0P (mc Z6J (mc Zpb (mc ZmO (mc Zkx Ag)))))))))) (hc [] ZbZ (hc [] Z7T (hc [] Zlq (hc [] ZlW (hc [] ZmJ Af))))) (al [(5,oK),(9,oK),(10,Z9P),(11,Za4),(18,Z9W),(28,Zac)]) Zrz func29 (fun p=>by cases p<;>kernel_rfl) (by kernel_rfl) fun _=>rfl
def Z0A:S1 (Az×Unit) Bool
 | (a,_)=>.br (a.Bz==1) (AB ((↑a.Payload.length:Int)==0)) (AB false)
def Vb (a:Az):Option Bool:=AU Z0A (a,())
theorem Z0h:AA1 27 [68] 4 (fun x=>Vb x.1) rfl:=ok1 Ag Af func27 (fun _=>by kernel_rfl) (by kernel_rfl)
def Zbt:S1 (Int×Unit) Bool
 | (a,_)=>.br (a==0) (AB true) (AB (a==1))
def aP (a:Int):Option Bool:=AU Zbt (a,())
theorem ZqK:AA1 231 [3] 4 (fun x=>aP x.1) rfl:=ok1 Ag Af func231 (fun _=>by kernel_rfl) (by kernel_rfl)
end
noncomputable section
inductive Z0s where
 | b0 (a:BM)
 | b1 (a:Int) (b:BM)
 | b2 (a:Int) (b:BM)
 | b3 (a:Int)
def RS:Z0s->Tr U (Int⊕Z0s)
 | .b0 a=>let e:=AB (5:Int);.bind 4 (aP a.SN) (fun(b:Bool)=>.br (!b) e (.bind 4 (aP a.EI) (fun(c:Bool)=>.br (!c) e (.bind 4 (aP a.MD) (fun(d:Bool)=>.br (!d) e (AP (.b1 (↑a.Aw.Payload.length:Int) a)))))))
 | .b1 b a=>let c:=AB (12:Int);.br (decide (a.Aw.Bz<1)) c (.br (decide (a.Aw.Bz>3)) c (AP (.b2 b a)))
 | .b2 a b=>let c:=AP (Z0s.b3 a);.br (a==0) (.br (b.Aw.Bz != 1) (AB (1:Int)) c) c
 | .b3 a=>.br (decide (a>255)) (AB (4:Int)) (AB (0:Int))
def nY (a:BM):Option Int:=AU RS (.b0 a)
def nK:Lay:=LT [1,3] [.p 0,.v 3] [.s 70]
def Z8v:Lay:=LT [3] [.v 3] []
def ZoZ:Z0s->BH U
 | .b0 a=>Bg f153 [70] (a,())
 | .b1 a b=>AA3 f153 [1,1,0,0,1,1,0] nK (a,b,())
 | .b2 a b=>AA3 f153 [1,1,0,0,1,1,1,1,0] nK (a,b,())
 | .b3 a=>AA3 f153 [1,1,0,0,1,1,1,1,1,1,0] Z8v (a,())
theorem Z8R:AA1 153 [70] 45 (fun x=>nY x.1) rfl:=Bj (mc ZqK Ag) Af (al [(4,nK),(6,nK),(8,Z8v)]) ZoZ func153 (fun p=>by cases p<;>kernel_rfl) (by kernel_rfl) fun _=>rfl
def Zqk:S1 (BM×(List Int)×Unit) BM
 | (a,b,_)=>AB ({ a with Aw:=(⟨a.Aw.Bz,b⟩:Az) }:BM)
def oN (a:BM) (b:List Int):Option BM:=AU Zqk (a,b,())
theorem ZpH:AA1 154 [70,62] 70 (fun x=>oN x.1 x.2.1) rfl:=ok1 Ag Af func154 (fun _=>by kernel_rfl) (by kernel_rfl)
inductive Z13 where
 | b0 (a:List (List Int))
 | b1 (a:List Int) (b:List (List Int)) (c d:Int)
def aU:Z13->Tr U ((List Int)⊕Z13)
 | .b0 a=>.chk true (AP (.b1 ([]:List Int) a (↑a.length:Int) (0:Int)))
 | .b1 a c e b=>.br (decide (b<e)) (.chk (kI b c) (.bind 62 (c[(Int.toNat b)]?) (fun(d:List Int)=>kl a (.chk (kA (a.length+d.length) 1) (kl (a++d) (AP (.b1 (a++d) c e (AQ (b+1))))))))) (kl a (AB a))
def UN (a:List (List Int)):Option (List Int):=AU aU (.b0 a)
def Z9A:Lay:=LT [3,6,7,8] [.o 5 1 0,.v 256,.v 3,.v 3] [.r 5]
def Zrd:Z13->BH U
 | .b0 a=>Bg f155 [256] (a,())
 | .b1 a b c d=>AA3 f155 [1,1,0,1,0,0,0] Z9A (b,c,d,a,())
theorem aA:AA1 155 [256] 62 (fun x=>UN x.1) rfl:=Bj Ag Af (al [(3,Z9A)]) Zrd func155 (fun p=>by cases p<;>kernel_rfl) (by kernel_rfl) fun _=>rfl
def Z9l:S1 (Bq×Unit) (Int×Int)
 | (a,_)=>.br (a.CB==1) (AB ((1:Int),(0:Int))) (AB ((0:Int),(1:Int)))
def Z0y (a:Bq):Option (Int×Int):=AU Z9l (a,())
theorem ZoY:AA1 156 [41] 194 (fun x=>Z0y x.1) rfl:=ok1 Ag Af func156 (fun _=>by kernel_rfl) (by kernel_rfl)
inductive Z1i where
 | b0 (a b:List Int)
 | b1 (a b c:List Int) (d e:Int)
def bK:Z1i->Tr U ((List Int)⊕Z1i)
 | .b0 a b=>let f:=(↑a.length:Int);let e:=(↑b.length:Int);let c:=(if e<f then e else f);let d:=(List.replicate (Int.toNat c) (0:Int));.chk (decide (0<=c/\c<=c/\Int.toNat c*1<=lim/\c<=(↑maxLen:Int))) (kl d (kl d (AP (.b1 a b d (↑(d.length):Int) (0:Int)))))
 | .b1 c d b e a=>let i:=Int.toNat a;.br (decide (a<e)) (.chk (kI a c) (.bind 5 (c[i]?) (fun(f:Int)=>.chk (kI a d) (.bind 5 (d[i]?) (fun(g:Int)=>let j:=b.set i (bits .xor .u8 f g);kl b (.chk (kI a b) (.chk (b.length==b.length&&decide (0<=i)) (.bind 5 (b[i]?) (fun(h:Int)=>.chk (j.length==b.length) (AP (.b1 c d j e (AQ (a+1))))))))))))) (kl b (AB b))
def Z1r (a b:List Int):Option (List Int):=AU bK (.b0 a b)
def Za3:Lay:=LT [0,1,5,14,15] [.v 62,.v 62,.o 5 1 0,.v 3,.v 3] [.r 5]
def ZsE:Z1i->BH U
 | .b0 a b=>Bg f232 [62,62] (a,b,())
 | .b1 a b c d e=>AA3 f232 [1,1,0,1,0,0,0] Za3 (a,b,d,e,c,())
theorem Zss:AA1 232 [62,62] 62 (fun x=>Z1r x.1 x.2.1) rfl:=Bj Ag Af (al [(3,Za3)]) ZsE func232 (fun p=>by cases p<;>kernel_rfl) (by kernel_rfl) fun _=>rfl
def Z1C:S1 (Int×Int×Unit) Int
 | (b,a,_)=>.br (decide (a<=0)) (AB (0:Int)) (.br (decide (a>=64)) (AB b) (.chk (decide (0<=a)) (AB (bits .and .u64 b (IntKind.wrap .u64 ((IntKind.wrap .u64 ((1:Int)*2 ^ (min (Int.toNat a) (IntKind.bits .u64)))) - 1))))))
def RZ (a b:Int):Option Int:=AU Z1C (a,b,())
def Zc4:Ai U:=⟨[25,3],25,fun x=>RZ x.1 x.2.1,by decide⟩
theorem Zb2:AA0 379 Zc4:=ok1 Ag Af func379 (fun _=>by kernel_rfl) (by kernel_rfl)
def Z0W:S1 (Int×Unit) JX
 | (a,_)=>.bind 25 (RZ a (32:Int)) (fun(b:Int)=>AB (⟨(IntKind.wrap .u32 ((Int.fdiv a (2 ^ (32:Nat))))),(IntKind.wrap .u32 (b))⟩:JX))
def o8 (a:Int):Option JX:=AU Z0W (a,())
def Zbq:Ai U:=⟨[25],312,fun x=>o8 x.1,by decide⟩
theorem ZqY:AA0 355 Zbq:=ok1 (mc Zb2 Ag) Af func355 (fun _=>by kernel_rfl) (by kernel_rfl)
def Z63:S1 (Int×Int×Unit) Int
 | (b,a,_)=>let e:=IntKind.bits .u64;let c:=(bits .and .u64 (IntKind.wrap .u64 (a)) (63:Int));let d:=IntKind.wrap .u64 ((64:Int) - c);.chk (decide (0<=c)) (.chk (decide (0<=d)) (AB (bits .or .u64 (IntKind.wrap .u64 (b*2 ^ (min (Int.toNat c) e))) (Int.fdiv b (2 ^ (min (Int.toNat d) e))))))
def VU (a b:Int):Option Int:=AU Z63 (a,b,())
def Z6b:Ai U:=⟨[25,3],25,fun x=>VU x.1 x.2.1,by decide⟩
theorem Zjq:AA0 380 Z6b:=ok1 Ag Af func380 (fun _=>by kernel_rfl) (by kernel_rfl)
def Z5X:S1 (Int×Int×Unit) Int
 | (b,a,_)=>let e:=IntKind.bits .u32;let c:=(bits .and .u64 (IntKind.wrap .u64 (a)) (31:Int));let d:=IntKind.wrap .u64 ((32:Int) - c);.chk (decide (0<=c)) (.chk (decide (0<=d)) (AB (bits .or .u32 (IntKind.wrap .u32 (b*2 ^ (min (Int.toNat c) e))) (Int.fdiv b (2 ^ (min (Int.toNat d) e))))))
def Qz (a b:Int):Option Int:=AU Z5X (a,b,())
def Z61:Ai U:=⟨[22,3],22,fun x=>Qz x.1 x.2.1,by decide⟩
theorem Zjk:AA0 381 Z61:=ok1 Ag Af func381 (fun _=>by kernel_rfl) (by kernel_rfl)
def Z0X:S1 (Int×Int×Int×Unit) Int
 | (b,c,d,_)=>.bind 25 (VU b (Int.tmod (AQ ((11:Int)*(Int.tmod c 64))) (64:Int))) (fun(e:Int)=>.bind 25 (RZ e (32:Int)) (fun(a:Int)=>let h:=IntKind.wrap .u32 (a);.bind 22 (Qz (IntKind.wrap .u32 (d+h)) (7:Int)) (fun(f:Int)=>.bind 22 (Qz h (16:Int)) (fun(g:Int)=>AB (bits .xor .u32 (IntKind.wrap .u32 (f*2654435761)) g)))))
def aJ (a b c:Int):Option Int:=AU Z0X (a,b,c,())
def ZaR:Ai U:=⟨[29,3,22],22,fun x=>aJ x.1 x.2.1 x.2.2.1,by decide⟩
theorem ZqE:AA0 356 ZaR:=ok1 (mc Zb2 (mc Zjq (mc Zjk Ag))) Af func356 (fun _=>by kernel_rfl) (by kernel_rfl)
def mM:S1 (JX×Unit) Int
 | (a,_)=>AB (bits .or .u64 (IntKind.wrap .u64 ((IntKind.wrap .u64 (a.x0))*2 ^ (32:Nat))) (IntKind.wrap .u64 (a.x1)))
def Y2 (a:JX):Option Int:=AU mM (a,())
def Z7Q:Ai U:=⟨[312],25,fun x=>Y2 x.1,by decide⟩
theorem Zlh:AA0 357 Z7Q:=ok1 Ag Af func357 (fun _=>by kernel_rfl) (by kernel_rfl)
inductive Z20 where
 | b0 (a b:Int)
 | b1 (a b:Int) (c:JX)
def Iw:Z20->Tr U (Int⊕Z20)
 | .b0 a b=>.bind 312 (o8 b) (fun(c:JX)=>AP (.b1 a (0:Int) c))
 | .b1 c b a=>.br (decide (b<8)) (.bind 22 (aJ c b a.x1) (fun(d:Int)=>AP (.b1 c (AQ (b+1)) (⟨a.x1,(bits .xor .u32 a.x0 d)⟩:JX)))) (.bind 25 (Y2 a) (fun(e:Int)=>AB e))
def LH (a b:Int):Option Int:=AU Iw (.b0 a b)
def rF:Ai U:=⟨[29,25],25,fun x=>LH x.1 x.2.1,by decide⟩
def Z1a:Lay:=LT [0,5,9] [.v 29,.p 0,.v 3] [.s 312]
def Zck:Z20->BH U
 | .b0 a b=>Bg f322 [29,25] (a,b,())
 | .b1 a b c=>AA3 f322 [1,1,0,1,0,0,0] Z1a (a,b,c,())
theorem ZtD:AA0 322 rF:=Bj (mc ZqY (mc ZqE (mc Zlh Ag))) Af (al [(3,Z1a)]) Zck func322 (fun p=>by cases p<;>kernel_rfl) (by kernel_rfl) fun _=>rfl
def Z9S:S1 (Int×Unit) Bool
 | (a,_)=>.br (decide (a>=1)) (AB (decide (a<=8))) (AB false)
def oO (a:Int):Option Bool:=AU Z9S (a,())
theorem Z9o:AA1 321 [3] 4 (fun x=>oO x.1) rfl:=ok1 Ag Af func321 (fun _=>by kernel_rfl) (by kernel_rfl)
inductive Z1I where
 | b0 (a:List FB)
 | b1 (a:List Int) (b:List FB) (c d:Int)
 | b2 (a:List Int) (b:List FB) (c d:Int) (e:FB)
 | b3 (a:List Int) (b:List FB) (c d e f:Int) (g:FB)
def MI:Z1I->Tr U (((List Int)×Int)⊕Z1I)
 | .b0 a=>.chk true (AP (.b1 ([]:List Int) a (↑a.length:Int) (0:Int)))
 | .b1 b d e c=>let g:=Tr.chk true (AB (([]:List Int),(5:Int)));.br (decide (c<e)) (.chk (kI c d) (.bind 252 (d[(Int.toNat c)]?) (fun(a:FB)=>let i:=AQ ((8:Int)*a.Size);let h:=kl b (AP (Z1I.b2 b d e c a));.bind 4 (oO a.Size) (fun(f:Bool)=>.br (!f) g (.br (decide (a.Size<8)) (.chk (decide (0<=i)) (.br ((Int.fdiv a.Value (2 ^ (min (Int.toNat i) (IntKind.bits .u64)))) != 0) g h)) h))))) (kl b (AB (b,0)))
 | .b2 a c d e b=>kl a (AP (.b3 a c d e b.Size (0:Int) b))
 | .b3 a d e f g b c=>let i:=AQ ((8:Int)*b);let h:=a++[(IntKind.wrap .u8 ((Int.fdiv c.Value (2 ^ (min (Int.toNat i) (IntKind.bits .u64))))))];.br (decide (b<g)) (.chk (decide (0<=i)) (.chk true (kl a (.chk (kA (a.length+1) 1) (kl h (AP (.b3 h d e f g (AQ (b+1)) c))))))) (kl a (AP (.b1 a d e (AQ (f+1)))))
def bT (a:List FB):Option ((List Int)×Int):=AU MI (.b0 a)
def Z9J:Lay:=LT [4,8,9,10] [.o 5 1 0,.v 253,.v 3,.v 3] [.r 5]
def Zah:Lay:=LT [4,6,8,9,10] [.o 5 1 0,.p 1,.v 253,.v 3,.v 3] [.r 5,.s 252]
def Zad:Lay:=LT [4,6,8,9,10,33,34] [.o 5 1 0,.p 1,.v 253,.v 3,.v 3,.v 3,.v 3] [.r 5,.s 252]
def Zs2:Z1I->BH U
 | .b0 a=>Bg f230 [253] (a,())
 | .b1 a b c d=>AA3 f230 [1,1,0,1,0,0,0] Z9J (b,c,d,a,())
 | .b2 a b c d e=>AA3 f230 [1,1,0,1,0,0,1,1,0,0,1,1,0] Zah (b,c,d,a,e,())
 | .b3 a b c d e f g=>AA3 f230 [1,1,0,1,0,0,1,1,0,0,1,1,1,0,0,0] Zad (b,c,d,e,f,a,g,())
theorem ZaQ:AA1 230 [253] 120 (fun x=>bT x.1) rfl:=Bj (mc Z9o Ag) Af (al [(3,Z9J),(7,Zah),(8,Zad)]) Zs2 func230 (fun p=>by cases p<;>kernel_rfl) (by kernel_rfl) fun _=>rfl
inductive Z1Q where
 | b0 (a:List Int)
 | b1 (a:List FB) (b:List Int) (c d:Int)
def dC:Z1Q->Tr U ((List Int)⊕Z1Q)
 | .b0 a=>.chk true (AP (.b1 ([]:List FB) a (↑a.length:Int) (0:Int)))
 | .b1 a c d b=>.br (decide (b<d)) (.chk (kI b c) (.bind 25 (c[(Int.toNat b)]?) (fun(e:Int)=>let g:=a++[(⟨8,e⟩:FB)];.chk true (kl a (.chk (kA (a.length+1) 16) (kl g (AP (.b1 g c d (AQ (b+1)))))))))) (kl a (.bind 120 (bT a) (fun(f:(List Int)×Int)=>AB f.1)))
def UT (a:List Int):Option (List Int):=AU dC (.b0 a)
def ZaM:Lay:=LT [3,8,9,10] [.o 252 2 0,.v 254,.v 3,.v 3] [.r 252]
def Zu7:Z1Q->BH U
 | .b0 a=>Bg f323 [254] (a,())
 | .b1 a b c d=>AA3 f323 [1,1,0,1,0,0,0] ZaM (b,c,d,a,())
theorem Z1n:AA1 323 [254] 62 (fun x=>UT x.1) rfl:=Bj (mc ZaQ Ag) Af (al [(3,ZaM)]) Zu7 func323 (fun p=>by cases p<;>kernel_rfl) (by kernel_rfl) fun _=>rfl
inductive Z1H where
 | b0 (a b c:Int)
 | b1 (a b c:Int) (d:List Int) (e:Int)
def bI:Z1H->Tr U ((List Int)⊕Z1H)
 | .b0 b c a=>let f:=AQ (a+8);let e:=(List.replicate (Int.toNat 0) (0:Int));.bind 25 (LH b c) (fun(d:Int)=>.chk (decide (0<=(0:Int)/\(0:Int)<=f/\Int.toNat f*1<=lim/\f<=(↑maxLen:Int))) (kl e (AP (.b1 b a d e (0:Int)))))
 | .b1 d b e a f=>let j:=(↑a.length:Int);let i:=Int.toNat b;let h:=(decide (0<=b/\b<=j));kl a (.br (decide (j<b)) (.bind 25 (LH d (IntKind.wrap .u64 (e+f))) (fun(g:Int)=>.chk true (.bind 62 (UT ([g])) (fun(c:List Int)=>kl a (.chk (kA (a.length+c.length) 1) (kl (a++c) (AP (.b1 d b e (a++c) (IntKind.wrap .u64 (f+1)))))))))) (kl a (.chk h (.chk h (.chk (i==i) (kl a (AB ((a.drop 0).take (i - 0)))))))))
def Z1E (a b c:Int):Option (List Int):=AU bI (.b0 a b c)
def Zam:Lay:=LT [0,2,7,8,9] [.v 29,.v 3,.v 25,.o 5 1 0,.v 25] [.r 5]
def ZrX:Z1H->BH U
 | .b0 a b c=>Bg f233 [29,25,3] (a,b,c,())
 | .b1 a b c d e=>AA3 f233 [1,1,1,0,1,0,0,0,0] Zam (a,b,c,e,d,())
theorem Zsl:AA1 233 [29,25,3] 62 (fun x=>Z1E x.1 x.2.1 x.2.2.1) rfl:=Bj (mc ZtD (mc Z1n Ag)) Af (al [(4,Zam)]) ZrX func233 (fun p=>by cases p<;>kernel_rfl) (by kernel_rfl) fun _=>rfl
end
end Go.Proofs.YtjodhcdmhobmoaaGreatDoor
namespace Go.Proofs.YtjodhcdmhobmoaaGreatDoor
open Tryz
set_option maxRecDepth 100000
noncomputable section
attribute [local go_sem] Go.Oper.semAt_some
open Go Go.RowKit Go.Shelf
def KA (ys:List Int):Nat->Int
 | 0=>0
 | m+1=>bits .or .u64 (KA ys m) (IntKind.wrap .u64 (ys[m]?.getD 0*2 ^ (8*m)))
def Jd (xs:List Int) (k:Nat):Int:=KA ((xs.drop (8*k)).take 8) ((xs.drop (8*k)).take 8).length
def gN (xs:List Int):Nat:=(xs.length+7) / 8
theorem Zf8 {a b:Nat} (h:a<=b):List.range a <+: List.range b:=by
 obtain⟨d,rfl⟩:∃d,b=a+d:=⟨b - a,by omega⟩;rw[List.range_add];exact List.prefix_append _ _
theorem meas {L k:Nat} {a b:Int} (h:8*k<L) (q:a=8*(k:Int)) (hb:b=8*(k:Int)+8):L+8 - (intOf (.int .i64 b)).toNat<L+8 - (intOf (.int .i64 a)).toNat:=by
 subst q hb;simp only[intOf];omega
structure BytesAt (W:World) (Bm b o cap:Nat) (a:Option Addr) (xs:List Int):Prop where
 box:W.cell? ⟨Bm,0,none⟩=some (.slice a xs.length cap)
 Xw:xs≠[]->a=some ⟨b,o,none⟩
 cells:∀j (h:j<xs.length),W.cell? ⟨b,o+j,none⟩=some (.int .u8 xs[j])
 len:xs.length<=cap
 max:cap<=maxLen
 bd:∀x∈xs,0<=x/\x<256
set_option maxHeartbeats 1000000 in
theorem g1_in (F:Fence) (n:Nat) (hG1:F.fn 382) (hro:F.round=none) (hn:1<=n) (xs:List Int) (D:xs.length<=4611686018427387904) (b o cap:Nat) (a:Option Addr) (l Bm:Nat) (J Jx:List Nat->World->Prop)
  (hY:∀pre x W,J pre W->pre.length<gN xs->YieldAt F (n - 1) Tryz.prog l #[.int .u64 (Jd xs x)] W fun e W' =>
   (e = .returned (.bool true)/\J (pre++[x]) W' /\ (BytesAt W Bm b o cap a xs->BytesAt W' Bm b o cap a xs))\/(e = .returned (.bool false)/\Jx (pre++[x]) W'))
  (W:World) (hB:BytesAt W Bm b o cap a xs) (h0:J [] W) :
  CallsIn F n Tryz.prog 382 #[.func (.yield l) #[] #[],.pointer (some ⟨Bm,0,none⟩)] W fun e W' =>(∃v,e = .returned v) /\
   ((∃ys,ys=List.range (gN xs)/\J ys W')\/(∃pre,pre <+: List.range (gN xs)/\Jx pre W')):=by
 refine callsIn_of_wp func382 rfl hG1 ?_ hro;simp only[Tryz.ntmps382,List.size_toArray,List.length_cons,List.length_nil,Nat.reduceAdd,Nat.reduceSub,Array.replicate_succ,Array.replicate_zero,List.push_toArray,List.append_toArray,List.nil_append,List.cons_append]
 gi_wp2
 gi_loopw [3] (fun i wr=>∃k:Nat,k<=gN xs/\i = .int .i64 ((8*k:Nat):Int)/\J (List.range k) wr/\BytesAt wr Bm b o cap a xs)
  (fun i _=>xs.length+8 - (intOf i).toNat)
 case atStart=>exact⟨0,by omega,rfl,by simpa using h0,hB⟩
 case round=>
  obtain⟨k,hk,rfl,hJ,hb⟩:=hrel;have hbox:=hb.box
  by_cases O:8*k<xs.length
  ·have hl:=hb.len;have hne:xs≠[]:=by rintro rfl;simp at O
   obtain rfl:=hb.Xw hne;have hw:wrap64 (8*(k:Int)+8)=8*(k:Int)+8:=by unfold wrap64;omega
   have c1:(8*(k:Int)<xs.length):=by omega
   have c2:(0<=8*(k:Int)+8):=by omega
   have c3:(0<=8*(k:Int)):=by omega
   have c4:(8*(k:Int)<=8*(k:Int)+8):=by omega
   have c5:((xs.length:Int)<=cap):=by omega
   by_cases h8:8*k+8<=xs.length
   ·have d1:¬((xs.length:Int)<8*(k:Int)+8):=by omega
    have d2:(8*(k:Int)+8<=cap):=by omega
    have d3:(8*(k:Int)+8).toNat=8*k+8:=by omega
    have HL:=Lib.hid hl;have HE:=Lib.hid D;have S:=Lib.hid O;have HK:=Lib.hid hk;have Y:=Lib.hid h8;clear hl hne O hk h8 D
    gi_wp2
    gi_loopw [4,22] (fun acc j wi=>∃m:Nat,m<=8/\j = .int .i64 (m:Int)/\acc = .int .u64 (KA ((xs.drop (8*k)).take 8) m)/\J (List.range k) wi/\BytesAt wi Bm b o cap (some ⟨b,o,none⟩) xs)
     (fun _ j _=>8 - (intOf j).toNat)
    case atStart=>exact⟨0,by omega,rfl,rfl,hJ,hb⟩
    case round=>
     obtain⟨m,hm,rfl,rfl,G,A⟩:=hrel;have hb2b:=A.box
     by_cases hm8:m<8
     ·have e1:((m:Int)<8):=by omega
      have e2:(0<=(m:Int)):=by omega
      have e3:m<8:=hm8;have hj:8*k+m<xs.length:=by have:=Y.out;omega
      have hcell:wr.cell? ⟨b,o+8*k+m,none⟩=some (.int .u8 xs[8*k+m]):=by rw[Nat.add_assoc];exact A.cells _ hj
      obtain⟨bd1,bd2⟩:=A.bd _ (List.getElem_mem hj);have e4:IntKind.wrap .u64 xs[8*k+m]=xs[8*k+m]:=by simp only[IntKind.wrap,IntKind.signed,IntKind.bits,Bool.false_and,Bool.false_eq_true,if_false];omega
      have e5:wrap64 (8*(m:Int))=8*(m:Int):=by unfold wrap64;omega
      clear hm;have M:KA ((xs.drop (8*k)).take 8) (m+1)=bits .or .u64 (KA ((xs.drop (8*k)).take 8) m) (IntKind.wrap .u64 (xs[8*k+m]*2 ^ (8*m))):=by
       simp only[KA];rw[List.getElem?_take,if_pos hm8,List.getElem?_drop,List.getElem?_eq_getElem hj];rfl
      have HG:=Lib.hid M;clear M
      gi_wp2
      go_roundw
      case rel=>exact⟨m+1,by omega,by go_num,by rw[HG.out],G,A⟩
      case measure=>simp[intOf];omega
     ·obtain rfl:m=8:=by omega
      have hb3:=A;obtain⟨fn,tmps,Q,body,hy,hR⟩:=hY (List.range k) k wr G (by have:=Y.out;simp[gN];omega);have hg:KA ((xs.drop (8*k)).take 8) 8=Jd xs k:=by
       have:=Y.out;unfold Jd;rw[show ((xs.drop (8*k)).take 8).length=8 by simp;omega]
      have z:List.range k++[k]=List.range (k+1):=List.range_succ.symm;have C:List.range (k+1) <+: List.range (gN xs):=Zf8 (by have:=S.out;unfold gN;omega);rw[z]at hR;have HS:=Lib.hid z;have HP:=Lib.hid C;clear z C
      gi_wp2
      refine hR.mono ?_
      rintro e W3 (⟨rfl,hJ3,N⟩|⟨rfl,I⟩)
      ·have hb4:=N hb3;clear N
       gi_wp2
       go_roundw
       case rel=>exact⟨k+1,by have:=S.out;unfold gN;omega,by simp only[Value.int.injEq,true_and];omega,hJ3,hb4⟩
       case measure=>exact meas (by have:=S.out;omega) (by omega) (by omega)
      ·gi_wp2
       refine bodyPost_ret (results_none rfl _ _ _) rfl ?_;exact⟨⟨_,rfl⟩,.inr ⟨_,HP.out,I⟩⟩
   ·have d1:((xs.length:Int)<8*(k:Int)+8):=by omega
    have d2:(8*(k:Int)<=xs.length):=by omega
    obtain⟨q,hq⟩:∃q,xs.length - 8*k=q:=⟨_,rfl⟩;have d3:(0<=(xs.length:Int)):=by omega
    have HQ:=Lib.hid hq;have HL:=Lib.hid hl;have HE:=Lib.hid D;have S:=Lib.hid O;have HK:=Lib.hid hk;have Y:=Lib.hid h8;clear hl hne O hk h8 D
    gi_wp2
    gi_loopw [4,22] (fun acc j wi=>∃m:Nat,m<=q/\j = .int .i64 (m:Int)/\acc = .int .u64 (KA ((xs.drop (8*k)).take 8) m)/\J (List.range k) wi/\BytesAt wi Bm b o cap (some ⟨b,o,none⟩) xs)
     (fun _ j _=>q - (intOf j).toNat)
    case atStart=>exact⟨0,by omega,rfl,rfl,hJ,hb⟩
    case round=>
     obtain⟨m,hm,rfl,rfl,G,A⟩:=hrel;have hb2b:=A.box
     by_cases hm8:m<q
     ·have e1:((m:Int)<q):=by omega
      have e2:(0<=(m:Int)):=by omega
      have e3:m<xs.length - 8*k:=by have:=HQ.out;omega
      have hj:8*k+m<xs.length:=by have:=HQ.out;omega
      have hcell:wr.cell? ⟨b,o+8*k+m,none⟩=some (.int .u8 xs[8*k+m]):=by rw[Nat.add_assoc];exact A.cells _ hj
      obtain⟨bd1,bd2⟩:=A.bd _ (List.getElem_mem hj);have e4:IntKind.wrap .u64 xs[8*k+m]=xs[8*k+m]:=by simp only[IntKind.wrap,IntKind.signed,IntKind.bits,Bool.false_and,Bool.false_eq_true,if_false];omega
      have e5:wrap64 (8*(m:Int))=8*(m:Int):=by have:=HQ.out;have:=Y.out;unfold wrap64;omega
      clear hm;have M:KA ((xs.drop (8*k)).take 8) (m+1)=bits .or .u64 (KA ((xs.drop (8*k)).take 8) m) (IntKind.wrap .u64 (xs[8*k+m]*2 ^ (8*m))):=by
       simp only[KA];rw[List.getElem?_take,if_pos (by have:=HQ.out;have:=Y.out;omega),List.getElem?_drop,List.getElem?_eq_getElem hj];rfl
      have HG:=Lib.hid M;clear M
      gi_wp2
      go_roundw
      case rel=>exact⟨m+1,by omega,by go_num,by rw[HG.out],G,A⟩
      case measure=>simp[intOf];omega
     ·obtain rfl:m=q:=by omega
      have hb3:=A;obtain⟨fn,tmps,Q,body,hy,hR⟩:=hY (List.range k) k wr G (by have:=S.out;simp[gN];omega);have hg:KA ((xs.drop (8*k)).take 8) m=Jd xs k:=by
       have:=Y.out;unfold Jd;rw[show ((xs.drop (8*k)).take 8).length=m by have:=HQ.out;simp only[List.length_take,List.length_drop];omega]
      have z:List.range k++[k]=List.range (k+1):=List.range_succ.symm;have C:List.range (k+1) <+: List.range (gN xs):=Zf8 (by have:=S.out;unfold gN;omega);rw[z]at hR;have HS:=Lib.hid z;have HP:=Lib.hid C;clear z C
      gi_wp2
      refine hR.mono ?_
      rintro e W3 (⟨rfl,hJ3,N⟩|⟨rfl,I⟩)
      ·have hb4:=N hb3;clear N
       gi_wp2
       go_roundw
       case rel=>exact⟨k+1,by have:=S.out;unfold gN;omega,by simp only[Value.int.injEq,true_and];omega,hJ3,hb4⟩
       case measure=>exact meas (by have:=S.out;omega) (by omega) (by omega)
      ·gi_wp2
       refine bodyPost_ret (results_none rfl _ _ _) rfl ?_;exact⟨⟨_,rfl⟩,.inr ⟨_,HP.out,I⟩⟩
  ·have hkk:k<=(xs.length+7) / 8:=hk;have hdone:k=gN xs:=by unfold gN;omega
   rw[hdone]at hJ;have c1:¬(8*(k:Int)<xs.length):=by omega
   gi_wp2
   go_end0
   exact⟨⟨_,rfl⟩,.inl hJ⟩
def Xc (q:Int->Int->Option Int) (k:Int) (xs:List Int):Option Int:=
 if xs.length<=4611686018427387904 then (q k xs.length).bind fun s=>(List.range (gN xs)).foldlM (fun s g=>q k (bits .xor .u64 s (Jd xs g))) s else none
def yF (F:Fence) (q:Int->Int->Option Int):Prop:=∀k s r,(Lit.int .u64 k).wf=true->(Lit.int .u64 s).wf=true->q k s=some r->(Lit.int .u64 r).wf=true /\
 ∀n w,CallsIn F n Tryz.prog 322 #[.int .u64 k,.int .u64 s] w fun e w' =>e = .returned (.int .u64 r)/\Below w.heap.size w w'
structure NS (W:World) (b o cap:Nat) (a:Option Addr) (xs:List Int):Prop where
 Xw:xs≠[]->a=some ⟨b,o,none⟩
 cells:∀j (h:j<xs.length),W.cell? ⟨b,o+j,none⟩=some (.int .u8 xs[j])
 len:xs.length<=cap
 max:cap<=maxLen
 bd:∀x∈xs,0<=x/\x<256
theorem NS.below {W q : World} {n b o cap:Nat} {a:Option Addr} {xs:List Int} (h:NS W b o cap a xs) (hb:Below n W q) (hn:W.heap.size<=n\/b<n):NS q b o cap a xs:=
 ⟨h.Xw,fun j z=>(hb.cell (p:=⟨b,o+j,none⟩) (by
  rcases hn with hn|hn
  ·exact Nat.lt_of_lt_of_le (by have:=h.cells j z;unfold World.cell? at this;split at this<;>first|exact(Array.getElem?_eq_some_iff.1 ‹_›).1|cases this) hn
  ·exact hn)).trans (h.cells j z),h.len,h.max,h.bd⟩
theorem BytesAt.of {W:World} {Bm b o cap:Nat} {a:Option Addr} {xs:List Int} (h:NS W b o cap a xs) (hb:W.cell? ⟨Bm,0,none⟩=some (.slice a xs.length cap)):BytesAt W Bm b o cap a xs:=⟨hb,h.Xw,h.cells,h.len,h.max,h.bd⟩
theorem BytesAt.row {W:World} {Bm b o cap:Nat} {a:Option Addr} {xs:List Int} (h:BytesAt W Bm b o cap a xs):NS W b o cap a xs:=⟨h.Xw,h.cells,h.len,h.max,h.bd⟩
theorem NS.same {W q : World} {b o cap:Nat} {a:Option Addr} {xs:List Int} (h:NS W b o cap a xs) (hb:xs≠[]->q.heap[b]? = W.heap[b]?):NS q b o cap a xs:=
 ⟨h.Xw,fun j z=>(World.cell?_of_block (hb (by rintro rfl;cases z))).trans (h.cells j z),h.len,h.max,h.bd⟩
theorem NS.lt {W:World} {b o cap:Nat} {a:Option Addr} {xs:List Int} (h:NS W b o cap a xs) (q:xs≠[]):b<W.heap.size:=by
 have:=h.cells 0 (List.length_pos_iff.2 q);unfold World.cell? at this;split at this<;>first|exact(Array.getElem?_eq_some_iff.1 ‹_›).1|cases this
structure kP (k:Int) (w:World) (n5:Nat) (s:Int) (W:World):Prop where
 key:Boxed W w.heap.size 29 (.int .u64 k)
 st:Boxed W n5 25 (.int .u64 s)
 below:Below w.heap.size w W
theorem Zet {W q : World} {row:Option Nat} {B B0:Nat} {t:TypeId} {v:Value} (h:Boxed W B t v) (A:W.grownBy q row) (C:∀r,row=some r->B0<=r/\∃o:Obj,W.heap[r]? = some o/\o.isCells=false):Boxed q B t v:=by
 refine h.kept A ?_;intro e;obtain⟨_,o,z,hc⟩:=C B e.symm;rw[show W.heap[B]? = _ from h]at z;cases z;cases hc
theorem kP.own {k:Int} {w:World} {n5:Nat} {s:Int} {W W' : World} {row:Option Nat} {B0:Nat} (A:w.heap.size<=B0) (h:kP k w n5 s W) (q:W.grownBy W' row) (z:∀r,row=some r->B0<=r/\∃o:Obj,W.heap[r]? = some o/\o.isCells=false):kP k w n5 s W' :=
 ⟨Zet h.key q z,Zet h.st q z,h.below.grown q h.below.size (fun k e=>Nat.le_trans A (z k e).1)⟩
theorem wf_x (a b:Int):(Lit.int .u64 (bits .xor .u64 a b)).wf=true:=by
 have:=bits_within .xor .u64 a b;simp only[Lit.wf,Bool.and_eq_true,decide_eq_true_eq];exact this
theorem ZBZ (F:Fence) (n:Nat) (z:F.fn 358) (q:F.round=none) (a:Option Addr) (l c:Nat) (w:World) :
  CallsIn F n Tryz.prog 358 #[.slice a l c] w fun e w' =>e = .returned (.func (.func 382) #[] #[.pointer (some ⟨w.heap.size,0,none⟩)])/\w' = w.alloc (.cells #[.slice a l c] 62):=by
 refine callsIn_of_wp func358 rfl z ?_ q;simp only[Tryz.ntmps358,List.size_toArray,List.length_cons,List.length_nil,Nat.reduceAdd,Nat.reduceSub,Array.replicate_succ,Array.replicate_zero,List.push_toArray,List.append_toArray,List.nil_append,List.cons_append]
 gi_wp2
 go_ret
 exact⟨rfl,rfl⟩
set_option maxHeartbeats 2000000 in
theorem ZHY (F:Fence) (hMIX:F.fn 322) (hG:F.fn 358) (hG1:F.fn 382) (hSELF:F.fn 324) (hro:F.round=none) (mx:Int->Int->Option Int) (hM:yF F mx) (hT:∀k s,(Lit.int .u64 s).wf=true->∃r,mx k s=some r) (n:Nat) (hn:3<=n) (k:Int) (xs:List Int) (r:Int) (hk:(Lit.int .u64 k).wf=true) (M:Xc mx k xs=some r) (b o cap:Nat) (a:Option Addr) (w:World) (hB:NS w b o cap a xs) :
  CallsIn F n Tryz.prog 324 #[.int .u64 k,.slice a xs.length cap] w fun e W' =>e = .returned (.int .u64 r)/\Below w.heap.size w W' :=by
 unfold Xc at M;split at M
 ·rename_i Q;cases h0:mx k xs.length with
  | none=>rw[h0]at M;cases M
  | some s0=>
   rw[h0]at M;change (List.range (gN xs)).foldlM (fun s g=>mx k (bits .xor .u64 s (Jd xs g))) s0=some r at M;have hlw:(Lit.int .u64 (xs.length:Int)).wf=true:=by simp[Lit.wf,IntKind.min,IntKind.max,IntKind.signed,IntKind.bits];omega
   obtain⟨hs0,hC⟩:=hM k xs.length s0 hk hlw h0;have h1:1<=n:=by omega
   refine callsIn_of_wp_marks func324 rfl hSELF ?_ hro;simp only[Tryz.ntmps324,List.size_toArray,List.length_cons,List.length_nil,Nat.reduceAdd,Nat.reduceSub,Array.replicate_succ,Array.replicate_zero,List.push_toArray,List.append_toArray,List.nil_append,List.cons_append];have hcv:IntKind.wrap .u64 (xs.length:Int)=xs.length:=by simp only[IntKind.wrap,IntKind.signed,IntKind.bits,Bool.false_and,Bool.false_eq_true,if_false];omega
   have HR:=Lib.hid M;have HS:=Lib.hid hs0;have HL:=Lib.hid Q;clear M hs0 Q
   gi_wp2_with (gi_at_call 322;refine(hC (n - 1) _).mono ?_;rintro e q ⟨rfl,hb1⟩)
   gi_wp2_with (gi_at_call 358;refine(ZBZ F (n - 1) hG hro _ _ _ _).mono ?_;rintro e w2 ⟨rfl,rfl⟩)
   have hb1' : w.heap.size<q.heap.size:=by have:=hb1.size;simp at this;omega
   obtain⟨W0,O⟩:∃W0,(q.alloc (Obj.cells #[Value.int IntKind.u64 s0] 25)).alloc (Obj.cells #[Value.slice a xs.length cap] 62)=W0:=⟨_,rfl⟩;have hk1:Boxed q w.heap.size 29 (.int .u64 k):=(hb1.block _ (by simp)).trans (Boxed.new w 29 _);have hI0:kP k w q.heap.size s0 W0:=by
    rw[<- O];refine⟨(hk1.alloc _).alloc _,(Boxed.new q 25 (.int .u64 s0)).alloc _,?_⟩;exact(((((Below.refl _ w).alloc (Nat.le_refl _) _).trans (hb1.mono (by simp))).alloc (Nat.le_of_lt hb1') _).alloc (by simp;omega) _)
   have C:BytesAt W0 (q.heap.size+1) b o cap a xs:=by
    refine BytesAt.of (hB.below hI0.below (.inl (Nat.le_refl _))) ?_;rw[<- O];simp
   have hs0' : W0.heap.size=q.heap.size+2:=by rw[<- O];simp
   rw[O];have HB:=Lib.hid C;clear O hk1;refine wpIn_rangeFunc_ownG hro h1 (gf:=382) (lb:=#[.pointer (some ⟨q.heap.size+1,0,none⟩)]) rfl hG1 (enters_of func382 (by kernel_rfl) rfl) (α:=Nat) (encs:=fun x=>#[Value.int .u64 (Jd xs x)])
    (Kp:=fun A B=>BytesAt A (q.heap.size+1) b o cap a xs->BytesAt B (q.heap.size+1) b o cap a xs) (S:=fun ys=>ys=List.range (gN xs)) (Sp:=fun pre=>pre <+: List.range (gN xs)) (N:=gN xs) (w0:=W0)
    (fun l J Jx W hW _ _ hY hJ=>g1_in F (n - 1) hG1 hro (by omega) xs HL.out b o cap a l (q.heap.size+1) J Jx (fun pre x W1 h1 h2=>hY pre x W1 h1 h2)
     W (BytesAt.of (C.row.below hW (.inl (Nat.le_refl _))) ((hW.cell (p:=⟨q.heap.size+1,0,none⟩) (by simp;omega)).trans C.box)) hJ)
    (fun h k=>fun x=>k (h x))
    (fun W l o o' hl ho hc _ I=>BytesAt.of (I.row.same fun hx=>World.putObj_heap_other (by have:=C.row.lt hx;omega)) ((World.cell?_of_block (World.putObj_heap_other (by simp only;omega))).trans I.box))
    (Below.refl _ _) (fun _=>rfl)
    (fun pre W=>∃s,pre.foldlM (fun s g=>mx k (bits .xor .u64 s (Jd xs g))) s0=some s/\(Lit.int .u64 s).wf=true/\kP k w q.heap.size s W)
    (fun _ _ _=>False)
    (fun p A B row hs hg M=>by obtain⟨s,q1,q2,q3⟩:=hs;exact⟨s,q1,q2,q3.own (by omega) hg M⟩)
    (fun c p A B row hs hg M=>hs)
    ⟨s0,rfl,HS.out,hI0⟩
    (fun x=>{ tmps:=#[.int .u64 k,.slice a xs.length cap,.pointer (some ⟨w.heap.size,0,none⟩),undef,.int .u64 0,.pointer (some ⟨q.heap.size,0,none⟩),.int .u64 (Jd xs x),.int .u64 k,.slice a xs.length cap,.int .i64 xs.length,.int .u64 xs.length,.int .u64 s0,.slice a xs.length cap,.func (.func 382) #[] #[.pointer (some ⟨q.heap.size+1,0,none⟩)],.int .u64 (Jd xs x),undef,undef,undef,undef,undef,undef],defers:=[] }) ?assign ?body ?done ?stop
   case assign=>
    intro l x W K hK
    gi_wp2
    exact hK
   case body=>
    rintro l pre x W ⟨s,q1,q2,G⟩ Q
    obtain⟨r',hr'⟩:=hT k (bits .xor .u64 s (Jd xs x)) (wf_x _ _);obtain⟨hw',hC'⟩:=hM k _ r' hk (wf_x _ _) hr';have hc0:=G.key.cell;have hc1:=G.st.cell;have hf1:=G.st.frozen;have hMIXl:(F.inRound l).fn 322:=hMIX;have h3:1<=n - 1 - 1:=by omega
    gi_wp2_with (gi_at_call 322;refine(CallsIn.inRound l (hC' (n - 1 - 1 - 1) _)).mono ?_;rintro e W2 ⟨rfl,z⟩;have Y:Boxed W2 q.heap.size 25 (.int .u64 s):=(z.block _ G.st.lt).trans G.st;have hky2:Boxed W2 w.heap.size 29 (.int .u64 k):=(z.block _ G.key.lt).trans G.key;have hc2:=Y.cell;have hf2:=Y.frozen;clear hc0 hc1 hf1)
    refine⟨KeepsFrom.trans ⟨z.size,fun j o _ hj _=>(z.block _ (Array.getElem?_eq_some_iff.1 hj).1).trans hj⟩ (KeepsFrom.of_grownBy (grownBy_setCell' W2 _ _) (fun j e=>by cases e;omega)),fun I=>?_,r',?_,hw',?_⟩
    ·refine BytesAt.of ((I.row.below z (.inl (Nat.le_refl _))).same fun hx=>Below.heap_setCell _ _ _ _ (by have:=hB.lt hx;simp only;omega)) ?_;have hbm:q.heap.size+1<W.heap.size:=by
      have:=I.box;unfold World.cell? at this;split at this<;>first|exact(Array.getElem?_eq_some_iff.1 ‹_›).1|cases this
     exact(World.cell?_of_block (Below.heap_setCell _ _ _ _ (by simp only;omega))).trans ((z.cell (p:=⟨q.heap.size+1,0,none⟩) hbm).trans I.box)
    ·simp only[List.foldlM_append,q1,List.foldlM_cons,List.foldlM_nil,Option.bind_eq_bind,Option.bind_some,hr',Option.pure_def]
    ·exact⟨(Below.heap_setCell _ _ _ _ (by simp only;omega)).trans hky2,Y.set _,(G.below.trans (z.mono G.below.size)).setCell (p:=⟨q.heap.size,0,none⟩) (Nat.le_of_lt hb1') _⟩
   case done=>
    rintro D ys W hD rfl ⟨s,q1,q2,G⟩ hK
    have hsr:s=r:=Option.some.inj (q1.symm.trans HR.out);subst hsr;have hc1:=G.st.cell;have hf1:=G.st.frozen
    gi_wp2
    refine⟨by simp,.inl ⟨_,_,rfl,run_takeDeferred hK,?_⟩⟩;refine⟨.int .u64 s,?_,?_,?_⟩
    ·simp[results,f324,go_sem]
    ·rfl
    ·exact G.below.trans (belowK_b (w:=w) (Nat.le_refl _) _ D _ _ (by omega) hK rfl rfl)
   case stop=>
    rintro D c pre W hD hp hf hK
    exact hf.elim
 ·cases M
open Go.Proofs.YtjodhcdmhobmoaaGreatDoor.Le
theorem ZyQ {σ:Sg} {w:World}:∀{xs:List Int} {us:List Value},AV σ w (xs.map fun x=>V.lit (.int .u8 x)) us->us=xs.map (fun x=>Value.int .u8 x)/\∀x∈xs,0<=x/\x<256:=by
 intro xs;induction xs with
 | nil=>intro us h;cases h.Fj;exact⟨rfl,by simp⟩
 | cons x xs D=>
  intro us h;obtain⟨v,vs,rfl,q,z⟩:=h.EP;obtain⟨A,C⟩:=D z;cases q with
  | lit hl _=>
   refine⟨by rw[A];rfl,fun y hy=>?_⟩;rcases List.mem_cons.1 hy with rfl|hy
   ·simp[leaf,Lit.wf,IntKind.min,IntKind.max,IntKind.signed,IntKind.bits]at hl;omega
   ·exact C y hy
theorem row_of {σ:Sg} {w:World} {xs:List Int} {v:Value} (h:AV σ w [.sl false 1 (xs.map fun x=>V.lit (.int .u8 x))] [v]):∃a b o cap,v = .slice a xs.length cap/\NS w b o cap a xs:=by
 generalize q:(xs.map fun x=>V.lit (.int .u8 x))=es at h;cases h with
 | Ew _=>
  have:xs=[]:=by simpa using q
  subst this;exact⟨none,0,0,0,rfl,⟨fun h=>absurd rfl h,fun j z=>(by cases z),Nat.le_refl _,Nat.zero_le _,by simp⟩⟩
 | GL a _=>
  have:xs=[]:=by simpa using q
  subst this;exact⟨_,0,0,_,rfl,⟨fun h=>absurd rfl h,fun j z=>(by cases z),Nat.zero_le _,by first|exact Nat.zero_le _|assumption,by simp⟩⟩
 | sl b o c e C J M N D F G _=>
  subst q;obtain⟨rfl,A⟩:=ZyQ C;refine⟨_,b,o,c,by rw[List.length_map],⟨fun _=>rfl,fun j z=>?_,by simpa using D,F,A⟩⟩;refine(G j (.int .u8 xs[j]) ?_).2;have:∀l:List Int,flat (l.map fun x=>Value.int .u8 x)=l.map fun x=>Value.int .u8 x:=by
   intro l;induction l with
   | nil=>rfl
   | cons y l I=>rw[List.map_cons,L9,I];rfl
  rw[this,List.getElem?_map,List.getElem?_eq_getElem z];rfl
theorem ZhP (n:Int):0<=IntKind.wrap .u64 n:=by simp only[IntKind.wrap,IntKind.signed,IntKind.bits,Bool.false_and,Bool.false_eq_true,if_false];omega
theorem Zh2 (a b:Int):0<=bits .and .u64 a b:=(bits_within .and .u64 a b).1
theorem ZEv (a b:Int):∃r,VU a b=some r:=⟨_,(Aj _ _).trans (by simp only[Z63,Tr.den,IL,ZhP,Zh2,decide_true,cond_true];rfl)⟩
theorem ZgN (a b:Int):∃r,Qz a b=some r:=⟨_,(Aj _ _).trans (by simp only[Z5X,Tr.den,IL,ZhP,Zh2,decide_true,cond_true];rfl)⟩
theorem Zhn (a:Int):∃r,RZ a 32=some r:=⟨_,(Aj _ _).trans (by simp[Z1C,Tr.den,IL];rfl)⟩
theorem ZDZ (a:Int):∃r,o8 a=some r:=by
 obtain⟨x,q⟩:=Zhn a;exact⟨_,(Aj _ _).trans (by simp only[Z0W,Tr.den,IL,q,Option.bind_some];rfl)⟩
theorem Zi1 (a:JX):∃r,Y2 a=some r:=⟨_,(Aj _ _).trans (by simp only[mM,Tr.den,IL];rfl)⟩
theorem ZED (a b c:Int):∃r,aJ a b c=some r:=by
 obtain⟨x1,z⟩:=ZEv a (Int.tmod (AQ ((11:Int)*(Int.tmod b (64:Int)))) (64:Int));obtain⟨q,A⟩:=Zhn x1;obtain⟨F,C⟩:=ZgN (IntKind.wrap .u32 (c+(IntKind.wrap .u32 (q)))) 7;obtain⟨G,D⟩:=ZgN (IntKind.wrap .u32 (q)) 16;exact⟨_,(Aj _ _).trans (by simp only[Z0X,Tr.den,IL,z,A,C,D,Option.bind_some];rfl)⟩
theorem ZHX (k:Int):∀(n:Nat) (i:Int) (h:JX),0<=i->8 - i<=n->∃r,AU Iw (.b1 k i h)=some r:=by
 intro n;induction n with
 | zero=>
  intro i h z A;obtain⟨r,q⟩:=Zi1 h;have:decide (i<(8:Int))=false:=by simp;omega
  exact⟨r,(Aj _ _).trans (by simp only[Iw,Tr.den,IL,this,cond_false,q,Option.bind_some])⟩
 | succ n G=>
  intro i h z A
  by_cases C:i<8
  ·obtain⟨x,F⟩:=ZED k i h.x1;have D:AQ (i+1)=i+1:=by simp[AQ,IntKind.wrap,IntKind.signed,IntKind.bits];split<;>omega
   obtain⟨r,q⟩:=G (i+1) ⟨h.x1,bits .xor .u32 h.x0 x⟩ (by omega) (by omega);have:decide (i<(8:Int))=true:=by simp[C]
   exact⟨r,(Aj _ _).trans (by simp only[Iw,Tr.den,IL,this,cond_true,F,Option.bind_some,D,q])⟩
  ·obtain⟨r,q⟩:=Zi1 h;have:decide (i<(8:Int))=false:=by simp;omega
   exact⟨r,(Aj _ _).trans (by simp only[Iw,Tr.den,IL,this,cond_false,q,Option.bind_some])⟩
theorem Zia (k s:Int):∃r,LH k s=some r:=by
 obtain⟨x,z⟩:=ZDZ s;obtain⟨r,q⟩:=ZHX k 8 0 x (by omega) (by omega);exact⟨r,(Aj _ _).trans (by simp only[Iw,Tr.den,IL,z,Option.bind_some,q])⟩
def Xz:Nat->Option (List V):=fun _=>none
def BZ:Env:=EV (U:=U) Tryz.prog Xz 0 (fun _=>none) noH IU
abbrev VL:={ms:FuncId->Option (Ai U) // ∀g m,ms g=some m->Ah Tryz.prog BZ g m}
abbrev lG:={hs:FuncId->List FuncId->Option (HMod U) // ∀g k m,hs g k=some m->Cf Tryz.prog BZ g m}
def VH:VL:=⟨fun _=>none,fun _ _ h=>nomatch h⟩
def VB:lG:=⟨fun _ _=>none,fun _ _ _ h=>nomatch h⟩
def VR {f:FuncId} {m:Ai U} (h:Ah Tryz.prog BZ f m) (s:VL):VL:=⟨fun g=>bif Nat.beq g f then some m else s.1 g,fun g q e=>by
 cases hb:Nat.beq g f with
 | true=>dsimp only at e;rw[hb]at e;cases e;exact(Nat.eq_of_beq_eq_true hb)▸h
 | false=>dsimp only at e;rw[hb]at e;exact s.2 g q e⟩
abbrev Z4U (f:FuncId) (fn:Func) (ms:VL) (hs:lG) (A:Nat->Option Lay) (rt:Nat) {z:Type} (T:z->Tr U (U.Ty rt⊕z)) (q:z->BH U):Prop:=
 ∀p,Le.Em (EV Tryz.prog Xz f ms.1 hs.1 IU) (Qj ms.1 hs.1 IU.tab) A f fn 0 (XQ (EV Tryz.prog Xz f ms.1 hs.1 IU) fn) 1000 (.run (q p).c) (q p).K (q p).st (q p).sk=(T p).map (SI (kJ (U:=U) rt) q)
theorem okPz {f:FuncId} {fn:Func} {ms:VL} {hs:lG} {A:Nat->Option Lay} {m:Ai U} {q:Type} {T:q->Tr U (U.Ty m.rt⊕q)} {D:q->BH U} (h:Z4U f fn ms hs A m.rt T D) (b0:Fa U m.ts->q)
  (hc:Eo (EV Tryz.prog Xz f ms.1 hs.1 IU) f (Ig fn)=true) (z:Tryz.prog.funcs[f]? = some fn) (F:(fn.name == "runtime.NumGoroutine")=false) (hb:fn.body=some (Ig fn))
  (hm:∀x,m.fn x=AU T (b0 x)) (C:∀x,D (b0 x)=Bg fn m.ts x):Ah Tryz.prog BZ f m:=
 Z3N rfl (wK _ rfl) Qe ms.2 hs.2 z F hb hc m T D h b0 hm C
theorem okQz {f rt:Nat} {ts:List Nat} {hk:∀t∈ts,t∈U.keys} {fn:Func} {q:Type} {T:q->Tr U (U.Ty rt⊕q)} {b0:Fa U ts->q} (ms:VL) (hs:lG) (A:Nat->Option Lay) (D:q->BH U) (z:Tryz.prog.funcs[f]? = some fn) (h:Z4U f fn ms hs A rt T D)
  (hc:(Eo (EV Tryz.prog Xz f ms.1 hs.1 IU) f (Ig fn),fn.name == "runtime.NumGoroutine",fn.body)=(true,false,some (Ig fn))) (C:∀x,D (b0 x)=Bg fn ts x):Ah Tryz.prog BZ f ⟨ts,rt,fun x=>AU T (b0 x),hk⟩:=
 okPz (m:=⟨ts,rt,fun x=>AU T (b0 x),hk⟩) h b0 (congrArg (·.1) hc) z (congrArg (·.2.1) hc) (congrArg (·.2.2) hc) (fun _=>rfl) C
theorem Xe {f rt:Nat} {ts:List Nat} {hk:∀t∈ts,t∈U.keys} {fn:Func} {T:Fa U ts->Tr U (U.Ty rt⊕Fa U ts)} (ms:VL) (hs:lG) (q:Tryz.prog.funcs[f]? = some fn) (h:Z4U f fn ms hs AN rt T (Bg fn ts))
  (hc:(Eo (EV Tryz.prog Xz f ms.1 hs.1 IU) f (Ig fn),fn.name == "runtime.NumGoroutine",fn.body)=(true,false,some (Ig fn))):Ah Tryz.prog BZ f ⟨ts,rt,fun x=>AU T x,hk⟩:=
 okQz (b0:=fun x=>x) ms hs AN (Bg fn ts) q h hc fun _=>rfl
theorem Z9T:Ah Tryz.prog BZ 379 Zc4:=Xe VH VB func379 (fun _=>by kernel_rfl) (by kernel_rfl)
theorem Zpn:Ah Tryz.prog BZ 355 Zbq:=Xe (VR Z9T VH) VB func355 (fun _=>by kernel_rfl) (by kernel_rfl)
theorem Zjf:Ah Tryz.prog BZ 380 Z6b:=Xe VH VB func380 (fun _=>by kernel_rfl) (by kernel_rfl)
theorem Zj9:Ah Tryz.prog BZ 381 Z61:=Xe VH VB func381 (fun _=>by kernel_rfl) (by kernel_rfl)
theorem ZpP:Ah Tryz.prog BZ 356 ZaR:=Xe (VR Z9T (VR Zjf (VR Zj9 VH))) VB func356 (fun _=>by kernel_rfl) (by kernel_rfl)
theorem ZkS:Ah Tryz.prog BZ 357 Z7Q:=Xe VH VB func357 (fun _=>by kernel_rfl) (by kernel_rfl)
theorem ZsC:Ah Tryz.prog BZ 322 rF:=okQz (VR Zpn (VR ZpP (VR ZkS VH))) VB (al [(3,Z1a)]) Zck func322 (fun p=>by cases p<;>kernel_rfl) (by kernel_rfl) fun _=>rfl
theorem Zh0 (ok:Ah Tryz.prog BZ 322 rF):yF Fence.wide LH:=by
 intro k s r hk hs A;have key:∀w,Calls Tryz.prog 322 #[.int .u64 k,.int .u64 s] w fun e w' =>(e = .returned (.int .u64 r)/\Below w.heap.size w w')/\(Lit.int .u64 r).wf=true:=fun w=>by
  have:=ok.pure (k,s,()) r A (fun _ _=>False) w [.int .u64 k,.int .u64 s] (fun _ _ h=>h.elim) (fun g r h=>by cases h) (.lit hk (.lit hs .nil));refine this.mono ?_
  rintro e w' ⟨u,q,rfl,hb,_,_,_,z,_⟩
  cases z with
  | lit hl _=>exact⟨⟨rfl,hb⟩,hl⟩
 refine⟨?_,fun n w=>callsIn_wide.2 ((key w).mono fun e w' h=>h.1)⟩;obtain⟨e,w',C,h,_⟩:=key { heap:=#[],os:=default,tape:=default,output:=default,drawn:=default } [];exact h.2
theorem fold_wf {F:Fence} {q:Int->Int->Option Int} (D:yF F q) {k:Int} (hk:(Lit.int .u64 k).wf=true) {xs:List Int}:∀(l:List Nat) (s r:Int),(Lit.int .u64 s).wf=true->l.foldlM (fun s g=>q k (bits .xor .u64 s (Jd xs g))) s=some r->(Lit.int .u64 r).wf=true:=by
 intro l;induction l with
 | nil=>intro s r hs h;cases h;exact hs
 | cons g l G=>
  intro s r hs h;rw[List.foldlM_cons]at h;obtain⟨z,A,C⟩:=Option.bind_eq_some_iff.1 h;exact G z r (D k _ z hk (Go.Proofs.YtjodhcdmhobmoaaGreatDoor.wf_x _ _) A).1 C
theorem ZHV {F:Fence} {A:Int->Int->Option Int} (q:yF F A) {k:Int} (hk:(Lit.int .u64 k).wf=true) {xs:List Int} {r:Int} (h:Xc A k xs=some r):(Lit.int .u64 r).wf=true:=by
 unfold Xc at h;split at h
 ·rename_i z;obtain⟨C,D,G⟩:=Option.bind_eq_some_iff.1 h;refine fold_wf q hk _ C r (q k _ C hk ?_ D).1 G;simp[Lit.wf,IntKind.min,IntKind.max,IntKind.signed,IntKind.bits];omega
 ·cases h
def gY (k:Int) (xs:List Int):Option Int:=Xc LH k xs
def Zg1:Ai U:=⟨[29,62],25,fun x=>gY x.1 x.2.1,by decide⟩
theorem Zvu (ok:Ah Tryz.prog BZ 322 rF) (G:∀k s,(Lit.int .u64 s).wf=true->∃r,LH k s=some r):AA0 324 Zg1:=by
 refine⟨⟨f324,func324,by kernel_rfl,by kernel_rfl⟩,?_⟩
 rintro ⟨k,xs,_⟩ r C fz w vs q J z
 obtain⟨M,vs,rfl,D,z⟩:=z.EP;obtain⟨N,vs,rfl,F,z⟩:=z.EP;cases z.Fj;obtain⟨a,b,o,cap,rfl,A⟩:=row_of (xs:=xs) F;cases D with
 | lit hl _=>
  have I:(Lit.int .u64 r).wf=true:=ZHV (Zh0 ok) hl C;refine(callsIn_wide.1 (ZHY Fence.wide trivial trivial trivial trivial rfl LH (Zh0 ok) G 3 (by omega) k xs r hl C b o cap a w A)).mono ?_
  rintro e w' ⟨rfl,hb⟩
  refine⟨_,fz,rfl,hb,fun _ _ h=>h,fun _ _ h _=>h,fun b c h=>?_,.lit I .nil,rfl⟩;obtain⟨u,hu⟩:=q b c h;exact⟨u,(hb.cell (p:=⟨b,c,none⟩) (cell_lt hu)).trans hu⟩
theorem Zes:AA0 324 Zg1:=Zvu ZsC fun k s _=>Zia k s
end
end Go.Proofs.YtjodhcdmhobmoaaGreatDoor
