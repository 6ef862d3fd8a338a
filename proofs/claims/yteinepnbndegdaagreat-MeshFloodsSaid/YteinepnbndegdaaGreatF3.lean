/- A part of it. -/
import Derived.Test.YteinepnbndegdaaGreatF2
import Derived.Test.YteinepnbndegdaaGreatBRw
import Derived.Test.YteinepnbndegdaaGreatF1
set_option linter.unusedVariables false
set_option linter.unusedSimpArgs false
namespace Go.Proofs.YteinepnbndegdaaGreat
open Tryz
open Go Go.Proofs.YteinepnbndegdaaGreat.Le
set_option maxRecDepth 100000
noncomputable section
inductive rY where
 | b0 (a:List DK) (b:DK)
 | b1 (a:List DK) (b c:Int) (d:DK)
def aT:rY->Tr U (Int⊕rY)
 | .b0 a b=>Ac (.b1 a (↑a.length:Int) (0:Int) b)
 | .b1 b d a c=>.br (decide (a<d)) (.chk (kI a b) (.bind 113 (b[(Int.toNat a)]?) (fun(e:DK)=>.br ((c.ID==e.ID)&&((c.To==e.To)&&true)) (AZ a) (Ac (.b1 b d (Ad (a+1)) c))))) (AZ (-1:Int))
def rV (a:List DK) (b:DK):Option Int:=AY aT (.b0 a b)
def Z39:Lay:=LT [0,3,7,8] [.v 24,.p 0,.v 3,.v 3] [.s 113]
def ZdZ:rY->BN U
 | .b0 a b=>CU f105 [24,113] (a,b,())
 | .b1 a b c d=>AA3 f105 [1,0,1,0,0,0] Z39 (a,b,c,d,())
theorem ZdV:AA1 105 [24,113] 3 (fun x=>rV x.1 x.2.1) rfl:=Cb Az Aw (al [(2,Z39)]) ZdZ func105 (fun p=>by cases p<;>kernel_rfl) (by kernel_rfl) fun _=>rfl
def Z2R:S1 ((List DK)×DK×Unit) Bool
 | (a,b,_)=>.bind 3 (rV a b) (fun(c:Int)=>AZ (decide (c>=0)))
def qB (a:List DK) (b:DK):Option Bool:=AY Z2R (a,b,())
theorem ZcU:AA1 76 [24,113] 4 (fun x=>qB x.1 x.2.1) rfl:=ok1 (mc ZdV Az) Aw func76 (fun _=>by kernel_rfl) (by kernel_rfl)
inductive tJ where
 | b0 (a:Int)
 | b1 (a b:Int)
 | b2 (a b:Int)
 | b3 (a b:Int)
def QI:tJ->Tr U (Int⊕tJ)
 | .b0 a=>.br (decide (a>=4294967296)) (.fail) (Ac (.b1 a (0:Int)))
 | .b1 a b=>.br (decide (a>=65536)) (.fail) (Ac (.b2 a b))
 | .b2 a b=>.br (decide (a>=256)) (.fail) (Ac (.b3 a b))
 | .b3 a b=>let d:=IntKind.wrap .u8 (a);let c:=(⟨#[0,1,2,2,3,3,3,3,4,4,4,4,4,4,4,4,5,5,5,5,5,5,5,5,5,5,5,5,5,5,5,5,6,6,6,6,6,6,6,6,6,6,6,6,6,6,6,6,6,6,6,6,6,6,6,6,6,6,6,6,6,6,6,6,7,7,7,7,7,7,7,7,7,7,7,7,7,7,7,7,7,7,7,7,7,7,7,7,7,7,7,7,7,7,7,7,7,7,7,7,7,7,7,7,7,7,7,7,7,7,7,7,7,7,7,7,7,7,7,7,7,7,7,7,7,7,7,7,8,8,8,8,8,8,8,8,8,8,8,8,8,8,8,8,8,8,8,8,8,8,8,8,8,8,8,8,8,8,8,8,8,8,8,8,8,8,8,8,8,8,8,8,8,8,8,8,8,8,8,8,8,8,8,8,8,8,8,8,8,8,8,8,8,8,8,8,8,8,8,8,8,8,8,8,8,8,8,8,8,8,8,8,8,8,8,8,8,8,8,8,8,8,8,8,8,8,8,8,8,8,8,8,8,8,8,8,8,8,8,8,8,8,8,8,8,8,8,8,8,8,8,8,8,8,8,8]⟩:ByteArray);.chk (decide (0<=d/\d<(↑c.size:Int))) (AZ (Ad (b+(Ad ((↑(c.get! (Int.toNat d)).toNat:Int))))))
def tK (a:Int):Option Int:=AY QI (.b0 a)
def UH:Lay:=LT [0,2] [.v 40,.v 3] []
def ZeU:tJ->BN U
 | .b0 a=>CU f116 [40] (a,())
 | .b1 a b=>AA3 f116 [1,1,0,0] UH (a,b,())
 | .b2 a b=>AA3 f116 [1,1,1,0,0] UH (a,b,())
 | .b3 a b=>AA3 f116 [1,1,1,1,0] UH (a,b,())
theorem ZeK:AA1 116 [40] 3 (fun x=>tK x.1) rfl:=Cb Az Aw (al [(4,UH),(7,UH),(10,UH),(2,LX),(5,LX),(8,LX)]) ZeU func116 (fun p=>by cases p<;>kernel_rfl) (by kernel_rfl) fun _=>rfl
def Z4E:S1 (Int×Unit) Int
 | (a,_)=>.bind 3 (tK a) (fun(b:Int)=>AZ b)
def uZ (a:Int):Option Int:=AY Z4E (a,())
theorem ZfU:AA1 78 [170] 3 (fun x=>uZ x.1) rfl:=ok1 (mc ZeK Az) Aw func78 (fun _=>by kernel_rfl) (by kernel_rfl)
def Z4C:S1 (Int×Unit) Bool
 | (a,_)=>AZ (a != a)
def dG (a:Int):Option Bool:=AY Z4C (a,())
theorem Zgf:AA1 154 [3] 4 (fun x=>dG x.1) rfl:=ok1 Az Aw func154 (fun _=>by kernel_rfl) (by kernel_rfl)
def Z59:S1 (Int×Int×Unit) Bool
 | (a,b,_)=>let e:=decide (a<b);.bind 4 (dG a) (fun(c:Bool)=>.br c (.bind 4 (dG b) (fun(d:Bool)=>.br (!d) (AZ true) (AZ e))) (AZ e))
def wC (a b:Int):Option Bool:=AY Z59 (a,b,())
theorem Z4J:AA1 112 [3,3] 4 (fun x=>wC x.1 x.2.1) rfl:=ok1 (mc Zgf Az) Aw func112 (fun _=>by kernel_rfl) (by kernel_rfl)
inductive oG where
 | b0 (a:List Int) (b c:Int)
 | b1 (a:List Int) (b c d:Int)
 | b2 (a:List Int) (b c d e:Int)
 | b3 (a:List Int) (b c d:Int)
def NU:oG->Tr U (TS⊕oG)
 | .b0 a b c=>kl a (Ac (.b1 a b c (Ad (b+1))))
 | .b1 a d c b=>.br (decide (b<c)) (kl a (Ac (.b2 a d c b b))) (AZ (⟨a⟩:TS))
 | .b2 a c d e b=>let j:=Ad (b - 1);let i:=kl a (Ac (oG.b3 a c d e));.br (decide (b>c)) (kl a (.chk (kI b a) (kl a (.bind 3 (a[(Int.toNat b)]?) (fun(f:Int)=>kl a (.chk (kI j a) (kl a (.bind 3 (a[(Int.toNat j)]?) (fun(g:Int)=>.bind 4 (wC f g) (fun(h:Bool)=>.br h (.fail) i)))))))))) i
 | .b3 a b c d=>kl a (Ac (.b1 a b c (Ad (d+1))))
def oH (a:List Int) (b c:Int):Option TS:=AY NU (.b0 a b c)
def Z1Y:Shape:=⟨[.one (.own 3 0),OV 3,OV 3],[.row 3 true]⟩
def ZbR:Shape:=⟨[],[.row 3 true]⟩
noncomputable def ZbV:HMod U:=⟨[[.own 3 1],KP,KP],[.row true],Z1Y,ZbR,false,1426,fun(y:TS)=>((),(y.q0,())),fun x=>oH x.2.1 x.1.2.1.1 x.1.2.2.1.1,okS rfl⟩
def Yi:Lay:=LT [0,1,2,6] [.o 3 1 0,.v 3,.v 3,.v 3] [.r 3]
def Z1Z:Lay:=LT [0,1,2,6,7] [.o 3 1 0,.v 3,.v 3,.v 3,.v 3] [.r 3]
def ZbS:oG->BN U
 | .b0 a b c=>DZ f106 Z1Y (((),((b,()),((c,()),()))),(a,()))
 | .b1 a b c d=>AA3 f106 [1,0,0,0,0] Yi (b,c,d,a,())
 | .b2 a b c d e=>AA3 f106 [1,0,0,1,0,0,1,0,0,0,0] Z1Z (b,c,d,e,a,())
 | .b3 a b c d=>AA3 f106 [1,0,0,1,1] Yi (b,c,d,a,())
theorem ZbT:Bi Tryz.prog B0 106 ZbV:=okR (mc Z4J Az) Aw (al [(1,Yi),(4,Z1Z),(2,Yi),(6,LX)]) [] [.row true] 1 ZbS func106 (fun p=>by cases p<;>kernel_rfl) (by kernel_rfl) fun x=>by kernel_rfl
inductive oM where
 | b0 (a:List Int) (b c d:Int)
 | b1 (a:List Int) (b c d:Int) (e f:Bool)
def Yk:oM->Tr U (TT⊕oM)
 | .b0 a b c d=>kl a (Ac (.b1 a b c d true true))
 | .b1 a b c e f g=>.br (decide ((Ad (c - b))<=12)) (kl a (.bind 1426 (oH a b c) (fun(d:TS)=>AZ (⟨d.q0⟩:TT)))) (.fail)
def oO (a:List Int) (b c d:Int):Option TT:=AY Yk (.b0 a b c d)
def Z24:Shape:=⟨[.one (.own 3 0),OV 3,OV 3,OV 3],[.row 3 true]⟩
def Zc4:Shape:=⟨[],[.row 3 true]⟩
noncomputable def Zch:HMod U:=⟨[[.own 3 1],KP,KP,KP],[.row true],Z24,Zc4,false,1425,fun(y:TT)=>((),(y.q0,())),fun x=>oO x.2.1 x.1.2.1.1 x.1.2.2.1.1 x.1.2.2.2.1.1,okS rfl⟩
def Z27:Lay:=LT [0,1,2,3,8,9] [.o 3 1 0,.v 3,.v 3,.v 3,.v 4,.v 4] [.r 3]
def Zcc:oM->BN U
 | .b0 a b c d=>DZ f77 Z24 (((),((b,()),((c,()),((d,()),())))),(a,()))
 | .b1 a b c d e f=>AA3 f77 [1,1,0,0,0,0] Z27 (b,c,d,e,f,a,())
theorem Zc8:Bi Tryz.prog B0 77 Zch:=okR (mc Z4J Az) (hc [] ZbT Aw) (al [(2,Z27),(5,LX)]) [] [.row true] 1 Zcc func77 (fun p=>by cases p<;>kernel_rfl) (by kernel_rfl) fun x=>by kernel_rfl
inductive tZ where
 | b0 (a:List Int)
def Z45:tZ->Tr U (RG⊕tZ)
 | .b0 a=>let d:=(↑a.length:Int);kl a (.bind 3 (uZ (IntKind.wrap .u64 (d))) (fun(b:Int)=>kl a (.bind 1425 (oO a (0:Int) d b) (fun(c:TT)=>AZ (⟨c.q0⟩:RG)))))
def UT (a:List Int):Option RG:=AY Z45 (.b0 a)
def Z3C:Shape:=⟨[.one (.own 3 0)],[.row 3 true]⟩
def Ze3:Shape:=⟨[],[.row 3 true]⟩
noncomputable def Zfa:HMod U:=⟨[[.own 3 1]],[.row true],Z3C,Ze3,false,1424,fun(y:RG)=>((),(y.q0,())),fun x=>UT x.2.1,okS rfl⟩
def ZeR:tZ->BN U
 | .b0 a=>DZ f46 Z3C (((),()),(a,()))
theorem Z3U:Bi Tryz.prog B0 46 Zfa:=okR (mc ZfU Az) (hc [] Zc8 Aw) AN [] [.row true] 1 ZeR func46 (fun p=>by cases p<;>kernel_rfl) (by kernel_rfl) fun x=>by kernel_rfl
inductive rW where
 | b0 (a:Aq) (b:Int)
 | b1 (a:Int) (b:List Int) (c:List BR) (d e:Int) (f:List Ae) (g:List DK) (h:List CS) (i:List EE)
 | b2 (a:Int) (b:List Int) (c:List BR) (d e:Int) (f:List Ae) (g:List DK) (h:List CS) (i:List EE)
def QD:rW->Tr U (UJ⊕rW)
 | .b0 a b=>kl a.BA (.chk (true&&(kL a.BA&&kL a.BG)) (Ac (.b1 b ([]:List Int) a.BA (↑a.BA.length:Int) (0:Int) a.Ak a.BG a.Flight a.Notes)))
 | .b1 f a b g d h c i j=>let m:=kA (a.length+1) 8;let l:=kL b&&kL c;.br (decide (d<g)) (kl b (.chk (kI d b) (kl b (.bind 79 (b[(Int.toNat d)]?) (fun(e:BR)=>.br (f==e.A) (.chk true (kl a (.chk m (.chk (kL (a++[e.B])&&l) (Ac (.b2 f (a++[e.B]) b g d h c i j)))))) (.br (f==e.B) (.chk true (kl a (.chk m (.chk (kL (a++[e.A])&&l) (Ac (.b2 f (a++[e.A]) b g d h c i j)))))) (.chk (kL a&&l) (Ac (.b2 f a b g d h c i j))))))))) (kl a (.bind 1424 (UT a) (fun(k:RG)=>.chk ((k.q0.length==a.length)&&kL c) (AZ (⟨k.q0,h,b,c,i,j⟩:UJ)))))
 | .b2 d a b e f g c h i=>.chk (kL a&&(kL b&&kL c)) (Ac (.b1 d a b e (Ad (f+1)) g c h i))
def rP (a:Aq) (b:Int):Option UJ:=AY QD (.b0 a b)
def Z30:Shape:=⟨[(ET 0),OV 3],[.row 76 true,.row 79 true,.row 113 false,.row 106 true,.row 55 true]⟩
def Zdc:Shape:=⟨[.one (.own 3 5)],[.row 76 true,.row 79 true,.row 113 false,.row 106 true,.row 55 true,.row 3 true]⟩
noncomputable def Zej:HMod U:=⟨[[.own 76 46,.own 79 2,.own 113 2,.keep,.keep,.own 106 4,.own 55 13],KP],[.row true,.row true,.row false,.row true,.row true],Z30,Zdc,true,1428,fun(y:UJ)=>(((),()),(y.q1,(y.q2,(y.q3,(y.q4,(y.q5,(y.q0,()))))))),fun x=>rP (match x with|⟨⟨⟨C,G,_⟩,_⟩,z,D,v4,I,J,_⟩=>(⟨z,D,v4,C,G,I,J⟩:Aq)) x.1.2.1.1,okS rfl⟩
def Yz:Lay:=⟨[1,5,9,10,11],[KP,[.own 3 1],[.own 79 2],KP,KP],[.row true,.row true,.row false,.row true,.row true,.row true],⟨[OV 3,.one (.own 3 5),.one (.own 79 1),OV 3,OV 3],[.row 76 true,.row 79 true,.row 113 false,.row 106 true,.row 55 true,.row 3 true]⟩⟩
def ZdQ:rW->BN U
 | .b0 a b=>DZ f20 Z30 (((a.Count,(a.Now,())),((b,()),())),(JO a))
 | .b1 a b c d e f g h i=>AA3 f20 [1,1,0,1,0,0,0] Yz (a,d,e,f,c,g,h,i,b,())
 | .b2 a b c d e f g h i=>AA3 f20 [1,1,0,1,0,0,1,1,1] Yz (a,d,e,f,c,g,h,i,b,())
theorem ZdP:Bi Tryz.prog B0 20 Zej:=okR Az (hc [] Z3U Aw) (al [(3,Yz),(10,Yz)]) [[.own 3 1]] [.row true,.row true,.row false,.row true,.row true,.row true] 5 ZdQ func20 (fun p=>by cases p<;>kernel_rfl) (by kernel_rfl) fun x=>by kernel_rfl
inductive uC where
 | b0 (a:Int) (b:List Int) (c:Aq)
 | b1 (a:Int) (b c:List Int) (d e:Int) (f:Aq)
 | b2 (a:Int) (b c:List Int) (d e:Int) (f:Aq)
def QL:uC->Tr U (UW⊕uC)
 | .b0 c d a=>let e:=Ad (a.Count+1);.chk (kL a.Ak&&(kL a.BA&&(kL a.BG&&(kL a.Flight&&(kL a.Notes&&kL a.BG))))) (.bind 1428 (rP ({ a with Count:=e }:Aq) c) (fun(b:UJ)=>kl b.q0 (.chk (kL b.q0&&((b.q1.length==a.Ak.length)&&((b.q2.length==a.BA.length)&&((b.q3.length==a.BG.length)&&((b.q4.length==a.Flight.length)&&((b.q5.length==a.Notes.length)&&kL b.q3)))))) (Ac (.b1 c d b.q0 (↑b.q0.length:Int) (0:Int) (⟨b.q1,b.q2,b.q3,e,a.Now,b.q4,b.q5⟩:Aq))))))
 | .b1 c g b h d a=>let l:=kL a.Notes&&kL a.BG;let k:=kL a.Ak&&(kL a.BA&&(kL a.BG&&(kL a.Flight&&l)));.br (decide (d<h)) (kl b (.chk (kI d b) (kl b (.bind 3 (b[(Int.toNat d)]?) (fun(e:Int)=>kl a.BG (.bind 4 (qB a.BG (⟨a.Count,e⟩:DK)) (fun(i:Bool)=>.br (!i) (.bind 1400 (UF g) (fun(f:UK)=>let j:=a.Flight++[(⟨c,e,(Ad (a.Now+1)),f.q0⟩:CS)];kl f.q0 (.chk true (kl a.Flight (.chk (kA (a.Flight.length+1) 48) (.chk (kL b&&(kL a.Ak&&(kL a.BA&&(kL a.BG&&((j.length==j.length)&&l))))) (Ac (.b2 c g b h d ({ a with Flight:=j }:Aq))))))))) (.chk (kL b&&k) (Ac (.b2 c g b h d a)))))))))) (.chk k (AZ (⟨a⟩:UW)))
 | .b2 c d b e f a=>.chk (kL b&&(kL a.Ak&&(kL a.BA&&(kL a.BG&&(kL a.Flight&&(kL a.Notes&&kL a.BG)))))) (Ac (.b1 c d b e (Ad (f+1)) a))
def tX (a:Int) (b:List Int) (c:Aq):Option UW:=AY QL (.b0 a b c)
def Z3B:Shape:=⟨[PQ 0,OV 3,OV 27],[.var 33 7 (ET 1),.row 76 true,.row 79 true,.row 113 false,.row 106 true,.row 55 true]⟩
def Ze7:Shape:=⟨[],[.var 33 7 (ET 1),.row 76 true,.row 79 true,.row 113 false,.row 106 true,.row 55 true]⟩
noncomputable def Zf2:HMod U:=⟨[KP,KP,[.s 5 1]],[.var [.own 76 46,.own 79 2,.own 113 2,.keep,.keep,.own 106 4,.own 55 13],.row true,.row true,.row false,.row true,.row true],Z3B,Ze7,false,1427,fun(y:UW)=>((),(NS y.q0)),fun x=>tX x.1.2.1.1 x.1.2.2.1.1 (match x with|⟨_,⟨z,D,_⟩,C,G,v4,I,J,_⟩=>(⟨C,G,v4,z,D,I,J⟩:Aq)),okS rfl⟩
def aW:Lay:=⟨[0,1,2,19,20,21],[KP,KP,[.s 5 1],[.own 3 1],KP,KP],[.var [.own 76 46,.own 79 2,.own 113 2,.keep,.keep,.own 106 4,.own 55 13],.row true,.row true,.row false,.row true,.row true,.row true],⟨[PQ 0,OV 3,OV 27,.one (.own 3 6),OV 3,OV 3],[.var 33 7 (ET 1),.row 76 true,.row 79 true,.row 113 false,.row 106 true,.row 55 true,.row 3 true]⟩⟩
def Zf0:uC->BN U
 | .b0 a b c=>DZ f45 Z3B (((),((a,()),((b,()),()))),(NS c))
 | .b1 b c d e f a=>AA3 f45 [1,1,0,0,0] aW (b,c,e,f,a.Count,a.Now,a.Ak,a.BA,a.BG,a.Flight,a.Notes,d,())
 | .b2 b c d e f a=>AA3 f45 [1,1,0,0,1,1,1] aW (b,c,e,f,a.Count,a.Now,a.Ak,a.BA,a.BG,a.Flight,a.Notes,d,())
theorem ZeP:Bi Tryz.prog B0 45 Zf2:=okR (mc ZcU Az) (hc [] ZdP (hc [] UA Aw)) (al [(2,aW),(6,aW)]) [] [.var [.own 76 46,.own 79 2,.own 113 2,.keep,.keep,.own 106 4,.own 55 13],.row true,.row true,.row false,.row true,.row true] 6 Zf0 func45 (fun p=>by cases p<;>kernel_rfl) (by kernel_rfl) fun x=>by kernel_rfl
inductive wY where
 | b0 (a:Aq)
 | b1 (a b:Int) (c:Aq)
 | b2 (a b c:Int) (d:List BL) (e f:Int) (g:Aq)
def Oc:wY->Tr U (Og⊕wY)
 | .b0 b=>.chk (kL b.Ak&&(kL b.BA&&(kL b.BG&&(kL b.Flight&&(kL b.Notes&&kL b.BG))))) (.bind 1431 (U1 ({ b with Now:=(Ad (b.Now+1)) }:Aq)) (fun(a:QM)=>kl a.q0.Ak (.chk (kL a.q0.Ak&&(kL a.q0.BA&&(kL a.q0.BG&&(kL a.q0.Flight&&(kL a.q0.Notes&&kL a.q0.BG))))) (Ac (.b1 (↑a.q0.Ak.length:Int) (0:Int) a.q0)))))
 | .b1 e b a=>let k:=kI b a.Ak;let i:=Int.toNat b;let h:=kL a.BA&&(kL a.BG&&(kL a.Flight&&(kL a.Notes&&kL a.BG)));.br (decide (b<e)) (kl a.Ak (.chk k (kl a.Ak (.bind 76 (a.Ak[i]?) (fun(f:Ae)=>.bind 117 (fU f a.Now) (fun(d:Ae×(List BL)×(List BH))=>let j:=a.Ak.set i d.1;kl a.Ak (.chk k (.chk (a.Ak.length==a.Ak.length&&decide (0<=i)) (.bind 76 (a.Ak[i]?) (fun(g:Ae)=>.chk ((j.length==a.Ak.length)&&h) (.bind 1429 (Uc b d.2.2 ({ a with Ak:=j }:Aq)) (fun(c:QO)=>.chk (kL c.q0.Ak&&(kL c.q0.BA&&(kL c.q0.BG&&(kL c.q0.Flight&&(kL c.q0.Notes&&kL c.q0.BG))))) (Ac (.b2 b e b d.2.1 (↑d.2.1.length:Int) (0:Int) c.q0)))))))))))))) (.chk (kL a.Ak&&h) (AZ (⟨a⟩:Og)))
 | .b2 e f g d h c a=>let j:=kL a.Ak&&(kL a.BA&&(kL a.BG&&(kL a.Flight&&(kL a.Notes&&kL a.BG))));.br (decide (c<h)) (.chk (kI c d) (.bind 120 (d[(Int.toNat c)]?) (fun(i:BL)=>.chk j (.bind 1427 (tX e i.Bytes a) (fun(b:UW)=>.chk (kL b.q0.Ak&&(kL b.q0.BA&&(kL b.q0.BG&&(kL b.q0.Flight&&(kL b.q0.Notes&&kL b.q0.BG))))) (Ac (.b2 e f g d h (Ad (c+1)) b.q0))))))) (.chk j (Ac (.b1 f (Ad (g+1)) a)))
def MJ (a:Aq):Option Og:=AY Oc (.b0 a)
def Z4w:Shape:=⟨[PQ 0],[.var 33 7 (ET 1),.row 76 true,.row 79 true,.row 113 false,.row 106 true,.row 55 true]⟩
def ZfM:Shape:=⟨[],[.var 33 7 (ET 6),.gone,.gone,.gone,.gone,.gone,.row 76 true,.row 79 true,.row 113 false,.row 106 true,.row 55 true]⟩
noncomputable def Zi0:HMod U:=⟨[KP],[.var [.own 76 46,.own 79 2,.own 113 2,.keep,.keep,.own 106 4,.own 55 13],.row true,.row true,.row false,.row true,.row true],Z4w,ZfM,false,1430,fun(y:Og)=>((),(NS y.q0)),fun x=>MJ (match x with|⟨_,⟨z,D,_⟩,C,G,v4,I,J,_⟩=>(⟨C,G,v4,z,D,I,J⟩:Aq)),okS rfl⟩
def Z4U:Lay:=⟨[0,21,22],[KP,KP,KP],[.var [.own 76 46,.own 79 2,.own 113 2,.keep,.keep,.own 106 4,.own 55 13],.row true,.row true,.row false,.row true,.row true],⟨[PQ 0,OV 3,OV 3],[.var 33 7 (ET 1),.row 76 true,.row 79 true,.row 113 false,.row 106 true,.row 55 true]⟩⟩
def Z4G:Lay:=⟨[0,2,21,22,52,53,54],[KP,KP,KP,KP,[.s 120 3],KP,KP],[.var [.own 76 46,.own 79 2,.own 113 2,.keep,.keep,.own 106 4,.own 55 13],.row true,.row true,.row false,.row true,.row true],⟨[PQ 0,OV 3,OV 3,OV 3,OV 74,OV 3,OV 3],[.var 33 7 (ET 1),.row 76 true,.row 79 true,.row 113 false,.row 106 true,.row 55 true]⟩⟩
def Zhk:wY->BN U
 | .b0 a=>DZ f19 Z4w (tu13 a)
 | .b1 a b c=>BB f19 [1,1,1,0,0,0] Z4U (((),((a,()),((b,()),()))),(NS c))
 | .b2 a b c d e f g=>BB f19 [1,1,1,0,0,1,1,0,0,1,1,1,1,1,0,0,0] Z4G (((),((a,()),((b,()),((c,()),((d,()),((e,()),((f,()),()))))))),(NS g))
def ZoV:Shape:=⟨[],[.var 33 7 (ET 1),.row 76 true,.row 79 true,.row 113 false,.row 106 true,.row 55 true]⟩
theorem Z57:Bi Tryz.prog B0 19 Zi0:=okK (mc Zjt Az) (hc [] RJ (hc [] Zg5 (hc [] ZeP Aw))) (al [(3,Z4U),(9,Z4G)]) [] [.var [.own 76 46,.own 79 2,.own 113 2,.keep,.keep,.own 106 4,.own 55 13],.row true,.row true,.row false,.row true,.row true] 1 5 ZoV (fun(y:Og)=>((),((y.q0.Count,(y.q0.Now,())),(y.q0.Ak,(y.q0.BA,(y.q0.BG,(y.q0.Flight,(y.q0.Notes,())))))))) Zhk func19 (fun p=>by cases p<;>kernel_rfl) (by kernel_rfl) (fun x=>by kernel_rfl) fun y=>by kernel_rfl
inductive yK where
 | b0 (a:Aq) (b:DV)
 | b1 (a:Aq) (b:DV)
def eQ:yK->Tr U (Ui⊕yK)
 | .b0 a b=>.br (decide (b.Node<0)) (.fail) (kl a.Ak (.br (decide (b.Node>=(↑a.Ak.length:Int))) (.fail) (.br (decide (b.Time<a.Now)) (.fail) (.br (decide (b.Time>(Ad (a.Now+100000)))) (.fail) (.chk (kL a.Ak&&(kL a.BA&&(kL a.BG&&(kL a.Flight&&(kL a.Notes&&(kL a.Ak&&(kL a.BA&&(kL a.BG&&(kL a.Flight&&kL a.Notes))))))))) (Ac (.b1 a b)))))))
 | .b1 a b=>.br (b.Kind != 7) (.chk (kL a.Ak&&(kL a.BA&&(kL a.BG&&(kL a.Flight&&kL a.Notes)))) (AZ (⟨0,a.Ak,a.BA,a.BG,a.Flight,a.Notes⟩:Ui))) (.fail)
def yH (a:Aq) (b:DV):Option Ui:=AY eQ (.b0 a b)
def Z5g:Shape:=⟨[(ET 0),.agg [.v 43 10 true]],[.row 76 false,.row 79 false,.row 113 false,.row 106 false,.row 55 false]⟩
def ZgM:Shape:=⟨[OV 34],[.row 76 false,.row 79 false,.row 113 false,.row 106 false,.row 55 false]⟩
noncomputable def ZiX:HMod U:=⟨[[.own 76 46,.own 79 2,.own 113 2,.keep,.keep,.own 106 4,.own 55 13],k8],[.row false,.row false,.row false,.row false,.row false],Z5g,ZgM,true,1417,fun(y:Ui)=>(((y.q0,()),()),(y.q1,(y.q2,(y.q3,(y.q4,(y.q5,())))))),fun x=>yH (match x with|⟨⟨⟨C,G,_⟩,_⟩,z,D,v4,I,J,_⟩=>(⟨z,D,v4,C,G,I,J⟩:Aq)) x.1.2.1.1,okS rfl⟩
def Z5o:Lay:=⟨[2,3],[KP,KP],[.row false,.row false,.row false,.row false,.row false,.var [.own 76 46,.own 79 2,.own 113 2,.keep,.keep,.own 106 4,.own 55 13],.var k8],⟨[PQ 5,PQ 6],[.row 76 false,.row 79 false,.row 113 false,.row 106 false,.row 55 false,.var 33 7 (ET 0),VA 43 10]⟩⟩
def Zi3:yK->BN U
 | .b0 a b=>DZ f26 Z5g (((a.Count,(a.Now,())),((b,()),())),(JO a))
 | .b1 a b=>AA3 f26 [1,0,0,1,1,0] Z5o (a.Ak,a.BA,a.BG,a.Flight,a.Notes,a.Count,a.Now,b,())
theorem ZhQ:Bi Tryz.prog B0 26 ZiX:=okR Az Aw (al [(3,Z5o),(2,LX),(5,LX)]) [KP] [.row false,.row false,.row false,.row false,.row false] 5 Zi3 func26 (fun p=>by cases p<;>kernel_rfl) (by kernel_rfl) fun x=>by kernel_rfl
inductive yP where
 | b0 (a:Aq) (b:DV)
 | b1 (a:Aq) (b:DV) (c d:Aq) (e:List Ae) (f:List BR) (g:List DK) (h:List CS) (i:List EE)
def RV:yP->Tr U (Ul⊕yP)
 | .b0 a e=>.chk (kL a.Ak&&(kL a.BA&&(kL a.BG&&(kL a.Flight&&(kL a.Notes&&(kL a.Ak&&(kL a.BA&&(kL a.BG&&(kL a.Flight&&kL a.Notes))))))))) (.bind 1418 (dU a) (fun(b:QN)=>.chk ((b.q1.length==a.Ak.length)&&((b.q2.length==a.BA.length)&&((b.q3.length==a.BG.length)&&((b.q4.length==a.Flight.length)&&((b.q5.length==a.Notes.length)&&(kL b.q1&&(kL b.q2&&(kL b.q3&&(kL b.q4&&kL b.q5))))))))) (.bind 1417 (yH (⟨b.q1,b.q2,b.q3,a.Count,a.Now,b.q4,b.q5⟩:Aq) e) (fun(d:Ui)=>.br (d.q0 != 0) (.fail) (.chk ((d.q1.length==a.Ak.length)&&((d.q2.length==a.BA.length)&&((d.q3.length==a.BG.length)&&((d.q4.length==a.Flight.length)&&((d.q5.length==a.Notes.length)&&(kL d.q1&&(kL d.q2&&(kL d.q3&&(kL d.q4&&kL d.q5))))))))) (.bind 1418 (dU (⟨d.q1,d.q2,d.q3,a.Count,a.Now,d.q4,d.q5⟩:Aq)) (fun(c:QN)=>.chk (kL c.q1&&(kL c.q2&&(kL c.q3&&(kL c.q4&&(kL c.q5&&(kL c.q0.Ak&&(kL c.q0.BA&&(kL c.q0.BG&&(kL c.q0.Flight&&(kL c.q0.Notes&&(true&&(true&&(true&&(true&&(true&&(kL b.q0.Ak&&(kL b.q0.BA&&(kL b.q0.BG&&(kL b.q0.Flight&&(kL b.q0.Notes&&kL c.q0.BG)))))))))))))))))))) (Ac (.b1 c.q0 e Ib b.q0 c.q1 c.q2 c.q3 c.q4 c.q5)))))))))
 | .b1 a b e f g h i j k=>let q:=kI b.Node a.Ak;let p:=kL a.BA&&(kL a.BG&&(kL a.Flight&&(kL a.Notes&&kL a.BG)));let o:=Int.toNat b.Node;.br (decide (a.Now<b.Time)) (.chk (kL a.Ak&&p) (.bind 1430 (MJ a) (fun(c:Og)=>.chk (kL g&&(kL h&&(kL i&&(kL j&&(kL k&&(kL c.q0.Ak&&(kL c.q0.BA&&(kL c.q0.BG&&(kL c.q0.Flight&&(kL c.q0.Notes&&(kL e.Ak&&(kL e.BA&&(kL e.BG&&(kL e.Flight&&(kL e.Notes&&(kL f.Ak&&(kL f.BA&&(kL f.BG&&(kL f.Flight&&(kL f.Notes&&kL c.q0.BG)))))))))))))))))))) (Ac (.b1 c.q0 b e f g h i j k))))) (.br (b.Kind==7) (.fail) (kl a.Ak (.chk q (kl a.Ak (.bind 76 (a.Ak[o]?) (fun(m:Ae)=>.bind 101 (yN m b a.Now) (fun(l:Ae×(List BH)×Int)=>let r:=a.Ak.set o l.1;.br (l.2.2 != 0) (.fail) (kl a.Ak (.chk q (.chk (a.Ak.length==a.Ak.length&&decide (0<=o)) (.bind 76 (a.Ak[o]?) (fun(n:Ae)=>.chk ((r.length==a.Ak.length)&&p) (.bind 1429 (Uc b.Node l.2.1 ({ a with Ak:=r }:Aq)) (fun(d:QO)=>.chk (kL d.q0.Ak&&(kL d.q0.BA&&(kL d.q0.BG&&(kL d.q0.Flight&&(kL d.q0.Notes&&(kL g&&(kL h&&(kL i&&(kL j&&(kL k&&kL d.q0.BG)))))))))) (AZ (⟨d.q0,0,g,h,i,j,k⟩:Ul))))))))))))))))
def yS (a:Aq) (b:DV):Option Ul:=AY RV (.b0 a b)
def Z5D:Shape:=⟨[(ET 0),.agg [.v 43 10 true]],[.row 76 true,.row 79 true,.row 113 false,.row 106 true,.row 55 true]⟩
def ZhA:Shape:=⟨[(ET 5),OV 34],[.row 76 false,.row 79 false,.row 113 false,.row 106 false,.row 55 false,.row 76 true,.row 79 true,.row 113 false,.row 106 true,.row 55 true]⟩
noncomputable def ZkE:HMod U:=⟨[[.own 76 46,.own 79 2,.own 113 2,.keep,.keep,.own 106 4,.own 55 13],k8],[.row true,.row true,.row false,.row true,.row true],Z5D,ZhA,false,1432,fun(y:Ul)=>(((y.q0.Count,(y.q0.Now,())),((y.q1,()),())),(y.q2,(y.q3,(y.q4,(y.q5,(y.q6,(JO y.q0))))))),fun x=>yS (match x with|⟨⟨⟨C,G,_⟩,_⟩,z,D,v4,I,J,_⟩=>(⟨z,D,v4,C,G,I,J⟩:Aq)) x.1.2.1.1,okS rfl⟩
def Z5P:Lay:=⟨[2,3,4,6],[KP,KP,KP,KP],[.row false,.row false,.row false,.row false,.row false,.var [.own 76 46,.own 79 2,.own 113 2,.keep,.keep,.own 106 4,.own 55 13],.var k8,.var [.own 76 46,.own 79 2,.own 113 2,.keep,.keep,.own 106 4,.own 55 13],.var [.own 76 46,.own 79 2,.own 113 2,.keep,.keep,.own 106 4,.own 55 13],.row true,.row true,.row false,.row true,.row true,.row true,.row true,.row true,.row true,.row true,.row true,.row true,.row true,.row true,.row true],⟨[PQ 5,PQ 6,PQ 7,PQ 8],[.row 76 false,.row 79 false,.row 113 false,.row 106 false,.row 55 false,.var 33 7 (ET 9),VA 43 10,.var 33 7 (ET 14),.var 33 7 (ET 19),.row 76 true,.row 79 true,.row 113 false,.row 106 true,.row 55 true,.row 76 true,.row 79 true,.row 113 true,.row 106 true,.row 55 true,.row 76 true,.row 79 true,.row 113 true,.row 106 true,.row 55 true]⟩⟩
def Zjg:yP->BN U
 | .b0 a b=>DZ f10 Z5D (((a.Count,(a.Now,())),((b,()),())),(JO a))
 | .b1 a d b c e f g h i=>BB f10 [1,1,1,1,0,0,0,0,0] Z5P (((),((),((),((),())))),(e,(f,(g,(h,(i,((a.Count,(a.Now,())),((d,()),((b.Count,(b.Now,())),((c.Count,(c.Now,())),(a.Ak,(a.BA,(a.BG,(a.Flight,(a.Notes,(b.Ak,(b.BA,(b.BG,(b.Flight,(b.Notes,(JO c)))))))))))))))))))))
theorem Zjj:Bi Tryz.prog B0 10 ZkE:=okR (mc Ziv Az) (hc [] ZgW (hc [] Z57 (hc [] ZhQ (hc [] RJ Aw)))) (al [(6,Z5P),(4,LX),(9,LX),(13,LX)]) [[.own 76 46,.own 79 2,.own 113 2,.keep,.keep,.own 106 4,.own 55 13],KP] [.row false,.row false,.row false,.row false,.row false,.row true,.row true,.row false,.row true,.row true] 5 Zjg func10 (fun p=>by cases p<;>kernel_rfl) (by kernel_rfl) fun x=>by kernel_rfl
def ZhG:S1 (Int×Int×Unit) Int
 | (a,b,_)=>.br (decide (a<b)) (AZ (-1:Int)) (.br (decide (a>b)) (AZ (1:Int)) (AZ (0:Int)))
def Z5r (a b:Int):Option Int:=AY ZhG (a,b,())
theorem ZgP:AA1 17 [3,3] 3 (fun x=>Z5r x.1 x.2.1) rfl:=ok1 Az Aw func17 (fun _=>by kernel_rfl) (by kernel_rfl)
def Zj5:S1 (DV×DV×Unit) Int
 | (a,b,_)=>.bind 3 (Z5r a.Time b.Time) (fun(c:Int)=>AZ c)
def Z6w (a b:DV):Option Int:=AY Zj5 (a,b,())
theorem Zia:AA1 16 [43,43] 3 (fun x=>Z6w x.1 x.2.1) rfl:=ok1 (mc ZgP Az) Aw func16 (fun _=>by kernel_rfl) (by kernel_rfl)
inductive oQ where
 | b0 (a:List DV)
 | b1 (a:List DV) (b:Int)
def Yj:oQ->Tr U (Qv⊕oQ)
 | .b0 a=>Ac (.b1 a (Ad ((↑a.length:Int) - 1)))
 | .b1 b a=>let f:=Ad (a - 1);.br (decide (a>0)) (.chk (kI a b) (.bind 43 (b[(Int.toNat a)]?) (fun(c:DV)=>.chk (kI f b) (.bind 43 (b[(Int.toNat f)]?) (fun(d:DV)=>.bind 3 (Z6w c d) (fun(e:Int)=>.br (decide (e<0)) (AZ (⟨false⟩:Qv)) (Ac (.b1 b f)))))))) (AZ (⟨true⟩:Qv))
def oP (a:List DV):Option Qv:=AY Yj (.b0 a)
def Z23:Shape:=⟨[OV 44,.one (.fn 16 [] [])],[]⟩
def Zc3:Shape:=⟨[OV 4],[]⟩
noncomputable def Zce:HMod U:=⟨[[.s 43 10],KP],[],Z23,Zc3,true,1414,fun(y:Qv)=>(((y.q0,()),()),()),fun x=>oP x.1.1.1,okS rfl⟩
def Z26:Lay:=⟨[0,1,5],[[.s 43 10],KP,KP],[],⟨[OV 44,.one (.fn 16 [] []),OV 3],[]⟩⟩
def Zca:oQ->BN U
 | .b0 a=>DZ f15 Z23 (((a,()),((),())),())
 | .b1 a b=>AA3 f15 [1,0,1,0,0,0,0] Z26 (a,b,())
theorem Zc9:Bi Tryz.prog B0 15 Zce:=okR (mc Zia Az) Aw (al [(2,Z26)]) [KP] [] 0 Zca func15 (fun p=>by cases p<;>kernel_rfl) (by kernel_rfl) fun x=>by kernel_rfl
end
noncomputable section
inductive Z9 where
 | b0 (a:Aq) (b:List DV) (c:Int)
 | b1 (a:Int) (b:List DV) (c d:Int) (e f:Aq)
 | b2 (a:Int) (b:List DV) (c d:Int) (e f:Aq)
 | b3 (a:Int) (b c:Aq)
def MO:Z9->Tr U ((Aq×Int)⊕Z9)
 | .b0 c b d=>.bind 1414 (oP b) (fun(e:Qv)=>.br (!e.q0) (.fail) (.br (decide (d>(Ad (c.Now+100000)))) (.fail) (.bind 1413 (eU c) (fun(a:QP)=>.chk (kL a.q0.Ak&&(kL a.q0.BA&&(kL a.q0.BG&&(kL a.q0.Flight&&(kL a.q0.Notes&&kL a.q0.BG))))) (Ac (.b1 d b (↑b.length:Int) (0:Int) a.q0 Ib))))))
 | .b1 d e f c a g=>let i:=kL a.Ak&&(kL a.BA&&(kL a.BG&&(kL a.Flight&&(kL a.Notes&&kL a.BG))));.br (decide (c<f)) (.chk (kI c e) (.bind 43 (e[(Int.toNat c)]?) (fun(h:DV)=>.br (decide (h.Time<=d)) (.chk i (.bind 1432 (yS a h) (fun(b:Ul)=>.chk (kL b.q0.Ak&&(kL b.q0.BA&&(kL b.q0.BG&&(kL b.q0.Flight&&(kL b.q0.Notes&&kL b.q0.BG))))) (Ac (.b2 d e f c b.q0 g))))) (.chk i (Ac (.b2 d e f c a g)))))) (.chk i (Ac (.b3 d a g)))
 | .b2 b c d e a f=>.chk (kL a.Ak&&(kL a.BA&&(kL a.BG&&(kL a.Flight&&(kL a.Notes&&kL a.BG))))) (Ac (.b1 b c d (Ad (e+1)) a f))
 | .b3 c a d=>.br (decide (a.Now<c)) (.chk (kL a.Ak&&(kL a.BA&&(kL a.BG&&(kL a.Flight&&(kL a.Notes&&kL a.BG))))) (.bind 1430 (MJ a) (fun(b:Og)=>.chk (kL b.q0.Ak&&(kL b.q0.BA&&(kL b.q0.BG&&(kL b.q0.Flight&&(kL b.q0.Notes&&kL b.q0.BG))))) (Ac (.b3 c b.q0 d))))) (kl a.Ak (kl a.BA (kl a.BG (kl a.Flight (kl a.Notes (AZ (a,0)))))))
def gG (a:Aq) (b:List DV) (c:Int):Option (Aq×Int):=AY MO (.b0 a b c)
def fC:Lay:=⟨[2,3,6,24,25,26],[KP,KP,KP,[.s 43 10],KP,KP],[.var [.own 76 46,.own 79 2,.own 113 2,.keep,.keep,.own 106 4,.own 55 13],.var [.s 76 46,.s 79 2,.s 113 2,.keep,.keep,.s 106 4,.s 55 13],.row true,.row true,.row false,.row true,.row true],⟨[OV 3,PQ 0,PQ 1,OV 44,OV 3,OV 3],[.var 33 7 (ET 2),VA 33 7,.row 76 true,.row 79 true,.row 113 false,.row 106 true,.row 55 true]⟩⟩
def Z6q:Lay:=⟨[2,3,6],[KP,KP,KP],[.var [.own 76 46,.own 79 2,.own 113 2,.keep,.keep,.own 106 4,.own 55 13],.var [.s 76 46,.s 79 2,.s 113 2,.keep,.keep,.s 106 4,.s 55 13],.row true,.row true,.row false,.row true,.row true],⟨[OV 3,PQ 0,PQ 1],[.var 33 7 (ET 2),VA 33 7,.row 76 true,.row 79 true,.row 113 false,.row 106 true,.row 55 true]⟩⟩
def Zk7:Z9->BN U
 | .b0 a b c=>CU f6 [33,44,3] (a,b,c,())
 | .b1 b c d e a f=>BB f6 [1,1,1,1,0,1,0,0,0] fC (((b,()),((),((),((c,()),((d,()),((e,()),())))))),((a.Count,(a.Now,())),((f,()),(JO a))))
 | .b2 b c d e a f=>BB f6 [1,1,1,1,0,1,0,0,1,1,1] fC (((b,()),((),((),((c,()),((d,()),((e,()),())))))),((a.Count,(a.Now,())),((f,()),(JO a))))
 | .b3 b a c=>BB f6 [1,1,1,1,1,0,0,0,0,0] Z6q (((b,()),((),((),()))),((a.Count,(a.Now,())),((c,()),(JO a))))
theorem ZkH:AA1 6 [33,44,3] 37 (fun x=>gG x.1 x.2.1 x.2.2.1) rfl:=Cb Az (hc [] Zjj (hc [16] Zc9 (hc [] Z5X (hc [] Z57 Aw)))) (al [(7,fC),(11,fC),(12,Z6q),(2,LX),(4,LX)]) Zk7 func6 (fun p=>by cases p<;>kernel_rfl) (by kernel_rfl) fun _=>rfl
inductive uF where
 | b0 (a:Aq) (b:Int)
 | b1 (a:Int) (b:List Int) (c:List BR) (d e:Int)
 | b2 (a:Int) (b:List Int) (c:List BR) (d e:Int)
def QG:uF->Tr U ((List Int)⊕uF)
 | .b0 a b=>.chk true (Ac (.b1 b ([]:List Int) a.BA (↑a.BA.length:Int) (0:Int)))
 | .b1 d a e f b=>let h:=kA (a.length+1) 8;.br (decide (b<f)) (.chk (kI b e) (.bind 79 (e[(Int.toNat b)]?) (fun(c:BR)=>.br (d==c.A) (.chk true (kl a (.chk h (kl (a++[c.B]) (Ac (.b2 d (a++[c.B]) e f b)))))) (.br (d==c.B) (.chk true (kl a (.chk h (kl (a++[c.A]) (Ac (.b2 d (a++[c.A]) e f b)))))) (kl a (Ac (.b2 d a e f b))))))) (kl a (.bind 1424 (UT a) (fun(g:RG)=>.chk (g.q0.length==a.length) (AZ g.q0))))
 | .b2 b a c d e=>kl a (Ac (.b1 b a c d (Ad (e+1))))
def Wh (a:Aq) (b:Int):Option (List Int):=AY QG (.b0 a b)
def aX:Lay:=LT [1,5,9,10,11] [.v 3,.o 3 1 0,.v 23,.v 3,.v 3] [.r 3]
def ZeC:uF->BN U
 | .b0 a b=>CU f20 [33,3] (a,b,())
 | .b1 a b c d e=>AA3 f20 [1,1,0,1,0,0,0] aX (a,c,d,e,b,())
 | .b2 a b c d e=>AA3 f20 [1,1,0,1,0,0,1,1,1] aX (a,c,d,e,b,())
theorem ZeZ:AA1 20 [33,3] 45 (fun x=>Wh x.1 x.2.1) rfl:=Cb Az (hc [] Z3U Aw) (al [(3,aX),(10,aX)]) ZeC func20 (fun p=>by cases p<;>kernel_rfl) (by kernel_rfl) fun _=>rfl
end
end Go.Proofs.YteinepnbndegdaaGreat
namespace Go.Proofs.YteinepnbndegdaaGreat
open Tryz
open Go Go.Proofs.YteinepnbndegdaaGreat.Le Go.RowKit
set_option maxRecDepth 100000
noncomputable section
def Mc (a0:Aq) (i:Int):Bool:=((a0.Ak[i.toNat]?).map (·.Fz)).getD false
def Lr (a0:Aq) (i:Int):List Int:=(Wh a0 i).getD []
def ZaZ (a0:Aq) (a1:Int):Prop:=a0.Ak.length<=16/\0<=a1/\a1<a0.Ak.length/\(∀i:Nat,i<a0.Ak.length->∃l,Wh a0 i=some l/\∀x∈l,0<=x/\x<a0.Ak.length)/\∀i:Int,(Lr a0 i).length<=1000
open Classical in
def U6 (a0:Aq) (a1:Int):Option (List Int):=
 if ZaZ a0 a1 then some (HY (IJ (Mc a0) (Lr a0) a1 (a0.Ak.length+1) 0 [a1]) a1 a0.Ak.length) else none
theorem ZpM {fz:Nat->Nat->Prop} {w' : World} {l:List Int} {u:Value} {lo hi:Nat} (h:AL (bare fz) w' [.sl false 1 (l.map fun n=>.lit (.int .i64 n))] [u]) (hb:∀b c,fz b c->b<w'.heap.size) (hs:∀b c,fz b c->b<lo\/hi<=b):ZaH w' u l lo hi:=by
 generalize z:(l.map fun n=>V.lit (.int .i64 n))=es at h;cases h with
 | EI _=>
  have J:l=[]:=by simpa using z
  subst J;exact⟨none,0,rfl,fun h=>absurd rfl h⟩
 | Et a _=>
  have J:l=[]:=by simpa using z
  subst J;exact⟨some a,0,rfl,fun h=>absurd rfl h⟩
 | @sl _ us _ _ b o c e D R S Y h4 h5 G _=>
  subst z;have hu:us=l.map fun n=>Value.int .i64 n:=by
   clear R S Y h4 h5 G;induction l generalizing us with
   | nil=>cases D;rfl
   | cons x l Q=>
    obtain⟨v,vs,rfl,q1,q2⟩:=D.Bd;cases q1.JZ;rw[Q q2];rfl
  subst hu;have hf:flat (l.map fun n=>Value.int .i64 n)=l.map fun n=>Value.int .i64 n:=by
   clear D R S Y h4 h5 G;induction l with
   | nil=>rfl
   | cons x l Q=>exact congrArg (Value.int .i64 x::·) Q
  refine⟨some ⟨b,o,none⟩,c,by rw[List.length_map],fun M=>?_⟩;have hc:∀j (h:j<l.length),fz b (o+j)/\w'.cell? ⟨b,o+j,none⟩=some (.int .i64 l[j]):=fun j I=>G j _ (by rw[hf,List.getElem?_map,List.getElem?_eq_getElem I];rfl);have C:=hc 0 (List.length_pos_iff.2 M);exact⟨b,o,rfl,hb _ _ C.1,hs _ _ C.1,fun j I=>(hc j I).2⟩
theorem Z7W (σ:Sg) (w:World):∀l:List Int,(∀x∈l,0<=x/\x<1000)->AL σ w (l.map fun x=>V.lit (.int .i64 x)) (l.map fun x=>Value.int .i64 x)
 | [],_=>.nil
 | x::l,h=>.lit (TP (h x List.mem_cons_self).1 (h x List.mem_cons_self).2) (Z7W σ w l fun y z=>h y (List.mem_cons_of_mem _ z))
theorem ZH:∀l:List Int,flat (l.map fun x=>Value.int .i64 x)=l.map fun x=>Value.int .i64 x
 | []=>rfl
 | x::l=>congrArg (Value.int .i64 x::·) (ZH l)
theorem Zoh {D:List Int} {fr:Int} {n:Nat} {x:Int} (h:x∈HY D fr n):0<=x/\x<n:=by
 unfold HY at h;obtain⟨i,hi,rfl⟩:=List.mem_map.1 (List.mem_filter.1 h).1;have:=List.mem_range.1 hi;omega
theorem Zgk:AA1 7 [33,3] 45 (fun x=>U6 x.1 x.2.1) rfl:=by
 refine⟨⟨f7,func7,by kernel_rfl,by kernel_rfl⟩,?_⟩
 rintro ⟨a0,a1,_⟩ r ha fz w vs hcells hg hr
 have G : U6 a0 a1=some r:=ha;unfold U6 at G;split at G
 ·rename_i hC;cases G;obtain⟨hn,h0,h1,hnb,hnl⟩:=hC;have hr' : AL (bare fz) w [.agg [.sl false 46 (a0.Ak.map (U.enc 76)),.sl false 2 (a0.BA.map (U.enc 79)),.sl false 2 (a0.BG.map (U.enc 113)),.lit (.int .i64 a0.Count),.lit (.int .i64 a0.Now),.sl false 4 (a0.Flight.map (U.enc 106)),.sl false 13 (a0.Notes.map (U.enc 55))],.lit (.int .i64 a1)] vs:=hr;obtain⟨u0,vs1,rfl,hm,hr2⟩:=hr'.Bd;obtain⟨u1,vs2,rfl,hi,hr3⟩:=hr2.Bd;cases hr3.Dx;cases hi.JZ;cases hm with
  | @agg cs ws xs vs' z J _=>
  obtain⟨v0,q,rfl,q0,z⟩:=z.Bd;obtain⟨v1,q,rfl,q1,z⟩:=z.Bd;obtain⟨v2,q,rfl,q2,z⟩:=z.Bd;obtain⟨v3,q,rfl,q3,z⟩:=z.Bd;obtain⟨v4,q,rfl,q4,z⟩:=z.Bd;obtain⟨v5,q,rfl,q5,z⟩:=z.Bd;obtain⟨v6,q,rfl,q6,z⟩:=z.Bd;cases z.Dx;cases q3.JZ;cases q4.JZ;have hN:∃gN oN c0,v0 = .slice (some ⟨gN,oN,none⟩) a0.Ak.length c0/\∀j:Nat,j<a0.Ak.length->w.cell? ⟨gN,oN+j*46+18,none⟩=some (.bool (Mc a0 j)):=by
   generalize R:a0.Ak.map (U.enc 76)=es at q0;cases q0 with
   | EI _=>
    have:a0.Ak=[]:=by simpa using R
    rw[this]at h1;simp at h1;omega
   | Et a _=>
    have:a0.Ak=[]:=by simpa using R
    rw[this]at h1;simp at h1;omega
   | @sl _ us _ _ b o c e k0 k1 k2 k3 k4 k5 k6 _=>
    subst R;refine⟨b,o,c,by rw[List.length_map],fun j hj=>?_⟩;obtain⟨u,C,hru⟩:=k0.get (i:=j) (x:=U.enc 76 a0.Ak[j]) (by rw[List.getElem?_map,List.getElem?_eq_getElem hj];rfl);have hsz:=k2 u (List.mem_of_getElem? C);have D:u.cells.toList[18]? = some (.bool (Mc a0 j)):=by
     have hrl:Mc a0 j=a0.Ak[j].Fz:=by
      unfold Mc;rw[Int.toNat_natCast,List.getElem?_eq_getElem hj];rfl
     rw[hrl];have hru' : AL (bare fz) w [.agg ((U.enc 76 a0.Ak[j]).cells)] [u]:=hru;cases hru' with
     | @agg cs ws xs vs z hone _=>
      obtain⟨v,hv,hrv⟩:=z.get (i:=18) (x:=.lit (.bool a0.Ak[j].Fz)) rfl;rw[<- hrv.JZ];exact hv
    have:=Zaf k2 C 18 (by decide);have h8:=(k6 (j*46+18) _ (by rw[this];exact D)).2;rw[<- Nat.add_assoc]at h8;exact h8
  obtain⟨gN,oN,c0,rfl,hN⟩:=hN;have hw:=Zkl w a0.Ak.length (some ⟨gN,oN,none⟩) c0 v1 v2 v5 v6 a0.Count a0.Now (Mc a0) (Lr a0) a1 hn h0 h1 gN oN rfl hN ⟨J _ (by simp),J _ (by simp),J _ (by simp),J _ (by simp)⟩
   (fun i hi wr hbr=>by
    obtain⟨l,S,I⟩:=hnb i hi;have hE:Ext (bare fz) w (bare fz) wr:=⟨fun id L h=>(by cases h),fun b c h=>⟨h,by
     obtain⟨u,C⟩:=hcells b c h;exact hbr.cell (p:=⟨b,c,none⟩) (cell_lt C)⟩,IE.refl _⟩
    have hii:(Lit.int .i64 (i:Int)).wf=true:=TP (by omega) (by omega);have Q:=ZeZ.pure (a0,(i:Int),()) l S fz wr _ (fun b c h=>by
     obtain⟨u,C⟩:=hcells b c h;exact⟨u,(hE.fz b c h).2.trans C⟩) (hg.ext hE) (AL.Dk.2 ⟨(AL.Dk.1 hr').1.ext hE,.lit (v:=.int .i64 (i:Int)) hii .nil⟩)
    refine Q.mono ?_
    rintro e w' ⟨u,Y,rfl,p1,p2,p3,p4,p5,p6⟩
    refine⟨u,rfl,?_,p1⟩;rw[show Lr a0 (i:Int)=l by unfold Lr;rw[S];rfl];exact ZpM (fz:=Y) p5 (fun b c h=>by
     obtain⟨u,C⟩:=p4 b c h;exact cell_lt C) (fun b c h=>by
     rcases Nat.lt_or_ge b wr.heap.size with h2|h2
     ·obtain⟨u,C⟩:=hcells b c (p3 b c h h2);exact .inl (cell_lt C)
     ·exact .inr h2))
   (fun i hi x M=>by
    obtain⟨l,S,I⟩:=hnb i hi;rw[show Lr a0 (i:Int)=l by unfold Lr;rw[S];rfl]at M;exact I x M) hnl
  refine hw.mono ?_
  rintro e w' ⟨v,rfl,⟨hlen,hc⟩,hb⟩
  generalize hR:HY (IJ (Mc a0) (Lr a0) a1 (a0.Ak.length+1) 0 [a1]) a1 a0.Ak.length=l at *;have I:∀x∈l,0<=x/\x<1000:=fun x M=>by
   rw[<- hR]at M;have:=Zoh M;omega
  show ∃u Y,_/\_/\_/\_/\_/\AL _ _ [V.sl false 1 (l.map fun n=>V.lit (.int .i64 n))] _/\Bz (V.sl false 1 (l.map fun n=>V.lit (.int .i64 n)))=true;have hnr:Bz (V.sl false 1 (l.map fun n=>V.lit (.int .i64 n)))=true:=(JU _).2 fun x M=>by obtain⟨y,_,rfl⟩:=List.mem_map.1 M;rfl
  have keep:∀b c,fz b c->∃u,w'.cell? ⟨b,c,none⟩=some u:=fun b c h=>by
   obtain⟨u,C⟩:=hcells b c h;exact⟨u,(hb.cell (p:=⟨b,c,none⟩) (cell_lt C)).trans C⟩
  rcases hc with ⟨rfl,h0⟩|⟨g,cap,cur,rfl,hbg,hgb,h3,h4,h5,h6⟩
  ·have:l=[]:=List.length_eq_zero_iff.1 h0;subst this;exact⟨_,fz,rfl,hb,fun _ _ h=>h,fun _ _ h _=>h,keep,.EI .nil,rfl⟩
  ·have D:∀j u,(l.map fun x=>Value.int .i64 x)[j]? = some u->w'.cell? ⟨g,j,none⟩=some u:=fun j u C=>by
    rw[<- h6,List.getElem?_take]at C;split at C
    ·simpa[World.cell?,hgb]using C
    ·cases C
   refine⟨_,fun b c=>fz b c\/(b=g/\c<l.length),rfl,hb,fun _ _ h=>.inl h,fun b c h hlt=>h.resolve_right (fun e=>by omega),fun b c h=>?_,?_,hnr⟩
   ·rcases h with h|⟨rfl,h⟩
    ·exact keep b c h
    ·exact⟨_,D c _ (by rw[List.getElem?_map,List.getElem?_eq_getElem h];rfl)⟩
   ·have key:=AL.sl (σ:=bare fun b c=>fz b c\/(b=g/\c<l.length)) (w:=w') (xs:=[]) (vs:=[]) g 0 cap 1 (Z7W (bare fun b c=>fz b c\/(b=g/\c<l.length)) w' l I) (fun x M=>by obtain⟨y,_,rfl⟩:=List.mem_map.1 M;rfl) (fun u C=>by obtain⟨y,_,rfl⟩:=List.mem_map.1 C;rfl)
     (fun u C=>by rw[ZH]at C;obtain⟨y,_,rfl⟩:=List.mem_map.1 C;rfl) (by rw[List.length_map];exact h3) h4 (fun j u C=>by
      rw[ZH]at C;have S:j<l.length:=by simpa using (List.getElem?_eq_some_iff.1 C).1
      rw[Nat.zero_add];exact⟨.inr ⟨rfl,S⟩,D j u C⟩) .nil
    rw[List.length_map]at key;exact key
 ·cases G
end
end Go.Proofs.YteinepnbndegdaaGreat
namespace Go.Proofs.YteinepnbndegdaaGreat
open Tryz
open Go Go.Proofs.YteinepnbndegdaaGreat.Le
set_option maxRecDepth 100000
noncomputable section
def Y7 (a0 a1:Int):Option Int:=if a1<=0 then some 0 else if a1>=64 then some a0 else if 0<=a1 then
 some (bits .and .u64 a0 (IntKind.wrap .u64 ((IntKind.wrap .u64 ((1:Int)*2 ^ (min (Int.toNat a1) (IntKind.bits .u64)))) - 1))) else none
def Z0Q (a0 a1:Int):Option Int:=if 0<=(bits .and .u64 (IntKind.wrap .u64 (a1)) (63:Int)) then (if 0<=(IntKind.wrap .u64 ((64:Int) - (bits .and .u64 (IntKind.wrap .u64 (a1)) (63:Int)))) then
 some (bits .or .u64 (IntKind.wrap .u64 (a0*2 ^ (min (Int.toNat (bits .and .u64 (IntKind.wrap .u64 (a1)) (63:Int))) (IntKind.bits .u64)))) (Int.fdiv a0 (2 ^ (min (Int.toNat (IntKind.wrap .u64 ((64:Int) - (bits .and .u64 (IntKind.wrap .u64 (a1)) (63:Int))))) (IntKind.bits .u64))))) else none) else none
def kR (a0 a1:Int):Option Int:=if 0<=(bits .and .u64 (IntKind.wrap .u64 (a1)) (31:Int)) then (if 0<=(IntKind.wrap .u64 ((32:Int) - (bits .and .u64 (IntKind.wrap .u64 (a1)) (31:Int)))) then
 some (bits .or .u32 (IntKind.wrap .u32 (a0*2 ^ (min (Int.toNat (bits .and .u64 (IntKind.wrap .u64 (a1)) (31:Int))) (IntKind.bits .u32)))) (Int.fdiv a0 (2 ^ (min (Int.toNat (IntKind.wrap .u64 ((32:Int) - (bits .and .u64 (IntKind.wrap .u64 (a1)) (31:Int))))) (IntKind.bits .u32))))) else none) else none
def Z0T (a0 a1 a2:Int):Option Int:=(Z0Q a0 (Int.tmod (Ad ((11:Int)*(Int.tmod a1 64))) (64:Int))).bind fun x1=>(Y7 x1 32).bind fun x2=>
 (kR (IntKind.wrap .u32 (a2+(IntKind.wrap .u32 (x2)))) (7:Int)).bind fun x3=>(kR (IntKind.wrap .u32 (x2)) (16:Int)).bind fun x4=>
 some (bits .xor .u32 (IntKind.wrap .u32 (x3*2654435761)) x4)
def YU (k:Int):Nat->Int->Int->Int->Option Int
 | 0,i,a,b=>if i<8 then none else some (bits .or .u64 (IntKind.wrap .u64 ((IntKind.wrap .u64 a)*2 ^ (32:Nat))) (IntKind.wrap .u64 b))
 | n+1,i,a,b=>if i<8 then (Z0T k i b).bind fun x=>YU k n (Ad (i+1)) b (bits .xor .u32 a x) else some (bits .or .u64 (IntKind.wrap .u64 ((IntKind.wrap .u64 a)*2 ^ (32:Nat))) (IntKind.wrap .u64 b))
def nY (k s:Int):Option Int:=(Y7 s 32).bind fun x1=>YU k 8 0 (IntKind.wrap .u32 (Int.fdiv s (2 ^ (32:Nat)))) (IntKind.wrap .u32 x1)
theorem Zaa (a b:Int):Na a b=Y7 a b:=by
 unfold Na Y7;rw[AQ];simp only[fG]
 grind [Tr.den,GN]
theorem ZnM (a b:Int):Pz a b=Z0Q a b:=by
 unfold Pz Z0Q;rw[AQ];simp only[pG]
 grind [Tr.den,GN]
theorem Zmq (a b:Int):NV a b=kR a b:=by
 unfold NV kR;rw[AQ];simp only[pI]
 grind [Tr.den,GN]
theorem Znd (a b c:Int):RQ a b c=Z0T a b c:=by
 unfold RQ Z0T;rw[AQ];simp only[dY,Zaa,ZnM,Zmq];rfl
theorem Z8L (h:I9):RF h=some (bits .or .u64 (IntKind.wrap .u64 ((IntKind.wrap .u64 h.x0)*2 ^ (32:Nat))) (IntKind.wrap .u64 h.x1)):=by
 unfold RF;rw[AQ];rfl
theorem Z92 (k:Int):∀(n:Nat) (i a b r:Int),YU k n i a b=some r->AY GY (.b1 k i ⟨a,b⟩)=some r
 | 0,i,a,b,r,h=>by
  unfold YU at h;split at h
  ·cases h
  ·rename_i hi;rw[AQ];simp only[GY,decide_eq_false hi,Z8L];exact h
 | n+1,i,a,b,r,h=>by
  unfold YU at h;split at h
  ·rename_i hi;obtain⟨x,z,h⟩:=Option.bind_eq_some_iff.1 h;rw[AQ];simp only[GY,decide_eq_true hi,Znd,z];exact Z92 k n _ _ _ _ h
  ·rename_i hi;rw[AQ];simp only[GY,decide_eq_false hi,Z8L];exact h
theorem ZnW (x:Int):Ua x=(Y7 x 32).bind fun x1=>some ⟨IntKind.wrap .u32 (Int.fdiv x (2 ^ (32:Nat))),IntKind.wrap .u32 x1⟩:=by
 unfold Ua;rw[AQ];simp only[dZ,Zaa];rfl
theorem Z9T {k s r:Int} (h:nY k s=some r):Ia k s=some r:=by
 unfold nY at h;obtain⟨x,z,h⟩:=Option.bind_eq_some_iff.1 h;unfold Ia;rw[AQ];simp only[GY,ZnW,z];exact Z92 k _ _ _ _ _ h
def Vy (k s:Int):Option Int:=match nY k s with
 | some r=>some r
 | none=>Ia k s
theorem Zak (k s:Int):Vy k s=Ia k s:=by
 unfold Vy;split
 ·rename_i r h;exact(Z9T h).symm
 ·rfl
theorem Z9J:YO Fence.wide Vy:=fun k s r z D C=>Z0p fA k s r z D (by rw[<- Zak];exact C)
theorem Zpj (k s:Int):∃r,Vy k s=some r:=by rw[Zak];exact Z1d k s
def mixV:List V->Option V
 | [.lit (.int .u64 k),.lit (.int .u64 s)]=>(nY k s).map fun r=>.lit (.int .u64 r)
 | _=>none
theorem ZmH:Gj Tryz.prog gl 218 mixV:=Zo3 rfl fA fun xs r h=>by
 unfold mixV at h;split at h
 ·rename_i k s;obtain⟨q,z,rfl⟩:=Option.map_eq_some_iff.1 h;exact⟨(k,s,()),q,rfl,Z9T z,rfl⟩
 ·cases h
def kF:List V->Option (List Int)
 | []=>some []
 | .lit (.int .u8 n)::xs=>(kF xs).map (n::·)
 | _=>none
theorem Z8r:∀{xs:List V} {C:List Int},kF xs=some C->xs=C.map fun x=>V.lit (.int .u8 x)
 | [],C,h=>by cases h;rfl
 | x::xs,C,h=>by
  unfold kF at h;split at h
  ·rename_i z;cases z
  ·rename_i n G z;cases z;obtain⟨ms,D,rfl⟩:=Option.map_eq_some_iff.1 h;rw[Z8r D];rfl
  ·cases h
def tagG:List V->Option V
 | [.lit (.int .u64 k),.sl false 1 xs]=>match kF xs with
  | some z=>(TB Vy k z).map fun r=>.lit (.int .u64 r)
  | none=>none
 | _=>none
theorem ZmW:Gj Tryz.prog gl 169 tagG:=by
 refine⟨⟨f169,func169,by kernel_rfl,by kernel_rfl⟩,fun E ys r0 _ h=>?_⟩;unfold tagG at h;split at h
 ·rename_i k xs;split at h
  ·rename_i Q D;obtain⟨r,I,rfl⟩:=Option.map_eq_some_iff.1 h;intro fz w vs hcells Y z;obtain⟨v0,vs,rfl,R,z⟩:=z.Bd;obtain⟨v1,vs,rfl,G,z⟩:=z.Bd;cases z.Dx;rw[Z8r D]at G;obtain⟨a,b,o,cap,rfl,C⟩:=row_of (xs:=Q) G;cases R with
   | lit J _=>
    have S:(Lit.int .u64 r).wf=true:=ZaM Z9J J I;refine(callsIn_wide.1 (ZaQ Fence.wide trivial trivial trivial trivial rfl Vy Z9J (fun k s _=>Zpj k s) 3 (by omega) k Q r J I b o cap a w C)).mono ?_
    rintro e w' ⟨rfl,hb⟩
    refine⟨_,fz,rfl,hb,fun _ _ h=>h,fun _ _ h _=>h,fun b c h=>?_,.lit S .nil,rfl⟩;obtain⟨u,M⟩:=hcells b c h;exact⟨u,(hb.cell (p:=⟨b,c,none⟩) (cell_lt M)).trans M⟩
  ·cases h
 ·cases h
def Zbs:List V->Option V:=IZ (EC Tryz.prog gl [126,133,166] (fun _=>false) [] []) 20 126
theorem rk126:Xw Tryz.prog gl [126,133,166] (fun _=>false) [] []=true:=by kernel_rfl
theorem rg126:Gj Tryz.prog gl 126 Zbs:=Z8l FO rk126 (fun p z=>by cases z) (by rfl) func126 (by kernel_rfl) 20
def Zbh:List V->Option V:=IZ (EC Tryz.prog gl [123] (fun _=>false) [] []) 20 123
theorem rk123:Xw Tryz.prog gl [123] (fun _=>false) [] []=true:=by kernel_rfl
theorem rg123:Gj Tryz.prog gl 123 Zbh:=Z8l FO rk123 (fun p z=>by cases z) (by rfl) func123 (by kernel_rfl) 20
def MF:FuncId->Option (List V->Option V)
 | 169=>some tagG
 | 218=>some mixV
 | 126=>some Zbs
 | 123=>some Zbh
 | _=>none
theorem Wq:∀g F,MF g=some F->Gj Tryz.prog gl g F:=fun g F h=>by
 unfold MF at h;split at h<;>cases h
 ·exact ZmW
 ·exact ZmH
 ·exact rg126
 ·exact rg123
def Jc:List FuncId:=[4,7,8,9,10,11,12,18,19,20,21,22,23,24,25,26,27,28,29,30,31,32,37,43,44,45,46,47,48,49,50,51,52,53,54,55,56,57,68,71,72,73,74,75,76,77,78,79,80,82,83,84,85,86,87,88,89,90,91,92,93,94,95,98,99,100,101,102,103,104,105,106,107,108,109,110,111,112,113,114,115,116,117,118,119,120,121,122,124,125,127,128,129,130,131,132,133,134,135,136,137,138,139,140,141,142,143,144,145,146,147,148,149,150,151,152,153,154,155,156,157,158,159,160,161,162,163,164,165,166,167,168,170,171,173,174,175,176,177,178,179,180,181,182,183,184,185,186,187,188,189,190,191,192,193,194,195,196,197,198,199,200,201,202,203,204,205,206,207,208,209,210,211,212,213,214,215,216,217,219,220,221,222,223,224,225,226,227,228,229,230,231,232,233,234,235,236,237,238,239,240,241,242,243,244,245,246,247,248,249,250,251,252,253,254,255,256,257,258,259,260,261,263,264,265]
def Ja:FuncId->Bool:=fun g=>!([18,19,20,22,23,27,29,43,45,47,49,50,52,53,54,55,57,71,72,74,75,80,83,84,86,88,92,95,98,99,100,102,103,123,125,126,135,136,139,141,142,143,144,151,152,153,164,193,196,198,206,219,231,232,252,254,257,258,36,38,39,40,41,42,63,64,65,66,67,69,70,97].contains g)
def hl4:List (Nat×Nat×Nat×Nat):=[(36,46,480,76),(38,2,16,79),(39,2,16,113),(40,4,48,106),(41,1,1,5),(42,13,96,55),(63,1,2,39),(64,3,12,49),(65,3,12,138),(66,10,72,149),(67,11,80,135),(69,18,136,158),(70,3,40,120),(97,1,24,27)]
theorem Qi:∀p∈hl4,FN Tryz.prog p.1 p.2.1 p.2.2.1 p.2.2.2:=by
 intro p z;simp only[hl4,List.mem_cons,List.not_mem_nil,or_false]at z;rcases z with rfl|rfl|rfl|rfl|rfl|rfl|rfl|rfl|rfl|rfl|rfl|rfl|rfl|rfl<;>first|exact Z2H|exact Z2I|exact Z2v|exact Z2V|exact Z2J|exact Z29|exact Z2k|exact Z2t|exact Z2j|exact Z2d|exact Z2b|exact Z2m|exact Z2n|exact Zc7
theorem Q7:∀p∈([]:List (Nat×Nat×Nat×Nat)),FN Tryz.prog p.1 p.2.1 p.2.2.1 p.2.2.2:=fun p z=>by cases z
abbrev vi (k:IntKind) (n:Int):V:=.lit (.int k n)
abbrev vt:V:=.lit (.bool true)
abbrev vf:V:=.lit (.bool false)
theorem nX:VN Tryz.prog gl Jc Ja [(28,4)] [] MF hl4=true:=by kernel_rfl
theorem Zqk:IZ (EX Tryz.prog gl Jc Ja [(28,4)] [] MF hl4) 300 28 [.agg [vi .u16 50,vi .u64 1,vi .u64 2,vi .i64 0,vi .u64 3,vi .i64 60,vi .u64 15117967196265648854,vi .u64 3048390888902185609,vi .u64 2089129140018500110,vi .u64 0,vi .i64 0,vi .u64 0,vi .u64 0,vi .u64 0,vi .u32 0,vf,vi .i64 0,vi .u32 0,vf,vf,.sl false 1 [],.sl false 3 [],.sl false 3 [],.sl false 10 [],.sl false 11 [],vi .u16 0,.sl false 18 [],.sl false 1 [],vi .i64 0,vf,vi .i64 0,vi .i64 0,vi .i64 0,vi .i64 0,vi .u16 0,vi .i64 0,vi .i64 0,vi .i64 0,vi .i64 0,.sl false 1 [],vi .i64 0,vf,vi .i64 0,.sl false 3 [],vi .u32 0,vt],.agg [vi .i64 0,vi .i64 0,vi .i64 1,vi .u16 51,vi .i64 1,vt,.sl false 1 [vi .u8 7],vi .u64 0,vi .i64 0,vi .i64 0],vi .i64 0]=some (.Ap [.agg [vi .u16 50,vi .u64 1,vi .u64 2,vi .i64 0,vi .u64 3,vi .i64 60,vi .u64 15117967196265648854,vi .u64 3048390888902185609,vi .u64 2089129140018500110,vi .u64 0,vi .i64 0,vi .u64 0,vi .u64 0,vi .u64 0,vi .u32 0,vf,vi .i64 0,vi .u32 1,vf,vf,.sl false 1 [],.sl false 3 [],.sl false 3 [],.sl false 10 [],.sl false 11 [],vi .u16 0,.sl false 18 [],.sl false 1 [],vi .i64 0,vf,vi .i64 0,vi .i64 0,vi .i64 0,vi .i64 0,vi .u16 0,vi .i64 0,vi .i64 0,vi .i64 0,vi .i64 0,.sl false 1 [],vi .i64 0,vf,vi .i64 0,.sl false 3 [.agg [vi .i64 0,.sl false 1 [vi .u8 60,vi .u8 187,vi .u8 148,vi .u8 245,vi .u8 184,vi .u8 216,vi .u8 75,vi .u8 241,vi .u8 69,vi .u8 100,vi .u8 35,vi .u8 111,vi .u8 154,vi .u8 210,vi .u8 174,vi .u8 131,vi .u8 185,vi .u8 118,vi .u8 3],vi .u16 0]],vi .u32 100,vt],.sl true 0 [],vi .i64 0]):=by kernel_rfl
def Zbj:List (List V×V):=[([.agg [vi .u16 50,vi .u64 1,vi .u64 2,vi .i64 0,vi .u64 3,vi .i64 60,vi .u64 15117967196265648854,vi .u64 3048390888902185609,vi .u64 2089129140018500110,vi .u64 0,vi .i64 0,vi .u64 0,vi .u64 0,vi .u64 0,vi .u32 0,vf,vi .i64 0,vi .u32 0,vf,vf,.sl false 1 [],.sl false 3 [],.sl false 3 [],.sl false 10 [],.sl false 11 [],vi .u16 0,.sl false 18 [],.sl false 1 [],vi .i64 0,vf,vi .i64 0,vi .i64 0,vi .i64 0,vi .i64 0,vi .u16 0,vi .i64 0,vi .i64 0,vi .i64 0,vi .i64 0,.sl false 1 [],vi .i64 0,vf,vi .i64 0,.sl false 3 [],vi .u32 0,vt],.agg [vi .i64 0,vi .i64 0,vi .i64 1,vi .u16 51,vi .i64 1,vt,.sl false 1 [vi .u8 7],vi .u64 0,vi .i64 0,vi .i64 0],vi .i64 0],.Ap [.agg [vi .u16 50,vi .u64 1,vi .u64 2,vi .i64 0,vi .u64 3,vi .i64 60,vi .u64 15117967196265648854,vi .u64 3048390888902185609,vi .u64 2089129140018500110,vi .u64 0,vi .i64 0,vi .u64 0,vi .u64 0,vi .u64 0,vi .u32 0,vf,vi .i64 0,vi .u32 1,vf,vf,.sl false 1 [],.sl false 3 [],.sl false 3 [],.sl false 10 [],.sl false 11 [],vi .u16 0,.sl false 18 [],.sl false 1 [],vi .i64 0,vf,vi .i64 0,vi .i64 0,vi .i64 0,vi .i64 0,vi .u16 0,vi .i64 0,vi .i64 0,vi .i64 0,vi .i64 0,.sl false 1 [],vi .i64 0,vf,vi .i64 0,.sl false 3 [.agg [vi .i64 0,.sl false 1 [vi .u8 60,vi .u8 187,vi .u8 148,vi .u8 245,vi .u8 184,vi .u8 216,vi .u8 75,vi .u8 241,vi .u8 69,vi .u8 100,vi .u8 35,vi .u8 111,vi .u8 154,vi .u8 210,vi .u8 174,vi .u8 131,vi .u8 185,vi .u8 118,vi .u8 3],vi .u16 0]],vi .u32 100,vt],.sl true 0 [],vi .i64 0])]
theorem gvT28:Gj Tryz.prog gl 28 (JH Zbj):=Rj (RZ FO nX Wq Qi Q7 (by rfl) func28 (by kernel_rfl) 300) (Kv Zqk Ro)
theorem Zr0:IZ (EX Tryz.prog gl Jc Ja [(28,4)] [] MF hl4) 300 44 [.agg [vi .u16 50,vi .u64 1,vi .u64 2,vi .i64 0,vi .u64 3,vi .i64 60,vi .u64 15117967196265648854,vi .u64 3048390888902185609,vi .u64 2089129140018500110,vi .u64 0,vi .i64 0,vi .u64 0,vi .u64 0,vi .u64 0,vi .u32 0,vf,vi .i64 0,vi .u32 1,vf,vf,.sl false 1 [],.sl false 3 [],.sl false 3 [],.sl false 10 [],.sl false 11 [],vi .u16 0,.sl false 18 [],.sl false 1 [],vi .i64 0,vf,vi .i64 0,vi .i64 0,vi .i64 0,vi .i64 0,vi .u16 0,vi .i64 0,vi .i64 0,vi .i64 0,vi .i64 0,.sl false 1 [],vi .i64 0,vf,vi .i64 0,.sl false 3 [.agg [vi .i64 0,.sl false 1 [vi .u8 60,vi .u8 187,vi .u8 148,vi .u8 245,vi .u8 184,vi .u8 216,vi .u8 75,vi .u8 241,vi .u8 69,vi .u8 100,vi .u8 35,vi .u8 111,vi .u8 154,vi .u8 210,vi .u8 174,vi .u8 131,vi .u8 185,vi .u8 118,vi .u8 3],vi .u16 0]],vi .u32 100,vt],vi .i64 1]=some (.Ap [.agg [vi .u16 50,vi .u64 1,vi .u64 2,vi .i64 0,vi .u64 3,vi .i64 60,vi .u64 15117967196265648854,vi .u64 3048390888902185609,vi .u64 2089129140018500110,vi .u64 0,vi .i64 0,vi .u64 0,vi .u64 0,vi .u64 0,vi .u32 0,vf,vi .i64 0,vi .u32 1,vf,vf,.sl false 1 [],.sl false 3 [],.sl false 3 [],.sl false 10 [],.sl false 11 [],vi .u16 0,.sl false 18 [],.sl false 1 [],vi .i64 0,vf,vi .i64 0,vi .i64 0,vi .i64 0,vi .i64 0,vi .u16 0,vi .i64 0,vi .i64 0,vi .i64 0,vi .i64 0,.sl false 1 [],vi .i64 0,vf,vi .i64 0,.sl false 3 [],vi .u32 100,vt],.sl false 3 [.agg [vi .i64 0,.sl false 1 [vi .u8 60,vi .u8 187,vi .u8 148,vi .u8 245,vi .u8 184,vi .u8 216,vi .u8 75,vi .u8 241,vi .u8 69,vi .u8 100,vi .u8 35,vi .u8 111,vi .u8 154,vi .u8 210,vi .u8 174,vi .u8 131,vi .u8 185,vi .u8 118,vi .u8 3],vi .u16 0]],.sl true 0 []]):=by kernel_rfl
theorem Zqx:IZ (EX Tryz.prog gl Jc Ja [(28,4)] [] MF hl4) 300 44 [.agg [vi .u16 51,vi .u64 1,vi .u64 2,vi .i64 0,vi .u64 3,vi .i64 60,vi .u64 15117967196265648854,vi .u64 3048390888902185609,vi .u64 2089129140018500110,vi .u64 0,vi .i64 0,vi .u64 0,vi .u64 0,vi .u64 0,vi .u32 0,vf,vi .i64 0,vi .u32 0,vf,vf,.sl false 1 [],.sl false 3 [],.sl false 3 [],.sl false 10 [],.sl false 11 [],vi .u16 0,.sl false 18 [],.sl false 1 [],vi .i64 0,vf,vi .i64 0,vi .i64 0,vi .i64 0,vi .i64 0,vi .u16 0,vi .i64 0,vi .i64 0,vi .i64 0,vi .i64 0,.sl false 1 [],vi .i64 0,vf,vi .i64 0,.sl false 3 [],vi .u32 0,vt],vi .i64 1]=some (.Ap [.agg [vi .u16 51,vi .u64 1,vi .u64 2,vi .i64 0,vi .u64 3,vi .i64 60,vi .u64 15117967196265648854,vi .u64 3048390888902185609,vi .u64 2089129140018500110,vi .u64 0,vi .i64 0,vi .u64 0,vi .u64 0,vi .u64 0,vi .u32 0,vf,vi .i64 0,vi .u32 0,vf,vf,.sl false 1 [],.sl false 3 [],.sl false 3 [],.sl false 10 [],.sl false 11 [],vi .u16 0,.sl false 18 [],.sl false 1 [],vi .i64 0,vf,vi .i64 0,vi .i64 0,vi .i64 0,vi .i64 0,vi .u16 0,vi .i64 0,vi .i64 0,vi .i64 0,vi .i64 0,.sl false 1 [],vi .i64 0,vf,vi .i64 0,.sl false 3 [],vi .u32 0,vt],.sl false 3 [],.sl true 0 []]):=by kernel_rfl
theorem Zqg:IZ (EX Tryz.prog gl Jc Ja [(28,4)] [] MF hl4) 300 44 [.agg [vi .u16 50,vi .u64 1,vi .u64 2,vi .i64 0,vi .u64 3,vi .i64 60,vi .u64 15117967196265648854,vi .u64 3048390888902185609,vi .u64 2089129140018500110,vi .u64 0,vi .i64 0,vi .u64 0,vi .u64 0,vi .u64 0,vi .u32 0,vf,vi .i64 0,vi .u32 1,vf,vf,.sl false 1 [],.sl false 3 [],.sl false 3 [],.sl false 10 [],.sl false 11 [],vi .u16 0,.sl false 18 [],.sl false 1 [],vi .i64 0,vf,vi .i64 0,vi .i64 0,vi .i64 0,vi .i64 0,vi .u16 0,vi .i64 0,vi .i64 0,vi .i64 0,vi .i64 0,.sl false 1 [],vi .i64 0,vf,vi .i64 0,.sl false 3 [],vi .u32 100,vt],vi .i64 2]=some (.Ap [.agg [vi .u16 50,vi .u64 1,vi .u64 2,vi .i64 0,vi .u64 3,vi .i64 60,vi .u64 15117967196265648854,vi .u64 3048390888902185609,vi .u64 2089129140018500110,vi .u64 0,vi .i64 0,vi .u64 0,vi .u64 0,vi .u64 0,vi .u32 0,vf,vi .i64 0,vi .u32 1,vf,vf,.sl false 1 [],.sl false 3 [],.sl false 3 [],.sl false 10 [],.sl false 11 [],vi .u16 0,.sl false 18 [],.sl false 1 [],vi .i64 0,vf,vi .i64 0,vi .i64 0,vi .i64 0,vi .i64 0,vi .u16 0,vi .i64 0,vi .i64 0,vi .i64 0,vi .i64 0,.sl false 1 [],vi .i64 0,vf,vi .i64 0,.sl false 3 [],vi .u32 100,vt],.sl false 3 [],.sl true 0 []]):=by kernel_rfl
theorem Zrg:IZ (EX Tryz.prog gl Jc Ja [(28,4)] [] MF hl4) 300 44 [.agg [vi .u16 51,vi .u64 1,vi .u64 2,vi .i64 0,vi .u64 3,vi .i64 60,vi .u64 15117967196265648854,vi .u64 3048390888902185609,vi .u64 2089129140018500110,vi .u64 0,vi .i64 0,vi .u64 0,vi .u64 0,vi .u64 0,vi .u32 0,vf,vi .i64 0,vi .u32 0,vf,vf,.sl false 1 [],.sl false 3 [.agg [vi .u16 50,vi .u32 0,vi .u32 0]],.sl false 3 [.agg [vi .u16 50,vi .u32 0,vi .u32 0]],.sl false 10 [],.sl false 11 [],vi .u16 0,.sl false 18 [],.sl false 1 [],vi .i64 0,vf,vi .i64 0,vi .i64 0,vi .i64 0,vi .i64 0,vi .u16 0,vi .i64 0,vi .i64 0,vi .i64 0,vi .i64 0,.sl false 1 [],vi .i64 0,vf,vi .i64 0,.sl false 3 [],vi .u32 0,vt],vi .i64 2]=some (.Ap [.agg [vi .u16 51,vi .u64 1,vi .u64 2,vi .i64 0,vi .u64 3,vi .i64 60,vi .u64 15117967196265648854,vi .u64 3048390888902185609,vi .u64 2089129140018500110,vi .u64 0,vi .i64 0,vi .u64 0,vi .u64 0,vi .u64 0,vi .u32 0,vf,vi .i64 0,vi .u32 0,vf,vf,.sl false 1 [],.sl false 3 [.agg [vi .u16 50,vi .u32 0,vi .u32 0]],.sl false 3 [.agg [vi .u16 50,vi .u32 0,vi .u32 0]],.sl false 10 [],.sl false 11 [],vi .u16 0,.sl false 18 [],.sl false 1 [],vi .i64 0,vf,vi .i64 0,vi .i64 0,vi .i64 0,vi .i64 0,vi .u16 0,vi .i64 0,vi .i64 0,vi .i64 0,vi .i64 0,.sl false 1 [],vi .i64 0,vf,vi .i64 0,.sl false 3 [],vi .u32 0,vt],.sl false 3 [],.sl true 0 []]):=by kernel_rfl
def Zbd:List (List V×V):=[([.agg [vi .u16 50,vi .u64 1,vi .u64 2,vi .i64 0,vi .u64 3,vi .i64 60,vi .u64 15117967196265648854,vi .u64 3048390888902185609,vi .u64 2089129140018500110,vi .u64 0,vi .i64 0,vi .u64 0,vi .u64 0,vi .u64 0,vi .u32 0,vf,vi .i64 0,vi .u32 1,vf,vf,.sl false 1 [],.sl false 3 [],.sl false 3 [],.sl false 10 [],.sl false 11 [],vi .u16 0,.sl false 18 [],.sl false 1 [],vi .i64 0,vf,vi .i64 0,vi .i64 0,vi .i64 0,vi .i64 0,vi .u16 0,vi .i64 0,vi .i64 0,vi .i64 0,vi .i64 0,.sl false 1 [],vi .i64 0,vf,vi .i64 0,.sl false 3 [.agg [vi .i64 0,.sl false 1 [vi .u8 60,vi .u8 187,vi .u8 148,vi .u8 245,vi .u8 184,vi .u8 216,vi .u8 75,vi .u8 241,vi .u8 69,vi .u8 100,vi .u8 35,vi .u8 111,vi .u8 154,vi .u8 210,vi .u8 174,vi .u8 131,vi .u8 185,vi .u8 118,vi .u8 3],vi .u16 0]],vi .u32 100,vt],vi .i64 1],.Ap [.agg [vi .u16 50,vi .u64 1,vi .u64 2,vi .i64 0,vi .u64 3,vi .i64 60,vi .u64 15117967196265648854,vi .u64 3048390888902185609,vi .u64 2089129140018500110,vi .u64 0,vi .i64 0,vi .u64 0,vi .u64 0,vi .u64 0,vi .u32 0,vf,vi .i64 0,vi .u32 1,vf,vf,.sl false 1 [],.sl false 3 [],.sl false 3 [],.sl false 10 [],.sl false 11 [],vi .u16 0,.sl false 18 [],.sl false 1 [],vi .i64 0,vf,vi .i64 0,vi .i64 0,vi .i64 0,vi .i64 0,vi .u16 0,vi .i64 0,vi .i64 0,vi .i64 0,vi .i64 0,.sl false 1 [],vi .i64 0,vf,vi .i64 0,.sl false 3 [],vi .u32 100,vt],.sl false 3 [.agg [vi .i64 0,.sl false 1 [vi .u8 60,vi .u8 187,vi .u8 148,vi .u8 245,vi .u8 184,vi .u8 216,vi .u8 75,vi .u8 241,vi .u8 69,vi .u8 100,vi .u8 35,vi .u8 111,vi .u8 154,vi .u8 210,vi .u8 174,vi .u8 131,vi .u8 185,vi .u8 118,vi .u8 3],vi .u16 0]],.sl true 0 []]),
 ([.agg [vi .u16 51,vi .u64 1,vi .u64 2,vi .i64 0,vi .u64 3,vi .i64 60,vi .u64 15117967196265648854,vi .u64 3048390888902185609,vi .u64 2089129140018500110,vi .u64 0,vi .i64 0,vi .u64 0,vi .u64 0,vi .u64 0,vi .u32 0,vf,vi .i64 0,vi .u32 0,vf,vf,.sl false 1 [],.sl false 3 [],.sl false 3 [],.sl false 10 [],.sl false 11 [],vi .u16 0,.sl false 18 [],.sl false 1 [],vi .i64 0,vf,vi .i64 0,vi .i64 0,vi .i64 0,vi .i64 0,vi .u16 0,vi .i64 0,vi .i64 0,vi .i64 0,vi .i64 0,.sl false 1 [],vi .i64 0,vf,vi .i64 0,.sl false 3 [],vi .u32 0,vt],vi .i64 1],.Ap [.agg [vi .u16 51,vi .u64 1,vi .u64 2,vi .i64 0,vi .u64 3,vi .i64 60,vi .u64 15117967196265648854,vi .u64 3048390888902185609,vi .u64 2089129140018500110,vi .u64 0,vi .i64 0,vi .u64 0,vi .u64 0,vi .u64 0,vi .u32 0,vf,vi .i64 0,vi .u32 0,vf,vf,.sl false 1 [],.sl false 3 [],.sl false 3 [],.sl false 10 [],.sl false 11 [],vi .u16 0,.sl false 18 [],.sl false 1 [],vi .i64 0,vf,vi .i64 0,vi .i64 0,vi .i64 0,vi .i64 0,vi .u16 0,vi .i64 0,vi .i64 0,vi .i64 0,vi .i64 0,.sl false 1 [],vi .i64 0,vf,vi .i64 0,.sl false 3 [],vi .u32 0,vt],.sl false 3 [],.sl true 0 []]),
 ([.agg [vi .u16 50,vi .u64 1,vi .u64 2,vi .i64 0,vi .u64 3,vi .i64 60,vi .u64 15117967196265648854,vi .u64 3048390888902185609,vi .u64 2089129140018500110,vi .u64 0,vi .i64 0,vi .u64 0,vi .u64 0,vi .u64 0,vi .u32 0,vf,vi .i64 0,vi .u32 1,vf,vf,.sl false 1 [],.sl false 3 [],.sl false 3 [],.sl false 10 [],.sl false 11 [],vi .u16 0,.sl false 18 [],.sl false 1 [],vi .i64 0,vf,vi .i64 0,vi .i64 0,vi .i64 0,vi .i64 0,vi .u16 0,vi .i64 0,vi .i64 0,vi .i64 0,vi .i64 0,.sl false 1 [],vi .i64 0,vf,vi .i64 0,.sl false 3 [],vi .u32 100,vt],vi .i64 2],.Ap [.agg [vi .u16 50,vi .u64 1,vi .u64 2,vi .i64 0,vi .u64 3,vi .i64 60,vi .u64 15117967196265648854,vi .u64 3048390888902185609,vi .u64 2089129140018500110,vi .u64 0,vi .i64 0,vi .u64 0,vi .u64 0,vi .u64 0,vi .u32 0,vf,vi .i64 0,vi .u32 1,vf,vf,.sl false 1 [],.sl false 3 [],.sl false 3 [],.sl false 10 [],.sl false 11 [],vi .u16 0,.sl false 18 [],.sl false 1 [],vi .i64 0,vf,vi .i64 0,vi .i64 0,vi .i64 0,vi .i64 0,vi .u16 0,vi .i64 0,vi .i64 0,vi .i64 0,vi .i64 0,.sl false 1 [],vi .i64 0,vf,vi .i64 0,.sl false 3 [],vi .u32 100,vt],.sl false 3 [],.sl true 0 []]),
 ([.agg [vi .u16 51,vi .u64 1,vi .u64 2,vi .i64 0,vi .u64 3,vi .i64 60,vi .u64 15117967196265648854,vi .u64 3048390888902185609,vi .u64 2089129140018500110,vi .u64 0,vi .i64 0,vi .u64 0,vi .u64 0,vi .u64 0,vi .u32 0,vf,vi .i64 0,vi .u32 0,vf,vf,.sl false 1 [],.sl false 3 [.agg [vi .u16 50,vi .u32 0,vi .u32 0]],.sl false 3 [.agg [vi .u16 50,vi .u32 0,vi .u32 0]],.sl false 10 [],.sl false 11 [],vi .u16 0,.sl false 18 [],.sl false 1 [],vi .i64 0,vf,vi .i64 0,vi .i64 0,vi .i64 0,vi .i64 0,vi .u16 0,vi .i64 0,vi .i64 0,vi .i64 0,vi .i64 0,.sl false 1 [],vi .i64 0,vf,vi .i64 0,.sl false 3 [],vi .u32 0,vt],vi .i64 2],.Ap [.agg [vi .u16 51,vi .u64 1,vi .u64 2,vi .i64 0,vi .u64 3,vi .i64 60,vi .u64 15117967196265648854,vi .u64 3048390888902185609,vi .u64 2089129140018500110,vi .u64 0,vi .i64 0,vi .u64 0,vi .u64 0,vi .u64 0,vi .u32 0,vf,vi .i64 0,vi .u32 0,vf,vf,.sl false 1 [],.sl false 3 [.agg [vi .u16 50,vi .u32 0,vi .u32 0]],.sl false 3 [.agg [vi .u16 50,vi .u32 0,vi .u32 0]],.sl false 10 [],.sl false 11 [],vi .u16 0,.sl false 18 [],.sl false 1 [],vi .i64 0,vf,vi .i64 0,vi .i64 0,vi .i64 0,vi .i64 0,vi .u16 0,vi .i64 0,vi .i64 0,vi .i64 0,vi .i64 0,.sl false 1 [],vi .i64 0,vf,vi .i64 0,.sl false 3 [],vi .u32 0,vt],.sl false 3 [],.sl true 0 []])]
theorem gvT44:Gj Tryz.prog gl 44 (JH Zbd):=Rj (RZ FO nX Wq Qi Q7 (by rfl) func44 (by kernel_rfl) 300) (Kv Zr0 (Kv Zqx (Kv Zqg (Kv Zrg Ro))))
theorem Zpw:IZ (EX Tryz.prog gl Jc Ja [(28,4)] [] MF hl4) 300 73 [.agg [vi .u16 51,vi .u64 1,vi .u64 2,vi .i64 0,vi .u64 3,vi .i64 60,vi .u64 15117967196265648854,vi .u64 3048390888902185609,vi .u64 2089129140018500110,vi .u64 0,vi .i64 0,vi .u64 0,vi .u64 0,vi .u64 0,vi .u32 0,vf,vi .i64 0,vi .u32 0,vf,vf,.sl false 1 [],.sl false 3 [],.sl false 3 [],.sl false 10 [],.sl false 11 [],vi .u16 0,.sl false 18 [],.sl false 1 [],vi .i64 0,vf,vi .i64 0,vi .i64 0,vi .i64 0,vi .i64 0,vi .u16 0,vi .i64 0,vi .i64 0,vi .i64 0,vi .i64 0,.sl false 1 [],vi .i64 0,vf,vi .i64 0,.sl false 3 [],vi .u32 0,vt],.sl false 1 [vi .u8 60,vi .u8 187,vi .u8 148,vi .u8 245,vi .u8 184,vi .u8 216,vi .u8 75,vi .u8 241,vi .u8 69,vi .u8 100,vi .u8 35,vi .u8 111,vi .u8 154,vi .u8 210,vi .u8 174,vi .u8 131,vi .u8 185,vi .u8 118,vi .u8 3],vi .i64 2]=some (.Ap [.agg [vi .u16 51,vi .u64 1,vi .u64 2,vi .i64 0,vi .u64 3,vi .i64 60,vi .u64 15117967196265648854,vi .u64 3048390888902185609,vi .u64 2089129140018500110,vi .u64 0,vi .i64 0,vi .u64 0,vi .u64 0,vi .u64 0,vi .u32 0,vf,vi .i64 0,vi .u32 0,vf,vf,.sl false 1 [],.sl false 3 [.agg [vi .u16 50,vi .u32 0,vi .u32 0]],.sl false 3 [.agg [vi .u16 50,vi .u32 0,vi .u32 0]],.sl false 10 [],.sl false 11 [],vi .u16 0,.sl false 18 [],.sl false 1 [],vi .i64 0,vf,vi .i64 0,vi .i64 0,vi .i64 0,vi .i64 0,vi .u16 0,vi .i64 0,vi .i64 0,vi .i64 0,vi .i64 0,.sl false 1 [],vi .i64 0,vf,vi .i64 0,.sl false 3 [],vi .u32 0,vt],.sl false 11 [.agg [vi .i64 1,vi .u16 50,vi .u16 51,vt,vi .i64 1,vi .u16 50,vi .u32 0,vi .u32 0,.sl false 1 [vi .u8 7],vi .u16 0,vi .u64 0]]]):=by kernel_rfl
def Zbm:List (List V×V):=[([.agg [vi .u16 51,vi .u64 1,vi .u64 2,vi .i64 0,vi .u64 3,vi .i64 60,vi .u64 15117967196265648854,vi .u64 3048390888902185609,vi .u64 2089129140018500110,vi .u64 0,vi .i64 0,vi .u64 0,vi .u64 0,vi .u64 0,vi .u32 0,vf,vi .i64 0,vi .u32 0,vf,vf,.sl false 1 [],.sl false 3 [],.sl false 3 [],.sl false 10 [],.sl false 11 [],vi .u16 0,.sl false 18 [],.sl false 1 [],vi .i64 0,vf,vi .i64 0,vi .i64 0,vi .i64 0,vi .i64 0,vi .u16 0,vi .i64 0,vi .i64 0,vi .i64 0,vi .i64 0,.sl false 1 [],vi .i64 0,vf,vi .i64 0,.sl false 3 [],vi .u32 0,vt],.sl false 1 [vi .u8 60,vi .u8 187,vi .u8 148,vi .u8 245,vi .u8 184,vi .u8 216,vi .u8 75,vi .u8 241,vi .u8 69,vi .u8 100,vi .u8 35,vi .u8 111,vi .u8 154,vi .u8 210,vi .u8 174,vi .u8 131,vi .u8 185,vi .u8 118,vi .u8 3],vi .i64 2],.Ap [.agg [vi .u16 51,vi .u64 1,vi .u64 2,vi .i64 0,vi .u64 3,vi .i64 60,vi .u64 15117967196265648854,vi .u64 3048390888902185609,vi .u64 2089129140018500110,vi .u64 0,vi .i64 0,vi .u64 0,vi .u64 0,vi .u64 0,vi .u32 0,vf,vi .i64 0,vi .u32 0,vf,vf,.sl false 1 [],.sl false 3 [.agg [vi .u16 50,vi .u32 0,vi .u32 0]],.sl false 3 [.agg [vi .u16 50,vi .u32 0,vi .u32 0]],.sl false 10 [],.sl false 11 [],vi .u16 0,.sl false 18 [],.sl false 1 [],vi .i64 0,vf,vi .i64 0,vi .i64 0,vi .i64 0,vi .i64 0,vi .u16 0,vi .i64 0,vi .i64 0,vi .i64 0,vi .i64 0,.sl false 1 [],vi .i64 0,vf,vi .i64 0,.sl false 3 [],vi .u32 0,vt],.sl false 11 [.agg [vi .i64 1,vi .u16 50,vi .u16 51,vt,vi .i64 1,vi .u16 50,vi .u32 0,vi .u32 0,.sl false 1 [vi .u8 7],vi .u16 0,vi .u64 0]]])]
theorem gvT73:Gj Tryz.prog gl 73 (JH Zbm):=Rj (RZ FO nX Wq Qi Q7 (by rfl) func73 (by kernel_rfl) 300) (Kv Zpw Ro)
theorem ZsI:IZ (EX Tryz.prog gl Jc Ja [(28,4)] [] MF hl4) 300 9 [.agg [.sl false 1 [vf,vf],.sl false 1 [],.sl false 2 [.agg [vi .i64 0,vi .i64 1]],.sl false 2 []]]=some (.sl false 46 [.agg [vi .u16 50,vi .u64 1,vi .u64 2,vi .i64 0,vi .u64 3,vi .i64 60,vi .u64 15117967196265648854,vi .u64 3048390888902185609,vi .u64 2089129140018500110,vi .u64 0,vi .i64 0,vi .u64 0,vi .u64 0,vi .u64 0,vi .u32 0,vf,vi .i64 0,vi .u32 0,vf,vf,.sl false 1 [],.sl false 3 [],.sl false 3 [],.sl false 10 [],.sl false 11 [],vi .u16 0,.sl false 18 [],.sl false 1 [],vi .i64 0,vf,vi .i64 0,vi .i64 0,vi .i64 0,vi .i64 0,vi .u16 0,vi .i64 0,vi .i64 0,vi .i64 0,vi .i64 0,.sl false 1 [],vi .i64 0,vf,vi .i64 0,.sl false 3 [],vi .u32 0,vt],.agg [vi .u16 51,vi .u64 1,vi .u64 2,vi .i64 0,vi .u64 3,vi .i64 60,vi .u64 15117967196265648854,vi .u64 3048390888902185609,vi .u64 2089129140018500110,vi .u64 0,vi .i64 0,vi .u64 0,vi .u64 0,vi .u64 0,vi .u32 0,vf,vi .i64 0,vi .u32 0,vf,vf,.sl false 1 [],.sl false 3 [],.sl false 3 [],.sl false 10 [],.sl false 11 [],vi .u16 0,.sl false 18 [],.sl false 1 [],vi .i64 0,vf,vi .i64 0,vi .i64 0,vi .i64 0,vi .i64 0,vi .u16 0,vi .i64 0,vi .i64 0,vi .i64 0,vi .i64 0,.sl false 1 [],vi .i64 0,vf,vi .i64 0,.sl false 3 [],vi .u32 0,vt]]):=by kernel_rfl
def tbT9:List (List V×V):=[([.agg [.sl false 1 [vf,vf],.sl false 1 [],.sl false 2 [.agg [vi .i64 0,vi .i64 1]],.sl false 2 []]],.sl false 46 [.agg [vi .u16 50,vi .u64 1,vi .u64 2,vi .i64 0,vi .u64 3,vi .i64 60,vi .u64 15117967196265648854,vi .u64 3048390888902185609,vi .u64 2089129140018500110,vi .u64 0,vi .i64 0,vi .u64 0,vi .u64 0,vi .u64 0,vi .u32 0,vf,vi .i64 0,vi .u32 0,vf,vf,.sl false 1 [],.sl false 3 [],.sl false 3 [],.sl false 10 [],.sl false 11 [],vi .u16 0,.sl false 18 [],.sl false 1 [],vi .i64 0,vf,vi .i64 0,vi .i64 0,vi .i64 0,vi .i64 0,vi .u16 0,vi .i64 0,vi .i64 0,vi .i64 0,vi .i64 0,.sl false 1 [],vi .i64 0,vf,vi .i64 0,.sl false 3 [],vi .u32 0,vt],.agg [vi .u16 51,vi .u64 1,vi .u64 2,vi .i64 0,vi .u64 3,vi .i64 60,vi .u64 15117967196265648854,vi .u64 3048390888902185609,vi .u64 2089129140018500110,vi .u64 0,vi .i64 0,vi .u64 0,vi .u64 0,vi .u64 0,vi .u32 0,vf,vi .i64 0,vi .u32 0,vf,vf,.sl false 1 [],.sl false 3 [],.sl false 3 [],.sl false 10 [],.sl false 11 [],vi .u16 0,.sl false 18 [],.sl false 1 [],vi .i64 0,vf,vi .i64 0,vi .i64 0,vi .i64 0,vi .i64 0,vi .u16 0,vi .i64 0,vi .i64 0,vi .i64 0,vi .i64 0,.sl false 1 [],vi .i64 0,vf,vi .i64 0,.sl false 3 [],vi .u32 0,vt]])]
theorem gvT9:Gj Tryz.prog gl 9 (JH tbT9):=Rj (RZ FO nX Wq Qi Q7 (by rfl) func9 (by kernel_rfl) 300) (Kv ZsI Ro)
def Po:FuncId->Option (List V->Option V)
 | 28=>some (JH Zbj)
 | 44=>some (JH Zbd)
 | 73=>some (JH Zbm)
 | 9=>some (JH tbT9)
 | g=>MF g
theorem lL:∀g F,Po g=some F->Gj Tryz.prog gl g F:=fun g F h=>by
 unfold Po at h;split at h
 ·cases h;exact gvT28
 ·cases h;exact gvT44
 ·cases h;exact gvT73
 ·cases h;exact gvT9
 ·exact Wq _ _ h
theorem ckT1:VN Tryz.prog gl Jc Ja [(28,4)] [] Po hl4=true:=by kernel_rfl
theorem Zs5:IZ (EX Tryz.prog gl Jc Ja [(28,4)] [] Po hl4) 300 8 [.sl false 46 [.agg [vi .u16 50,vi .u64 1,vi .u64 2,vi .i64 0,vi .u64 3,vi .i64 60,vi .u64 15117967196265648854,vi .u64 3048390888902185609,vi .u64 2089129140018500110,vi .u64 0,vi .i64 0,vi .u64 0,vi .u64 0,vi .u64 0,vi .u32 0,vf,vi .i64 0,vi .u32 0,vf,vf,.sl false 1 [],.sl false 3 [],.sl false 3 [],.sl false 10 [],.sl false 11 [],vi .u16 0,.sl false 18 [],.sl false 1 [],vi .i64 0,vf,vi .i64 0,vi .i64 0,vi .i64 0,vi .i64 0,vi .u16 0,vi .i64 0,vi .i64 0,vi .i64 0,vi .i64 0,.sl false 1 [],vi .i64 0,vf,vi .i64 0,.sl false 3 [],vi .u32 0,vt],.agg [vi .u16 51,vi .u64 1,vi .u64 2,vi .i64 0,vi .u64 3,vi .i64 60,vi .u64 15117967196265648854,vi .u64 3048390888902185609,vi .u64 2089129140018500110,vi .u64 0,vi .i64 0,vi .u64 0,vi .u64 0,vi .u64 0,vi .u32 0,vf,vi .i64 0,vi .u32 0,vf,vf,.sl false 1 [],.sl false 3 [],.sl false 3 [],.sl false 10 [],.sl false 11 [],vi .u16 0,.sl false 18 [],.sl false 1 [],vi .i64 0,vf,vi .i64 0,vi .i64 0,vi .i64 0,vi .i64 0,vi .u16 0,vi .i64 0,vi .i64 0,vi .i64 0,vi .i64 0,.sl false 1 [],vi .i64 0,vf,vi .i64 0,.sl false 3 [],vi .u32 0,vt]],.sl false 2 [.agg [vi .i64 0,vi .i64 1]]]=some (.Ap [.agg [.sl false 46 [.agg [vi .u16 50,vi .u64 1,vi .u64 2,vi .i64 0,vi .u64 3,vi .i64 60,vi .u64 15117967196265648854,vi .u64 3048390888902185609,vi .u64 2089129140018500110,vi .u64 0,vi .i64 0,vi .u64 0,vi .u64 0,vi .u64 0,vi .u32 0,vf,vi .i64 0,vi .u32 0,vf,vf,.sl false 1 [],.sl false 3 [],.sl false 3 [],.sl false 10 [],.sl false 11 [],vi .u16 0,.sl false 18 [],.sl false 1 [],vi .i64 0,vf,vi .i64 0,vi .i64 0,vi .i64 0,vi .i64 0,vi .u16 0,vi .i64 0,vi .i64 0,vi .i64 0,vi .i64 0,.sl false 1 [],vi .i64 0,vf,vi .i64 0,.sl false 3 [],vi .u32 0,vt],.agg [vi .u16 51,vi .u64 1,vi .u64 2,vi .i64 0,vi .u64 3,vi .i64 60,vi .u64 15117967196265648854,vi .u64 3048390888902185609,vi .u64 2089129140018500110,vi .u64 0,vi .i64 0,vi .u64 0,vi .u64 0,vi .u64 0,vi .u32 0,vf,vi .i64 0,vi .u32 0,vf,vf,.sl false 1 [],.sl false 3 [],.sl false 3 [],.sl false 10 [],.sl false 11 [],vi .u16 0,.sl false 18 [],.sl false 1 [],vi .i64 0,vf,vi .i64 0,vi .i64 0,vi .i64 0,vi .i64 0,vi .u16 0,vi .i64 0,vi .i64 0,vi .i64 0,vi .i64 0,.sl false 1 [],vi .i64 0,vf,vi .i64 0,.sl false 3 [],vi .u32 0,vt]],.sl false 2 [.agg [vi .i64 0,vi .i64 1]],.sl false 2 [],vi .i64 0,vi .i64 0,.sl false 4 [],.sl false 13 []],vi .i64 0]):=by kernel_rfl
theorem Zsn:IZ (EX Tryz.prog gl Jc Ja [(28,4)] [] Po hl4) 300 8 [.sl false 46 [.agg [vi .u16 50,vi .u64 1,vi .u64 2,vi .i64 0,vi .u64 3,vi .i64 60,vi .u64 15117967196265648854,vi .u64 3048390888902185609,vi .u64 2089129140018500110,vi .u64 0,vi .i64 0,vi .u64 0,vi .u64 0,vi .u64 0,vi .u32 0,vf,vi .i64 0,vi .u32 0,vf,vf,.sl false 1 [],.sl false 3 [],.sl false 3 [],.sl false 10 [],.sl false 11 [],vi .u16 0,.sl false 18 [],.sl false 1 [],vi .i64 0,vf,vi .i64 0,vi .i64 0,vi .i64 0,vi .i64 0,vi .u16 0,vi .i64 0,vi .i64 0,vi .i64 0,vi .i64 0,.sl false 1 [],vi .i64 0,vf,vi .i64 0,.sl false 3 [],vi .u32 0,vt],.agg [vi .u16 51,vi .u64 1,vi .u64 2,vi .i64 0,vi .u64 3,vi .i64 60,vi .u64 15117967196265648854,vi .u64 3048390888902185609,vi .u64 2089129140018500110,vi .u64 0,vi .i64 0,vi .u64 0,vi .u64 0,vi .u64 0,vi .u32 0,vf,vi .i64 0,vi .u32 0,vf,vf,.sl false 1 [],.sl false 3 [],.sl false 3 [],.sl false 10 [],.sl false 11 [],vi .u16 0,.sl false 18 [],.sl false 1 [],vi .i64 0,vf,vi .i64 0,vi .i64 0,vi .i64 0,vi .i64 0,vi .u16 0,vi .i64 0,vi .i64 0,vi .i64 0,vi .i64 0,.sl false 1 [],vi .i64 0,vf,vi .i64 0,.sl false 3 [],vi .u32 0,vt]],.sl false 2 [.agg [vi .i64 0,vi .i64 0]]]=some (.Ap [.agg [.sl true 0 [],.sl true 0 [],.sl true 0 [],vi .i64 0,vi .i64 0,.sl true 0 [],.sl true 0 []],vi .i64 5]):=by kernel_rfl
def tbT8:List (List V×V):=[([.sl false 46 [.agg [vi .u16 50,vi .u64 1,vi .u64 2,vi .i64 0,vi .u64 3,vi .i64 60,vi .u64 15117967196265648854,vi .u64 3048390888902185609,vi .u64 2089129140018500110,vi .u64 0,vi .i64 0,vi .u64 0,vi .u64 0,vi .u64 0,vi .u32 0,vf,vi .i64 0,vi .u32 0,vf,vf,.sl false 1 [],.sl false 3 [],.sl false 3 [],.sl false 10 [],.sl false 11 [],vi .u16 0,.sl false 18 [],.sl false 1 [],vi .i64 0,vf,vi .i64 0,vi .i64 0,vi .i64 0,vi .i64 0,vi .u16 0,vi .i64 0,vi .i64 0,vi .i64 0,vi .i64 0,.sl false 1 [],vi .i64 0,vf,vi .i64 0,.sl false 3 [],vi .u32 0,vt],.agg [vi .u16 51,vi .u64 1,vi .u64 2,vi .i64 0,vi .u64 3,vi .i64 60,vi .u64 15117967196265648854,vi .u64 3048390888902185609,vi .u64 2089129140018500110,vi .u64 0,vi .i64 0,vi .u64 0,vi .u64 0,vi .u64 0,vi .u32 0,vf,vi .i64 0,vi .u32 0,vf,vf,.sl false 1 [],.sl false 3 [],.sl false 3 [],.sl false 10 [],.sl false 11 [],vi .u16 0,.sl false 18 [],.sl false 1 [],vi .i64 0,vf,vi .i64 0,vi .i64 0,vi .i64 0,vi .i64 0,vi .u16 0,vi .i64 0,vi .i64 0,vi .i64 0,vi .i64 0,.sl false 1 [],vi .i64 0,vf,vi .i64 0,.sl false 3 [],vi .u32 0,vt]],.sl false 2 [.agg [vi .i64 0,vi .i64 1]]],.Ap [.agg [.sl false 46 [.agg [vi .u16 50,vi .u64 1,vi .u64 2,vi .i64 0,vi .u64 3,vi .i64 60,vi .u64 15117967196265648854,vi .u64 3048390888902185609,vi .u64 2089129140018500110,vi .u64 0,vi .i64 0,vi .u64 0,vi .u64 0,vi .u64 0,vi .u32 0,vf,vi .i64 0,vi .u32 0,vf,vf,.sl false 1 [],.sl false 3 [],.sl false 3 [],.sl false 10 [],.sl false 11 [],vi .u16 0,.sl false 18 [],.sl false 1 [],vi .i64 0,vf,vi .i64 0,vi .i64 0,vi .i64 0,vi .i64 0,vi .u16 0,vi .i64 0,vi .i64 0,vi .i64 0,vi .i64 0,.sl false 1 [],vi .i64 0,vf,vi .i64 0,.sl false 3 [],vi .u32 0,vt],.agg [vi .u16 51,vi .u64 1,vi .u64 2,vi .i64 0,vi .u64 3,vi .i64 60,vi .u64 15117967196265648854,vi .u64 3048390888902185609,vi .u64 2089129140018500110,vi .u64 0,vi .i64 0,vi .u64 0,vi .u64 0,vi .u64 0,vi .u32 0,vf,vi .i64 0,vi .u32 0,vf,vf,.sl false 1 [],.sl false 3 [],.sl false 3 [],.sl false 10 [],.sl false 11 [],vi .u16 0,.sl false 18 [],.sl false 1 [],vi .i64 0,vf,vi .i64 0,vi .i64 0,vi .i64 0,vi .i64 0,vi .u16 0,vi .i64 0,vi .i64 0,vi .i64 0,vi .i64 0,.sl false 1 [],vi .i64 0,vf,vi .i64 0,.sl false 3 [],vi .u32 0,vt]],.sl false 2 [.agg [vi .i64 0,vi .i64 1]],.sl false 2 [],vi .i64 0,vi .i64 0,.sl false 4 [],.sl false 13 []],vi .i64 0]),
 ([.sl false 46 [.agg [vi .u16 50,vi .u64 1,vi .u64 2,vi .i64 0,vi .u64 3,vi .i64 60,vi .u64 15117967196265648854,vi .u64 3048390888902185609,vi .u64 2089129140018500110,vi .u64 0,vi .i64 0,vi .u64 0,vi .u64 0,vi .u64 0,vi .u32 0,vf,vi .i64 0,vi .u32 0,vf,vf,.sl false 1 [],.sl false 3 [],.sl false 3 [],.sl false 10 [],.sl false 11 [],vi .u16 0,.sl false 18 [],.sl false 1 [],vi .i64 0,vf,vi .i64 0,vi .i64 0,vi .i64 0,vi .i64 0,vi .u16 0,vi .i64 0,vi .i64 0,vi .i64 0,vi .i64 0,.sl false 1 [],vi .i64 0,vf,vi .i64 0,.sl false 3 [],vi .u32 0,vt],.agg [vi .u16 51,vi .u64 1,vi .u64 2,vi .i64 0,vi .u64 3,vi .i64 60,vi .u64 15117967196265648854,vi .u64 3048390888902185609,vi .u64 2089129140018500110,vi .u64 0,vi .i64 0,vi .u64 0,vi .u64 0,vi .u64 0,vi .u32 0,vf,vi .i64 0,vi .u32 0,vf,vf,.sl false 1 [],.sl false 3 [],.sl false 3 [],.sl false 10 [],.sl false 11 [],vi .u16 0,.sl false 18 [],.sl false 1 [],vi .i64 0,vf,vi .i64 0,vi .i64 0,vi .i64 0,vi .i64 0,vi .u16 0,vi .i64 0,vi .i64 0,vi .i64 0,vi .i64 0,.sl false 1 [],vi .i64 0,vf,vi .i64 0,.sl false 3 [],vi .u32 0,vt]],.sl false 2 [.agg [vi .i64 0,vi .i64 0]]],.Ap [.agg [.sl true 0 [],.sl true 0 [],.sl true 0 [],vi .i64 0,vi .i64 0,.sl true 0 [],.sl true 0 []],vi .i64 5])]
theorem gvT8:Gj Tryz.prog gl 8 (JH tbT8):=Rj (RZ FO ckT1 lL Qi Q7 (by rfl) func8 (by kernel_rfl) 300) (Kv Zs5 (Kv Zsn Ro))
theorem Zqo:IZ (EX Tryz.prog gl Jc Ja [(28,4)] [] Po hl4) 300 10 [.agg [.sl false 46 [.agg [vi .u16 50,vi .u64 1,vi .u64 2,vi .i64 0,vi .u64 3,vi .i64 60,vi .u64 15117967196265648854,vi .u64 3048390888902185609,vi .u64 2089129140018500110,vi .u64 0,vi .i64 0,vi .u64 0,vi .u64 0,vi .u64 0,vi .u32 0,vf,vi .i64 0,vi .u32 0,vf,vf,.sl false 1 [],.sl false 3 [],.sl false 3 [],.sl false 10 [],.sl false 11 [],vi .u16 0,.sl false 18 [],.sl false 1 [],vi .i64 0,vf,vi .i64 0,vi .i64 0,vi .i64 0,vi .i64 0,vi .u16 0,vi .i64 0,vi .i64 0,vi .i64 0,vi .i64 0,.sl false 1 [],vi .i64 0,vf,vi .i64 0,.sl false 3 [],vi .u32 0,vt],.agg [vi .u16 51,vi .u64 1,vi .u64 2,vi .i64 0,vi .u64 3,vi .i64 60,vi .u64 15117967196265648854,vi .u64 3048390888902185609,vi .u64 2089129140018500110,vi .u64 0,vi .i64 0,vi .u64 0,vi .u64 0,vi .u64 0,vi .u32 0,vf,vi .i64 0,vi .u32 0,vf,vf,.sl false 1 [],.sl false 3 [],.sl false 3 [],.sl false 10 [],.sl false 11 [],vi .u16 0,.sl false 18 [],.sl false 1 [],vi .i64 0,vf,vi .i64 0,vi .i64 0,vi .i64 0,vi .i64 0,vi .u16 0,vi .i64 0,vi .i64 0,vi .i64 0,vi .i64 0,.sl false 1 [],vi .i64 0,vf,vi .i64 0,.sl false 3 [],vi .u32 0,vt]],.sl false 2 [.agg [vi .i64 0,vi .i64 1]],.sl false 2 [],vi .i64 0,vi .i64 0,.sl false 4 [],.sl false 13 []],.agg [vi .i64 0,vi .i64 0,vi .i64 1,vi .u16 51,vi .i64 1,vt,.sl false 1 [vi .u8 7],vi .u64 0,vi .i64 0,vi .i64 0]]=some (.Ap [.agg [.sl false 46 [.agg [vi .u16 50,vi .u64 1,vi .u64 2,vi .i64 0,vi .u64 3,vi .i64 60,vi .u64 15117967196265648854,vi .u64 3048390888902185609,vi .u64 2089129140018500110,vi .u64 0,vi .i64 0,vi .u64 0,vi .u64 0,vi .u64 0,vi .u32 0,vf,vi .i64 0,vi .u32 1,vf,vf,.sl false 1 [],.sl false 3 [],.sl false 3 [],.sl false 10 [],.sl false 11 [],vi .u16 0,.sl false 18 [],.sl false 1 [],vi .i64 0,vf,vi .i64 0,vi .i64 0,vi .i64 0,vi .i64 0,vi .u16 0,vi .i64 0,vi .i64 0,vi .i64 0,vi .i64 0,.sl false 1 [],vi .i64 0,vf,vi .i64 0,.sl false 3 [.agg [vi .i64 0,.sl false 1 [vi .u8 60,vi .u8 187,vi .u8 148,vi .u8 245,vi .u8 184,vi .u8 216,vi .u8 75,vi .u8 241,vi .u8 69,vi .u8 100,vi .u8 35,vi .u8 111,vi .u8 154,vi .u8 210,vi .u8 174,vi .u8 131,vi .u8 185,vi .u8 118,vi .u8 3],vi .u16 0]],vi .u32 100,vt],.agg [vi .u16 51,vi .u64 1,vi .u64 2,vi .i64 0,vi .u64 3,vi .i64 60,vi .u64 15117967196265648854,vi .u64 3048390888902185609,vi .u64 2089129140018500110,vi .u64 0,vi .i64 0,vi .u64 0,vi .u64 0,vi .u64 0,vi .u32 0,vf,vi .i64 0,vi .u32 0,vf,vf,.sl false 1 [],.sl false 3 [],.sl false 3 [],.sl false 10 [],.sl false 11 [],vi .u16 0,.sl false 18 [],.sl false 1 [],vi .i64 0,vf,vi .i64 0,vi .i64 0,vi .i64 0,vi .i64 0,vi .u16 0,vi .i64 0,vi .i64 0,vi .i64 0,vi .i64 0,.sl false 1 [],vi .i64 0,vf,vi .i64 0,.sl false 3 [],vi .u32 0,vt]],.sl false 2 [.agg [vi .i64 0,vi .i64 1]],.sl false 2 [],vi .i64 0,vi .i64 0,.sl false 4 [],.sl false 13 []],vi .i64 0]):=by kernel_rfl
def Zbo:List (List V×V):=[([.agg [.sl false 46 [.agg [vi .u16 50,vi .u64 1,vi .u64 2,vi .i64 0,vi .u64 3,vi .i64 60,vi .u64 15117967196265648854,vi .u64 3048390888902185609,vi .u64 2089129140018500110,vi .u64 0,vi .i64 0,vi .u64 0,vi .u64 0,vi .u64 0,vi .u32 0,vf,vi .i64 0,vi .u32 0,vf,vf,.sl false 1 [],.sl false 3 [],.sl false 3 [],.sl false 10 [],.sl false 11 [],vi .u16 0,.sl false 18 [],.sl false 1 [],vi .i64 0,vf,vi .i64 0,vi .i64 0,vi .i64 0,vi .i64 0,vi .u16 0,vi .i64 0,vi .i64 0,vi .i64 0,vi .i64 0,.sl false 1 [],vi .i64 0,vf,vi .i64 0,.sl false 3 [],vi .u32 0,vt],.agg [vi .u16 51,vi .u64 1,vi .u64 2,vi .i64 0,vi .u64 3,vi .i64 60,vi .u64 15117967196265648854,vi .u64 3048390888902185609,vi .u64 2089129140018500110,vi .u64 0,vi .i64 0,vi .u64 0,vi .u64 0,vi .u64 0,vi .u32 0,vf,vi .i64 0,vi .u32 0,vf,vf,.sl false 1 [],.sl false 3 [],.sl false 3 [],.sl false 10 [],.sl false 11 [],vi .u16 0,.sl false 18 [],.sl false 1 [],vi .i64 0,vf,vi .i64 0,vi .i64 0,vi .i64 0,vi .i64 0,vi .u16 0,vi .i64 0,vi .i64 0,vi .i64 0,vi .i64 0,.sl false 1 [],vi .i64 0,vf,vi .i64 0,.sl false 3 [],vi .u32 0,vt]],.sl false 2 [.agg [vi .i64 0,vi .i64 1]],.sl false 2 [],vi .i64 0,vi .i64 0,.sl false 4 [],.sl false 13 []],.agg [vi .i64 0,vi .i64 0,vi .i64 1,vi .u16 51,vi .i64 1,vt,.sl false 1 [vi .u8 7],vi .u64 0,vi .i64 0,vi .i64 0]],.Ap [.agg [.sl false 46 [.agg [vi .u16 50,vi .u64 1,vi .u64 2,vi .i64 0,vi .u64 3,vi .i64 60,vi .u64 15117967196265648854,vi .u64 3048390888902185609,vi .u64 2089129140018500110,vi .u64 0,vi .i64 0,vi .u64 0,vi .u64 0,vi .u64 0,vi .u32 0,vf,vi .i64 0,vi .u32 1,vf,vf,.sl false 1 [],.sl false 3 [],.sl false 3 [],.sl false 10 [],.sl false 11 [],vi .u16 0,.sl false 18 [],.sl false 1 [],vi .i64 0,vf,vi .i64 0,vi .i64 0,vi .i64 0,vi .i64 0,vi .u16 0,vi .i64 0,vi .i64 0,vi .i64 0,vi .i64 0,.sl false 1 [],vi .i64 0,vf,vi .i64 0,.sl false 3 [.agg [vi .i64 0,.sl false 1 [vi .u8 60,vi .u8 187,vi .u8 148,vi .u8 245,vi .u8 184,vi .u8 216,vi .u8 75,vi .u8 241,vi .u8 69,vi .u8 100,vi .u8 35,vi .u8 111,vi .u8 154,vi .u8 210,vi .u8 174,vi .u8 131,vi .u8 185,vi .u8 118,vi .u8 3],vi .u16 0]],vi .u32 100,vt],.agg [vi .u16 51,vi .u64 1,vi .u64 2,vi .i64 0,vi .u64 3,vi .i64 60,vi .u64 15117967196265648854,vi .u64 3048390888902185609,vi .u64 2089129140018500110,vi .u64 0,vi .i64 0,vi .u64 0,vi .u64 0,vi .u64 0,vi .u32 0,vf,vi .i64 0,vi .u32 0,vf,vf,.sl false 1 [],.sl false 3 [],.sl false 3 [],.sl false 10 [],.sl false 11 [],vi .u16 0,.sl false 18 [],.sl false 1 [],vi .i64 0,vf,vi .i64 0,vi .i64 0,vi .i64 0,vi .i64 0,vi .u16 0,vi .i64 0,vi .i64 0,vi .i64 0,vi .i64 0,.sl false 1 [],vi .i64 0,vf,vi .i64 0,.sl false 3 [],vi .u32 0,vt]],.sl false 2 [.agg [vi .i64 0,vi .i64 1]],.sl false 2 [],vi .i64 0,vi .i64 0,.sl false 4 [],.sl false 13 []],vi .i64 0])]
theorem gvT10:Gj Tryz.prog gl 10 (JH Zbo):=Rj (RZ FO ckT1 lL Qi Q7 (by rfl) func10 (by kernel_rfl) 300) (Kv Zqo Ro)
theorem ZpC:IZ (EX Tryz.prog gl Jc Ja [(28,4)] [] Po hl4) 300 11 [.agg [.sl false 46 [.agg [vi .u16 50,vi .u64 1,vi .u64 2,vi .i64 0,vi .u64 3,vi .i64 60,vi .u64 15117967196265648854,vi .u64 3048390888902185609,vi .u64 2089129140018500110,vi .u64 0,vi .i64 0,vi .u64 0,vi .u64 0,vi .u64 0,vi .u32 0,vf,vi .i64 0,vi .u32 1,vf,vf,.sl false 1 [],.sl false 3 [],.sl false 3 [],.sl false 10 [],.sl false 11 [],vi .u16 0,.sl false 18 [],.sl false 1 [],vi .i64 0,vf,vi .i64 0,vi .i64 0,vi .i64 0,vi .i64 0,vi .u16 0,vi .i64 0,vi .i64 0,vi .i64 0,vi .i64 0,.sl false 1 [],vi .i64 0,vf,vi .i64 0,.sl false 3 [.agg [vi .i64 0,.sl false 1 [vi .u8 60,vi .u8 187,vi .u8 148,vi .u8 245,vi .u8 184,vi .u8 216,vi .u8 75,vi .u8 241,vi .u8 69,vi .u8 100,vi .u8 35,vi .u8 111,vi .u8 154,vi .u8 210,vi .u8 174,vi .u8 131,vi .u8 185,vi .u8 118,vi .u8 3],vi .u16 0]],vi .u32 100,vt],.agg [vi .u16 51,vi .u64 1,vi .u64 2,vi .i64 0,vi .u64 3,vi .i64 60,vi .u64 15117967196265648854,vi .u64 3048390888902185609,vi .u64 2089129140018500110,vi .u64 0,vi .i64 0,vi .u64 0,vi .u64 0,vi .u64 0,vi .u32 0,vf,vi .i64 0,vi .u32 0,vf,vf,.sl false 1 [],.sl false 3 [],.sl false 3 [],.sl false 10 [],.sl false 11 [],vi .u16 0,.sl false 18 [],.sl false 1 [],vi .i64 0,vf,vi .i64 0,vi .i64 0,vi .i64 0,vi .i64 0,vi .u16 0,vi .i64 0,vi .i64 0,vi .i64 0,vi .i64 0,.sl false 1 [],vi .i64 0,vf,vi .i64 0,.sl false 3 [],vi .u32 0,vt]],.sl false 2 [.agg [vi .i64 0,vi .i64 1]],.sl false 2 [],vi .i64 0,vi .i64 0,.sl false 4 [],.sl false 13 []]]=some (.agg [.sl false 46 [.agg [vi .u16 50,vi .u64 1,vi .u64 2,vi .i64 0,vi .u64 3,vi .i64 60,vi .u64 15117967196265648854,vi .u64 3048390888902185609,vi .u64 2089129140018500110,vi .u64 0,vi .i64 0,vi .u64 0,vi .u64 0,vi .u64 0,vi .u32 0,vf,vi .i64 0,vi .u32 1,vf,vf,.sl false 1 [],.sl false 3 [],.sl false 3 [],.sl false 10 [],.sl false 11 [],vi .u16 0,.sl false 18 [],.sl false 1 [],vi .i64 0,vf,vi .i64 0,vi .i64 0,vi .i64 0,vi .i64 0,vi .u16 0,vi .i64 0,vi .i64 0,vi .i64 0,vi .i64 0,.sl false 1 [],vi .i64 0,vf,vi .i64 0,.sl false 3 [],vi .u32 100,vt],.agg [vi .u16 51,vi .u64 1,vi .u64 2,vi .i64 0,vi .u64 3,vi .i64 60,vi .u64 15117967196265648854,vi .u64 3048390888902185609,vi .u64 2089129140018500110,vi .u64 0,vi .i64 0,vi .u64 0,vi .u64 0,vi .u64 0,vi .u32 0,vf,vi .i64 0,vi .u32 0,vf,vf,.sl false 1 [],.sl false 3 [],.sl false 3 [],.sl false 10 [],.sl false 11 [],vi .u16 0,.sl false 18 [],.sl false 1 [],vi .i64 0,vf,vi .i64 0,vi .i64 0,vi .i64 0,vi .i64 0,vi .u16 0,vi .i64 0,vi .i64 0,vi .i64 0,vi .i64 0,.sl false 1 [],vi .i64 0,vf,vi .i64 0,.sl false 3 [],vi .u32 0,vt]],.sl false 2 [.agg [vi .i64 0,vi .i64 1]],.sl false 2 [],vi .i64 1,vi .i64 1,.sl false 4 [.agg [vi .i64 0,vi .i64 1,vi .i64 2,.sl false 1 [vi .u8 60,vi .u8 187,vi .u8 148,vi .u8 245,vi .u8 184,vi .u8 216,vi .u8 75,vi .u8 241,vi .u8 69,vi .u8 100,vi .u8 35,vi .u8 111,vi .u8 154,vi .u8 210,vi .u8 174,vi .u8 131,vi .u8 185,vi .u8 118,vi .u8 3]]],.sl false 13 []]):=by kernel_rfl
theorem Zqh:IZ (EX Tryz.prog gl Jc Ja [(28,4)] [] Po hl4) 300 11 [.agg [.sl false 46 [.agg [vi .u16 50,vi .u64 1,vi .u64 2,vi .i64 0,vi .u64 3,vi .i64 60,vi .u64 15117967196265648854,vi .u64 3048390888902185609,vi .u64 2089129140018500110,vi .u64 0,vi .i64 0,vi .u64 0,vi .u64 0,vi .u64 0,vi .u32 0,vf,vi .i64 0,vi .u32 1,vf,vf,.sl false 1 [],.sl false 3 [],.sl false 3 [],.sl false 10 [],.sl false 11 [],vi .u16 0,.sl false 18 [],.sl false 1 [],vi .i64 0,vf,vi .i64 0,vi .i64 0,vi .i64 0,vi .i64 0,vi .u16 0,vi .i64 0,vi .i64 0,vi .i64 0,vi .i64 0,.sl false 1 [],vi .i64 0,vf,vi .i64 0,.sl false 3 [],vi .u32 100,vt],.agg [vi .u16 51,vi .u64 1,vi .u64 2,vi .i64 0,vi .u64 3,vi .i64 60,vi .u64 15117967196265648854,vi .u64 3048390888902185609,vi .u64 2089129140018500110,vi .u64 0,vi .i64 0,vi .u64 0,vi .u64 0,vi .u64 0,vi .u32 0,vf,vi .i64 0,vi .u32 0,vf,vf,.sl false 1 [],.sl false 3 [],.sl false 3 [],.sl false 10 [],.sl false 11 [],vi .u16 0,.sl false 18 [],.sl false 1 [],vi .i64 0,vf,vi .i64 0,vi .i64 0,vi .i64 0,vi .i64 0,vi .u16 0,vi .i64 0,vi .i64 0,vi .i64 0,vi .i64 0,.sl false 1 [],vi .i64 0,vf,vi .i64 0,.sl false 3 [],vi .u32 0,vt]],.sl false 2 [.agg [vi .i64 0,vi .i64 1]],.sl false 2 [],vi .i64 1,vi .i64 1,.sl false 4 [.agg [vi .i64 0,vi .i64 1,vi .i64 2,.sl false 1 [vi .u8 60,vi .u8 187,vi .u8 148,vi .u8 245,vi .u8 184,vi .u8 216,vi .u8 75,vi .u8 241,vi .u8 69,vi .u8 100,vi .u8 35,vi .u8 111,vi .u8 154,vi .u8 210,vi .u8 174,vi .u8 131,vi .u8 185,vi .u8 118,vi .u8 3]]],.sl false 13 []]]=some (.agg [.sl false 46 [.agg [vi .u16 50,vi .u64 1,vi .u64 2,vi .i64 0,vi .u64 3,vi .i64 60,vi .u64 15117967196265648854,vi .u64 3048390888902185609,vi .u64 2089129140018500110,vi .u64 0,vi .i64 0,vi .u64 0,vi .u64 0,vi .u64 0,vi .u32 0,vf,vi .i64 0,vi .u32 1,vf,vf,.sl false 1 [],.sl false 3 [],.sl false 3 [],.sl false 10 [],.sl false 11 [],vi .u16 0,.sl false 18 [],.sl false 1 [],vi .i64 0,vf,vi .i64 0,vi .i64 0,vi .i64 0,vi .i64 0,vi .u16 0,vi .i64 0,vi .i64 0,vi .i64 0,vi .i64 0,.sl false 1 [],vi .i64 0,vf,vi .i64 0,.sl false 3 [],vi .u32 100,vt],.agg [vi .u16 51,vi .u64 1,vi .u64 2,vi .i64 0,vi .u64 3,vi .i64 60,vi .u64 15117967196265648854,vi .u64 3048390888902185609,vi .u64 2089129140018500110,vi .u64 0,vi .i64 0,vi .u64 0,vi .u64 0,vi .u64 0,vi .u32 0,vf,vi .i64 0,vi .u32 0,vf,vf,.sl false 1 [],.sl false 3 [.agg [vi .u16 50,vi .u32 0,vi .u32 0]],.sl false 3 [.agg [vi .u16 50,vi .u32 0,vi .u32 0]],.sl false 10 [],.sl false 11 [],vi .u16 0,.sl false 18 [],.sl false 1 [],vi .i64 0,vf,vi .i64 0,vi .i64 0,vi .i64 0,vi .i64 0,vi .u16 0,vi .i64 0,vi .i64 0,vi .i64 0,vi .i64 0,.sl false 1 [],vi .i64 0,vf,vi .i64 0,.sl false 3 [],vi .u32 0,vt]],.sl false 2 [.agg [vi .i64 0,vi .i64 1]],.sl false 2 [],vi .i64 1,vi .i64 2,.sl false 4 [],.sl false 13 [.agg [vi .i64 1,vi .i64 2,vi .i64 1,vi .u16 50,vi .u16 51,vt,vi .i64 1,vi .u16 50,vi .u32 0,vi .u32 0,.sl false 1 [vi .u8 7],vi .u16 0,vi .u64 0]]]):=by kernel_rfl
def Zbt:List (List V×V):=[([.agg [.sl false 46 [.agg [vi .u16 50,vi .u64 1,vi .u64 2,vi .i64 0,vi .u64 3,vi .i64 60,vi .u64 15117967196265648854,vi .u64 3048390888902185609,vi .u64 2089129140018500110,vi .u64 0,vi .i64 0,vi .u64 0,vi .u64 0,vi .u64 0,vi .u32 0,vf,vi .i64 0,vi .u32 1,vf,vf,.sl false 1 [],.sl false 3 [],.sl false 3 [],.sl false 10 [],.sl false 11 [],vi .u16 0,.sl false 18 [],.sl false 1 [],vi .i64 0,vf,vi .i64 0,vi .i64 0,vi .i64 0,vi .i64 0,vi .u16 0,vi .i64 0,vi .i64 0,vi .i64 0,vi .i64 0,.sl false 1 [],vi .i64 0,vf,vi .i64 0,.sl false 3 [.agg [vi .i64 0,.sl false 1 [vi .u8 60,vi .u8 187,vi .u8 148,vi .u8 245,vi .u8 184,vi .u8 216,vi .u8 75,vi .u8 241,vi .u8 69,vi .u8 100,vi .u8 35,vi .u8 111,vi .u8 154,vi .u8 210,vi .u8 174,vi .u8 131,vi .u8 185,vi .u8 118,vi .u8 3],vi .u16 0]],vi .u32 100,vt],.agg [vi .u16 51,vi .u64 1,vi .u64 2,vi .i64 0,vi .u64 3,vi .i64 60,vi .u64 15117967196265648854,vi .u64 3048390888902185609,vi .u64 2089129140018500110,vi .u64 0,vi .i64 0,vi .u64 0,vi .u64 0,vi .u64 0,vi .u32 0,vf,vi .i64 0,vi .u32 0,vf,vf,.sl false 1 [],.sl false 3 [],.sl false 3 [],.sl false 10 [],.sl false 11 [],vi .u16 0,.sl false 18 [],.sl false 1 [],vi .i64 0,vf,vi .i64 0,vi .i64 0,vi .i64 0,vi .i64 0,vi .u16 0,vi .i64 0,vi .i64 0,vi .i64 0,vi .i64 0,.sl false 1 [],vi .i64 0,vf,vi .i64 0,.sl false 3 [],vi .u32 0,vt]],.sl false 2 [.agg [vi .i64 0,vi .i64 1]],.sl false 2 [],vi .i64 0,vi .i64 0,.sl false 4 [],.sl false 13 []]],.agg [.sl false 46 [.agg [vi .u16 50,vi .u64 1,vi .u64 2,vi .i64 0,vi .u64 3,vi .i64 60,vi .u64 15117967196265648854,vi .u64 3048390888902185609,vi .u64 2089129140018500110,vi .u64 0,vi .i64 0,vi .u64 0,vi .u64 0,vi .u64 0,vi .u32 0,vf,vi .i64 0,vi .u32 1,vf,vf,.sl false 1 [],.sl false 3 [],.sl false 3 [],.sl false 10 [],.sl false 11 [],vi .u16 0,.sl false 18 [],.sl false 1 [],vi .i64 0,vf,vi .i64 0,vi .i64 0,vi .i64 0,vi .i64 0,vi .u16 0,vi .i64 0,vi .i64 0,vi .i64 0,vi .i64 0,.sl false 1 [],vi .i64 0,vf,vi .i64 0,.sl false 3 [],vi .u32 100,vt],.agg [vi .u16 51,vi .u64 1,vi .u64 2,vi .i64 0,vi .u64 3,vi .i64 60,vi .u64 15117967196265648854,vi .u64 3048390888902185609,vi .u64 2089129140018500110,vi .u64 0,vi .i64 0,vi .u64 0,vi .u64 0,vi .u64 0,vi .u32 0,vf,vi .i64 0,vi .u32 0,vf,vf,.sl false 1 [],.sl false 3 [],.sl false 3 [],.sl false 10 [],.sl false 11 [],vi .u16 0,.sl false 18 [],.sl false 1 [],vi .i64 0,vf,vi .i64 0,vi .i64 0,vi .i64 0,vi .i64 0,vi .u16 0,vi .i64 0,vi .i64 0,vi .i64 0,vi .i64 0,.sl false 1 [],vi .i64 0,vf,vi .i64 0,.sl false 3 [],vi .u32 0,vt]],.sl false 2 [.agg [vi .i64 0,vi .i64 1]],.sl false 2 [],vi .i64 1,vi .i64 1,.sl false 4 [.agg [vi .i64 0,vi .i64 1,vi .i64 2,.sl false 1 [vi .u8 60,vi .u8 187,vi .u8 148,vi .u8 245,vi .u8 184,vi .u8 216,vi .u8 75,vi .u8 241,vi .u8 69,vi .u8 100,vi .u8 35,vi .u8 111,vi .u8 154,vi .u8 210,vi .u8 174,vi .u8 131,vi .u8 185,vi .u8 118,vi .u8 3]]],.sl false 13 []]),
 ([.agg [.sl false 46 [.agg [vi .u16 50,vi .u64 1,vi .u64 2,vi .i64 0,vi .u64 3,vi .i64 60,vi .u64 15117967196265648854,vi .u64 3048390888902185609,vi .u64 2089129140018500110,vi .u64 0,vi .i64 0,vi .u64 0,vi .u64 0,vi .u64 0,vi .u32 0,vf,vi .i64 0,vi .u32 1,vf,vf,.sl false 1 [],.sl false 3 [],.sl false 3 [],.sl false 10 [],.sl false 11 [],vi .u16 0,.sl false 18 [],.sl false 1 [],vi .i64 0,vf,vi .i64 0,vi .i64 0,vi .i64 0,vi .i64 0,vi .u16 0,vi .i64 0,vi .i64 0,vi .i64 0,vi .i64 0,.sl false 1 [],vi .i64 0,vf,vi .i64 0,.sl false 3 [],vi .u32 100,vt],.agg [vi .u16 51,vi .u64 1,vi .u64 2,vi .i64 0,vi .u64 3,vi .i64 60,vi .u64 15117967196265648854,vi .u64 3048390888902185609,vi .u64 2089129140018500110,vi .u64 0,vi .i64 0,vi .u64 0,vi .u64 0,vi .u64 0,vi .u32 0,vf,vi .i64 0,vi .u32 0,vf,vf,.sl false 1 [],.sl false 3 [],.sl false 3 [],.sl false 10 [],.sl false 11 [],vi .u16 0,.sl false 18 [],.sl false 1 [],vi .i64 0,vf,vi .i64 0,vi .i64 0,vi .i64 0,vi .i64 0,vi .u16 0,vi .i64 0,vi .i64 0,vi .i64 0,vi .i64 0,.sl false 1 [],vi .i64 0,vf,vi .i64 0,.sl false 3 [],vi .u32 0,vt]],.sl false 2 [.agg [vi .i64 0,vi .i64 1]],.sl false 2 [],vi .i64 1,vi .i64 1,.sl false 4 [.agg [vi .i64 0,vi .i64 1,vi .i64 2,.sl false 1 [vi .u8 60,vi .u8 187,vi .u8 148,vi .u8 245,vi .u8 184,vi .u8 216,vi .u8 75,vi .u8 241,vi .u8 69,vi .u8 100,vi .u8 35,vi .u8 111,vi .u8 154,vi .u8 210,vi .u8 174,vi .u8 131,vi .u8 185,vi .u8 118,vi .u8 3]]],.sl false 13 []]],.agg [.sl false 46 [.agg [vi .u16 50,vi .u64 1,vi .u64 2,vi .i64 0,vi .u64 3,vi .i64 60,vi .u64 15117967196265648854,vi .u64 3048390888902185609,vi .u64 2089129140018500110,vi .u64 0,vi .i64 0,vi .u64 0,vi .u64 0,vi .u64 0,vi .u32 0,vf,vi .i64 0,vi .u32 1,vf,vf,.sl false 1 [],.sl false 3 [],.sl false 3 [],.sl false 10 [],.sl false 11 [],vi .u16 0,.sl false 18 [],.sl false 1 [],vi .i64 0,vf,vi .i64 0,vi .i64 0,vi .i64 0,vi .i64 0,vi .u16 0,vi .i64 0,vi .i64 0,vi .i64 0,vi .i64 0,.sl false 1 [],vi .i64 0,vf,vi .i64 0,.sl false 3 [],vi .u32 100,vt],.agg [vi .u16 51,vi .u64 1,vi .u64 2,vi .i64 0,vi .u64 3,vi .i64 60,vi .u64 15117967196265648854,vi .u64 3048390888902185609,vi .u64 2089129140018500110,vi .u64 0,vi .i64 0,vi .u64 0,vi .u64 0,vi .u64 0,vi .u32 0,vf,vi .i64 0,vi .u32 0,vf,vf,.sl false 1 [],.sl false 3 [.agg [vi .u16 50,vi .u32 0,vi .u32 0]],.sl false 3 [.agg [vi .u16 50,vi .u32 0,vi .u32 0]],.sl false 10 [],.sl false 11 [],vi .u16 0,.sl false 18 [],.sl false 1 [],vi .i64 0,vf,vi .i64 0,vi .i64 0,vi .i64 0,vi .i64 0,vi .u16 0,vi .i64 0,vi .i64 0,vi .i64 0,vi .i64 0,.sl false 1 [],vi .i64 0,vf,vi .i64 0,.sl false 3 [],vi .u32 0,vt]],.sl false 2 [.agg [vi .i64 0,vi .i64 1]],.sl false 2 [],vi .i64 1,vi .i64 2,.sl false 4 [],.sl false 13 [.agg [vi .i64 1,vi .i64 2,vi .i64 1,vi .u16 50,vi .u16 51,vt,vi .i64 1,vi .u16 50,vi .u32 0,vi .u32 0,.sl false 1 [vi .u8 7],vi .u16 0,vi .u64 0]]])]
theorem gvT11:Gj Tryz.prog gl 11 (JH Zbt):=Rj (RZ FO ckT1 lL Qi Q7 (by rfl) func11 (by kernel_rfl) 300) (Kv ZpC (Kv Zqh Ro))
def exT1:FuncId->Option (List V->Option V)
 | 8=>some (JH tbT8)
 | 10=>some (JH Zbo)
 | 11=>some (JH Zbt)
 | g=>Po g
theorem ZsS:∀g F,exT1 g=some F->Gj Tryz.prog gl g F:=fun g F h=>by
 unfold exT1 at h;split at h
 ·cases h;exact gvT8
 ·cases h;exact gvT10
 ·cases h;exact gvT11
 ·exact lL _ _ h
def xH:Option Bool:=some true
def Z5O:BF U:={ ts:=[],rt:=4,fn:=fun _=>xH,ok:=by decide }
theorem Zh9:VN Tryz.prog gl Jc Ja [(28,4)] [] exT1 hl4=true:=by kernel_rfl
theorem Zh0:AA0 4 Z5O:=Zm7 rfl FO Zh9 ZsS Qi Q7 (by rfl) (by decide) rfl func4 (by kernel_rfl) (n:=300) (m:=Z5O) rfl (a:=true) (fun _=>rfl) (by kernel_rfl)
end
noncomputable section
inductive sV where
 | b0 (a:F7) (b:Int) (c:List Int)
 | b1 (a:Int) (b:List Int) (c:F7)
 | b2 (a:Int) (b:List Int) (c:Aq)
 | b3 (a:Int) (b c:List Int) (d:Int) (e:Aq)
 | b4 (a:Int) (b c:List Int) (d e f:Int) (g:Aq)
 | b5 (a:Int) (b c:List Int) (d e f:Int) (g:Aq) (h:EE)
 | b6 (a:Int) (b c:List Int) (d e f:Int) (g:Aq)
 | b7 (a:Int) (b c:List Int) (d e f g:Int) (h:Aq)
 | b8 (a:Int) (b c:List Int) (d e f g:Int) (h:Aq)
def Ea:sV->Tr U (Bool⊕sV)
 | .b0 a b c=>let g:=(↑c.length:Int);let f:=(↑a.Dq.length:Int);let e:=AZ true;.bind 4 (xH) (fun(d:Bool)=>.br (!d) (AZ false) (.br (decide (f>8)) e (.br (decide (b<0)) e (.br (decide (b>=f)) e (.br (g==0) e (.br (decide (g>11)) e (Ac (.b1 b c a))))))))
 | .b1 c a d=>let f:=([]:List Int)++a;.bind 35 (xC ({ d with BG:=[] }:F7)) (fun(e:Aq×Aq×Int×Bool)=>.br (e.2.2.1 != 0) (AZ true) (.chk true (.chk (kA (0+a.length) 1) (kl f (.chk true (.bind 37 (gG e.1 ([(⟨3,c,1,65535,127,true,f,0,0,0⟩:DV)]) (51:Int)) (fun(b:Aq×Int)=>.br (b.2 != 0) (AZ false) (.br ((↑b.1.Ak.length:Int) != (↑d.Dq.length:Int)) (AZ false) (Ac (.b2 c a b.1))))))))))
 | .b2 a c b=>.bind 45 (U6 b a) (fun(d:List Int)=>Ac (.b3 a c d (0:Int) b))
 | .b3 c d e a b=>.br (decide (a<(↑b.Ak.length:Int))) (Ac (.b4 c d e a (0:Int) (0:Int) b)) (AZ true)
 | .b4 d e f c g b a=>let i:=Ac (sV.b6 d e f c g b a);.br (decide (b<(↑a.Notes.length:Int))) (.chk (kI b a.Notes) (.bind 55 (a.Notes[(Int.toNat b)]?) (fun(h:EE)=>.br (h.Node==c) (.br (h.Event.Kind==1) (Ac (.b5 d e f c g b a h)) i) i))) (Ac (.b7 d e f c g (0:Int) (0:Int) a))
 | .b5 a b e f g h c d=>.chk (Nq U 5 d.Event.Ik.Bytes) (.chk (Nq U 5 b) (.br (!((strOf U 5 d.Event.Ik.Bytes).toList==(strOf U 5 b).toList)) (AZ false) (.chk (kI a c.Ak) (.bind 76 (c.Ak[(Int.toNat a)]?) (fun(i:Ae)=>.br (d.Event.Ik.Src != i.Address) (AZ false) (Ac (.b6 a b e f (Ad (g+1)) h c)))))))
 | .b6 a b c d e f g=>Ac (.b4 a b c d e (Ad (f+1)) g)
 | .b7 d e a c f h b g=>.br (decide (b<(↑a.length:Int))) (.chk (kI b a) (.bind 3 (a[(Int.toNat b)]?) (fun(i:Int)=>.br (i==c) (Ac (.b8 d e a c f (1:Int) b g)) (Ac (.b8 d e a c f h b g))))) (.br (f != h) (AZ false) (Ac (.b3 d e a (Ad (c+1)) g)))
 | .b8 a b c d e f g h=>Ac (.b7 a b c d e f (Ad (g+1)) h)
def Z3O (a:F7) (b:Int) (c:List Int):Option Bool:=AY Ea (.b0 a b c)
def WX:BF U:=⟨[26,3,27],4,fun x=>Z3O x.1 x.2.1 x.2.2.1,by decide⟩
def Z3o:Lay:=LT [1,2,3] [.v 3,.v 27,.p 0] [.s 26]
def Z3j:Lay:=LT [1,2,7] [.v 3,.v 27,.p 0] [.s 33]
def Z3m:Lay:=LT [1,2,7,11,12] [.v 3,.v 27,.p 0,.v 45,.v 3] [.s 33]
def aN:Lay:=LT [1,2,7,11,12,13,14] [.v 3,.v 27,.p 0,.v 45,.v 3,.v 3,.v 3] [.s 33]
def Z3y:Lay:=LT [1,2,7,11,12,13,14,15] [.v 3,.v 27,.p 0,.v 45,.v 3,.v 3,.v 3,.p 1] [.s 33,.s 55]
def aS:Lay:=LT [1,2,7,11,12,13,16,17] [.v 3,.v 27,.p 0,.v 45,.v 3,.v 3,.v 3,.v 3] [.s 33]
def Zet:sV->BN U
 | .b0 a b c=>CU f3 [26,3,27] (a,b,c,())
 | .b1 a b c=>AA3 f3 [1,1,1,0] Z3o (a,b,c,())
 | .b2 a b c=>AA3 f3 [1,1,1,1,1,1,1,1,0] Z3j (a,b,c,())
 | .b3 a b c d e=>AA3 f3 [1,1,1,1,1,1,1,1,1,0,1,0,0,0,0] Z3m (a,b,c,d,e,())
 | .b4 a b c d e f g=>AA3 f3 [1,1,1,1,1,1,1,1,1,0,1,0,0,1,0,0,1,0,1,0,0,0,0] aN (a,b,c,d,e,f,g,())
 | .b5 a b c d e f g h=>AA3 f3 [1,1,1,1,1,1,1,1,1,0,1,0,0,1,0,0,1,0,1,0,0,1,0,0,1,1,0,0] Z3y (a,b,c,d,e,f,g,h,())
 | .b6 a b c d e f g=>AA3 f3 [1,1,1,1,1,1,1,1,1,0,1,0,0,1,0,0,1,0,1,0,0,1,1] aN (a,b,c,d,e,f,g,())
 | .b7 a b c d e f g h=>AA3 f3 [1,1,1,1,1,1,1,1,1,0,1,0,0,1,0,0,1,1,1,0,1,0,0,0,0] aS (a,b,c,d,e,f,g,h,())
 | .b8 a b c d e f g h=>AA3 f3 [1,1,1,1,1,1,1,1,1,0,1,0,0,1,0,0,1,1,1,0,1,0,0,1,1] aS (a,b,c,d,e,f,g,h,())
theorem Zef:AA0 3 WX:=Cb (mc Zh0 (mc Zh2 (mc ZkH (mc Zgk Az)))) Aw (al [(5,Z3o),(12,Z3j),(14,Z3m),(18,aN),(22,Z3y),(19,aN),(27,aS),(28,aS)]) Zet func3 (fun p=>by cases p<;>kernel_rfl) (by kernel_rfl) fun _=>rfl
end
end Go.Proofs.YteinepnbndegdaaGreat
